import PyProof.Rows.All
import Wide.All
import Open.Line
import Wide.FinOn
import Open.Boot
import PyProof.P3Statements
import ObjForm.Fk.InstStore
import KE.KSortTup
import PyProof.ExcAttrAll.ValueError
import KE.KRevIter
import PyProof.FactsAll.range_2
import PyProof.CompFree
import PyProof.CompUse
import PyProof.Cells
import ObjForm.Fk.ObjNew
import ObjForm.Fk.InstLoad
import PySem.Challenge.RW_uf030010_13
set_option Elab.async false
set_option maxRecDepth 100000
set_option maxHeartbeats 8000000
set_option linter.unusedVariables false
set_option genSizeOf false
set_option tactic.hygienic false
set_option bootstrap.genMatcherCode false
set_option genInjectivity false

section
namespace Mine
open PySem PySem.W PySem.Calls PyProof.Rows
noncomputable def bmV : List Value := [.type "ValueError", .type "Exception", .type "BaseException", .type "object"]
noncomputable def clsNames : List Str := ["RingError", "BadBar", "BadSetting", "BadChest", "BadRow", "BadNumber", "NoMove", "TooMany", "NoNote"]
noncomputable def chainOf (s : Str) : List Str := if s = "RingError" then [] else ["RingError"]
noncomputable def excOk (h : Heap) : Bool := clsNames.all (fun s => h.ownExcOk s (chainOf s) bmV "ValueError.__new__" && h.quietOk s && (match h.clsAt mainGlobals s with | some (_, _, cd) => (h.nsMap cd.ns "__class__").isNone | none => false)) &&
 decide ((clsNames.map fun s => h.nsMap mainGlobals s).Nodup)
noncomputable abbrev booted (w : World) (os : OsState) : Shared := ⟨boot_heap w.params, #[], boot_drawn, boot_toks, os⟩
theorem omap2 {σ α β : Type} {o : Option σ} {f : σ → α} {g : σ → β} {a : α} {b : β} (h1 : o.map f = some a) (h2 : o.map g = some b) : o.map (fun s => (f s, g s)) = some (a, b) := by
 cases o with
 | none => cases h1
 | some s => exact congrArg some (Prod.ext (Option.some.inj h1) (Option.some.inj h2))
theorem omapR {σ α β : Type} {o : Option σ} {f : σ → α} {a : α} (r : α → β) (h : o.map f = some a) : o.map (fun s => r (f s)) = some (r a) := by
 cases o with
 | none => cases h
 | some s => exact congrArg (fun x => some (r x)) (Option.some.inj h)
theorem booted_of {p : Program} {N : Nat} {w : World} (hb : opening p = plainProg p.main.scope.names) (hN : Nat.ble 600 N = true) (hf : ∀ s, fenceModules? p s = some s) : ∃ os, openEnds treeTable p w N = topFrom treeTable p w N (booted w os) := by
 obtain ⟨⟨h, gs, d, k, os⟩, e0, e1⟩ := Option.map_eq_some_iff.mp (boot_open hb hN hf w)
 cases e1
 exact ⟨os, by unfold openEnds; rw [e0]; rfl⟩
theorem left_of {p q : Program} {loose : List Str} {Xt : Shared → Bool} {N : Nat} (hb : opening p = plainProg p.main.scope.names) (hN : Nat.ble 600 N = true) (hf : ∀ s, fenceModules? p s = some s)
  (h1 : ∀ w os, (topFrom treeTable p w N (booted w os)).map (fun s => ((seen ((recsOf q).map (·.name)) (ownsOf q) [] { s with gens := #[] }, s.heap.bltView), plainSeenE q (looseW q loose) s, (plainSeenD q loose s, wideSeen q s, clsSeenW q loose s))) = some ((expectedOf q, bltViewBooted), (plainGoodE q (looseW q loose)), (plainGoodD q loose, wideGood q, clsGoodW q loose)))
  (h2 : ∀ w os, (topFrom treeTable p w N (booted w os)).map (fun s => ((s.heap.keysOk (looseW q loose) ((recsOf q).map (·.name)) ((litsOf q).map (·.1)) ((clssOf q (looseW q loose)).map (·.name)) && s.heap.accountedOkI (importedModules p.main.body) && s.heap.isNs mainGlobals && s.heap.isNs builtinsNs && tablesOk q s.heap && Xt s && (if true then s.gens.size == 0 else !leftWithCleanup s.gens)), (tabsOk q s, pinSeenD q (drecsOf q) s))) = some (true, (true, pinGoodD (drecsOf q)))) :
  LeftO p q loose Xt (Hook.obs Hook.none) (Hook.val Hook.none) N := fun w => by
 obtain ⟨os, e⟩ := booted_of (w := w) hb hN hf
 rw [e]
 exact omapR (fun q => ((q.1.1.1, q.1.1.2, q.2.1, q.2.2.1, q.2.2.2, q.1.2.1, q.1.2.2), ())) (omap2 (h1 w os) (h2 w os))
end Mine
end
section
namespace Mine
open PySem PySem.W PyProof.Rows
noncomputable def plainSt : Stmt → Bool
 | .Assign [.Name s _] _ _ => !(s == ("__name__" : Str))
 | _ => true
noncomputable def viewOf (p : Program) : Program := { p with main := { p.main with body := p.main.body.filter plainSt } }
noncomputable def view13 : Program := viewOf PySem.Challenge.rw_uf030010_13.prog
theorem said13 : PySem.Challenge.rw_uf030010_13.wellSaid = true := by kernel_rfl
theorem left13a (w : World) (os : OsState) : (topFrom treeTable PySem.Challenge.rw_uf030010_13.row.prog w 12000 (booted w os)).map (fun s => ((seen ((recsOf view13).map (·.name)) (ownsOf view13) [] { s with gens := #[] }, s.heap.bltView), plainSeenE view13 (looseW view13 []) s, (plainSeenD view13 [] s, wideSeen view13 s, clsSeenW view13 [] s))) = some ((expectedOf view13, bltViewBooted), (plainGoodE view13 (looseW view13 [])), (plainGoodD view13 [], wideGood view13, clsGoodW view13 [])) := by kernel_rfl
theorem left13b (w : World) (os : OsState) : (topFrom treeTable PySem.Challenge.rw_uf030010_13.row.prog w 12000 (booted w os)).map (fun s => ((s.heap.keysOk (looseW view13 []) ((recsOf view13).map (·.name)) ((litsOf view13).map (·.1)) ((clssOf view13 (looseW view13 [])).map (·.name)) && s.heap.accountedOkI (importedModules PySem.Challenge.rw_uf030010_13.row.prog.main.body) && s.heap.isNs mainGlobals && s.heap.isNs builtinsNs && tablesOk view13 s.heap && (fun s : Shared => (xlAt view13 [] s && excOk s.heap) && recOk (RowW.records PySem.Challenge.rw_uf030010_13.row.toRowW) s) s && (if true then s.gens.size == 0 else !leftWithCleanup s.gens)), (tabsOk view13 s, pinSeenD view13 (drecsOf view13) s))) = some (true, (true, pinGoodD (drecsOf view13))) := by kernel_rfl
theorem left13 : LeftO PySem.Challenge.rw_uf030010_13.row.prog view13 [] (fun s : Shared => (xlAt view13 [] s && excOk s.heap) && recOk (RowW.records PySem.Challenge.rw_uf030010_13.row.toRowW) s) (Hook.obs Hook.none) (Hook.val Hook.none) 12000 := left_of (by kernel_rfl) rfl (fun s => by kernel_rfl) left13a left13b
end Mine
end
section
namespace Mine
open PySem
--<x
theorem nmE {α : Type} (a : α) {P : Prop} (k : ∀ x, a = x → P) : P := k a rfl
theorem x02 {A B : Prop} {P : Prop} (h : A ∧ B) (k : A → B → P) : P := k h.1 h.2
theorem y02 {A B : Prop} {P : Prop} (k : A → B → P) (h : A ∧ B) : P := k h.1 h.2
theorem x03 {A B C : Prop} {P : Prop} (h : A ∧ B ∧ C) (k : A → B → C → P) : P := k h.1 h.2.1 h.2.2
theorem y03 {A B C : Prop} {P : Prop} (k : A → B → C → P) (h : A ∧ B ∧ C) : P := k h.1 h.2.1 h.2.2
theorem x05 {A B C D E : Prop} {P : Prop} (h : A ∧ B ∧ C ∧ D ∧ E) (k : A → B → C → D → E → P) : P := k h.1 h.2.1 h.2.2.1 h.2.2.2.1 h.2.2.2.2
theorem y05 {A B C D E : Prop} {P : Prop} (k : A → B → C → D → E → P) (h : A ∧ B ∧ C ∧ D ∧ E) : P := k h.1 h.2.1 h.2.2.1 h.2.2.2.1 h.2.2.2.2
theorem x11 {α : Type} {A : α → Prop} {P : Prop} (h : ∃ x, A x) (k : ∀ x, A x → P) : P := h.elim fun x h1 => k x h1
theorem y11 {α : Type} {A : α → Prop} {P : Prop} (k : ∀ x, A x → P) (h : ∃ x, A x) : P := h.elim fun x h1 => k x h1
theorem x12 {α : Type} {A B : α → Prop} {P : Prop} (h : ∃ x, A x ∧ B x) (k : ∀ x, A x → B x → P) : P := h.elim fun x h1 => k x h1.1 h1.2
theorem y12 {α : Type} {A B : α → Prop} {P : Prop} (k : ∀ x, A x → B x → P) (h : ∃ x, A x ∧ B x) : P := h.elim fun x h1 => k x h1.1 h1.2
theorem x13 {α : Type} {A B C : α → Prop} {P : Prop} (h : ∃ x, A x ∧ B x ∧ C x) (k : ∀ x, A x → B x → C x → P) : P := h.elim fun x h1 => k x h1.1 h1.2.1 h1.2.2
theorem y13 {α : Type} {A B C : α → Prop} {P : Prop} (k : ∀ x, A x → B x → C x → P) (h : ∃ x, A x ∧ B x ∧ C x) : P := h.elim fun x h1 => k x h1.1 h1.2.1 h1.2.2
theorem x14 {α : Type} {A B C D : α → Prop} {P : Prop} (h : ∃ x, A x ∧ B x ∧ C x ∧ D x) (k : ∀ x, A x → B x → C x → D x → P) : P := h.elim fun x h1 => k x h1.1 h1.2.1 h1.2.2.1 h1.2.2.2
theorem y14 {α : Type} {A B C D : α → Prop} {P : Prop} (k : ∀ x, A x → B x → C x → D x → P) (h : ∃ x, A x ∧ B x ∧ C x ∧ D x) : P := h.elim fun x h1 => k x h1.1 h1.2.1 h1.2.2.1 h1.2.2.2
theorem x15 {α : Type} {A B C D E : α → Prop} {P : Prop} (h : ∃ x, A x ∧ B x ∧ C x ∧ D x ∧ E x) (k : ∀ x, A x → B x → C x → D x → E x → P) : P := h.elim fun x h1 => k x h1.1 h1.2.1 h1.2.2.1 h1.2.2.2.1 h1.2.2.2.2
theorem x16 {α : Type} {A B C D E F : α → Prop} {P : Prop} (h : ∃ x, A x ∧ B x ∧ C x ∧ D x ∧ E x ∧ F x) (k : ∀ x, A x → B x → C x → D x → E x → F x → P) : P := h.elim fun x h1 => k x h1.1 h1.2.1 h1.2.2.1 h1.2.2.2.1 h1.2.2.2.2.1 h1.2.2.2.2.2
theorem x17 {α : Type} {A B C D E F G : α → Prop} {P : Prop} (h : ∃ x, A x ∧ B x ∧ C x ∧ D x ∧ E x ∧ F x ∧ G x) (k : ∀ x, A x → B x → C x → D x → E x → F x → G x → P) : P := h.elim fun x h1 => k x h1.1 h1.2.1 h1.2.2.1 h1.2.2.2.1 h1.2.2.2.2.1 h1.2.2.2.2.2.1 h1.2.2.2.2.2.2
theorem x21 {α β : Type} {A : α → β → Prop} {P : Prop} (h : ∃ x y, A x y) (k : ∀ x y, A x y → P) : P := h.elim fun x h1 => h1.elim fun y h2 => k x y h2
theorem y21 {α β : Type} {A : α → β → Prop} {P : Prop} (k : ∀ x y, A x y → P) (h : ∃ x y, A x y) : P := h.elim fun x h1 => h1.elim fun y h2 => k x y h2
theorem x22 {α β : Type} {A B : α → β → Prop} {P : Prop} (h : ∃ x y, A x y ∧ B x y) (k : ∀ x y, A x y → B x y → P) : P := h.elim fun x h1 => h1.elim fun y h2 => k x y h2.1 h2.2
theorem y22 {α β : Type} {A B : α → β → Prop} {P : Prop} (k : ∀ x y, A x y → B x y → P) (h : ∃ x y, A x y ∧ B x y) : P := h.elim fun x h1 => h1.elim fun y h2 => k x y h2.1 h2.2
theorem x23 {α β : Type} {A B C : α → β → Prop} {P : Prop} (h : ∃ x y, A x y ∧ B x y ∧ C x y) (k : ∀ x y, A x y → B x y → C x y → P) : P := h.elim fun x h1 => h1.elim fun y h2 => k x y h2.1 h2.2.1 h2.2.2
theorem x24 {α β : Type} {A B C D : α → β → Prop} {P : Prop} (h : ∃ x y, A x y ∧ B x y ∧ C x y ∧ D x y) (k : ∀ x y, A x y → B x y → C x y → D x y → P) : P := h.elim fun x h1 => h1.elim fun y h2 => k x y h2.1 h2.2.1 h2.2.2.1 h2.2.2.2
theorem y24 {α β : Type} {A B C D : α → β → Prop} {P : Prop} (k : ∀ x y, A x y → B x y → C x y → D x y → P) (h : ∃ x y, A x y ∧ B x y ∧ C x y ∧ D x y) : P := h.elim fun x h1 => h1.elim fun y h2 => k x y h2.1 h2.2.1 h2.2.2.1 h2.2.2.2
theorem x25 {α β : Type} {A B C D E : α → β → Prop} {P : Prop} (h : ∃ x y, A x y ∧ B x y ∧ C x y ∧ D x y ∧ E x y) (k : ∀ x y, A x y → B x y → C x y → D x y → E x y → P) : P := h.elim fun x h1 => h1.elim fun y h2 => k x y h2.1 h2.2.1 h2.2.2.1 h2.2.2.2.1 h2.2.2.2.2
theorem x26 {α β : Type} {A B C D E F : α → β → Prop} {P : Prop} (h : ∃ x y, A x y ∧ B x y ∧ C x y ∧ D x y ∧ E x y ∧ F x y) (k : ∀ x y, A x y → B x y → C x y → D x y → E x y → F x y → P) : P := h.elim fun x h1 => h1.elim fun y h2 => k x y h2.1 h2.2.1 h2.2.2.1 h2.2.2.2.1 h2.2.2.2.2.1 h2.2.2.2.2.2
theorem x31 {α β γ : Type} {A : α → β → γ → Prop} {P : Prop} (h : ∃ x y z, A x y z) (k : ∀ x y z, A x y z → P) : P := h.elim fun x h1 => h1.elim fun y h2 => h2.elim fun z h3 => k x y z h3
theorem x32 {α β γ : Type} {A B : α → β → γ → Prop} {P : Prop} (h : ∃ x y z, A x y z ∧ B x y z) (k : ∀ x y z, A x y z → B x y z → P) : P := h.elim fun x h1 => h1.elim fun y h2 => h2.elim fun z h3 => k x y z h3.1 h3.2
theorem y32 {α β γ : Type} {A B : α → β → γ → Prop} {P : Prop} (k : ∀ x y z, A x y z → B x y z → P) (h : ∃ x y z, A x y z ∧ B x y z) : P := h.elim fun x h1 => h1.elim fun y h2 => h2.elim fun z h3 => k x y z h3.1 h3.2
theorem x33 {α β γ : Type} {A B C : α → β → γ → Prop} {P : Prop} (h : ∃ x y z, A x y z ∧ B x y z ∧ C x y z) (k : ∀ x y z, A x y z → B x y z → C x y z → P) : P := h.elim fun x h1 => h1.elim fun y h2 => h2.elim fun z h3 => k x y z h3.1 h3.2.1 h3.2.2
theorem y33 {α β γ : Type} {A B C : α → β → γ → Prop} {P : Prop} (k : ∀ x y z, A x y z → B x y z → C x y z → P) (h : ∃ x y z, A x y z ∧ B x y z ∧ C x y z) : P := h.elim fun x h1 => h1.elim fun y h2 => h2.elim fun z h3 => k x y z h3.1 h3.2.1 h3.2.2
theorem x34 {α β γ : Type} {A B C D : α → β → γ → Prop} {P : Prop} (h : ∃ x y z, A x y z ∧ B x y z ∧ C x y z ∧ D x y z) (k : ∀ x y z, A x y z → B x y z → C x y z → D x y z → P) : P := h.elim fun x h1 => h1.elim fun y h2 => h2.elim fun z h3 => k x y z h3.1 h3.2.1 h3.2.2.1 h3.2.2.2
theorem y34 {α β γ : Type} {A B C D : α → β → γ → Prop} {P : Prop} (k : ∀ x y z, A x y z → B x y z → C x y z → D x y z → P) (h : ∃ x y z, A x y z ∧ B x y z ∧ C x y z ∧ D x y z) : P := h.elim fun x h1 => h1.elim fun y h2 => h2.elim fun z h3 => k x y z h3.1 h3.2.1 h3.2.2.1 h3.2.2.2
theorem x35 {α β γ : Type} {A B C D E : α → β → γ → Prop} {P : Prop} (h : ∃ x y z, A x y z ∧ B x y z ∧ C x y z ∧ D x y z ∧ E x y z) (k : ∀ x y z, A x y z → B x y z → C x y z → D x y z → E x y z → P) : P := h.elim fun x h1 => h1.elim fun y h2 => h2.elim fun z h3 => k x y z h3.1 h3.2.1 h3.2.2.1 h3.2.2.2.1 h3.2.2.2.2
theorem y35 {α β γ : Type} {A B C D E : α → β → γ → Prop} {P : Prop} (k : ∀ x y z, A x y z → B x y z → C x y z → D x y z → E x y z → P) (h : ∃ x y z, A x y z ∧ B x y z ∧ C x y z ∧ D x y z ∧ E x y z) : P := h.elim fun x h1 => h1.elim fun y h2 => h2.elim fun z h3 => k x y z h3.1 h3.2.1 h3.2.2.1 h3.2.2.2.1 h3.2.2.2.2
theorem x36 {α β γ : Type} {A B C D E F : α → β → γ → Prop} {P : Prop} (h : ∃ x y z, A x y z ∧ B x y z ∧ C x y z ∧ D x y z ∧ E x y z ∧ F x y z) (k : ∀ x y z, A x y z → B x y z → C x y z → D x y z → E x y z → F x y z → P) : P := h.elim fun x h1 => h1.elim fun y h2 => h2.elim fun z h3 => k x y z h3.1 h3.2.1 h3.2.2.1 h3.2.2.2.1 h3.2.2.2.2.1 h3.2.2.2.2.2
theorem x38 {α β γ : Type} {A B C D E F G H : α → β → γ → Prop} {P : Prop} (h : ∃ x y z, A x y z ∧ B x y z ∧ C x y z ∧ D x y z ∧ E x y z ∧ F x y z ∧ G x y z ∧ H x y z) (k : ∀ x y z, A x y z → B x y z → C x y z → D x y z → E x y z → F x y z → G x y z → H x y z → P) : P := h.elim fun x h1 => h1.elim fun y h2 => h2.elim fun z h3 => k x y z h3.1 h3.2.1 h3.2.2.1 h3.2.2.2.1 h3.2.2.2.2.1 h3.2.2.2.2.2.1 h3.2.2.2.2.2.2.1 h3.2.2.2.2.2.2.2
theorem x42 {α β γ δ : Type} {A B : α → β → γ → δ → Prop} {P : Prop} (h : ∃ x y z u, A x y z u ∧ B x y z u) (k : ∀ x y z u, A x y z u → B x y z u → P) : P := h.elim fun x h1 => h1.elim fun y h2 => h2.elim fun z h3 => h3.elim fun u h4 => k x y z u h4.1 h4.2
theorem y43 {α β γ δ : Type} {A B C : α → β → γ → δ → Prop} {P : Prop} (k : ∀ x y z u, A x y z u → B x y z u → C x y z u → P) (h : ∃ x y z u, A x y z u ∧ B x y z u ∧ C x y z u) : P := h.elim fun x h1 => h1.elim fun y h2 => h2.elim fun z h3 => h3.elim fun u h4 => k x y z u h4.1 h4.2.1 h4.2.2
theorem x44 {α β γ δ : Type} {A B C D : α → β → γ → δ → Prop} {P : Prop} (h : ∃ x y z u, A x y z u ∧ B x y z u ∧ C x y z u ∧ D x y z u) (k : ∀ x y z u, A x y z u → B x y z u → C x y z u → D x y z u → P) : P := h.elim fun x h1 => h1.elim fun y h2 => h2.elim fun z h3 => h3.elim fun u h4 => k x y z u h4.1 h4.2.1 h4.2.2.1 h4.2.2.2
theorem x45 {α β γ δ : Type} {A B C D E : α → β → γ → δ → Prop} {P : Prop} (h : ∃ x y z u, A x y z u ∧ B x y z u ∧ C x y z u ∧ D x y z u ∧ E x y z u) (k : ∀ x y z u, A x y z u → B x y z u → C x y z u → D x y z u → E x y z u → P) : P := h.elim fun x h1 => h1.elim fun y h2 => h2.elim fun z h3 => h3.elim fun u h4 => k x y z u h4.1 h4.2.1 h4.2.2.1 h4.2.2.2.1 h4.2.2.2.2
theorem x46 {α β γ δ : Type} {A B C D E F : α → β → γ → δ → Prop} {P : Prop} (h : ∃ x y z u, A x y z u ∧ B x y z u ∧ C x y z u ∧ D x y z u ∧ E x y z u ∧ F x y z u) (k : ∀ x y z u, A x y z u → B x y z u → C x y z u → D x y z u → E x y z u → F x y z u → P) : P := h.elim fun x h1 => h1.elim fun y h2 => h2.elim fun z h3 => h3.elim fun u h4 => k x y z u h4.1 h4.2.1 h4.2.2.1 h4.2.2.2.1 h4.2.2.2.2.1 h4.2.2.2.2.2
theorem x52 {α β γ δ ε : Type} {A B : α → β → γ → δ → ε → Prop} {P : Prop} (h : ∃ x y z u v, A x y z u v ∧ B x y z u v) (k : ∀ x y z u v, A x y z u v → B x y z u v → P) : P := h.elim fun x h1 => h1.elim fun y h2 => h2.elim fun z h3 => h3.elim fun u h4 => h4.elim fun v h5 => k x y z u v h5.1 h5.2
theorem x53 {α β γ δ ε : Type} {A B C : α → β → γ → δ → ε → Prop} {P : Prop} (h : ∃ x y z u v, A x y z u v ∧ B x y z u v ∧ C x y z u v) (k : ∀ x y z u v, A x y z u v → B x y z u v → C x y z u v → P) : P := h.elim fun x h1 => h1.elim fun y h2 => h2.elim fun z h3 => h3.elim fun u h4 => h4.elim fun v h5 => k x y z u v h5.1 h5.2.1 h5.2.2
theorem x54 {α β γ δ ε : Type} {A B C D : α → β → γ → δ → ε → Prop} {P : Prop} (h : ∃ x y z u v, A x y z u v ∧ B x y z u v ∧ C x y z u v ∧ D x y z u v) (k : ∀ x y z u v, A x y z u v → B x y z u v → C x y z u v → D x y z u v → P) : P := h.elim fun x h1 => h1.elim fun y h2 => h2.elim fun z h3 => h3.elim fun u h4 => h4.elim fun v h5 => k x y z u v h5.1 h5.2.1 h5.2.2.1 h5.2.2.2
theorem y54 {α β γ δ ε : Type} {A B C D : α → β → γ → δ → ε → Prop} {P : Prop} (k : ∀ x y z u v, A x y z u v → B x y z u v → C x y z u v → D x y z u v → P) (h : ∃ x y z u v, A x y z u v ∧ B x y z u v ∧ C x y z u v ∧ D x y z u v) : P := h.elim fun x h1 => h1.elim fun y h2 => h2.elim fun z h3 => h3.elim fun u h4 => h4.elim fun v h5 => k x y z u v h5.1 h5.2.1 h5.2.2.1 h5.2.2.2
theorem x55 {α β γ δ ε : Type} {A B C D E : α → β → γ → δ → ε → Prop} {P : Prop} (h : ∃ x y z u v, A x y z u v ∧ B x y z u v ∧ C x y z u v ∧ D x y z u v ∧ E x y z u v) (k : ∀ x y z u v, A x y z u v → B x y z u v → C x y z u v → D x y z u v → E x y z u v → P) : P := h.elim fun x h1 => h1.elim fun y h2 => h2.elim fun z h3 => h3.elim fun u h4 => h4.elim fun v h5 => k x y z u v h5.1 h5.2.1 h5.2.2.1 h5.2.2.2.1 h5.2.2.2.2
theorem p2 {α β : Type} {P : α × β → Prop} (k : ∀ a b, P (a, b)) : ∀ s, P s := fun s => k s.1 s.2
theorem p3 {α β γ : Type} {P : α × β × γ → Prop} (k : ∀ a b c, P (a, b, c)) : ∀ s, P s := fun s => k s.1 s.2.1 s.2.2
theorem p4 {α β γ δ : Type} {P : α × β × γ × δ → Prop} (k : ∀ a b c d, P (a, b, c, d)) : ∀ s, P s := fun s => k s.1 s.2.1 s.2.2.1 s.2.2.2
theorem sb {α : Type} {a : α} {P : α → Prop} (k : P a) : ∀ x, x = a → P x := fun x e => e ▸ k
theorem ei11 {α : Type} {A : α → Prop} (x : α) (a₀ : A x) : ∃ x, A x := ⟨x, a₀⟩
theorem ei12 {α : Type} {A B : α → Prop} (x : α) (a₀ : A x) (b₀ : B x) : ∃ x, A x ∧ B x := ⟨x, a₀, b₀⟩
theorem ei13 {α : Type} {A B C : α → Prop} (x : α) (a₀ : A x) (b₀ : B x) (c₀ : C x) : ∃ x, A x ∧ B x ∧ C x := ⟨x, a₀, b₀, c₀⟩
theorem ei14 {α : Type} {A B C D : α → Prop} (x : α) (a₀ : A x) (b₀ : B x) (c₀ : C x) (d₀ : D x) : ∃ x, A x ∧ B x ∧ C x ∧ D x := ⟨x, a₀, b₀, c₀, d₀⟩
theorem ei21 {α β : Type} {A : α → β → Prop} (x : α) (y : β) (a₀ : A x y) : ∃ x y, A x y := ⟨x, y, a₀⟩
theorem ei22 {α β : Type} {A B : α → β → Prop} (x : α) (y : β) (a₀ : A x y) (b₀ : B x y) : ∃ x y, A x y ∧ B x y := ⟨x, y, a₀, b₀⟩
theorem ei23 {α β : Type} {A B C : α → β → Prop} (x : α) (y : β) (a₀ : A x y) (b₀ : B x y) (c₀ : C x y) : ∃ x y, A x y ∧ B x y ∧ C x y := ⟨x, y, a₀, b₀, c₀⟩
theorem ei24 {α β : Type} {A B C D : α → β → Prop} (x : α) (y : β) (a₀ : A x y) (b₀ : B x y) (c₀ : C x y) (d₀ : D x y) : ∃ x y, A x y ∧ B x y ∧ C x y ∧ D x y := ⟨x, y, a₀, b₀, c₀, d₀⟩
theorem ei25 {α β : Type} {A B C D E : α → β → Prop} (x : α) (y : β) (a₀ : A x y) (b₀ : B x y) (c₀ : C x y) (d₀ : D x y) (e₀ : E x y) : ∃ x y, A x y ∧ B x y ∧ C x y ∧ D x y ∧ E x y := ⟨x, y, a₀, b₀, c₀, d₀, e₀⟩
theorem ei26 {α β : Type} {A B C D E F : α → β → Prop} (x : α) (y : β) (a₀ : A x y) (b₀ : B x y) (c₀ : C x y) (d₀ : D x y) (e₀ : E x y) (f₀ : F x y) : ∃ x y, A x y ∧ B x y ∧ C x y ∧ D x y ∧ E x y ∧ F x y := ⟨x, y, a₀, b₀, c₀, d₀, e₀, f₀⟩
theorem ei27 {α β : Type} {A B C D E F G : α → β → Prop} (x : α) (y : β) (a₀ : A x y) (b₀ : B x y) (c₀ : C x y) (d₀ : D x y) (e₀ : E x y) (f₀ : F x y) (g₀ : G x y) : ∃ x y, A x y ∧ B x y ∧ C x y ∧ D x y ∧ E x y ∧ F x y ∧ G x y := ⟨x, y, a₀, b₀, c₀, d₀, e₀, f₀, g₀⟩
theorem ei31 {α β γ : Type} {A : α → β → γ → Prop} (x : α) (y : β) (z : γ) (a₀ : A x y z) : ∃ x y z, A x y z := ⟨x, y, z, a₀⟩
theorem ei32 {α β γ : Type} {A B : α → β → γ → Prop} (x : α) (y : β) (z : γ) (a₀ : A x y z) (b₀ : B x y z) : ∃ x y z, A x y z ∧ B x y z := ⟨x, y, z, a₀, b₀⟩
theorem ei33 {α β γ : Type} {A B C : α → β → γ → Prop} (x : α) (y : β) (z : γ) (a₀ : A x y z) (b₀ : B x y z) (c₀ : C x y z) : ∃ x y z, A x y z ∧ B x y z ∧ C x y z := ⟨x, y, z, a₀, b₀, c₀⟩
theorem ei34 {α β γ : Type} {A B C D : α → β → γ → Prop} (x : α) (y : β) (z : γ) (a₀ : A x y z) (b₀ : B x y z) (c₀ : C x y z) (d₀ : D x y z) : ∃ x y z, A x y z ∧ B x y z ∧ C x y z ∧ D x y z := ⟨x, y, z, a₀, b₀, c₀, d₀⟩
theorem ei35 {α β γ : Type} {A B C D E : α → β → γ → Prop} (x : α) (y : β) (z : γ) (a₀ : A x y z) (b₀ : B x y z) (c₀ : C x y z) (d₀ : D x y z) (e₀ : E x y z) : ∃ x y z, A x y z ∧ B x y z ∧ C x y z ∧ D x y z ∧ E x y z := ⟨x, y, z, a₀, b₀, c₀, d₀, e₀⟩
theorem ei36 {α β γ : Type} {A B C D E F : α → β → γ → Prop} (x : α) (y : β) (z : γ) (a₀ : A x y z) (b₀ : B x y z) (c₀ : C x y z) (d₀ : D x y z) (e₀ : E x y z) (f₀ : F x y z) : ∃ x y z, A x y z ∧ B x y z ∧ C x y z ∧ D x y z ∧ E x y z ∧ F x y z := ⟨x, y, z, a₀, b₀, c₀, d₀, e₀, f₀⟩
theorem ei43 {α β γ δ : Type} {A B C : α → β → γ → δ → Prop} (x : α) (y : β) (z : γ) (u : δ) (a₀ : A x y z u) (b₀ : B x y z u) (c₀ : C x y z u) : ∃ x y z u, A x y z u ∧ B x y z u ∧ C x y z u := ⟨x, y, z, u, a₀, b₀, c₀⟩
theorem ei44 {α β γ δ : Type} {A B C D : α → β → γ → δ → Prop} (x : α) (y : β) (z : γ) (u : δ) (a₀ : A x y z u) (b₀ : B x y z u) (c₀ : C x y z u) (d₀ : D x y z u) : ∃ x y z u, A x y z u ∧ B x y z u ∧ C x y z u ∧ D x y z u := ⟨x, y, z, u, a₀, b₀, c₀, d₀⟩
theorem ei45 {α β γ δ : Type} {A B C D E : α → β → γ → δ → Prop} (x : α) (y : β) (z : γ) (u : δ) (a₀ : A x y z u) (b₀ : B x y z u) (c₀ : C x y z u) (d₀ : D x y z u) (e₀ : E x y z u) : ∃ x y z u, A x y z u ∧ B x y z u ∧ C x y z u ∧ D x y z u ∧ E x y z u := ⟨x, y, z, u, a₀, b₀, c₀, d₀, e₀⟩
theorem ei46 {α β γ δ : Type} {A B C D E F : α → β → γ → δ → Prop} (x : α) (y : β) (z : γ) (u : δ) (a₀ : A x y z u) (b₀ : B x y z u) (c₀ : C x y z u) (d₀ : D x y z u) (e₀ : E x y z u) (f₀ : F x y z u) : ∃ x y z u, A x y z u ∧ B x y z u ∧ C x y z u ∧ D x y z u ∧ E x y z u ∧ F x y z u := ⟨x, y, z, u, a₀, b₀, c₀, d₀, e₀, f₀⟩
theorem ei53 {α β γ δ ε : Type} {A B C : α → β → γ → δ → ε → Prop} (x : α) (y : β) (z : γ) (u : δ) (v : ε) (a₀ : A x y z u v) (b₀ : B x y z u v) (c₀ : C x y z u v) : ∃ x y z u v, A x y z u v ∧ B x y z u v ∧ C x y z u v := ⟨x, y, z, u, v, a₀, b₀, c₀⟩
theorem ei54 {α β γ δ ε : Type} {A B C D : α → β → γ → δ → ε → Prop} (x : α) (y : β) (z : γ) (u : δ) (v : ε) (a₀ : A x y z u v) (b₀ : B x y z u v) (c₀ : C x y z u v) (d₀ : D x y z u v) : ∃ x y z u v, A x y z u v ∧ B x y z u v ∧ C x y z u v ∧ D x y z u v := ⟨x, y, z, u, v, a₀, b₀, c₀, d₀⟩
theorem ei75 {α β γ δ ε ζ η : Type} {A B C D E : α → β → γ → δ → ε → ζ → η → Prop} (x : α) (y : β) (z : γ) (u : δ) (v : ε) (w : ζ) (r : η) (a₀ : A x y z u v w r) (b₀ : B x y z u v w r) (c₀ : C x y z u v w r) (d₀ : D x y z u v w r) (e₀ : E x y z u v w r) : ∃ x y z u v w r, A x y z u v w r ∧ B x y z u v w r ∧ C x y z u v w r ∧ D x y z u v w r ∧ E x y z u v w r := ⟨x, y, z, u, v, w, r, a₀, b₀, c₀, d₀, e₀⟩
-->x
theorem no {α : Type} {a : α} {P : Prop} (h : none = some a) : P := nomatch h
theorem nf {P : Prop} (h : false = true) : P := nomatch h
theorem nsS {α : Type} {o : Option α} {P : Prop} (e : o = none) (s : o.isSome = true) : P := by rw [e] at s; cases s
theorem lel {m n : Nat} (h : m.ble n = true := by rfl) : m ≤ n := Nat.le_of_ble_eq_true h
theorem ltl {m n : Nat} (h : (m + 1).ble n = true := by rfl) : m < n := Nat.le_of_ble_eq_true h
theorem ile {m n : Int} (h : decide (m ≤ n) = true := by rfl) : m ≤ n := of_decide_eq_true h
theorem ilt {m n : Int} (h : decide (m < n) = true := by rfl) : m < n := of_decide_eq_true h
inductive PV where
 | none
 | bool (b : Bool)
 | int (i : Int)
 | str (s : Str)
 | tup (l : List PV)
 | lst (n : Nat)
 | frz (l : List Int)
 | rng (a b c : Int)
 | fn (i : Nat)
 | exc (c : Nat)
inductive MObj where
 | list (l : List PV)
 | inst (d : Nat)
 | attrs (l : List (Nat × Option PV))
 | own
structure Hp where
 lo : Nat
 os : List MObj
abbrev Loc := List (Nat × Option PV)
inductive Res (α : Type) where
 | ok (a : α) (hp : Hp)
 | exc (c : Nat) (hp : Hp)
 | bad
noncomputable def Res.bind {α β : Type} : Res α → (α → Hp → Res β) → Res β
 | .ok a hp, f => f a hp
 | .exc c hp, _ => .exc c hp
 | .bad, _ => .bad
theorem Res.bind_ok {α β : Type} (a : α) (hp : Hp) (f : α → Hp → Res β) : (Res.ok a hp).bind f = f a hp := rfl
theorem Res.bindI {α β : Type} {r : Res α} {f : α → Hp → Res β} {b : β} {hp' : Hp} {P : Prop} (e : r.bind f = .ok b hp') (k : ∀ a hp1, r = .ok a hp1 → f a hp1 = .ok b hp' → P) : P := match r, e with
 | .ok a hp1, e => k a hp1 rfl e
theorem Res.bind_exc {α β : Type} (c : Nat) (hp : Hp) (f : α → Hp → Res β) : (Res.exc c hp : Res α).bind f = .exc c hp := rfl
theorem Res.bind_bad {α β : Type} (f : α → Hp → Res β) : (Res.bad : Res α).bind f = .bad := rfl
inductive Bop where
 | add | sub | mul | div | mod | pow
inductive Cop where
 | eq | ne | lt | le | gt | ge | is | isNot | isin | notin
inductive Ty where
 | int | bool | tuple | list | verr | own (c : Nat)
inductive Bf where
 | len | range1 | range2 | range3 | tuple | list | all | abs | int | sorted | min
inductive Mf where
 | append
 | pop
inductive Tgt where
 | one (x : Nat)
 | two (x y : Nat)
 | three (x y z : Nat)
inductive ItK where
 | plain | rev | enum | zip
mutual
inductive ME where
 | lit (p : PV)
 | glob (g : Nat) (p : PV)
 | var (x : Nat)
 | bin (op : Bop) (l r : ME)
 | neg (e : ME)
 | notE (e : ME)
 | andE (es : List ME)
 | orE (es : List ME)
 | cmp (l : ME) (ops : List Cop) (rs : List ME)
 | call (f : ME) (args : List ME)
 | bcall (b : Bf) (args : List ME)
 | isi (e : ME) (t : Ty)
 | meth (m : Mf) (o : ME) (args : List ME)
 | sub (o i : ME)
 | slice (o : ME) (lo hi : Option ME)
 | list (es : List ME)
 | tuple (es : List ME)
 | attr (o : ME) (k : Nat)
 | mk (i : Nat) (args : List ME)
 | mcall (i : Nat) (o : ME) (args : List ME)
 | comp (elt : ME) (t : Tgt) (k : ItK) (its : List ME) (ifs : List MT)
inductive MT where
 | val (e : ME)
 | notT (t : MT)
 | andT (ts : List MT)
 | orT (ts : List MT)
 | cmp (l : ME) (ops : List Cop) (rs : List ME)
end
inductive MS where
 | expr (e : ME)
 | ret (e : ME)
 | asg (x : Nat) (e : ME)
 | asgT (t : Tgt) (e : ME)
 | store (o i e : ME)
 | ifS (c : MT) (a b : List MS)
 | forS (t : Tgt) (k : ItK) (its : List ME) (body : List MS)
 | setA (o : ME) (k : Nat) (e : ME)
 | raise (c : Nat)
 | tryS (body : List MS) (x : Nat) (h : ME)
 | brk
 | bad
structure MFun where
 pure : Bool
 params : List Nat
 locs : List Nat
 body : List MS
structure MProg where
 funs : List MFun
 held : Bool
noncomputable def MProg.hold (P : MProg) : MProg := ⟨P.funs, true⟩
noncomputable def under (c d : Nat) : Bool := d == 0 || c == d
noncomputable def getv : Loc → Nat → Option PV
 | [], _ => none
 | (y, w) :: r, x => if y = x then w else getv r x
noncomputable def putv : Loc → Nat → PV → Loc
 | [], x, v => [(x, some v)]
 | (y, w) :: r, x, v => if y = x then (y, some v) :: r else (y, w) :: putv r x v
noncomputable def sizeOk (n : Nat) : Bool := decide (n ≤ 1000000)
noncomputable def intOk (i : Int) : Bool := decide (-9223372036854775808 < i) && decide (i < 9223372036854775808)
noncomputable def lstAt (hp : Hp) (n : Nat) : Option (List PV) := match hp.os[n]? with
 | some (.list l) => some l
 | _ => none
noncomputable def newList (l : List PV) (hp : Hp) : Res PV := .ok (.lst hp.os.length) { hp with os := hp.os ++ [.list l] }
noncomputable def setObj (n : Nat) (o : MObj) (hp : Hp) : Option Hp := if hp.lo ≤ n then some { hp with os := hp.os.set n o } else none
noncomputable def repl (l : List PV) : Nat → List PV
 | 0 => []
 | n + 1 => l ++ repl l n
noncomputable def asI : PV → Option Int
 | .int i => some i
 | _ => none
theorem asI_inv {p : PV} {a : Int} (h : asI p = some a) : p = .int a := by cases p <;> cases h; rfl
noncomputable def intsOf : List PV → Option (List Int)
 | [] => some []
 | p :: r => (asI p).bind fun i => (intsOf r).map (i :: ·)
theorem intsOf_inv : ∀ {l : List PV} {k : List Int}, intsOf l = some k → l = k.map .int
 | [], _, h => by cases h; rfl
 | p :: r, k, h => by
  obtain ⟨i, hi, h⟩ := Option.bind_eq_some_iff.mp (show ((asI p).bind fun i => (intsOf r).map (i :: ·)) = some k from h)
  obtain ⟨k', hk, rfl⟩ := Option.map_eq_some_iff.mp h
  rw [asI_inv hi, intsOf_inv hk]; rfl
noncomputable def one1 : List PV → Option PV
 | [p] => some p
 | _ => none
theorem drop_at {α : Type} {l : List α} {i : Nat} {c : α} (h : l[i]? = some c) : l.drop i = c :: l.drop (i + 1) := by
 obtain ⟨h1, h2⟩ := List.getElem?_eq_some_iff.mp h
 rw [List.drop_eq_getElem_cons h1, h2]
theorem sub1 {a i : Nat} (h : i < a) : a - i = a - (i + 1) + 1 := (Nat.succ_pred_eq_of_pos (Nat.sub_pos_of_lt h)).symm
theorem one1_inv {l : List PV} {p : PV} (h : one1 l = some p) : l = [p] := by
 rcases l with _ | ⟨q, _ | ⟨_, _⟩⟩
 ·exact no h
 ·cases h; rfl
 ·exact no h
noncomputable def asT : PV → Option (List PV)
 | .tup l => some l
 | _ => none
noncomputable def asL : PV → Option Nat
 | .lst n => some n
 | _ => none
theorem asT_inv {p : PV} {l : List PV} (h : asT p = some l) : p = .tup l := by cases p <;> cases h; rfl
theorem asL_inv {p : PV} {n : Nat} (h : asL p = some n) : p = .lst n := by cases p <;> cases h; rfl
noncomputable def bAdd (p q : PV) (hp : Hp) : Res PV := match p with
 | .int a => (match asI q with
  | some b => .ok (.int (a + b)) hp
  | none => .bad)
 | .tup l => (match asT q with
  | some m => if sizeOk (l.length + m.length) then .ok (.tup (l ++ m)) hp else .bad
  | none => .bad)
 | .lst a => (match asL q with
  | some b => match lstAt hp a, lstAt hp b with
   | some l, some m => if sizeOk (l.length + m.length) then newList (l ++ m) hp else .bad
   | _, _ => .bad
  | none => .bad)
 | _ => .bad
noncomputable def bMul (p q : PV) (hp : Hp) : Res PV := match asI q with
 | none => .bad
 | some n => match p with
  | .int a => if intOk a || intOk n then .ok (.int (a * n)) hp else .bad
  | .tup l => if decide (0 < n) && (intOk n && sizeOk (l.length * n.toNat)) then .ok (.tup (repl l n.toNat)) hp else .bad
  | .lst a => (match lstAt hp a with
   | some l => if intOk n && sizeOk (l.length * n.toNat) then newList (repl l n.toNat) hp else .bad
   | none => .bad)
  | _ => .bad
noncomputable def bInt (f : Int → Int → Option Int) (p q : PV) (hp : Hp) : Res PV := match asI p, asI q with
 | some a, some b => (match f a b with
  | some c => .ok (.int c) hp
  | none => .bad)
 | _, _ => .bad
noncomputable def binop : Bop → PV → PV → Hp → Res PV
 | .add, p, q, hp => bAdd p q hp
 | .sub, p, q, hp => bInt (fun a b => some (a - b)) p q hp
 | .mul, p, q, hp => bMul p q hp
 | .div, p, q, hp => bInt (fun a b => if b ≠ 0 ∧ intOk b then some (a.fdiv b) else none) p q hp
 | .mod, p, q, hp => bInt (fun a b => if b ≠ 0 then some (a.fmod b) else none) p q hp
 | .pow, _, _, _ => .bad
theorem bInt_inv {f : Int → Int → Option Int} {p q : PV} {hp : Hp} : (∃ a b c, p = .int a ∧ q = .int b ∧ f a b = some c ∧ bInt f p q hp = .ok (.int c) hp) ∨ bInt f p q hp = .bad := by
 unfold bInt
 cases h1 : asI p with
 | none => exact .inr rfl
 | some a =>
  cases h2 : asI q with
  | none => exact .inr rfl
  | some b =>
   cases h3 : f a b with
   | none => right; dsimp only; rw [h3]
   | some c => left; refine ⟨a, b, c, asI_inv h1, asI_inv h2, h3, ?_⟩; dsimp only; rw [h3]
noncomputable def snapAll (f : PV → Option PyData) : List PV → Option (List PyData)
 | [] => some []
 | p :: r => match f p, snapAll f r with
  | some d, some ds => some (d :: ds)
  | _, _ => none
noncomputable def atom : PV → Option PyData
 | .none => some .none
 | .bool b => some (.bool b)
 | .int i => some (.int i)
 | .str s => if PyData.strOk s then some (.str s) else none
 | _ => none
noncomputable def snap : Nat → Hp → PV → Option PyData
 | 0, _, p => atom p
 | n + 1, hp, p => match p with
  | .tup l => (snapAll (snap n hp) l).map .tuple
  | .lst a => match lstAt hp a with
   | some l => (snapAll (snap n hp) l).map .list
   | none => none
  | p => atom p
noncomputable def snapD : Nat := 8
noncomputable def peq (p q : PV) (hp : Hp) : Option Bool := (snap snapD hp p).bind fun a => (snap snapD hp q).bind fun b => some (PyData.eqv a b)
noncomputable def asLd : PyData → Option (List PyData)
 | .list l => some l
 | _ => none
noncomputable def pin (p c : PV) (hp : Hp) : Option Bool := (snap snapD hp p).bind fun a => (snap snapD hp c).bind fun d => (asLd d).bind fun l => some (l.any fun d => PyData.eqv d a)
noncomputable def isNone : PV → Bool
 | .none => true
 | _ => false
noncomputable def pis (p q : PV) : Option Bool := if isNone p && isNone q then some true else none
noncomputable def cmpI (f : Int → Int → Bool) (p q : PV) : Option Bool := match asI p, asI q with
 | some a, some b => some (f a b)
 | _, _ => none
theorem cmpI_inv {f : Int → Int → Bool} {p q : PV} {t : Bool} (h : cmpI f p q = some t) : ∃ a b, p = .int a ∧ q = .int b ∧ t = f a b := by
 unfold cmpI at h
 cases h1 : asI p with
 | none => rw [h1] at h; cases h
 | some a =>
  cases h2 : asI q with
  | none => rw [h1, h2] at h; cases h
  | some b => rw [h1, h2] at h; cases h; exact ⟨a, b, asI_inv h1, asI_inv h2, rfl⟩
noncomputable def cmpop : Cop → PV → PV → Hp → Option Bool
 | .eq, p, q, hp => peq p q hp
 | .ne, p, q, hp => (peq p q hp).map (! ·)
 | .lt, p, q, _ => cmpI (fun a b => decide (a < b)) p q
 | .le, p, q, _ => cmpI (fun a b => decide (a ≤ b)) p q
 | .gt, p, q, _ => cmpI (fun a b => decide (b < a)) p q
 | .isNot, p, q, _ => (pis p q).map (! ·)
 | .isin, p, q, hp => pin p q hp
 | .notin, p, q, hp => (pin p q hp).map (! ·)
 | _, _, _, _ => none
noncomputable def truth : PV → Hp → Option Bool
 | .none, _ => some false
 | .bool b, _ => some b
 | .int i, _ => some (i != 0)
 | .tup l, _ => some (!l.isEmpty)
 | .lst n, hp => (lstAt hp n).map fun l => !l.isEmpty
 | _, _ => none
noncomputable def tagOf : PV → Hp → Option Nat
 | .none, _ => some 0
 | .bool _, _ => some 1
 | .int _, _ => some 2
 | .str _, _ => some 3
 | .tup _, _ => some 4
 | .lst n, hp => match hp.os[n]? with
  | some (.list _) => some 5
  | _ => none
 | _, _ => none
noncomputable def tyB : Ty → Nat → Bool
 | .int, k => k == 1 || k == 2
 | .bool, k => k == 1
 | .tuple, k => k == 4
 | .list, k => k == 5
 | _, _ => false
noncomputable def tyIsB : Ty → Bool
 | .verr => false
 | .own _ => false
 | _ => true
noncomputable def excTy : Ty → Nat → Option Bool
 | .verr, _ => some true
 | .own d, c => some (under c d)
 | _, _ => none
noncomputable def isity (p : PV) (t : Ty) (hp : Hp) : Option Bool := match p with
 | .exc c => excTy t c
 | p => if tyIsB t then (tagOf p hp).map (tyB t) else none
noncomputable def subIt : PV → Hp → Option (List PV)
 | .tup l, _ => some l
 | .lst n, hp => lstAt hp n
 | .frz l, _ => some (l.map .int)
 | _, _ => none
noncomputable def subop (p q : PV) (hp : Hp) : Option PV := (asI q).bind fun k => if 0 ≤ k then (subIt p hp).bind fun l => l[k.toNat]? else none
noncomputable def cutLo : Option Int → Nat → Nat
 | none, _ => 0
 | some x, n => (max 0 (min (if x < 0 then x + n else x) (n : Int))).toNat
noncomputable def cutHi : Option Int → Nat → Nat
 | none, n => n
 | some x, n => (max 0 (min (if x < 0 then x + n else x) (n : Int))).toNat
noncomputable def cut {α : Type} (l : List α) (lo hi : Option Int) : List α := (l.take (cutHi hi l.length)).drop (cutLo lo l.length)
noncomputable def asInt? : Option PV → Option (Option Int)
 | none => some none
 | some (.int i) => if intOk i then some (some i) else none
 | some _ => none
noncomputable def sliceop (p : PV) (lo hi : Option PV) (hp : Hp) : Res PV := match asInt? lo, asInt? hi with
 | some a, some b => match p with
  | .tup l => .ok (.tup (cut l a b)) hp
  | .lst n => match lstAt hp n with
   | some l => newList (cut l a b) hp
   | none => .bad
  | _ => .bad
 | _, _ => .bad
inductive Src where
 | items (l : List PV)
 | at (n i : Nat)
 | zip (m : Nat) (a b : Src)
 | enum (n i : Nat)
noncomputable def Src.next : Src → Hp → Option (Option (PV × Src))
 | .items [], _ => some none
 | .items (v :: l), _ => some (some (v, .items l))
 | .at n i, hp => match lstAt hp n with
  | some l => some (l[i]?.map fun v => (v, .at n (i + 1)))
  | none => none
 | .zip m a b, hp => match hp.os[m]? with
  | some .own => (match a.next hp with
   | none => none
   | some none => some none
   | some (some (v, a')) => match b.next hp with
    | none => none
    | some none => some none
    | some (some (w, b')) => some (some (.tup [v, w], .zip m a' b')))
  | _ => none
 | .enum n i, hp => match lstAt hp n with
  | some l => some (l[i]?.map fun v => (.tup [.int i, v], .enum n (i + 1)))
  | none => none
noncomputable def rngLen (a b c : Int) : Nat := if c = 1 then (b - a).toNat else if c = -1 then (a - b).toNat else 0
noncomputable def rngItems (a c : Int) : Nat → List PV
 | 0 => []
 | n + 1 => .int a :: rngItems (a + c) c n
noncomputable def rngOk (i : Int) : Bool := decide (-1000000 ≤ i) && decide (i ≤ 1000000)
noncomputable def src1 : PV → Hp → Option Src
 | .rng a b c, _ => if rngOk a && rngOk b && (c == 1 || c == -1) then some (.items (rngItems a c (rngLen a b c))) else none
 | .tup l, _ => some (.items l)
 | .lst n, hp => match lstAt hp n with
  | some _ => some (.at n 0)
  | none => none
 | _, _ => none
noncomputable def srcP : List PV → Hp → Option Src
 | [p], hp => src1 p hp
 | _, _ => none
noncomputable def srcR : List PV → Hp → Option Src
 | [.rng a b c], _ => if a == 0 && rngOk b && c == 1 then some (.items (rngItems 0 1 b.toNat).reverse) else none
 | _, _ => none
noncomputable def srcE : List PV → Hp → Option Src
 | [.lst n], hp => match lstAt hp n with
  | some _ => some (.enum n 0)
  | none => none
 | _, _ => none
noncomputable def sideL : PV → Hp → Option Src
 | .lst n, hp => match lstAt hp n with
  | some _ => some (.at n 0)
  | none => none
 | _, _ => none
noncomputable def sideZ (p : PV) (hp : Hp) : Option Src := sideL p hp
noncomputable def srcZ : List PV → Hp → Option Src
 | [p, q], hp => (sideZ p hp).bind fun a => (sideL q hp).bind fun b => some (.zip hp.os.length a b)
 | _, _ => none
noncomputable def srcOf (k : ItK) (vs : List PV) (hp : Hp) : Option Src := match k with
 | .plain => srcP vs hp
 | .rev => srcR vs hp
 | .enum => srcE vs hp
 | .zip => srcZ vs hp
noncomputable def srcHp : ItK → Hp → Hp
 | .zip, hp => { hp with os := hp.os ++ [.own] }
 | _, hp => hp
noncomputable def bindXs : List Nat → List PV → Loc → Option Loc
 | [], [], loc => some loc
 | x :: xs, p :: ps, loc => bindXs xs ps (putv loc x p)
 | _, _, _ => none
noncomputable def tupOf : PV → Option (List PV)
 | .tup l => some l
 | _ => none
noncomputable def bindT : Tgt → PV → Loc → Option Loc
 | .one x, v, loc => some (putv loc x v)
 | .two x y, v, loc => (tupOf v).bind fun ps => bindXs [x, y] ps loc
 | .three x y z, v, loc => (tupOf v).bind fun ps => bindXs [x, y, z] ps loc
noncomputable def storeAt (a k v : PV) (hp : Hp) : Option Hp := match a, k with
 | .lst n, .int k => match lstAt hp n with
  | some l => if 0 ≤ k ∧ k < l.length then setObj n (.list (l.set k.toNat v)) hp else none
  | none => none
 | _, _ => none
noncomputable def pairI : List PV → Option (Int × Int)
 | [p, q] => (asI p).bind fun a => (asI q).bind fun b => some (a, b)
 | _ => none
noncomputable def asPair (p : PV) : Option (Int × Int) := match asT p with
 | some l => pairI l
 | none => none
noncomputable def sort2 : List PV → Option (List PV)
 | [p] => some [p]
 | [p, q] => match asPair p, asPair q with
  | some x, some y => some (if decide (y.1 < x.1 ∨ y.1 = x.1 ∧ y.2 < x.2) then [q, p] else [p, q])
  | _, _ => none
 | _ => none
noncomputable def isB : PV → Bool
 | .bool _ => true
 | _ => false
noncomputable def valB : PV → Bool
 | .bool b => b
 | _ => false
noncomputable def lenOf : PV → Hp → Res PV
 | .tup l, hp => .ok (.int l.length) hp
 | .frz l, hp => .ok (.int l.length) hp
 | .lst n, hp => match lstAt hp n with
  | some l => .ok (.int l.length) hp
  | none => .bad
 | _, _ => .bad
noncomputable def bLen (vs : List PV) (hp : Hp) : Res PV := match one1 vs with
 | some p => lenOf p hp
 | none => .bad
noncomputable def r1 : List Int → Hp → Res PV
 | [b], hp => if intOk b then .ok (.rng 0 b 1) hp else .bad
 | _, _ => .bad
noncomputable def onI (f : List Int → Hp → Res PV) (vs : List PV) (hp : Hp) : Res PV := match intsOf vs with
 | some l => f l hp
 | none => .bad
noncomputable abbrev bR1 := onI r1
noncomputable def r2 : List Int → Hp → Res PV
 | [a, b], hp => if intOk a && intOk b then .ok (.rng a b 1) hp else .bad
 | _, _ => .bad
noncomputable abbrev bR2 := onI r2
noncomputable def r3 : List Int → Hp → Res PV
 | [a, b, c], hp => if intOk a && intOk b && c == -1 then .ok (.rng a b c) hp else .bad
 | _, _ => .bad
noncomputable abbrev bR3 := onI r3
noncomputable def onL (f : Nat → Hp → List PV → Res PV) (vs : List PV) (hp : Hp) : Res PV := match (one1 vs).bind asL with
 | some n => (match lstAt hp n with
  | some l => f n hp l
  | none => .bad)
 | none => .bad
noncomputable abbrev bTuple := onL fun z_ hp l => .ok (.tup l) hp
noncomputable def listOf : PV → Hp → Res PV
 | .lst n, hp => match lstAt hp n with
  | some l => newList l hp
  | none => .bad
 | .tup l, hp => newList l hp
 | _, _ => .bad
noncomputable def bList (vs : List PV) (hp : Hp) : Res PV := match one1 vs with
 | some p => listOf p hp
 | none => .bad
noncomputable abbrev bAll := onL fun z_ hp l => if l.all isB then .ok (.bool (l.all valB)) hp else .bad
noncomputable def iAbs : List Int → Hp → Res PV
 | [a], hp => .ok (.int (if a < 0 then -a else a)) hp
 | _, _ => .bad
noncomputable abbrev bAbs := onI iAbs
noncomputable def intOf : PV → Hp → Res PV
 | .bool b, hp => .ok (.int (if b then 1 else 0)) hp
 | _, _ => .bad
noncomputable def bIntB (vs : List PV) (hp : Hp) : Res PV := match one1 vs with
 | some p => intOf p hp
 | none => .bad
noncomputable def iMin : List Int → Hp → Res PV
 | [a, b], hp => .ok (.int (if b < a then b else a)) hp
 | _, _ => .bad
noncomputable abbrev bMin := onI iMin
noncomputable abbrev bSorted := onL fun z_ hp l => match sort2 l with
 | some l' => newList l' hp
 | none => .bad
noncomputable def bfun (b : Bf) (vs : List PV) (hp : Hp) : Res PV := match b with
 | .len => bLen vs hp
 | .range1 => bR1 vs hp
 | .range2 => bR2 vs hp
 | .range3 => bR3 vs hp
 | .tuple => bTuple vs hp
 | .list => bList vs hp
 | .all => bAll vs hp
 | .abs => bAbs vs hp
 | .int => bIntB vs hp
 | .min => bMin vs hp
 | .sorted => bSorted vs hp
noncomputable def recv : Mf → PV → Hp → Bool
 | _, .lst n, hp => (lstAt hp n).isSome
 | _, _, _ => false
noncomputable def mAppend : PV → List PV → Hp → Res PV
 | .lst n, [v], hp => match lstAt hp n with
  | some l => if sizeOk l.length then (match setObj n (.list (l ++ [v])) hp with | some hp' => .ok .none hp' | none => .bad) else .bad
  | none => .bad
 | _, _, _ => .bad
noncomputable def mPop : PV → List PV → Hp → Res PV
 | .lst n, [], hp => match lstAt hp n with
  | some l => (match l.getLast? with
   | some v => (match setObj n (.list l.dropLast) hp with | some hp' => .ok v hp' | none => .bad)
   | none => .bad)
  | none => .bad
 | _, _, _ => .bad
noncomputable def method : Mf → PV → List PV → Hp → Res PV
 | .append, a, vs, hp => mAppend a vs hp
 | .pop, a, vs, hp => mPop a vs hp
noncomputable def instAt (hp : Hp) (n : Nat) : Option Nat := match hp.os[n]? with
 | some (.inst d) => some d
 | _ => none
noncomputable def attrsAt (hp : Hp) (d : Nat) : Option Loc := match hp.os[d]? with
 | some (.attrs l) => some l
 | _ => none
noncomputable def tabOf (p : PV) (hp : Hp) : Option (Nat × Loc) := (asL p).bind fun n => (instAt hp n).bind fun d => (attrsAt hp d).bind fun l => some (d, l)
noncomputable def attrOf (p : PV) (k : Nat) (hp : Hp) : Option PV := (tabOf p hp).bind fun dl => getv dl.2 k
noncomputable def putAttr (p : PV) (k : Nat) (v : PV) (hp : Hp) : Option Hp := (tabOf p hp).bind fun dl => setObj dl.1 (.attrs (putv dl.2 k v)) hp
noncomputable def newInst (hp : Hp) : Hp := { hp with os := hp.os ++ [.inst (hp.os.length + 1), .attrs []] }
mutual
noncomputable def below (n : Nat) : PV → Bool
 | .lst m => decide (m < n)
 | .tup l => belows n l
 | _ => true
noncomputable def belows (n : Nat) : List PV → Bool
 | [] => true
 | p :: r => below n p && belows n r
end
noncomputable def swept (hp : Hp) : Res PV → Res PV
 | .ok v hp' => if below hp.os.length v then .ok v hp
  else match v with
   | .lst n => match lstAt hp' n with
    | some l => if belows hp.os.length l then .ok (.lst hp.os.length) { hp with os := hp.os ++ [.list l] } else .ok v { hp' with lo := hp.lo }
    | none => .ok v { hp' with lo := hp.lo }
   | _ => .ok v { hp' with lo := hp.lo }
 | .exc c _ => .exc c hp
 | .bad => .bad
noncomputable def Bf.calm : Bf → Bool
 | .int => true
 | _ => false
noncomputable def ItK.calm : ItK → Bool
 | .zip => true
 | _ => false
abbrev Caller := Nat → List PV → Hp → Res PV
noncomputable def ofOpt {α : Type} (o : Option α) (hp : Hp) : Res α := match o with
 | some a => .ok a hp
 | none => .bad
noncomputable def Res.bindB {α β : Type} : Res α → (α → Hp → Res β) → Res β
 | .ok a hp, f => f a hp
 | _, _ => .bad
theorem Res.bindB_ok {α β : Type} (a : α) (hp : Hp) (f : α → Hp → Res β) : (Res.ok a hp).bindB f = f a hp := rfl
noncomputable def compLoop (bind : PV → Option Loc) (test : Loc → Hp → Res Bool) (elt : Loc → Hp → Res PV) : Nat → Src → List PV → Hp → Res (List PV)
 | 0, _, _, _ => .bad
 | f + 1, src, acc, hp => match src.next hp with
  | none => .bad
  | some none => .ok acc hp
  | some (some (v, src')) => match bind v with
   | none => .bad
   | some loc => (test loc hp).bindB fun b hp1 =>
    if b then (elt loc hp1).bindB fun p hp2 => compLoop bind test elt f src' (acc ++ [p]) hp2
    else compLoop bind test elt f src' acc hp1
noncomputable def loops : Nat := 1000000
section
variable (P : MProg) (C : Caller)
mutual
noncomputable def evalE : ME → Loc → Hp → Res PV
 | .lit p, _, hp => .ok p hp
 | .glob _ p, _, hp => .ok p hp
 | .var x, loc, hp => ofOpt (getv loc x) hp
 | .bin op l r, loc, hp => (evalE l loc hp).bind fun a hp1 => (evalE r loc hp1).bind fun b hp2 => binop op a b hp2
 | .neg e, loc, hp => (evalE e loc hp).bind fun a hp1 => match a with
  | .int i => .ok (.int (-i)) hp1
  | _ => .bad
 | .notE e, loc, hp => (evalE e loc hp).bind fun a hp1 => (ofOpt (truth a hp1) hp1).bind fun b hp2 => .ok (.bool (!b)) hp2
 | .andE es, loc, hp => evalBool true es loc hp
 | .orE es, loc, hp => evalBool false es loc hp
 | .cmp l ops rs, loc, hp => (evalE l loc hp).bind fun a hp1 => (evalCmp a ops rs loc hp1).bind fun b hp2 => .ok (.bool b) hp2
 | .call f args, loc, hp => (evalE f loc hp).bind fun g hp1 => match g with
  | .fn i => (evalEs args loc hp1).bind fun vs hp2 => C i vs hp2
  | _ => .bad
 | .bcall b args, loc, hp => (evalEs args loc hp).bind fun vs hp1 => if P.held && !b.calm then .bad else bfun b vs hp1
 | .isi e t, loc, hp => (evalE e loc hp).bind fun a hp1 => (ofOpt (isity a t hp1) hp1).bind fun b hp2 => .ok (.bool b) hp2
 | .meth m o args, loc, hp => (evalE o loc hp).bind fun a hp1 => if recv m a hp1 then (evalEs args loc hp1).bind fun vs hp2 => method m a vs hp2 else .bad
 | .sub o i, loc, hp => (evalE o loc hp).bind fun a hp1 => (evalE i loc hp1).bind fun b hp2 => ofOpt (subop a b hp2) hp2
 | .slice o lo hi, loc, hp => (evalE o loc hp).bind fun a hp1 => (evalO lo loc hp1).bind fun x hp2 => (evalO hi loc hp2).bind fun y hp3 => sliceop a x y hp3
 | .list es, loc, hp => (evalEs es loc hp).bind fun vs hp1 => newList vs hp1
 | .tuple es, loc, hp => (evalEs es loc hp).bind fun vs hp1 => .ok (.tup vs) hp1
 | .attr o k, loc, hp => (evalE o loc hp).bind fun a hp1 => ofOpt (attrOf a k hp1) hp1
 | .mk i args, loc, hp => (evalEs args loc hp).bind fun vs hp1 => (C i (.lst hp1.os.length :: vs) (newInst hp1)).bind fun r hp2 => if isNone r then .ok (.lst hp1.os.length) hp2 else .bad
 | .mcall i o args, loc, hp => (evalE o loc hp).bind fun a hp1 => if (tabOf a hp1).isSome then (evalEs args loc hp1).bind fun vs hp2 => C i (a :: vs) hp2 else .bad
 | .comp elt t k its ifs, loc, hp => if P.held && !k.calm then .bad else (evalEs its loc hp).bind fun vs hp1 => match srcOf k vs hp1 with
  | none => .bad
  | some src => (compLoop (fun v => bindT t v loc) (fun l h => evalIfs ifs l h) (fun l h => evalE elt l h) loops src [] (srcHp k hp1)).bind fun l hp2 => newList l hp2
noncomputable def evalO : Option ME → Loc → Hp → Res (Option PV)
 | none, _, hp => .ok none hp
 | some e, loc, hp => (evalE e loc hp).bind fun v hp1 => .ok (some v) hp1
noncomputable def evalEs : List ME → Loc → Hp → Res (List PV)
 | [], _, hp => .ok [] hp
 | e :: r, loc, hp => (evalE e loc hp).bind fun v hp1 => (evalEs r loc hp1).bind fun vs hp2 => .ok (v :: vs) hp2
noncomputable def evalCmp : PV → List Cop → List ME → Loc → Hp → Res Bool
 | a, [op], [r], loc, hp => (evalE r loc hp).bind fun b hp1 => ofOpt (cmpop op a b hp1) hp1
 | a, op :: ops, r :: rs, loc, hp => (evalE r loc hp).bind fun b hp1 => (ofOpt (cmpop op a b hp1) hp1).bind fun t hp2 =>
  if t then evalCmp b ops rs loc hp2 else .ok false hp2
 | _, _, _, _, _ => .bad
noncomputable def evalBool : Bool → List ME → Loc → Hp → Res PV
 | _, [], _, _ => .bad
 | _, [e], loc, hp => evalE e loc hp
 | k, e :: r, loc, hp => (evalE e loc hp).bind fun v hp1 => (ofOpt (truth v hp1) hp1).bind fun b hp2 => if b = k then evalBool k r loc hp2 else .ok v hp2
noncomputable def evalT : MT → Loc → Hp → Res Bool
 | .val e, loc, hp => (evalE e loc hp).bind fun v hp1 => ofOpt (truth v hp1) hp1
 | .notT e, loc, hp => (evalT e loc hp).bind fun b hp1 => .ok (!b) hp1
 | .andT es, loc, hp => evalTs true es loc hp
 | .orT es, loc, hp => evalTs false es loc hp
 | .cmp l ops rs, loc, hp => (evalE l loc hp).bind fun a hp1 => evalCmp a ops rs loc hp1
noncomputable def evalTs : Bool → List MT → Loc → Hp → Res Bool
 | k, [], _, hp => .ok k hp
 | k, e :: r, loc, hp => (evalT e loc hp).bind fun b hp1 => if b = k then evalTs k r loc hp1 else .ok b hp1
noncomputable def evalIfs : List MT → Loc → Hp → Res Bool
 | [], _, hp => .ok true hp
 | e :: r, loc, hp => (evalT e loc hp).bind fun b hp1 => if b then evalIfs r loc hp1 else .ok false hp1
end
inductive SR where
 | nxt (loc : Loc) (hp : Hp)
 | brk (loc : Loc) (hp : Hp)
 | ret (v : PV) (hp : Hp)
 | exc (c : Nat) (loc : Loc) (hp : Hp)
 | bad
noncomputable def Res.stm {α : Type} (r : Res α) (loc : Loc) (f : α → Hp → SR) : SR := match r with
 | .ok a hp => f a hp
 | .exc c hp => .exc c loc hp
 | .bad => .bad
noncomputable def Res.stmB {α : Type} (r : Res α) (f : α → Hp → SR) : SR := match r with
 | .ok a hp => f a hp
 | _ => .bad
theorem Res.stmB_ok {α : Type} (a : α) (hp : Hp) (f : α → Hp → SR) : (Res.ok a hp).stmB f = f a hp := rfl
theorem Res.stm_ok {α : Type} (a : α) (hp : Hp) (loc : Loc) (f : α → Hp → SR) : (Res.ok a hp).stm loc f = f a hp := rfl
theorem Res.stm_exc {α : Type} (c : Nat) (hp : Hp) (loc : Loc) (f : α → Hp → SR) : (Res.exc c hp : Res α).stm loc f = .exc c loc hp := rfl
noncomputable def SR.seq : SR → (Loc → Hp → SR) → SR
 | .nxt loc hp, f => f loc hp
 | .brk loc hp, _ => .brk loc hp
 | .ret v hp, _ => .ret v hp
 | .exc c loc hp, _ => .exc c loc hp
 | .bad, _ => .bad
theorem SR.seq_nxt (loc hp f) : (SR.nxt loc hp).seq f = f loc hp := rfl
noncomputable def forLoop (t : Tgt) (body : Loc → Hp → SR) : Nat → Src → Loc → Hp → SR
 | 0, _, _, _ => .bad
 | f + 1, src, loc, hp => match src.next hp with
  | none => .bad
  | some none => .nxt loc hp
  | some (some (v, src')) => match bindT t v loc with
   | none => .bad
   | some loc1 => match body loc1 hp with
    | .nxt loc2 hp2 => forLoop t body f src' loc2 hp2
    | .brk loc2 hp2 => .nxt loc2 hp2
    | .ret v hp2 => .ret v hp2
    | _ => .bad
section
variable (W : Caller)
mutual
noncomputable def exeS : MS → Loc → Hp → SR
 | .expr e, loc, hp => (evalE P C e loc hp).stm loc fun v hp1 => match v with
  | .none => .nxt loc hp1
  | _ => .bad
 | .ret e, loc, hp => (evalE P C e loc hp).stm loc fun v hp1 => .ret v hp1
 | .asg x e, loc, hp => (evalE P C e loc hp).stm loc fun v hp1 => .nxt (putv loc x v) hp1
 | .asgT t e, loc, hp => if P.held then .bad else (evalE P C e loc hp).stm loc fun v hp1 => match bindT t v loc with
  | some loc1 => .nxt loc1 hp1
  | none => .bad
 | .store o i e, loc, hp => (evalE P C e loc hp).stm loc fun v hp1 => (evalE P C o loc hp1).stm loc fun a hp2 => (evalE P C i loc hp2).stm loc fun k hp3 => match storeAt a k v hp3 with
  | some hp4 => .nxt loc hp4
  | none => .bad
 | .ifS c a b, loc, hp => (evalT P C c loc hp).stm loc fun t hp1 => if t then exeB a loc hp1 else exeB b loc hp1
 | .forS t k its body, loc, hp => if P.held then .bad else (evalEs P C its loc hp).stm loc fun vs hp1 => match srcOf k vs hp1 with
  | none => .bad
  | some src => forLoop t (fun l h => exeB body l h) loops src loc (srcHp k hp1)
 | .setA o k e, loc, hp => (evalE P C e loc hp).stm loc fun v hp1 => (evalE P C o loc hp1).stm loc fun a hp2 => match putAttr a k v hp2 with
  | some hp3 => .nxt loc hp3
  | none => .bad
 | .raise c, loc, hp => if P.held then .bad else .exc c loc hp
 | .tryS body x h, loc, hp => if P.held then .bad else match exeB body loc hp with
  | .exc c loc1 hp1 => (evalE P.hold W h (putv loc1 x (.exc c)) hp1).stmB fun v hp2 => .ret v hp2
  | r => r
 | .brk, loc, hp => .brk loc hp
 | .bad, _, _ => .bad
noncomputable def exeB : List MS → Loc → Hp → SR
 | [], loc, hp => .nxt loc hp
 | st :: r, loc, hp => (exeS st loc hp).seq fun loc1 hp1 => exeB r loc1 hp1
end
end
end
noncomputable def SR.fin : SR → Res PV
 | .nxt _ hp => .ok .none hp
 | .brk _ _ => .bad
 | .ret v hp => .ok v hp
 | .exc c _ hp => .exc c hp
 | .bad => .bad
noncomputable def zipArgs : List Nat → List PV → Option Loc
 | [], [] => some []
 | x :: xs, v :: vs => (zipArgs xs vs).map ((x, some v) :: ·)
 | _, _ => none
noncomputable def unb : List Nat → Loc
 | [] => []
 | x :: r => (x, none) :: unb r
noncomputable def runF (P : MProg) (C W : Caller) : Caller := fun i vs hp => match P.funs[i]? with
 | none => .bad
 | some f => match zipArgs f.params vs with
  | none => .bad
  | some loc =>
   if f.pure then swept hp (exeB P C W f.body (loc ++ unb f.locs) { hp with lo := hp.os.length }).fin
   else (exeB P C W f.body (loc ++ unb f.locs) hp).fin
noncomputable def noCall : Caller := fun z_ z_ z_ => .bad
noncomputable def callW (P : MProg) : Caller := runF P.hold noCall noCall
noncomputable def callN (P : MProg) : Nat → Caller
 | 0 => noCall
 | n + 1 => runF P (callN P n) (callW P)
end Mine
end
section
namespace Mine
open PySem
theorem getv_putv : ∀ (loc : Loc) (x : Nat) (v : PV) (y : Nat), getv (putv loc x v) y = if y = x then some v else getv loc y
 | [], x, v, y => by
  by_cases h : y = x
  ·subst h; rw [if_pos rfl]; show (if y = y then some v else none) = _; rw [if_pos rfl]
  ·rw [if_neg h]; show (if x = y then some v else none) = _; rw [if_neg (Ne.symm h)]; rfl
 | (z, w) :: r, x, v, y => by
  by_cases hz : z = x
  ·subst hz
   show getv (if z = z then _ else _) y = _
   rw [if_pos rfl]
   by_cases h : y = z
   ·subst h; rw [if_pos rfl]; show (if y = y then some v else _) = _; rw [if_pos rfl]
   ·rw [if_neg h]; show (if z = y then _ else getv r y) = (if z = y then w else getv r y); rw [if_neg (Ne.symm h), if_neg (Ne.symm h)]
  ·show getv (if z = x then _ else _) y = _
   rw [if_neg hz]
   show (if z = y then w else getv (putv r x v) y) = _
   rw [getv_putv r x v y]
   by_cases h : z = y
   ·subst h; rw [if_pos rfl, if_neg hz]; show _ = (if z = z then w else _); rw [if_pos rfl]
   ·rw [if_neg h]; show _ = (if y = x then some v else if z = y then w else getv r y); rw [if_neg h]
theorem getv_unb : ∀ (l : List Nat) (x : Nat), getv (unb l) x = none
 | [], _ => rfl
 | y :: r, x => by
  show (if y = x then none else getv (unb r) x) = none
  rw [getv_unb r x]; split <;> rfl
theorem getv_app : ∀ (loc : Loc) (l : List Nat) (x : Nat), getv (loc ++ unb l) x = getv loc x
 | [], l, x => getv_unb l x
 | (y, w) :: r, l, x => by
  show (if y = x then w else getv (r ++ unb l) x) = (if y = x then w else getv r x)
  rw [getv_app r l x]
theorem exeS_forA (P : MProg) (C W : Caller) (t : Tgt) (k : ItK) (its : List ME) (body : List MS) (loc : Loc) (hp : Hp) :
  exeS P C W (.forS t k its body) loc hp = if P.held then .bad else ((evalEs P C its loc hp).stm loc fun vs hp1 => match srcOf k vs hp1 with
  | none => .bad
  | some src => forLoop t (fun l h => exeB P C W body l h) loops src loc (srcHp k hp1)) := by
 rfl
theorem exeS_forB (P : MProg) (C W : Caller) (n : Nat) (t : Tgt) (k : ItK) (its : List ME) (body : List MS) (loc : Loc) (hp : Hp)  :
     ((evalEs P C its loc hp).stm loc fun vs hp1 => match srcOf k vs hp1 with
  | none => .bad
  | some src => forLoop t (fun l h => exeB P C W body l h) n src loc (srcHp k hp1)) = ((evalEs P C its loc hp).bind fun vs hp1 => ofOpt (srcOf k vs hp1) (srcHp k hp1)).stm loc fun src hp1 => forLoop t (exeB P C W body) n src loc hp1 := by
 cases hr : evalEs P C its loc hp with
 | bad => rfl
 | exc c hp1 => rfl
 | ok vs hp1 =>
  simp only [Res.bind_ok, Res.stm_ok]
  cases srcOf k vs hp1 with
  | none => rfl
  | some src => rfl
theorem exeS_for (P : MProg) (C W : Caller) (t : Tgt) (k : ItK) (its : List ME) (body : List MS) (loc : Loc) (hp : Hp) :
  exeS P C W (.forS t k its body) loc hp = if P.held then .bad else ((evalEs P C its loc hp).bind fun vs hp1 => ofOpt (srcOf k vs hp1) (srcHp k hp1)).stm loc fun src hp1 => forLoop t (exeB P C W body) loops src loc hp1 :=
 (exeS_forA P C W t k its body loc hp).trans (by rw [exeS_forB P C W loops t k its body loc hp])
end Mine
end
section
namespace Mine
open PySem
set_option tactic.hygienic true in
theorem runs_toks {M : Model} {Γ : Ctx} {p : Pos} {t : Sem Fin} {fs : List Frame} {s s' : Shared} {e : End} (h : Runs M Γ p t fs s e s') : s.toks ≤ s'.toks := by
 induction h <;> first
  | exact Nat.le_refl _
  | assumption
  | exact Nat.le_trans (Nat.le_succ _) (by assumption)
  | exact Nat.le_trans (by assumption) (by assumption)
  | (rename_i h1 h2; exact Nat.le_trans h1 h2)
  | (rename_i h1 _ h2; exact Nat.le_trans h1 h2)
  | (rename_i h1 _ _ h2; exact Nat.le_trans h1 h2)
theorem wakes_toks {M : Model} {Γ : Ctx} {p : Pos} {g : Nat} {r : Resume} {s s' : Shared} {res : GenResult} (h : Wakes M Γ p g r s res s') : s.toks ≤ s'.toks := by
 unfold Wakes at h
 split at h
 ·exact h.elim
 ·split at h
  ·obtain ⟨_, s₁, hr, _, _, rfl⟩ := h; have := runs_toks hr; exact this
  ·rw [h.2]; exact Nat.le_refl _
  ·rw [h.2]; exact Nat.le_refl _
 ·obtain ⟨_, s₁, hr, _, _, rfl⟩ := h; have := runs_toks hr; exact this
 ·rw [h.2]; exact Nat.le_refl _
 ·rw [h.2]; exact Nat.le_refl _
theorem wp_toks {α : Type} {M : Model} {Γ : Ctx} {t : Sem α} {Q : α → Pos → Shared → Prop} {E : Value → Pos → Shared → Prop} {p : Pos} {s : Shared} (n : Nat) (hn : n ≤ s.toks) (h : Sem.wp M Γ t (fun a p' s' => n ≤ s'.toks → Q a p' s') (fun e p' s' => n ≤ s'.toks → E e p' s') p s) : Sem.wp M Γ t Q E p s := by
 revert h
 induction t generalizing p s with
 | pure x => exact fun h => h hn
 | raise v => exact fun h => h hn
 | unsupported | finish | yield | fork | await | register => exact id
 | rule _ k ih | «at» _ k ih | alloc _ k ih | loadIfAlive _ k ih | point _ k ih | ask k ih | os _ _ k ih | handled _ k ih | newGen _ k ih | stack k ih | thread k ih => exact ih _ hn
 | fresh k ih => exact ih _ (Nat.le_succ_of_le hn)
 | load a _ k ih | genState a k ih => exact fun ⟨o, ho, h⟩ => ⟨o, ho, ih _ hn h⟩
 | update a _ f k ih | choose _ _ k ih => exact fun ⟨ha, h⟩ => ⟨ha, ih _ hn h⟩
 | call c h g l k ih => exact fun ⟨r, s', hr, hR⟩ => ⟨r, s', hr, ih r (Nat.le_trans hn (runs_toks hr)) hR⟩
 | resume g r l k ih => exact fun ⟨res, s', hw, h⟩ => ⟨res, s', hw, ih _ (Nat.le_trans hn (wakes_toks hw)) h⟩
theorem wpAny_pos {α : Type} {M : Model} {A : Around} {t : Sem α} {Q : α → Shared → Prop} {E : Value → Shared → Prop} {s : Shared} {n : Nat} (hn : n ≤ s.toks) (h : wpAny M A t (fun a s' => n ≤ s'.toks → Q a s') (fun e s' => n ≤ s'.toks → E e s') s) : wpAny M A t Q E s :=
 fun Γ p hΓ => wp_toks n hn (h Γ p hΓ)
end Mine
end
section
namespace Mine
open PySem PySem.Calls PyProof.Rows
structure Cx where
 prog : Program
 w : World
 base : Heap
 P : MProg
 nm : Nat → Str
 gn : Nat → Str
 fa : Nat → Addr
 ca : Nat → Addr
 mt : Nat
abbrev Cx.M (X : Cx) : Model := model X.prog X.w
noncomputable def TI (h : Heap) (a : Addr) (items : Array Value) : Prop := ∃ n, h.get? a = some { cls := .type "tuple", dict := none, data := .seq items n, slots := #[] }
noncomputable def LI (h : Heap) (a : Addr) (items : Array Value) : Prop := ∃ n, h.get? a = some { cls := .type "list", dict := none, data := .seq items n, slots := #[] }
theorem TI.tup {h : Heap} {a : Addr} {items : Array Value} (x : TI h a items) : IsTup h a items := x.elim fun n e => ⟨_, e, rfl, n, rfl⟩
theorem LI.list {h : Heap} {a : Addr} {items : Array Value} (x : LI h a items) : h.IsList a items := x.elim fun n e => ⟨_, e, rfl, n, rfl⟩
mutual
inductive VR (X : Cx) (ρ : List Addr) (h : Heap) : Value → PV → Prop
 | none : VR X ρ h .none .none
 | bool (b : Bool) : VR X ρ h (.bool b) (.bool b)
 | int (i : Int) (t : Tok) : VR X ρ h (.int i t) (.int i)
 | str (s : Str) (t : Tok) : VR X ρ h (.str s t) (.str s)
 | tup {a : Addr} {vs : List Value} {l : List PV} : TI h a vs.toArray → vs.length ≤ sizeLine → VRs X ρ h vs l → a ∉ ρ → VR X ρ h (.ref a) (.tup l)
 | lst {a : Addr} {n : Nat} : ρ[n]? = some a → VR X ρ h (.ref a) (.lst n)
 | frz {a : Addr} {vs : List Value} {l : List Int} : X.base.IsList a vs.toArray → vs.length ≤ sizeLine → IntsAre vs l → VR X ρ h (.ref a) (.frz l)
 | rng {r : Addr} {a b c : Int} {t u v : Tok} : IsRange h r a b c t u v → r ∉ ρ → VR X ρ h (.ref r) (.rng a b c)
 | fn (i : Nat) : VR X ρ h (.ref (X.fa i)) (.fn i)
 | exc {a : Addr} {c : Nat} {o : Obj} {vs : Array Value} : h.get? a = some o → o.cls = .ref (X.ca c) → o.data = .fields vs → vs[2]? = some .none → c < 9 → a ∉ ρ → VR X ρ h (.ref a) (.exc c)
inductive VRs (X : Cx) (ρ : List Addr) (h : Heap) : List Value → List PV → Prop
 | nil : VRs X ρ h [] []
 | cons {v : Value} {p : PV} {vs : List Value} {ps : List PV} : VR X ρ h v p → VRs X ρ h vs ps → VRs X ρ h (v :: vs) (p :: ps)
end
section
variable {X : Cx} {ρ : List Addr} {h : Heap} {v : Value}
noncomputable def VRi (X : Cx) (ρ : List Addr) (h : Heap) (v : Value) : PV → Prop
 | .none => v = .none
 | .bool b => v = .bool b
 | .int i => ∃ t, v = .int i t
 | .str x => ∃ t, v = .str x t
 | .tup l => ∃ (a : Addr) (vs : List Value), v = .ref a ∧ TI h a vs.toArray ∧ vs.length ≤ sizeLine ∧ VRs X ρ h vs l ∧ a ∉ ρ
 | .lst n => ∃ a, v = .ref a ∧ ρ[n]? = some a
 | .frz l => ∃ (a : Addr) (vs : List Value), v = .ref a ∧ X.base.IsList a vs.toArray ∧ vs.length ≤ sizeLine ∧ IntsAre vs l
 | _ => True
theorem VR.inv {p : PV} (r : VR X ρ h v p) : VRi X ρ h v p := by
 cases r with
 | none => rfl
 | bool b => rfl
 | int i t => exact ei11 t rfl
 | str s t => exact ei11 t rfl
 | tup a b c d => exact ei25 _ _ rfl a b c d
 | lst a => exact ei12 _ rfl a
 | frz a b c => exact ei24 _ _ rfl a b c
 | _ => trivial
theorem VR.none_inv (r : VR X ρ h v .none) : v = .none := r.inv
theorem VR.int_inv {i : Int} (r : VR X ρ h v (.int i)) : ∃ t, v = .int i t := r.inv
theorem VR.bool_inv {b : Bool} (r : VR X ρ h v (.bool b)) : v = .bool b := r.inv
theorem VR.str_inv {x : Str} (r : VR X ρ h v (.str x)) : ∃ t, v = .str x t := r.inv
theorem VR.lst_inv {n : Nat} (r : VR X ρ h v (.lst n)) : ∃ a, v = .ref a ∧ ρ[n]? = some a := r.inv
theorem VR.tup_inv {l : List PV} (r : VR X ρ h v (.tup l)) : ∃ (a : Addr) (vs : List Value), v = .ref a ∧ TI h a vs.toArray ∧ vs.length ≤ sizeLine ∧ VRs X ρ h vs l ∧ a ∉ ρ := r.inv
theorem VR.frz_inv {l : List Int} (r : VR X ρ h v (.frz l)) : ∃ (a : Addr) (vs : List Value), v = .ref a ∧ X.base.IsList a vs.toArray ∧ vs.length ≤ sizeLine ∧ IntsAre vs l := r.inv
noncomputable def VRsi (X : Cx) (ρ : List Addr) (h : Heap) (vs : List Value) : List PV → Prop
 | [] => vs = []
 | p :: ps => ∃ v ws, vs = v :: ws ∧ VR X ρ h v p ∧ VRs X ρ h ws ps
theorem VRs.inv {vs : List Value} {ps : List PV} (r : VRs X ρ h vs ps) : VRsi X ρ h vs ps := by
 cases r with
 | nil => rfl
 | cons a b => exact ei23 _ _ rfl a b
theorem VRs.cons_inv {vs : List Value} {p : PV} {ps : List PV} (r : VRs X ρ h vs (p :: ps)) : ∃ v ws, vs = v :: ws ∧ VR X ρ h v p ∧ VRs X ρ h ws ps := r.inv
theorem VRs.nil_inv {vs : List Value} (r : VRs X ρ h vs []) : vs = [] := r.inv
theorem VRs.one_inv {vs : List Value} {p : PV} (r : VRs X ρ h vs [p]) : ∃ v, vs = [v] ∧ VR X ρ h v p := by
 refine x23 r.cons_inv fun v ws zq18 a b => ?_
 subst zq18
 obtain rfl := b.nil_inv
 exact ei12 v rfl a
theorem VRs.two_inv {vs : List Value} {p q : PV} (r : VRs X ρ h vs [p, q]) : ∃ v w, vs = [v, w] ∧ VR X ρ h v p ∧ VR X ρ h w q := by
 refine x23 r.cons_inv fun v ws zq17 a b => ?_
 subst zq17
 refine x12 b.one_inv fun w zq16 c => ?_
 subst zq16
 exact ei23 v w rfl a c
end
noncomputable def attNames : List Str := ["chests", "places", "done"]
noncomputable def AttR (X : Cx) (ρ : List Addr) (h : Heap) (a : Addr) (l : Loc) : Prop := ∃ mA, h.Ns1 a mA ∧ h.ExactDictFk a ∧ Within mA attNames ∧ ∀ k p, getv l k = some p → ∃ v, mA (X.nm k) = some v ∧ VR X ρ h v p
noncomputable def InstR (X : Cx) (h : Heap) (a dx : Addr) : Prop := dx ≠ a ∧ ∃ o, h.get? a = some o ∧ o.cls = .ref (X.ca 9) ∧ o.dict = some dx ∧ ∀ c, o.data ≠ .cls c
noncomputable def ObjR (X : Cx) (ρ : List Addr) (h : Heap) (a : Addr) : MObj → Prop
 | .list l => ∃ vs : List Value, LI h a vs.toArray ∧ vs.length ≤ sizeLine ∧ VRs X ρ h vs l
 | .inst d => ∃ dx, ρ[d]? = some dx ∧ InstR X h a dx
 | .attrs l => AttR X ρ h a l
 | .own => ∃ x y, h.get? a = some { cls := .type "tuple", data := .seq #[x, y] }
structure RepH (X : Cx) (ρ : List Addr) (hp : Hp) (h : Heap) : Prop where
 len : ρ.length = hp.os.length
 nodup : ρ.Nodup
 new : ∀ a ∈ ρ, X.base.get? a = none
 obj : ∀ (n : Nat) (a : Addr) (o : MObj), ρ[n]? = some a → hp.os[n]? = some o → ObjR X ρ h a o
noncomputable def BK (X : Cx) (h : Heap) : Prop := ∀ b o, X.base.get? b = some o → h.get? b = some o
noncomputable def Like (X : Cx) (b : Addr) (o o' : Obj) : Prop := o' = o ∨ (X.base.get? b = none ∧ (∃ es ep, o.data = .dict es ep) ∧ ∃ sl, o' = { o with slots := sl })
theorem Like.refl {X : Cx} {b : Addr} (o : Obj) : Like X b o o := .inl rfl
theorem Like.data {X : Cx} {b : Addr} {o o' : Obj} (l : Like X b o o') : o'.data = o.data := by
 rcases l with rfl | ⟨_, _, sl, rfl⟩ <;> rfl
theorem Like.trans {X : Cx} {b : Addr} {o o' o'' : Obj} (l : Like X b o o') (l' : Like X b o' o'') : Like X b o o'' := by
 rcases l with rfl | ⟨h1, h2, sl, rfl⟩
 ·exact l'
 ·rcases l' with rfl | ⟨_, _, sl', rfl⟩
  ·exact .inr ⟨h1, h2, sl, rfl⟩
  ·exact .inr ⟨h1, h2, sl', rfl⟩
theorem Like.exact {X : Cx} {b : Addr} {o o' : Obj} (l : Like X b o o') (hd : ∀ es ep, o.data ≠ .dict es ep) : o' = o := by
 rcases l with q | ⟨_, ⟨es, ep, q⟩, _⟩
 ·exact q
 ·exact absurd q (hd es ep)
noncomputable def Keep (X : Cx) (ρ : List Addr) (h h' : Heap) : Prop := ∀ b o, h.get? b = some o → b ∉ ρ → ∃ o', h'.get? b = some o' ∧ Like X b o o'
theorem Keep.exact {X : Cx} {ρ : List Addr} {h h' : Heap} {b : Addr} {o : Obj} (k : Keep X ρ h h') (e : h.get? b = some o) (hb : b ∉ ρ) (hd : ∀ es ep, o.data ≠ .dict es ep) : h'.get? b = some o := by
 refine x12 (k b o e hb) fun o' e' l => ?_
 rw [e', l.exact hd]
noncomputable def Grow (ρ ρ' : List Addr) (h : Heap) : Prop := ∃ e : List Addr, ρ' = ρ ++ e ∧ ∀ a ∈ e, h.get? a = none
theorem Grow.refl (ρ : List Addr) (h : Heap) : Grow ρ ρ h := ⟨[], (List.append_nil ρ).symm, fun z_ hm => nomatch hm⟩
theorem Grow.off' {ρ ρ' : List Addr} {h : Heap} (g : Grow ρ ρ' h) {a : Addr} (ha : a ∉ ρ) (e : (h.get? a).isSome = true) : a ∉ ρ' := by
 revert g; refine y12 fun ex zq15 hx => ?_
 subst zq15
 intro hm
 rcases List.mem_append.mp hm with q | q
 ·exact ha q
 ·rw [hx a q] at e; cases e
theorem Keep.refl {X : Cx} (ρ : List Addr) (h : Heap) : Keep X ρ h h := fun z_ o e z_ => ⟨o, e, .refl o⟩
theorem Keep.of_all {X : Cx} {ρ : List Addr} {h h' : Heap} (k : ∀ b o, h.get? b = some o → h'.get? b = some o) : Keep X ρ h h' := fun b o e z_ => ⟨o, k b o e, .refl o⟩
theorem Keep.of_off {X : Cx} {ρ : List Addr} {h h' : Heap} (k : ∀ b o, h.get? b = some o → b ∉ ρ → h'.get? b = some o) : Keep X ρ h h' := fun b o e hb => ⟨o, k b o e hb, .refl o⟩
theorem Keep.push {X : Cx} (ρ : List Addr) (h : Heap) (o : Obj) : Keep X ρ h (h.push o) := .of_all fun z_ z_ e => Heap.get?_push_of_some _ e
theorem Keep.trans {X : Cx} {ρ ρ₁ : List Addr} {h h₁ h₂ : Heap} (k : Keep X ρ h h₁) (g : Grow ρ ρ₁ h) (k' : Keep X ρ₁ h₁ h₂) : Keep X ρ h h₂ := by
 intro b o e hb
 refine x12 (k b o e hb) fun o₁ e₁ l₁ => ?_
 refine x12 (k' b o₁ e₁ (g.off' hb (by rw [e]; rfl))) fun o₂ e₂ l₂ => ?_
 exact ei12 o₂ e₂ (l₁.trans l₂)
theorem Keep.free {X : Cx} {ρ : List Addr} {h h' : Heap} {a : Addr} (k : Keep X ρ h h') (ha : a ∉ ρ) (e : h'.get? a = none) : h.get? a = none := by
 cases q : h.get? a with
 | none => rfl
 | some o => refine x12 (k a o q ha) fun o' e' z_ => ?_; rw [e'] at e; cases e
theorem Grow.trans {X : Cx} {ρ ρ₁ ρ₂ : List Addr} {h h₁ : Heap} (k : Keep X ρ h h₁) (hex : ∀ a ∈ ρ, (h₁.get? a).isSome = true) (g : Grow ρ ρ₁ h) (g' : Grow ρ₁ ρ₂ h₁) : Grow ρ ρ₂ h := by
 revert g; refine y12 fun e zq14 hx => ?_
 subst zq14
 revert g'; refine y12 fun e' zq13 hx' => ?_
 subst zq13
 refine ei12 (e ++ e') (by rw [List.append_assoc]) (fun a ha => ?_)
 rcases List.mem_append.mp ha with q | q
 ·exact hx a q
 ·by_cases hr : a ∈ ρ
  ·exact nsS (hx' a q) (hex a hr)
  ·exact k.free hr (hx' a q)
noncomputable def Fixed (o : Obj) : Prop := (o.cls = .type "tuple" ∧ ∃ xs n, o.data = .seq xs n) ∨ ((o.cls = .type "range" ∨ ∃ C, o.cls = .ref C) ∧ ∃ vs, o.data = .fields vs)
theorem Fixed.not {o : Obj} {s : String} (h : o.cls = .type s) (h1 : s ≠ "tuple") (h2 : s ≠ "range") : ¬ Fixed o := by
 rintro (⟨q, _⟩ | ⟨q | ⟨C, q⟩, _⟩) <;> rw [h] at q
 ·exact h1 (Value.type.inj q)
 ·exact h2 (Value.type.inj q)
 ·cases q
theorem Fixed.nodict {o : Obj} (h : Fixed o) (es : Array DictEntry) (ep : Nat) : o.data ≠ .dict es ep := fun q => by
 rcases h with ⟨_, xs, n, e⟩ | ⟨_, vs, e⟩ <;> rw [q] at e <;> cases e
noncomputable def KeepF (ρ : List Addr) (h h' : Heap) : Prop := ∀ b o, h.get? b = some o → b ∉ ρ → Fixed o → h'.get? b = some o
noncomputable def Frees (e : List Addr) (h : Heap) : Prop := ∀ a ∈ e, ∀ o, h.get? a = some o → ¬ Fixed o
theorem Frees.nil (h : Heap) : Frees [] h := fun z_ hm => nomatch hm
theorem Frees.of_none {e : List Addr} {h : Heap} (x : ∀ a ∈ e, h.get? a = none) : Frees e h := fun a ha o q => by exact no ((x a ha).symm.trans q)
theorem ObjR.has {X : Cx} {ρ : List Addr} {h : Heap} {a : Addr} {o : MObj} (x : ObjR X ρ h a o) : ∃ ob, h.get? a = some ob := by
 cases o with
 | list l => revert x; refine y13 fun vs zq12 z_ z_ => ?_; obtain ⟨n, e⟩ := zq12; exact ei11 _ e
 | inst d => obtain ⟨_, _, _, ob, e, _⟩ := x; exact ei11 ob e
 | attrs l => revert x; refine y13 fun z_ z_ zq11 z_ => ?_; obtain ⟨ob, e, _⟩ := zq11; exact ei11 ob e
 | own => revert x; refine y21 fun x y e => ?_; exact ei11 _ e
theorem RepH.at {X : Cx} {ρ : List Addr} {hp : Hp} {h : Heap} (R : RepH X ρ hp h) {a : Addr} (ha : a ∈ ρ) : ∃ ob, h.get? a = some ob := by
 obtain ⟨n, hn, rfl⟩ := List.getElem_of_mem ha
 have hn' : n < hp.os.length := R.len ▸ hn
 exact ObjR.has (R.obj n _ hp.os[n] (by simp [hn]) (by simp [hn']))
theorem RepH.isSome {X : Cx} {ρ : List Addr} {hp : Hp} {h : Heap} (R : RepH X ρ hp h) : ∀ a ∈ ρ, (h.get? a).isSome = true := fun a ha => by
 refine x11 (R.at ha) fun ob e => ?_; rw [e]; rfl
theorem RepH.free {X : Cx} {ρ : List Addr} {hp : Hp} {h : Heap} (R : RepH X ρ hp h) {a : Addr} (e : h.get? a = none) : a ∉ ρ := fun ha => by
 refine x11 (R.at ha) fun ob e' => ?_; exact no (e.symm.trans e')
theorem RepH.keepF {X : Cx} {ρ : List Addr} {hp : Hp} {h h' : Heap} (R : RepH X ρ hp h) (k : Keep X ρ h h') : KeepF ρ h h' := fun b o e hb hf => k.exact e hb (Fixed.nodict hf)
theorem KeepF.refl (ρ : List Addr) (h : Heap) : KeepF ρ h h := fun z_ z_ e z_ z_ => e
theorem KeepF.of_all {ρ : List Addr} {h h' : Heap} (k : ∀ b o, h.get? b = some o → h'.get? b = some o) : KeepF ρ h h' := fun b o e z_ z_ => k b o e
mutual
theorem VR.mono {X : Cx} {ρ : List Addr} {h h' : Heap} (k : KeepF ρ h h') (e : List Addr) (hf : Frees e h) {v : Value} {p : PV} (x : VR X ρ h v p) : VR X (ρ ++ e) h' v p := by
 have off : ∀ {a : Addr} {o : Obj}, a ∉ ρ → h.get? a = some o → Fixed o → a ∉ ρ ++ e := fun hn eo hx q => (List.mem_append.mp q).elim hn fun q => hf _ q _ eo hx
 cases x with
 | none => exact .none
 | bool b => exact .bool b
 | int i t => exact .int i t
 | str s t => exact .str s t
 | tup t z r hn =>
  revert t; refine y11 fun n eo => ?_
  exact .tup ⟨n, k _ _ eo hn (.inl ⟨rfl, _, _, rfl⟩)⟩ z (VRs.mono k e hf r) (off hn eo (.inl ⟨rfl, _, _, rfl⟩))
 | lst q => exact .lst ((List.getElem?_append_left (List.getElem?_eq_some_iff.mp q).1).trans q)
 | frz a z b => exact .frz a z b
 | rng q hn => exact .rng (k _ _ q hn (.inr ⟨.inl rfl, _, rfl⟩)) (off hn q (.inr ⟨.inl rfl, _, rfl⟩))
 | fn i => exact .fn i
 | exc q h1 h2 h3 h4 hn => exact .exc (k _ _ q hn (.inr ⟨.inr ⟨_, h1⟩, _, h2⟩)) h1 h2 h3 h4 (off hn q (.inr ⟨.inr ⟨_, h1⟩, _, h2⟩))
theorem VRs.mono {X : Cx} {ρ : List Addr} {h h' : Heap} (k : KeepF ρ h h') (e : List Addr) (hf : Frees e h) {vs : List Value} {ps : List PV} (x : VRs X ρ h vs ps) : VRs X (ρ ++ e) h' vs ps := by
 cases x with
 | nil => exact .nil
 | cons a r => exact .cons (VR.mono k e hf a) (VRs.mono k e hf r)
end
theorem VR.keepF {X : Cx} {ρ : List Addr} {h h' : Heap} {v : Value} {p : PV} (x : VR X ρ h v p) (k : KeepF ρ h h') : VR X ρ h' v p := by
 have := VR.mono k [] (Frees.nil h) x; rwa [List.append_nil] at this
theorem VRs.keepF {X : Cx} {ρ : List Addr} {h h' : Heap} {v : List Value} {p : List PV} (x : VRs X ρ h v p) (k : KeepF ρ h h') : VRs X ρ h' v p := by
 have := VRs.mono k [] (Frees.nil h) x; rwa [List.append_nil] at this
theorem VR.grow {X : Cx} {ρ ρ' : List Addr} {h h' : Heap} {v : Value} {p : PV} (x : VR X ρ h v p) (k : KeepF ρ h h') (g : Grow ρ ρ' h) : VR X ρ' h' v p := by
 revert g; refine y12 fun e zq10 q => ?_
 subst zq10; exact VR.mono k e (Frees.of_none q) x
theorem VRs.grow {X : Cx} {ρ ρ' : List Addr} {h h' : Heap} {v : List Value} {p : List PV} (x : VRs X ρ h v p) (k : KeepF ρ h h') (g : Grow ρ ρ' h) : VRs X ρ' h' v p := by
 revert g; refine y12 fun e zq9 q => ?_
 subst zq9; exact VRs.mono k e (Frees.of_none q) x
section
variable {X : Cx} {ρ : List Addr} {h : Heap} {vs ws : List Value} {ps qs : List PV}
theorem VRs.length (x : VRs X ρ h vs ps) : vs.length = ps.length := by
 induction ps generalizing vs with
 | nil => rw [x.nil_inv]; rfl
 | cons p ps ih => refine x23 x.cons_inv fun v ws zq8 z_ b => ?_; subst zq8; exact congrArg Nat.succ (ih b)
theorem VRs.append (x : VRs X ρ h vs ps) (y : VRs X ρ h ws qs) : VRs X ρ h (vs ++ ws) (ps ++ qs) := by
 induction ps generalizing vs with
 | nil => rw [x.nil_inv]; exact y
 | cons p ps ih => refine x23 x.cons_inv fun v ws zq7 a b => ?_; subst zq7; exact .cons a (ih b)
theorem VRs.get (x : VRs X ρ h vs ps) {j : Nat} {p : PV} (e : ps[j]? = some p) : ∃ v, vs[j]? = some v ∧ VR X ρ h v p := by
 induction ps generalizing vs j with
 | nil => exact no e
 | cons q ps ih =>
  refine x23 x.cons_inv fun v ws zq6 a b => ?_
  subst zq6
  cases j with
  | zero => cases e; exact ei12 v rfl a
  | succ j => exact ih (vs := ws) (j := j) b e
theorem VRs.get' (x : VRs X ρ h vs ps) {j : Nat} {v : Value} (e : vs[j]? = some v) : ∃ p, ps[j]? = some p ∧ VR X ρ h v p := by
 cases q : ps[j]? with
 | none =>
  have := List.getElem?_eq_none_iff.mp q
  rw [← x.length] at this
  rw [List.getElem?_eq_none this] at e
  cases e
 | some p =>
  refine x12 (x.get q) fun w e' r => ?_
  rw [e] at e'
  cases e'
  exact ei12 p rfl r
theorem VRs.take (n : Nat) (x : VRs X ρ h vs ps) : VRs X ρ h (vs.take n) (ps.take n) := by
 induction ps generalizing vs n with
 | nil => rw [x.nil_inv, List.take_nil, List.take_nil]; exact .nil
 | cons q ps ih =>
  refine x23 x.cons_inv fun v ws zq5 a b => ?_
  subst zq5
  cases n with
  | zero => exact .nil
  | succ n => exact .cons a (ih n b)
theorem VRs.drop (n : Nat) (x : VRs X ρ h vs ps) : VRs X ρ h (vs.drop n) (ps.drop n) := by
 induction ps generalizing vs n with
 | nil => rw [x.nil_inv, List.drop_nil, List.drop_nil]; exact .nil
 | cons q ps ih =>
  refine x23 x.cons_inv fun v ws zq4 a b => ?_
  subst zq4
  cases n with
  | zero => exact .cons a b
  | succ n => exact ih n b
theorem VRs.reverse (x : VRs X ρ h vs ps) : VRs X ρ h vs.reverse ps.reverse := by
 induction ps generalizing vs with
 | nil => rw [x.nil_inv]; exact .nil
 | cons q ps ih =>
  refine x23 x.cons_inv fun v ws zq3 a b => ?_
  subst zq3
  rw [List.reverse_cons, List.reverse_cons]; exact VRs.append (ih b) (.cons a .nil)
theorem VRs.set (n : Nat) {v : Value} {p : PV} (x : VRs X ρ h vs ps) (y : VR X ρ h v p) : VRs X ρ h (vs.set n v) (ps.set n p) := by
 induction ps generalizing vs n with
 | nil => rw [x.nil_inv]; exact .nil
 | cons q ps ih =>
  refine x23 x.cons_inv fun v ws zq2 a b => ?_
  subst zq2
  cases n with
  | zero => exact .cons y b
  | succ n => exact .cons a (ih n b)
end
theorem ObjR.mono {X : Cx} {ρ : List Addr} {h h' : Heap} {a : Addr} {o : MObj} (x : ObjR X ρ h a o) (k : KeepF ρ h h') (e : List Addr) (hf : Frees e h) (ka : ∀ ob, h.get? a = some ob → h'.get? a = some ob) : ObjR X (ρ ++ e) h' a o := by
 cases o with
 | list l => revert x; refine y13 fun vs zq1 z r => ?_; obtain ⟨n, eo⟩ := zq1; exact ei13 vs ⟨n, ka _ eo⟩ z (VRs.mono k e hf r)
 | inst d => obtain ⟨dx, q, hne, ob, eo, r⟩ := x; exact ⟨dx, (List.getElem?_append_left (List.getElem?_eq_some_iff.mp q).1).trans q, hne, ob, ka _ eo, r⟩
 | attrs l =>
  revert x; refine y14 fun mA h1 h2 h3 h4 => ?_
  exact ei14 mA (h1.at ka) (h2.at ka) h3 (fun k' p q => x12 (h4 k' p q) fun v e1 e2 => ei12 v e1 (VR.mono k e hf e2))
 | own => revert x; refine y21 fun x y eo => ?_; exact ei21 x y (ka _ eo)
theorem ObjR.keepF {X : Cx} {ρ : List Addr} {h h' : Heap} {a : Addr} {o : MObj} (x : ObjR X ρ h a o) (k : KeepF ρ h h') (ka : ∀ ob, h.get? a = some ob → h'.get? a = some ob) : ObjR X ρ h' a o := by
 have := ObjR.mono x k [] (Frees.nil h) ka; rwa [List.append_nil] at this
theorem RepH.keep {X : Cx} {ρ : List Addr} {hp : Hp} {h h' : Heap} (R : RepH X ρ hp h) (k : ∀ b o, h.get? b = some o → h'.get? b = some o) : RepH X ρ hp h' :=
 ⟨R.len, R.nodup, R.new, fun n a o e1 e2 => ObjR.keepF (R.obj n a o e1 e2) (KeepF.of_all k) (fun ob e => k _ _ e)⟩
theorem RepH.keepOn {X : Cx} {ρ : List Addr} {hp : Hp} {h h' : Heap} (R : RepH X ρ hp h) (kf : KeepF ρ h h') (k : ∀ b ∈ ρ, ∀ o, h.get? b = some o → h'.get? b = some o) : RepH X ρ hp h' :=
 ⟨R.len, R.nodup, R.new, fun n a o e1 e2 => ObjR.keepF (R.obj n a o e1 e2) kf (fun ob e => k _ (List.mem_of_getElem? e1) _ e)⟩
theorem RepH.lo {X : Cx} {ρ : List Addr} {hp : Hp} {h : Heap} (R : RepH X ρ hp h) (lo : Nat) : RepH X ρ { hp with lo := lo } h := ⟨R.len, R.nodup, R.new, R.obj⟩
theorem BK.keep {X : Cx} {ρ : List Addr} {hp : Hp} {h h' : Heap} (B : BK X h) (R : RepH X ρ hp h) (k : Keep X ρ h h') : BK X h' := fun b o e => by
 refine x12 (k b o (B b o e) fun hb => by exact no ((R.new b hb).symm.trans e)) fun o' e' l => ?_
 rcases l with rfl | ⟨q, _⟩
 ·exact e'
 ·rw [e] at q; cases q
theorem BK.free {X : Cx} {h : Heap} (B : BK X h) {a : Addr} (e : h.get? a = none) : X.base.get? a = none := by
 cases q : X.base.get? a with
 | none => rfl
 | some o => rw [B a o q] at e; cases e
theorem RepH.newObj {X : Cx} {ρ : List Addr} {hp : Hp} {h : Heap} {a : Addr} {o : MObj} (R : RepH X ρ hp h) (hn : a ∉ ρ) (hb : X.base.get? a = none) (hfr : Frees [a] h) (hO : ObjR X (ρ ++ [a]) h a o) : RepH X (ρ ++ [a]) { hp with os := hp.os ++ [o] } h := by
 refine ⟨by rw [List.length_append, List.length_append, R.len]; rfl, ?_, ?_, ?_⟩
 ·rw [List.nodup_append]; exact ⟨R.nodup, List.nodup_cons.mpr ⟨List.not_mem_nil, List.nodup_nil⟩, fun x hx y hy => by rw [List.mem_singleton.mp hy]; intro q; exact hn (q ▸ hx)⟩
 ·intro b hb'
  rcases List.mem_append.mp hb' with q | q
  ·exact R.new b q
  ·rw [List.mem_singleton.mp q]; exact hb
 ·intro n b o' e1 e2
  by_cases hlt : n < ρ.length
  ·rw [List.getElem?_append_left hlt] at e1
   rw [List.getElem?_append_left (by rw [← R.len]; exact hlt)] at e2
   exact ObjR.mono (R.obj n b o' e1 e2) (KeepF.refl ρ h) [a] hfr fun z_ e => e
  ·have hle : ρ.length ≤ n := Nat.le_of_not_lt hlt
   rw [List.getElem?_append_right hle] at e1
   rw [List.getElem?_append_right (by rw [← R.len]; exact hle), ← R.len] at e2
   cases hm : n - ρ.length with
   | zero => rw [hm] at e1 e2; cases e1; cases e2; exact hO
   | succ m => rw [hm] at e1; cases e1
theorem RepH.new2 {X : Cx} {ρ : List Addr} {hp : Hp} {h h' : Heap} {a b : Addr} {o₁ o₂ : MObj} (R : RepH X ρ hp h) (B : BK X h) (k : ∀ b o, h.get? b = some o → h'.get? b = some o) (ha : h.get? a = none) (hb : h.get? b = none) (hab : a ≠ b)
  (h1 : ObjR X (ρ ++ [a, b]) h' a o₁) (h2 : ObjR X (ρ ++ [a, b]) h' b o₂) : RepH X (ρ ++ [a, b]) { hp with os := hp.os ++ [o₁, o₂] } h' := by
 have hf : ∀ x ∈ [a, b], h.get? x = none := fun x hx => by
  rcases List.mem_cons.mp hx with q | q
  ·rw [q]; exact ha
  ·rw [List.mem_singleton.mp q]; exact hb
 refine ⟨by rw [List.length_append, List.length_append, R.len]; rfl, ?_, ?_, ?_⟩
 ·rw [List.nodup_append]
  exact ⟨R.nodup, List.nodup_cons.mpr ⟨fun q => hab (List.mem_singleton.mp q), List.nodup_cons.mpr ⟨List.not_mem_nil, List.nodup_nil⟩⟩, fun x hx y hy q => R.free (hf y hy) (q ▸ hx)⟩
 ·intro x hx
  rcases List.mem_append.mp hx with q | q
  ·exact R.new x q
  ·exact B.free (hf x q)
 ·intro n x o e1 e2
  by_cases hlt : n < ρ.length
  ·rw [List.getElem?_append_left hlt] at e1
   rw [List.getElem?_append_left (by rw [← R.len]; exact hlt)] at e2
   exact ObjR.mono (R.obj n x o e1 e2) (KeepF.of_all k) [a, b] (Frees.of_none hf) fun z_ e => k _ _ e
  ·have hle : ρ.length ≤ n := Nat.le_of_not_lt hlt
   rw [List.getElem?_append_right hle] at e1
   rw [List.getElem?_append_right (by rw [← R.len]; exact hle), ← R.len] at e2
   cases hm : n - ρ.length with
   | zero => rw [hm] at e1 e2; cases e1; cases e2; exact h1
   | succ m =>
    rw [hm] at e1 e2
    cases m with
    | zero => cases e1; cases e2; exact h2
    | succ m => cases e1
theorem frees_list {h : Heap} {a : Addr} {items : Array Value} (hl : LI h a items) : Frees [a] h := fun x hx o eo => by
 rw [List.mem_singleton.mp hx] at eo
 revert hl; refine y11 fun n el => ?_
 obtain rfl := Option.some.inj (el.symm.trans eo)
 exact Fixed.not rfl (by decide) (by decide)
theorem RepH.newList {X : Cx} {ρ : List Addr} {hp : Hp} {h : Heap} {a : Addr} {vs : List Value} {l : List PV} (R : RepH X ρ hp h) (hn : a ∉ ρ) (hb : X.base.get? a = none)
  (hl : LI h a vs.toArray) (hz : vs.length ≤ sizeLine) (r : VRs X ρ h vs l) : RepH X (ρ ++ [a]) { hp with os := hp.os ++ [.list l] } h :=
 R.newObj hn hb (frees_list hl) ⟨vs, hl, hz, VRs.mono (KeepF.refl ρ h) [a] (frees_list hl) r⟩
theorem RepH.setObj {X : Cx} {ρ : List Addr} {hp : Hp} {h h' : Heap} {n : Nat} {a : Addr} {o : MObj} (R : RepH X ρ hp h) (ha : ρ[n]? = some a)
  (kf : KeepF ρ h h') (k : ∀ b o, h.get? b = some o → b ≠ a → h'.get? b = some o) (hO : ObjR X ρ h' a o) : RepH X ρ { hp with os := hp.os.set n o } h' := by
 refine ⟨R.len.trans List.length_set.symm, R.nodup, R.new, fun m b o' e1 e2 => ?_⟩
 have hm : m < ρ.length := (List.getElem?_eq_some_iff.mp e1).1
 by_cases hmn : m = n
 ·subst hmn
  obtain rfl := Option.some.inj (ha.symm.trans e1)
  rw [List.getElem?_set_self (by rw [← R.len]; exact hm)] at e2
  cases e2
  exact hO
 ·rw [List.getElem?_set_ne (Ne.symm hmn)] at e2
  refine ObjR.keepF (R.obj m b o' e1 e2) kf fun ob eo => k b ob eo fun q => ?_
  subst q
  exact hmn ((List.getElem?_inj hm R.nodup).mp (e1.trans ha.symm))
theorem RepH.set {X : Cx} {ρ : List Addr} {hp : Hp} {h h' : Heap} {n : Nat} {a : Addr} {vs : List Value} {l : List PV} (R : RepH X ρ hp h) (ha : ρ[n]? = some a)
  (kf : KeepF ρ h h') (k : ∀ b o, h.get? b = some o → b ≠ a → h'.get? b = some o) (hl : LI h' a vs.toArray) (hz : vs.length ≤ sizeLine) (r : VRs X ρ h' vs l) : RepH X ρ { hp with os := hp.os.set n (.list l) } h' :=
 R.setObj ha kf k ⟨vs, hl, hz, r⟩
end Mine
end
section
namespace Mine
open PySem PySem.Calls PyProof.Rows
structure Fly (X : Cx) (c : Nat) (e : Value) (hr h : Heap) : Prop where
 old : ∀ b o, hr.get? b = some o → h.get? b = some o
 obj : ∃ a o vs, e = .ref a ∧ hr.get? a = none ∧ h.get? a = some o ∧ o.cls = .ref (X.ca c) ∧ o.data = .fields vs ∧ vs[2]? = some .none ∧ c < 9 ∧
  (vs[1]? = some .none ∨ ∃ T oT ts x, vs[1]? = some (.ref T) ∧ hr.get? T = none ∧ T ≠ a ∧ h.get? T = some oT ∧ oT.data = .fields ts ∧ ts[3]? = some x)
noncomputable def LocR (X : Cx) (env : Env) (ρ : List Addr) (h : Heap) (loc : Loc) : Prop :=
 ∃ m, h.Ns env.locals m ∧ ∀ x p, getv loc x = some p →
  (env.kindOf (X.nm x) = some .local → ∃ v, m (X.nm x) = some v ∧ VR X ρ h v p) ∧
  (env.kindOf (X.nm x) = some .cell → ∃ c v, env.cells.lookup (X.nm x) = some c ∧ h.IsCell c (some v) ∧ VR X ρ h v p)
structure Inv (X : Cx) (sc : Scope) (env : Env) (ρ : List Addr) (loc : Loc) (hp : Hp) (h : Heap) : Prop where
 bk : BK X h
 rep : RepH X ρ hp h
 vars : LocR X env ρ h loc
 scope : env.scope = sc
 kind : sc.kind = .function
 glo : env.globals = mainGlobals
 blt : env.builtins = builtinsNs
 offL : env.locals ∉ ρ
 offC : ∀ x c, env.cells.lookup x = some c → c ∉ ρ
 newL : X.base.get? env.locals = none
 newC : ∀ x c, env.cells.lookup x = some c → X.base.get? c = none ∧ c ≠ env.locals ∧ ∃ w, h.IsCell c w
 one : ∀ x y c, env.cells.lookup x = some c → env.cells.lookup y = some c → x = y
 inj : ∀ x y, X.nm x = X.nm y → x = y
 cel : ∀ x, sc.names.lookup x = some .cell → ∃ c w, env.cells.lookup x = some c ∧ h.IsCell c w
theorem IsCell.there {h : Heap} {c : Addr} {w : Option Value} (x : h.IsCell c w) : (h.get? c).isSome = true := by revert x; refine y12 fun o e z_ => ?_; rw [e]; rfl
theorem IsCell.nofix {h : Heap} {c : Addr} {w : Option Value} (x : h.IsCell c w) {o : Obj} (e : h.get? c = some o) : ¬ Fixed o := by
 revert x; refine y12 fun o' e' hd => ?_
 obtain rfl := Option.some.inj (e.symm.trans e')
 rintro (⟨_, xs, n, q⟩ | ⟨_, vs, q⟩) <;> rw [hd] at q <;> cases q
theorem Inv.cellSome {X : Cx} {sc : Scope} {env : Env} {ρ : List Addr} {loc : Loc} {hp : Hp} {h : Heap} (I : Inv X sc env ρ loc hp h) {x : Str} {c : Addr} (hc : env.cells.lookup x = some c) : (h.get? c).isSome = true := by
 refine x11 ((I.newC x c hc).2.2) fun w hw => ?_
 exact IsCell.there hw
theorem LocR.keep {X : Cx} {env : Env} {ρ ρ' : List Addr} {h h' : Heap} {loc : Loc} (L : LocR X env ρ h loc) (kf : KeepF ρ h h') (g : Grow ρ ρ' h)
  (kl : ∀ o, h.get? env.locals = some o → ∃ o', h'.get? env.locals = some o' ∧ o'.data = o.data) (kc : ∀ x c o, env.cells.lookup x = some c → h.get? c = some o → h'.get? c = some o) : LocR X env ρ' h' loc := by
 revert L; refine y12 fun m hn hv => ?_
 have hn' : h'.Ns env.locals m := by
  revert hn; refine y33 fun o es ep eo hd r => ?_
  refine x12 (kl o eo) fun o' eo' hd' => ?_
  exact ei33 o' es ep eo' (hd'.trans hd) r
 refine ei12 m hn' (fun x p e => ⟨fun hk => ?_, fun hk => ?_⟩)
 ·refine x12 ((hv x p e).1 hk) fun v h1 h2 => ?_
  exact ei12 v h1 (h2.grow kf g)
 ·refine x23 ((hv x p e).2 hk) fun c v h1 zq4 h2 => ?_
  obtain ⟨o, ho, hd⟩ := zq4
  exact ei23 c v h1 ⟨o, kc _ _ _ h1 ho, hd⟩ (h2.grow kf g)
theorem Grow.off {ρ ρ' : List Addr} {h : Heap} (g : Grow ρ ρ' h) {a : Addr} (ha : a ∉ ρ) (e : (h.get? a).isSome = true) : a ∉ ρ' := by
 revert g; refine y12 fun ex zq3 hx => ?_
 subst zq3
 intro hm
 rcases List.mem_append.mp hm with q | q
 ·exact ha q
 ·rw [hx a q] at e; cases e
theorem Inv.after {X : Cx} {sc : Scope} {env : Env} {ρ ρ' : List Addr} {loc : Loc} {hp hp' : Hp} {h h' : Heap} (I : Inv X sc env ρ loc hp h) (g : Grow ρ ρ' h) (k : Keep X ρ h h') (R : RepH X ρ' hp' h') :
  Inv X sc env ρ' loc hp' h' := by
 have hL : (h.get? env.locals).isSome = true := by refine x12 I.vars fun m zq2 z_ => ?_; obtain ⟨o, _, _, e, _⟩ := zq2; rw [e]; rfl
 have kc : ∀ x c o, env.cells.lookup x = some c → h.get? c = some o → h'.get? c = some o := fun x c o hc e => by
  refine x22 ((I.newC x c hc).2.2) fun w o' e' hd => ?_
  obtain rfl := Option.some.inj (e.symm.trans e')
  exact k.exact e (I.offC x c hc) fun es ep q => by rw [hd] at q; cases q
 refine ⟨I.bk.keep I.rep k, R, I.vars.keep (I.rep.keepF k) g (fun o e => x12 (k _ _ e I.offL) fun o' e' l => ei12 o' e' l.data) kc, I.scope, I.kind, I.glo, I.blt, g.off I.offL hL,
  fun x c hc => g.off (I.offC x c hc) (I.cellSome hc), I.newL, fun x c hc => ⟨(I.newC x c hc).1, (I.newC x c hc).2.1, ?_⟩, I.one, I.inj, fun x hx => ?_⟩
 ·refine x22 ((I.newC x c hc).2.2) fun w o ho hd => ?_
  exact ei22 w o (kc _ _ _ hc ho) hd
 ·obtain ⟨c, w, hc, o, ho, hd⟩ := I.cel x hx
  exact ⟨c, w, hc, o, kc _ _ _ hc ho, hd⟩
noncomputable def Frs (X : Cx) (ρ : List Addr) (h : Heap) (l : List Env) : Prop :=
 ∀ env ∈ l, env.scope.kind ≠ .module ∧ ∃ L o es ep, env.frame = some L ∧ X.base.get? L = none ∧ h.get? L = some o ∧ o.data = .dict es ep ∧ L ∉ ρ
theorem Frs.keep {X : Cx} {ρ ρ' : List Addr} {h h' : Heap} {l : List Env} (F : Frs X ρ h l) (g : Grow ρ ρ' h) (kk : ∀ b o es ep, h.get? b = some o → o.data = .dict es ep → b ∉ ρ → ∃ o' es' ep', h'.get? b = some o' ∧ o'.data = .dict es' ep') : Frs X ρ' h' l := fun env hm => by
 obtain ⟨hk, L, o, es, ep, hf, hn, ho, hd, hL⟩ := F env hm
 refine x32 (kk L o es ep ho hd hL) fun o' es' ep' e' d' => ?_
 exact ⟨hk, L, o', es', ep', hf, hn, e', d', g.off' hL (by rw [ho]; rfl)⟩
theorem Frs.after {X : Cx} {ρ ρ' : List Addr} {h h' : Heap} {l : List Env} (F : Frs X ρ h l) (g : Grow ρ ρ' h) (k : Keep X ρ h h') : Frs X ρ' h' l :=
 F.keep g fun b o es ep e hd hb => x12 (k b o e hb) fun o' e' l => ei32 o' es ep e' (l.data.trans hd)
noncomputable def Calm (X : Cx) (A : Around) (ρ : List Addr) (h : Heap) : Prop := A.handled = none ∨ ∃ a c, A.handled = some (.ref a) ∧ VR X ρ h (.ref a) (.exc c)
structure Room (X : Cx) (A : Around) (k : Nat) (ρ : List Addr) (s : Shared) : Prop where
 hnd : 2 ≤ k → A.handled = none
 calm : Calm X A ρ s.heap
 depth : A.depth + 2 * k < recursionLimit
 units : A.units + 10 * k + 80 < cLine
 pos : X.mt ≤ s.toks
 frs : ∃ l, A.frames = some l ∧ Frs X ρ s.heap l
theorem Room.keep {X : Cx} {A : Around} {k : Nat} {ρ ρ' : List Addr} {s : Shared} {h' : Heap} {tk : Nat} (Rm : Room X A k ρ s) (g : Grow ρ ρ' s.heap) (kf : KeepF ρ s.heap h')
  (kk : ∀ b o es ep, s.heap.get? b = some o → o.data = .dict es ep → b ∉ ρ → ∃ o' es' ep', h'.get? b = some o' ∧ o'.data = .dict es' ep') (hp : X.mt ≤ tk) : Room X A k ρ' { s with heap := h', toks := tk } := by
 refine x12 Rm.frs fun l e hF => ?_
 exact ⟨Rm.hnd, Rm.calm.imp id (y22 fun a c e r => ei22 a c e (r.grow kf g)), Rm.depth, Rm.units, hp, l, e, hF.keep g kk⟩
theorem Room.after {X : Cx} {A : Around} {k : Nat} {ρ ρ' : List Addr} {s : Shared} {h' : Heap} {tk : Nat} (Rm : Room X A k ρ s) (g : Grow ρ ρ' s.heap) (kk : Keep X ρ s.heap h') (hp : X.mt ≤ tk) : Room X A k ρ' { s with heap := h', toks := tk } :=
 Rm.keep g (fun b o e hb hf => kk.exact e hb (Fixed.nodict hf)) (fun b o es ep e hd hb => x12 (kk b o e hb) fun o' e' l => ei32 o' es ep e' (l.data.trans hd)) hp
structure Nigh (A A' : Around) : Prop where
 hnd : A'.handled = A.handled
 frs : A'.frames = A.frames
 dep : A'.depth ≤ A.depth + 1
 uni : A'.units ≤ A.units + 5
theorem Nigh.refl (A : Around) : Nigh A A := ⟨rfl, rfl, Nat.le_succ _, Nat.le_add_right _ _⟩
abbrev Rel (α β : Type) := List Addr → Heap → α → β → Prop
noncomputable def RV (X : Cx) : Rel Value PV := fun ρ h v p => VR X ρ h v p
noncomputable def RVs (X : Cx) : Rel (List Value) (List PV) := fun ρ h v p => VRs X ρ h v p
noncomputable def RB : Rel Bool Bool := fun z_ z_ a b => a = b
noncomputable def Post {α β : Type} (X : Cx) (R : Rel α β) (ρ : List Addr) (s : Shared) (r : Res β) (Q : α → Shared → Prop) (E : Value → Shared → Prop) : Prop := match r with
 | .ok b hp' => ∀ a h' tk ρ', Grow ρ ρ' s.heap → Keep X ρ s.heap h' → RepH X ρ' hp' h' → R ρ' h' a b → Q a { s with heap := h', toks := tk }
 | .exc c hp' => ∀ e hr h' tk ρ', Grow ρ ρ' s.heap → Keep X ρ s.heap hr → RepH X ρ' hp' hr → Fly X c e hr h' → E e { s with heap := h', toks := tk }
 | .bad => False
noncomputable def Does {α β : Type} (X : Cx) (sc : Scope) (k : Nat) (t : Env → Sem α) (R : Rel α β) (f : Loc → Hp → Res β) : Prop :=
 ∀ (A : Around) (env : Env) (s : Shared) (ρ : List Addr) (loc : Loc) (hp : Hp) (Q : α → Shared → Prop) (E : Value → Shared → Prop),
  Inv X sc env ρ loc hp s.heap → Room X A k ρ s → Post X R ρ s (f loc hp) Q E → wpAny X.M A (t env) Q E s
abbrev SE (X : Cx) (sc : Scope) (k : Nat) (ex : Expr) (f : Loc → Hp → Res PV) : Prop := Does X sc k (eval ex) (RV X) f
section
variable {X : Cx} {sc : Scope} {k : Nat}
theorem Post.mono {α β : Type} {R : Rel α β} {ρ : List Addr} {s : Shared} {r : Res β} {Q Q' : α → Shared → Prop} {E E' : Value → Shared → Prop} (h : Post X R ρ s r Q E)
  (hQ : ∀ a s', Q a s' → Q' a s') (hE : ∀ e s', E e s' → E' e s') : Post X R ρ s r Q' E' := by
 cases r with
 | ok b hp' => exact fun a h' tk ρ' g kk rr rel => hQ _ _ (h a h' tk ρ' g kk rr rel)
 | exc c hp' => exact fun e hr h' tk ρ' g kk rr rel => hE _ _ (h e hr h' tk ρ' g kk rr rel)
 | bad => exact h
theorem Post.later {α β : Type} {R : Rel α β} {ρ ρ₁ : List Addr} {hp hp₁ : Hp} {s : Shared} {h₁ : Heap} {tk : Nat} {r : Res β} {Q : α → Shared → Prop} {E : Value → Shared → Prop}
  (R₀ : RepH X ρ hp s.heap) (R₁ : RepH X ρ₁ hp₁ h₁) (g : Grow ρ ρ₁ s.heap) (kk : Keep X ρ s.heap h₁)
  (hex : ∀ a ∈ ρ, (h₁.get? a).isSome = true) (h : Post X R ρ s r Q E) : Post X R ρ₁ { s with heap := h₁, toks := tk } r Q E := by
 cases r with
 | ok b hp' => exact fun a h' tk' ρ' g' kk' rr rel => h a h' tk' ρ' (Grow.trans kk hex g g') (kk.trans g kk') rr rel
 | exc c hp' => exact fun e hr h' tk' ρ' g' kk' rr rel => h e hr h' tk' ρ' (Grow.trans kk hex g g') (kk.trans g kk') rr rel
 | bad => exact h
theorem RepH.old {ρ ρ₁ : List Addr} {hp₁ : Hp} {h h₁ : Heap} (R₁ : RepH X ρ₁ hp₁ h₁) (g : Grow ρ ρ₁ h) : ∀ a ∈ ρ, (h₁.get? a).isSome = true := fun a ha => by
 revert g; refine y12 fun e zq1 z_ => ?_
 subst zq1
 exact R₁.isSome a (List.mem_append_left _ ha)
theorem wp_seq {α β γ δ : Type} {R : Rel α β} {R' : Rel γ δ} {A : Around} {env : Env} {s : Shared} {ρ : List Addr} {loc : Loc} {hp : Hp} {Q : γ → Shared → Prop} {E : Value → Shared → Prop}
  {t : Env → Sem α} {f : Loc → Hp → Res β} {W : α → Shared → Prop} {g : β → Hp → Res δ} (D : Does X sc k t R f) (I : Inv X sc env ρ loc hp s.heap) (Rm : Room X A k ρ s)
  (P : Post X R' ρ s ((f loc hp).bind g) Q E)
  (step : ∀ a b s₁ ρ₁ hp₁, Inv X sc env ρ₁ loc hp₁ s₁.heap → Grow ρ ρ₁ s.heap → Keep X ρ s.heap s₁.heap → R ρ₁ s₁.heap a b → f loc hp = .ok b hp₁ → Post X R' ρ₁ s₁ (g b hp₁) Q E → Room X A k ρ₁ s₁ → W a s₁) :
  wpAny X.M A (t env) W E s := by
 refine wpAny_pos Rm.pos (D A env s ρ loc hp _ _ I Rm ?_)
 cases hr : f loc hp with
 | ok b hp₁ =>
  rw [hr, Res.bind_ok] at P
  intro a h' tk ρ' gr kk rr rel hpos
  exact step a b _ ρ' hp₁ (I.after gr kk rr) gr kk rel hr (P.later I.rep rr gr kk (rr.old gr)) (Rm.after gr kk hpos)
 | exc c hp₁ => rw [hr, Res.bind_exc] at P; exact fun e hr h' tk ρ' gr kk rr fl z_ => P e hr h' tk ρ' gr kk rr fl
 | bad => rw [hr, Res.bind_bad] at P; exact P
theorem Post.same {α β : Type} {R : Rel α β} {ρ : List Addr} {hp : Hp} {s : Shared} {Q : α → Shared → Prop} {E : Value → Shared → Prop} {b : β} (R₀ : RepH X ρ hp s.heap)
  (P : Post X R ρ s (.ok b hp) Q E) (a : α) (tk : Nat) (rel : R ρ s.heap a b) : Q a { s with toks := tk } :=
 P a s.heap tk ρ (Grow.refl _ _) (Keep.refl _ _) R₀ rel
theorem Post.made {α β : Type} {R : Rel α β} {ρ : List Addr} {hp : Hp} {s : Shared} {Q : α → Shared → Prop} {E : Value → Shared → Prop} {b : β} (R₀ : RepH X ρ hp s.heap)
  (P : Post X R ρ s (.ok b hp) Q E) (a : α) (h' : Heap) (tk : Nat) (kk : ∀ b o, s.heap.get? b = some o → h'.get? b = some o) (rel : R ρ h' a b) : Q a { s with heap := h', toks := tk } :=
 P a h' tk ρ (Grow.refl _ _) (Keep.of_all kk) (R₀.keep kk) rel
theorem free_size (h : Heap) : h.get? h.objs.size = none := by
 cases q : h.get? h.objs.size with
 | none => rfl
 | some o => exact absurd (Heap.lt_size q) (Nat.lt_irrefl _)
theorem Post.list {ρ : List Addr} {hp : Hp} {s : Shared} {Q : Value → Shared → Prop} {E : Value → Shared → Prop} {l : List PV} (B : BK X s.heap) (R₀ : RepH X ρ hp s.heap)
  (P : Post X (RV X) ρ s (newList l hp) Q E) (a : Addr) (vs : List Value) (h' : Heap) (tk : Nat) (kk : ∀ b o, s.heap.get? b = some o → h'.get? b = some o) (ha : s.heap.get? a = none)
  (hl : LI h' a vs.toArray) (hz : vs.length ≤ sizeLine) (r : VRs X ρ s.heap vs l) : Q (.ref a) { s with heap := h', toks := tk } := by
 have hn : a ∉ ρ := fun q => by exact nsS ha (R₀.isSome a q)
 refine P (.ref a) h' tk (ρ ++ [a]) ⟨[a], rfl, fun x hx => by rw [List.mem_singleton.mp hx]; exact ha⟩ (Keep.of_all kk) ((R₀.keep kk).newList hn (B.free ha) hl hz (r.keepF (KeepF.of_all kk))) (.lst ?_)
 rw [← R₀.len, List.getElem?_append_right (Nat.le_refl _), Nat.sub_self]; rfl
theorem se_none {kk : Nat} {pos : Pos} : SE X sc k (.Constant .none kk pos) (fun z_ hp => .ok .none hp) := fun A env s ρ loc hp Q E I z_ P =>
 wpAny_Constant_none (Post.same I.rep P .none s.toks .none)
theorem se_bool {b : Bool} {kk : Nat} {pos : Pos} : SE X sc k (.Constant (.bool b) kk pos) (fun z_ hp => .ok (.bool b) hp) := fun A env s ρ loc hp Q E I z_ P =>
 wpAny_Constant_bool (Post.same I.rep P (.bool b) s.toks (.bool b))
theorem se_int {i : Int} {kk : Nat} {pos : Pos} : SE X sc k (.Constant (.int i) kk pos) (fun z_ hp => .ok (.int i) hp) := fun A env s ρ loc hp Q E I z_ P =>
 wpAny_Constant_int (Post.same I.rep P (.int i s.toks) (s.toks + 1) (.int i s.toks))
theorem se_str {x : Str} {kk : Nat} {pos : Pos} : SE X sc k (.Constant (.str x) kk pos) (fun z_ hp => .ok (.str x) hp) := fun A env s ρ loc hp Q E I z_ P =>
 PySem.wpAny_Constant_str (Post.same I.rep P (.str x s.toks) (s.toks + 1) (.str x s.toks))
theorem se_var {x : Nat} {pos : Pos} (hd : (X.nm x == ("__debug__" : Str)) = false) (hx : sc.names.lookup (X.nm x) = some .local ∨ sc.names.lookup (X.nm x) = some .cell) :
  SE X sc k (.Name (X.nm x) pos) (fun loc hp => ofOpt (getv loc x) hp) := fun A env s ρ loc hp Q E I z_ P => by
 dsimp only at P
 cases hg : getv loc x with
 | none => rw [hg] at P; exact P.elim
 | some p =>
  rw [hg] at P
  refine x12 I.vars fun m hn hv => ?_
  have hsc : env.scope.kind = .function := by rw [I.scope]; exact I.kind
  refine wpAny_Name ?_ hd
  rcases hx with hx | hx
  ·have hk : env.kindOf (X.nm x) = some .local := by unfold Env.kindOf; rw [I.scope]; exact hx
   refine x12 ((hv x p hg).1 hk) fun v h1 h2 => ?_
   exact wpAny_loadName_local hsc hk hn h1 (Post.same I.rep P v s.toks h2)
  ·have hk : env.kindOf (X.nm x) = some .cell := by unfold Env.kindOf; rw [I.scope]; exact hx
   refine x23 ((hv x p hg).2 hk) fun c v h1 h2 h3 => ?_
   exact wpAny_loadName_cell hsc hk h1 h2 (Post.same I.rep P v s.toks h3)
end
end Mine
end
section
namespace Mine
open PySem PySem.Calls PyProof.Rows
noncomputable def over (hr h : Heap) : Heap := { hr with objs := hr.objs.mapIdx fun i o => if o.isFreed then o else (h.get? i).getD o }
theorem over_some {hr h : Heap} {b : Addr} {o o' : Obj} (e : hr.get? b = some o) (e' : h.get? b = some o') : (over hr h).get? b = some o' := by
 refine x02 (Heap.get?_some_iff.mp e) fun h1 h2 => ?_
 refine x02 (Heap.get?_some_iff.mp e') fun z_ h4 => ?_
 refine Heap.get?_some_iff.mpr ⟨?_, h4⟩
 show (hr.objs.mapIdx _)[b]? = _
 rw [Array.getElem?_mapIdx, h1]
 show some (if o.isFreed = true then o else (h.get? b).getD o) = _
 rw [h2, e']; rfl
theorem over_none {hr h : Heap} {b : Addr} (e : hr.get? b = none) : (over hr h).get? b = none := by
 cases q : (over hr h).get? b with
 | none => rfl
 | some o' =>
  exfalso
  refine x02 (Heap.get?_some_iff.mp q) fun h1 h2 => ?_
  replace h1 : (hr.objs.mapIdx fun i o => if o.isFreed then o else (h.get? i).getD o)[b]? = some o' := h1
  rw [Array.getElem?_mapIdx] at h1
  refine x12 (Option.map_eq_some_iff.mp h1) fun o h3 h4 => ?_
  cases hf : o.isFreed with
  | true => rw [hf, if_pos rfl] at h4; subst h4; rw [hf] at h2; cases h2
  | false => rw [Heap.get?_some_iff.mpr ⟨h3, hf⟩] at e; cases e
theorem Frs.funs {X : Cx} {ρ : List Addr} {h : Heap} : ∀ {l : List Env}, Frs X ρ h l → h.FunFrames X.base l
 | [], _ => trivial
 | env :: l, F => by
  obtain ⟨hk, L, o, es, ep, hf, hn, ho, hd, hL⟩ := F env (.head _)
  exact ⟨hk, ⟨L, o, hf, hn, ho, fun vs q => by rw [hd] at q; cases q⟩, Frs.funs fun e he => F e (.tail _ he)⟩
theorem Frs.mem {X : Cx} {ρ : List Addr} {h : Heap} {b : Addr} : ∀ {l : List Env}, Frs X ρ h l → b ∈ l.filterMap (·.frame) → X.base.get? b = none ∧ b ∉ ρ ∧ ∃ o es ep, h.get? b = some o ∧ o.data = .dict es ep
 | [], _, hb => by cases hb
 | env :: l, F, hb => by
  obtain ⟨hk, L, o, es, ep, hf, hn, ho, hd, hL⟩ := F env (.head _)
  rw [List.filterMap_cons, hf] at hb
  rcases List.mem_cons.mp hb with e | e
  ·subst e; exact ⟨hn, hL, o, es, ep, ho, hd⟩
  ·exact Frs.mem (fun e he => F e (.tail _ he)) e
structure Went (X : Cx) (ρ : List Addr) (hr hr' : Heap) : Prop where
 keep : Keep X ρ hr hr'
 none : ∀ b, hr.get? b = none → hr'.get? b = none
 same : ∀ b o, hr.get? b = some o → (∀ es ep, o.data ≠ .dict es ep) ∨ b ∈ ρ → hr'.get? b = some o
theorem Went.rep {X : Cx} {ρ : List Addr} {hp : Hp} {hr hr' : Heap} (w : Went X ρ hr hr') (R : RepH X ρ hp hr) : RepH X ρ hp hr' :=
 R.keepOn (fun b o e z_ hf => w.same b o e (.inl (Fixed.nodict hf))) fun b hb o e => w.same b o e (.inr hb)
section
variable {X : Cx} {M : Model} {A : Around} {E : Value → Shared → Prop} {s : Shared} {ρ : List Addr} {c : Nat}
theorem Went.refl (hr : Heap) : Went X ρ hr hr := ⟨Keep.refl _ _, fun z_ h => h, fun z_ z_ e z_ => e⟩
noncomputable def Traced (e : Value) (h : Heap) : Prop := ∃ a o vs T, e = .ref a ∧ h.get? a = some o ∧ o.data = .fields vs ∧ vs[1]? = some (.ref T)
theorem entry_ok {hr : Heap} {env : Env} {outer : List Env} {L e : Addr} {oe : Obj} {vs : Array Value} {head : Value} {hadNext : Bool} {Q : Unit → Shared → Prop}
  (hfr : A.frames = some (env :: outer)) (F : Frs X ρ hr (env :: outer)) (hf : env.frame = some L) (old : ∀ b o, hr.get? b = some o → s.heap.get? b = some o)
  (he : s.heap.get? e = some oe) (hen : hr.get? e = none) (hc : oe.cls = .ref (X.ca c)) (hd : oe.data = .fields vs) (hsz : 1 < vs.size) (h2 : vs[2]? = some .none) (hc9 : c < 9)
  (h : ∀ hr' h', Went X ρ hr hr' → Fly X c (.ref e) hr' h' → Traced (.ref e) h' → Q () { s with heap := h' }) :
  wpAny M A (do let a ← frameOf env; let pl ← entryPlaceOf L hadNext; let b ← EntryCells.newEntry head a .none (rawInt L) .none pl; setField (.ref e) 1 b) Q E s := by
 have F' : Frs X ρ s.heap (env :: outer) := F.keep (Grow.refl _ _) fun b o es ep eb hdb z_ => ⟨o, es, ep, old b o eb, hdb⟩
 have hene : e ∉ (env :: outer).filterMap (·.frame) := fun hm => by
  obtain ⟨_, _, o, es, ep, ho, hnf⟩ := F'.mem hm
  obtain rfl := Option.some.inj (he.symm.trans ho); rw [hd] at hnf; cases hnf
 refine wpAny_bind (wpAny_frameOf_fun hfr F'.funs hf fun h₁ hs₁ => ?_)
 refine wpAny_bind (wpAny_entryPlaceOf fun pl hpl => ?_)
 unfold EntryCells.newEntry newFields
 refine wpAny_bind (wpAny_newObj_type ?_ (hpl.sizeOk5 _ _ _ _ _))
 generalize htb : ({ cls := .type "traceback", dict := none, data := .fields ([head, .ref L, .none, rawInt L, .none] ++ (if pl.isEmpty then List.replicate 6 Value.none else pl)).toArray } : Obj) = tb
 have hdtb : tb.data = .fields ([head, .ref L, .none, rawInt L, .none] ++ (if pl.isEmpty then List.replicate 6 Value.none else pl)).toArray := by rw [← htb]
 have hftb : tb.isFreed = false := by rw [← htb]; rfl
 have he₁ : h₁.get? e = some oe := (hs₁.2.1 e hene).trans he
 have he₂ := Heap.get?_push_of_some (h := h₁) tb he₁
 refine wpAny_setField he₂ hd hsz ?_
 have hTe : h₁.objs.size ≠ e := Nat.ne_of_gt (Heap.lt_size he₁)
 have hd₃ := Obj.data_mapFields hd (·.setIfInBounds 1 (Value.ref h₁.objs.size))
 have he₃ := Heap.get?_update_self (Obj.mapFields (·.setIfInBounds 1 (Value.ref h₁.objs.size))) he₂ (Obj.isFreed_of_fields hd₃)
 have hT₃ := (Heap.get?_update_other (h₁.push tb) (Obj.mapFields (·.setIfInBounds 1 (Value.ref h₁.objs.size))) (Ne.symm hTe)).trans (Heap.get?_push_size h₁ hftb)
 generalize hh₃ : (h₁.push tb).update e (Obj.mapFields (·.setIfInBounds 1 (Value.ref h₁.objs.size))) = h₃ at he₃ hT₃
 have k₃ : ∀ b o, b ≠ e → h₁.get? b = some o → h₃.get? b = some o := fun b o hbe hb => by
  rw [← hh₃, Heap.get?_update_other _ _ (Ne.symm hbe)]
  exact Heap.get?_push_of_some _ hb
 -- what stood before, stands; the frames have other slots
 have kk : ∀ b o, hr.get? b = some o → ∃ o', h₃.get? b = some o' ∧ (b ∉ (env :: outer).filterMap (·.frame) → o' = o) ∧ ∃ sl, o' = { o with slots := sl } := fun b o eb => by
  have es := old b o eb
  refine x11 (hs₁.2.2 b o es) fun sl e1 => ?_
  have hbe : b ≠ e := fun q => by rw [q, hen] at eb; cases eb
  refine ⟨_, k₃ b _ hbe e1, fun hb => ?_, sl, rfl⟩
  rw [hs₁.2.1 b hb, es] at e1
  exact (Option.some.inj e1).symm
 have hTn : hr.get? h₁.objs.size = none := by
  cases q : hr.get? h₁.objs.size with
  | none => rfl
  | some o =>
   refine x11 (hs₁.2.2 _ o (old _ o q)) fun sl e1 => ?_
   exact absurd (Heap.lt_size e1) (Nat.lt_irrefl _)
 have hv1 : (vs.setIfInBounds 1 (Value.ref h₁.objs.size))[1]? = some (.ref h₁.objs.size) := by simp [hsz]
 refine h (over hr h₃) h₃ ⟨fun b o eb hb => ?_, fun b => over_none, fun b o eb hx => ?_⟩ ⟨fun b o eb => ?_, e, _, _, rfl, over_none hen, he₃, (Obj.cls_mapFields _ _).trans hc, hd₃, ?_, hc9, .inr ⟨h₁.objs.size, _, _, rawInt L, hv1, over_none hTn, hTe, hT₃, hdtb, by simp⟩⟩ ⟨e, _, _, _, rfl, he₃, hd₃, hv1⟩
 ·obtain ⟨o', e', h1, sl, h2⟩ := kk b o eb
  refine ei12 o' (over_some eb e') ?_
  by_cases hm : b ∈ (env :: outer).filterMap (·.frame)
  ·obtain ⟨hn, _, o2, es, ep, ho, hdd⟩ := F.mem hm
   obtain rfl := Option.some.inj (eb.symm.trans ho)
   exact .inr ⟨hn, ⟨es, ep, hdd⟩, sl, h2⟩
  ·exact .inl (h1 hm)
 ·refine x13 (kk b o eb) fun o' e' h1 z_ => ?_
  have hm : b ∉ (env :: outer).filterMap (·.frame) := fun hm => by
   obtain ⟨_, hn, o2, es, ep, ho, hdd⟩ := F.mem hm
   obtain rfl := Option.some.inj (eb.symm.trans ho)
   rcases hx with q | q
   ·exact q es ep hdd
   ·exact hn q
  rw [← h1 hm]; exact over_some eb e'
 ·cases q : hr.get? b with
  | none => exact no ((over_none q).symm.trans eb)
  | some o' =>
   refine x12 (kk b o' q) fun o2 e2 z_ => ?_
   obtain rfl := Option.some.inj ((over_some q e2).symm.trans eb)
   exact e2
 ·rw [Array.getElem?_setIfInBounds_ne (by decide)]; exact h2
theorem fly_note {hr : Heap} {env : Env} {outer : List Env} {L : Addr} {e : Value} {Q : Unit → Shared → Prop} (hfr : A.frames = some (env :: outer)) (F : Frs X ρ hr (env :: outer)) (hf : env.frame = some L) (fl : Fly X c e hr s.heap)
  (h : ∀ hr' h', Went X ρ hr hr' → Fly X c e hr' h' → Traced e h' → Q () { s with heap := h' }) :
  wpAny M A (noteFrame e env) Q E s := by
 have fl0 := fl
 obtain ⟨old, a, o, vs, rfl, hn, ha, hc, hd, h2, h9, ht⟩ := fl
 unfold noteFrame
 simp only [hf]
 rcases ht with h1 | ⟨T, oT, ts, x, h1, hTn, hTa, hT, hdT, h3⟩
 ·refine wpAny_bind (wpAny_field ha hd h1 ?_)
  rw [if_neg (by decide)]
  exact entry_ok hfr F hf old ha hn hc hd (Array.getElem?_eq_some_iff.mp h1).1 h2 h9 h
 ·refine wpAny_bind (wpAny_field ha hd h1 ?_)
  rw [if_pos (show (Value.ref T != Value.none) = true from by simp)]
  refine wpAny_bind (wpAny_field hT hdT h3 ?_)
  by_cases hx : (x == rawInt L) = true
  ·rw [if_pos hx]
   exact wpAny_pure (h hr s.heap (Went.refl _) fl0 ⟨a, o, vs, T, rfl, ha, hd, h1⟩)
  ·rw [if_neg hx]
   refine wpAny_bind (wpAny_setField hT hdT (Array.getElem?_eq_some_iff.mp h3).1 ?_)
   have other : ∀ b, b ≠ T → (s.heap.update T (Obj.mapFields (·.setIfInBounds 3 Value.none))).get? b = s.heap.get? b := fun b hb => Heap.get?_update_other _ _ (Ne.symm hb)
   exact entry_ok (s := { s with heap := s.heap.update T (Obj.mapFields (·.setIfInBounds 3 Value.none)) }) hfr F hf (fun b o eb => (other b fun q => by rw [q, hTn] at eb; cases eb).trans (old b o eb)) ((other a (Ne.symm hTa)).trans ha) hn hc hd (Array.getElem?_eq_some_iff.mp h1).1 h2 h9 h
theorem fly_set {hr : Heap} {e : Value} {fo : Option Addr} {Q : Unit → Shared → Prop} (fl : Fly X c e hr s.heap) (h : ∀ h', Fly X c e hr h' → Q () { s with heap := h' }) : wpAny M A (setFlight e fo) Q E s := by
 obtain ⟨old, a, o, vs, rfl, hn, ha, hc, hd, h2, h9, ht⟩ := fl
 unfold setFlight
 rcases ht with h1 | ⟨T, oT, ts, x, h1, hTn, hTa, hT, hdT, h3⟩
 ·refine wpAny_bind (wpAny_field ha hd h1 ?_)
  rw [if_neg (by decide)]
  exact wpAny_pure (h s.heap ⟨old, a, o, vs, rfl, hn, ha, hc, hd, h2, h9, .inl h1⟩)
 ·refine wpAny_bind (wpAny_field ha hd h1 ?_)
  rw [if_pos (show (Value.ref T != Value.none) = true from by simp)]
  have hsz3 : 3 < ts.size := (Array.getElem?_eq_some_iff.mp h3).1
  have other : ∀ b, b ≠ T → (s.heap.update T (Obj.mapFields (·.setIfInBounds 3 (fo.elim Value.none fun f => rawInt f)))).get? b = s.heap.get? b := fun b hb => Heap.get?_update_other _ _ (Ne.symm hb)
  refine wpAny_setField hT hdT hsz3 (h _ ⟨fun b o eb => (other b fun q => by rw [q, hTn] at eb; cases eb).trans (old b o eb), a, o, vs, rfl, hn, (other a (Ne.symm hTa)).trans ha, hc, hd, h2, h9, .inr ⟨T, _, _, fo.elim Value.none fun f => rawInt f, h1, hTn, hTa, ?_, Obj.data_mapFields hdT (·.setIfInBounds 3 (fo.elim Value.none fun f => rawInt f)), by simp [hsz3]⟩⟩)
  exact Heap.get?_update_self _ hT (Obj.isFreed_of_fields (Obj.data_mapFields hdT _))
theorem fly_leave {hr : Heap} {env : Env} {outer : List Env} {L : Addr} {e : Value} {Q : Unit → Shared → Prop} (hfr : A.frames = some (env :: outer)) (F : Frs X ρ hr (env :: outer)) (hf : env.frame = some L) (fl : Fly X c e hr s.heap)
  (h : ∀ hr' h', Went X ρ hr hr' → Fly X c e hr' h' → Q () { s with heap := h' }) :
  wpAny M A (noteFrame e env) (fun z_ s₁ => wpAny M A (setFlight e none) Q E s₁) E s :=
 fly_note hfr F hf fl fun hr' h' w f z_ => fly_set (s := { s with heap := h' }) f fun h'' f' => h hr' h'' w f'
theorem fly_leaving {hr : Heap} {env : Env} {outer : List Env} {L : Addr} {e : Value} {Q : Unit → Shared → Prop} (hfr : A.frames = some (env :: outer)) (F : Frs X ρ hr (env :: outer)) (hf : env.frame = some L) (fl : Fly X c e hr s.heap)
  (h : ∀ hr' h', Went X ρ hr hr' → Fly X c e hr' h' → Q () { s with heap := h' }) : wpAny M A (leaving env e) Q E s := by
 unfold leaving
 exact wpAny_bind (fly_leave hfr F hf fl h)
end
end Mine
end
section
namespace Mine
open PySem PySem.Calls PyProof.Rows
noncomputable def bopOf : Operator → Option Bop
 | .Add => some .add
 | .Sub => some .sub
 | .Mult => some .mul
 | .FloorDiv => some .div
 | .Mod => some .mod
 | .Pow => some .pow
 | _ => none
theorem intOk_iff {i : Int} (h : intOk i = true) : -9223372036854775808 < i ∧ i < 9223372036854775808 := by
 unfold intOk at h; simpa using h
theorem intOk_bits {i : Int} (h : intOk i = true) : Builtin.Int.intBits i ≤ 64 := by
 have := intOk_iff h; exact intBits_le_64 (by omega) (by omega)
theorem intOk_pylong {a b : Int} (h : intOk b = true) : Builtin.divisionGoesByPylong a b = false := by
 refine PyProof.noPylong_of_log2 ?_
 have := intOk_iff h
 by_cases h0 : b.natAbs = 0
 ·rw [h0]; decide +kernel
 ·have : b.natAbs.log2 < 63 := (Nat.log2_lt h0).mpr (by omega)
  exact (Nat.lt_trans this ltl)
theorem sizeOk_line {n : Nat} (h : sizeOk n = true) : n ≤ sizeLine := by
 unfold sizeOk at h; have := of_decide_eq_true h; rw [sizeLine_eq]; exact (Nat.le_of_lt (Nat.lt_of_le_of_lt this ltl))
theorem lstAt_some {hp : Hp} {n : Nat} {l : List PV} (h : lstAt hp n = some l) : hp.os[n]? = some (.list l) := by
 unfold lstAt at h
 split at h
 ·cases h; assumption
 ·cases h
theorem RepH.lst {X : Cx} {ρ : List Addr} {hp : Hp} {h : Heap} {n : Nat} {l : List PV} {a : Addr} (R : RepH X ρ hp h) (ha : ρ[n]? = some a) (hl : lstAt hp n = some l) :
  ∃ vs : List Value, LI h a vs.toArray ∧ vs.length ≤ sizeLine ∧ VRs X ρ h vs l := R.obj n a _ ha (lstAt_some hl)
theorem repl_eq (l : List PV) (n : Nat) : repl l n = (List.replicate n l).flatten := by
 induction n with
 | zero => rfl
 | succ n ih => rw [repl, ih, List.replicate_succ, List.flatten_cons]
theorem VRs.repl {X : Cx} {ρ : List Addr} {h : Heap} {vs : List Value} {ps : List PV} (r : VRs X ρ h vs ps) (n : Nat) : VRs X ρ h (List.replicate n vs).flatten (Mine.repl ps n) := by
 induction n with
 | zero => exact .nil
 | succ n ih => rw [Mine.repl, List.replicate_succ, List.flatten_cons]; exact r.append ih
theorem noFill_tuple_mul : fillsNumberSlot (.type "tuple") "mul" = pure false :=
 PySem.fillsNumberSlot_seq (id := "tuple.__mul__") (r := some (.builtin "tuple.__rmul__")) PySem.F.slot_tuple_mul.lookup (by decide +kernel) PySem.F.slot_tuple_rmul.lookup (by decide +kernel)
theorem repeat_tuple : seqRepeat? (.type "tuple") = pure (some (.builtin "tuple.__mul__")) := by
 unfold seqRepeat?
 rw [PySem.seqSlot_of (T := "tuple") (name := "__mul__") (id := "tuple.__mul__") PySem.F.slot_tuple_mul.lookup (by decide +kernel), PySem.seqSlot_of (T := "tuple") (name := "__rmul__") (id := "tuple.__rmul__") PySem.F.slot_tuple_rmul.lookup (by decide +kernel)]
 rfl
theorem int_rmul_tuple (a : Int) (t : Tok) (l : Addr) (items : Array Value) (n : Nat) (d : Option Addr) (sl : Array (Option Value)) :
  Meets (Builtin.«int.__rmul__» ⟨[.int a t, .ref l], []⟩) (fun z_ R s => s.heap.get? l = some { cls := .type "tuple", dict := d, data := .seq items n, slots := sl } ∧ R (.ok (.ret Value.notImplemented)) s) :=
 .of_wp fun prog w A R s h => by obtain ⟨hp, g, d, tk, os⟩ := s; revert h; refine y02 fun hl h => ?_; wp_walk; exact ei12 _ rfl h
theorem tuple_mul_new (l : Addr) (items : Array Value) (n : Nat) (d : Option Addr) (sl : Array (Option Value)) (x : Int) (u : Tok) (h1 : -(2 ^ 63) ≤ x ∧ x < 2 ^ 63) (h2 : items.isEmpty = false) (h2' : x ≠ 1)
  (h3 : 0 < x) (h4 : (items.size : Int) * x ≤ 1000000) (h6 : ((List.replicate x.toNat items).foldl (· ++ ·) #[]).size ≤ sizeLine) :
  Meets (Builtin.«tuple.__mul__» ⟨[.ref l, .int x u], []⟩) (fun z_ R s => s.heap.get? l = some { cls := .type "tuple", dict := d, data := .seq items n, slots := sl } ∧
   R (.ok (.ret (.ref s.heap.objs.size))) { s with heap := s.heap.push { cls := .type "tuple", data := .seq ((List.replicate x.toNat items).foldl (· ++ ·) #[]) } }) :=
 .of_wp fun prog w A R s h => by
  obtain ⟨hp, g, d, tk, os⟩ := s; revert h; refine y02 fun hl h => ?_
  wp_walk
  rw [if_neg (by simp; omega)]
  dsimp only
  wp_walk
  rw [if_neg (by omega)]
  wp_walk
  rw [if_neg (by simp [Builtin.Tuple.tupleTooMany, sizeLine]; exact (Int.le_of_lt (Int.lt_of_le_of_lt h4 ilt)))]
  wp_walk
  exact ei12 _ rfl h
theorem tuple_mul_same (l : Addr) (items : Array Value) (n : Nat) (d : Option Addr) (sl : Array (Option Value)) (x : Int) (u : Tok) (h1 : -(2 ^ 63) ≤ x ∧ x < 2 ^ 63) (h2 : (items.isEmpty || x == 1) = true) :
  Meets (Builtin.«tuple.__mul__» ⟨[.ref l, .int x u], []⟩) (fun z_ R s => s.heap.get? l = some { cls := .type "tuple", dict := d, data := .seq items n, slots := sl } ∧ R (.ok (.ret (.ref l))) s) :=
 .of_wp fun prog w A R s h => by
  obtain ⟨hp, g, d, tk, os⟩ := s; revert h; refine y02 fun hl h => ?_
  wp_walk
  rw [if_neg (by simp; omega)]
  dsimp only
  wp_walk
  exact ei12 _ rfl h
section
variable {X : Cx} {A : Around} {s : Shared} {ρ : List Addr} {hp : Hp} {va vb : Value} {a b : PV} {Q : Value → Shared → Prop} {E : Value → Shared → Prop}
theorem VRs.nil_iff {X : Cx} {ρ : List Addr} {h : Heap} {vs : List Value} {ps : List PV} (r : VRs X ρ h vs ps) : vs = [] ↔ ps = [] := by
 cases r with
 | nil => simp
 | cons a r => simp
theorem add_tup {t u : Addr} {vs ws : List Value} {l m : List PV} (hnt : t ∉ ρ) (hnu : u ∉ ρ) (R : RepH X ρ hp s.heap) (ht : TI s.heap t vs.toArray) (hu : TI s.heap u ws.toArray) (rl : VRs X ρ s.heap vs l) (rm : VRs X ρ s.heap ws m)
  (hsz : vs.length + ws.length ≤ sizeLine) (P : Post X (RV X) ρ s (.ok (.tup (l ++ m)) hp) Q E) : wpAny X.M A (binaryOp .Add (.ref t) (.ref u)) Q E s := by
 refine x11 (id ht) fun n ho => ?_
 refine x11 (id hu) fun n2 ho2 => ?_
 by_cases hv : vs = []
 ·refine concat_meets ⟨_, ho, rfl⟩ ⟨_, ho2, rfl⟩ noFill_tuple_add seq_tuple_add PySem.F.slot_tuple_add PySem.F.entry_tuple_add (PySem.F.args_tuple_add_2 _ _)
   (tuple_addW0 t u vs.toArray ws.toArray n n2 none none #[] #[] (by simp [hv])) ⟨ho, ho2, ?_⟩
  have hl := rl.nil_iff.mp hv; subst hl
  exact Post.same R P (.ref u) s.toks (.tup hu (by omega) rm hnu)
 ·by_cases hw : ws = []
  ·refine concat_meets ⟨_, ho, rfl⟩ ⟨_, ho2, rfl⟩ noFill_tuple_add seq_tuple_add PySem.F.slot_tuple_add PySem.F.entry_tuple_add (PySem.F.args_tuple_add_2 _ _)
    (tuple_addW1 t u vs.toArray ws.toArray n n2 none none #[] #[] (by simpa using hv) (by simp [hw])) ⟨ho, ho2, ?_⟩
   have hl := rm.nil_iff.mp hw; subst hl
   rw [List.append_nil] at P
   exact Post.same R P (.ref t) s.toks (.tup ht (by omega) rl hnt)
  ·refine concat_meets ⟨_, ho, rfl⟩ ⟨_, ho2, rfl⟩ noFill_tuple_add seq_tuple_add PySem.F.slot_tuple_add PySem.F.entry_tuple_add (PySem.F.args_tuple_add_2 _ _)
    (tuple_addW2 t u vs.toArray ws.toArray n n2 none none #[] #[] (by simpa using hv) (by simpa using hw) (by rw [List.size_toArray, List.size_toArray]; exact hsz)) ⟨ho, ho2, ?_⟩
   have e : vs.toArray ++ ws.toArray = (vs ++ ws).toArray := by simp
   rw [e]
   exact Post.made R P (.ref _) _ s.toks (fun z_ z_ e => Heap.get?_push_of_some _ e) (.tup ⟨0, Heap.get?_push_size _ rfl⟩ (by rw [List.length_append]; exact hsz) ((rl.append rm).keepF (KeepF.of_all fun z_ z_ e => Heap.get?_push_of_some _ e)) (R.free (free_size _)))
theorem mul_tup {t : Addr} {vs : List Value} {l : List PV} {x : Int} {u : Tok} (hnt : t ∉ ρ) (R : RepH X ρ hp s.heap) (ht : TI s.heap t vs.toArray) (hz : vs.length ≤ sizeLine) (rl : VRs X ρ s.heap vs l) (hpos : 0 < x) (hx : intOk x = true)
  (hsz : sizeOk (l.length * x.toNat) = true) (P : Post X (RV X) ρ s (.ok (.tup (repl l x.toNat)) hp) Q E) : wpAny X.M A (binaryOp .Mult (.ref t) (.int x u)) Q E s := by
 refine x11 (id ht) fun n ho => ?_
 have hx' := intOk_iff hx
 have hx1 : -(2 ^ 63) ≤ x ∧ x < 2 ^ 63 := by omega
 refine wpAny_binaryOp_repeat_ref (T := "tuple") (U := "int") (by decide) ⟨_, ho, rfl⟩ (fun s' => typeIs_int s' x u) noFill_tuple_mul PySem.F.fills_int_mul PySem.F.slot_int_rmul repeat_tuple PySem.F.slot_int_index.lookup
  (call_meets PySem.F.slot_int_rmul (typeIs_int s x u) PySem.F.entry_int_rmul (PySem.F.args_int_rmul_2 _ _) (int_rmul_tuple x u t vs.toArray n none #[]) ⟨ho, rfl, ⟨_, ho, rfl⟩, ?_⟩)
 by_cases hsame : (vs.toArray.isEmpty || x == 1) = true
 ·refine call_meets PySem.F.slot_tuple_mul ⟨_, ho, rfl⟩ PySem.F.entry_tuple_mul (PySem.F.args_tuple_mul_2 _ _) (tuple_mul_same t vs.toArray n none #[] x u hx1 hsame) ⟨ho, ?_⟩
  have e : repl l x.toNat = l := by
   rw [Bool.or_eq_true] at hsame
   rcases hsame with q | q
   ·have hv : vs = [] := by simpa using q
    have hl := rl.nil_iff.mp hv
    subst hl
    rw [repl_eq]; simp
   ·have q' : x = 1 := by simpa using q
    subst q'
    show l ++ repl l 0 = l
    simp [repl]
  rw [e] at P
  exact Post.same R P (.ref t) s.toks (.tup ht (by exact hz) rl hnt)
 ·have hsame' : (vs.toArray.isEmpty || x == 1) = false := by simpa using hsame
  have hne : vs.toArray.isEmpty = false ∧ x ≠ 1 := by simpa using hsame'
  have hlen := of_decide_eq_true hsz
  have hll : (vs.length : Int) * x ≤ 1000000 := by
   rw [rl.length]
   have : ((l.length * x.toNat : Nat) : Int) ≤ 1000000 := by generalize l.length * x.toNat = q at hlen ⊢; exact (Int.ofNat_le.mpr hlen)
   rw [Int.natCast_mul, Int.toNat_of_nonneg (by exact (Int.le_of_lt hpos))] at this
   exact this
  have e : (List.replicate x.toNat vs.toArray).foldl (· ++ ·) #[] = (List.replicate x.toNat vs).flatten.toArray := by
   have := listMul_foldl_if vs.toArray x.toNat
   rw [hne.1] at this
   simpa using this
  have hz' : (List.replicate x.toNat vs).flatten.length ≤ sizeLine := by
   rw [(rl.repl x.toNat).length, repl_eq, List.length_flatten]
   simp only [List.map_replicate, List.sum_replicate_nat]
   rw [Nat.mul_comm]; exact sizeOk_line hsz
  refine call_meets PySem.F.slot_tuple_mul ⟨_, ho, rfl⟩ PySem.F.entry_tuple_mul (PySem.F.args_tuple_mul_2 _ _) (tuple_mul_new t vs.toArray n none #[] x u hx1 hne.1 hne.2 hpos (by simpa using hll) (by
   rw [e, List.size_toArray]; exact hz')) ⟨ho, ?_⟩
  rw [e]
  exact Post.made R P (.ref _) _ s.toks (fun z_ z_ e => Heap.get?_push_of_some _ e) (.tup ⟨0, Heap.get?_push_size _ rfl⟩ hz' ((rl.repl x.toNat).keepF (KeepF.of_all fun z_ z_ e => Heap.get?_push_of_some _ e)) (R.free (free_size _)))
theorem add_lst {t u : Addr} {vs ws : List Value} {l m : List PV} (B : BK X s.heap) (R : RepH X ρ hp s.heap) (ht : LI s.heap t vs.toArray) (hu : LI s.heap u ws.toArray) (rl : VRs X ρ s.heap vs l) (rm : VRs X ρ s.heap ws m)
  (hsz : vs.length + ws.length ≤ sizeLine) (P : Post X (RV X) ρ s (newList (l ++ m) hp) Q E) : wpAny X.M A (binaryOp .Add (.ref t) (.ref u)) Q E s := by
 refine x11 (id ht) fun n ho => ?_
 refine x11 (id hu) fun n2 ho2 => ?_
 have e : vs.toArray ++ ws.toArray = (vs ++ ws).toArray := by simp
 refine concat_meets ⟨_, ho, rfl⟩ ⟨_, ho2, rfl⟩ noFill_list_add seq_list_add PySem.F.slot_list_add PySem.F.entry_list_add (PySem.F.args_list_add_2 _ _) (list_addW t u vs.toArray ws.toArray n n2 none none #[] #[] (by simpa using hsz)) ⟨ho, ho2, ?_⟩
 rw [e]
 exact Post.list B R P _ (vs ++ ws) _ s.toks (fun z_ z_ e => Heap.get?_push_of_some _ e) (free_size _) ⟨0, Heap.get?_push_size _ rfl⟩ (by rw [List.length_append]; exact hsz) (rl.append rm)
theorem repl_len (l : List PV) (n : Nat) : (repl l n).length = l.length * n := by
 rw [repl_eq, List.length_flatten]
 simp only [List.map_replicate, List.sum_replicate_nat]
 exact Nat.mul_comm _ _
theorem mul_lst {t : Addr} {vs : List Value} {l : List PV} {x : Int} {u : Tok} (B : BK X s.heap) (R : RepH X ρ hp s.heap) (ht : LI s.heap t vs.toArray) (rl : VRs X ρ s.heap vs l) (hx : intOk x = true)
  (hsz : sizeOk (l.length * x.toNat) = true) (P : Post X (RV X) ρ s (newList (repl l x.toNat) hp) Q E) : wpAny X.M A (binaryOp .Mult (.ref t) (.int x u)) Q E s := by
 refine x11 (id ht) fun n ho => ?_
 have hx' := intOk_iff hx
 have hlen := of_decide_eq_true hsz
 have hsz' : vs.toArray.size * x.toNat ≤ 1000000 := by rw [List.size_toArray, rl.length]; exact hlen
 refine wpAny_binaryOp_repeat_ref (T := "list") (U := "int") (by decide) ⟨_, ho, rfl⟩ (fun s' => typeIs_int s' x u) noFill_list_mul PySem.F.fills_int_mul PySem.F.slot_int_rmul repeat_list PySem.F.slot_int_index.lookup
  (call_meets PySem.F.slot_int_rmul (typeIs_int s x u) PySem.F.entry_int_rmul (PySem.F.args_int_rmul_2 _ _) (lm_int_rmul_list_any x u t vs.toArray n none #[])
   ⟨ho, rfl, ⟨_, ho, rfl⟩, call_meets PySem.F.slot_list_mul ⟨_, ho, rfl⟩ PySem.F.entry_list_mul (PySem.F.args_list_mul_2 _ _)
    (lm_list_mul_any t vs.toArray n none #[] x u (by simp [Builtin.List.listFitsIndex]; omega) (by omega) (by simp [Builtin.List.listTooLong, sizeLine]; rw [List.size_toArray] at hsz'; exact (Nat.le_of_lt (Nat.lt_of_le_of_lt hsz' ltl))))
    ⟨ho, ?_⟩⟩)
 rw [listMul_foldl_if]
 exact Post.list B R P _ (List.replicate x.toNat vs).flatten _ s.toks (fun z_ z_ e => Heap.get?_push_of_some _ e) (free_size _) ⟨0, Heap.get?_push_size _ rfl⟩ (by rw [(rl.repl x.toNat).length, repl_len]; exact sizeOk_line hsz) (rl.repl x.toNat)
theorem bAdd_ok (B : BK X s.heap) (R : RepH X ρ hp s.heap) (ha : VR X ρ s.heap va a) (hb : VR X ρ s.heap vb b) (P : Post X (RV X) ρ s (bAdd a b hp) Q E) : wpAny X.M A (binaryOp .Add va vb) Q E s := by
 cases a with
 | int x =>
  refine x11 ha.int_inv fun z_ zq12 => ?_
  subst zq12
  cases hq : asI b with
  | none => replace P : Post X (RV X) ρ s (match asI b with | some b => _ | none => _) Q E := P; rw [hq] at P; exact P.elim
  | some y =>
   obtain rfl := asI_inv hq
   refine x11 hb.int_inv fun z_ zq11 => ?_
   subst zq11
   exact PyProof.Rows.add_int (Post.same R P _ _ (.int _ _))
 | tup l =>
  refine x25 ha.tup_inv fun z_ z_ zq10 ht z_ rl hnr => ?_
  subst zq10
  cases hq : asT b with
  | none => replace P : Post X (RV X) ρ s (match asT b with | some b => _ | none => _) Q E := P; rw [hq] at P; exact P.elim
  | some m =>
   obtain rfl := asT_inv hq
   refine x25 hb.tup_inv fun z_ z_ zq9 hu z_ rm hnu => ?_
   subst zq9
   by_cases h : sizeOk (l.length + m.length) = true
   ·replace P : Post X (RV X) ρ s (if sizeOk (l.length + m.length) = true then .ok (.tup (l ++ m)) hp else .bad) Q E := P
    rw [if_pos h] at P
    exact add_tup hnr hnu R ht hu rl rm (by rw [rl.length, rm.length]; exact sizeOk_line h) P
   ·replace P : Post X (RV X) ρ s (if sizeOk (l.length + m.length) = true then .ok (.tup (l ++ m)) hp else .bad) Q E := P
    rw [if_neg h] at P; exact P.elim
 | lst n =>
  refine x12 ha.lst_inv fun z_ zq8 h1 => ?_
  subst zq8
  cases hq : asL b with
  | none => replace P : Post X (RV X) ρ s (match asL b with | some b => _ | none => _) Q E := P; rw [hq] at P; exact P.elim
  | some k =>
   obtain rfl := asL_inv hq
   refine x12 hb.lst_inv fun z_ zq7 h2 => ?_
   subst zq7
   replace P : Post X (RV X) ρ s (match lstAt hp n, lstAt hp k with | some l, some m => if sizeOk (l.length + m.length) = true then newList (l ++ m) hp else .bad | _, _ => .bad) Q E := P
   cases e1 : lstAt hp n with
   | none => rw [e1] at P; exact P.elim
   | some l => cases e2 : lstAt hp k with
    | none => rw [e1, e2] at P; exact P.elim
    | some m =>
     rw [e1, e2] at P
     dsimp only at P
     by_cases h : sizeOk (l.length + m.length) = true
     ·rw [if_pos h] at P
      refine x13 (R.lst h1 e1) fun vs il z_ rl => ?_
      refine x13 (R.lst h2 e2) fun ws im z_ rm => ?_
      exact add_lst B R il im rl rm (by rw [rl.length, rm.length]; exact sizeOk_line h) P
     ·rw [if_neg h] at P; exact P.elim
 | _ => exact P.elim
theorem bMul_ok (B : BK X s.heap) (R : RepH X ρ hp s.heap) (ha : VR X ρ s.heap va a) (hb : VR X ρ s.heap vb b) (P : Post X (RV X) ρ s (bMul a b hp) Q E) : wpAny X.M A (binaryOp .Mult va vb) Q E s := by
 cases hq : asI b with
 | none => unfold bMul at P; rw [hq] at P; exact P.elim
 | some n =>
  obtain rfl := asI_inv hq
  refine x11 hb.int_inv fun z_ zq6 => ?_
  subst zq6
  cases a with
  | int x =>
   refine x11 ha.int_inv fun z_ zq5 => ?_
   subst zq5
   replace P : Post X (RV X) ρ s (if (intOk x || intOk n) = true then .ok (.int (x * n)) hp else .bad) Q E := P
   by_cases h : (intOk x || intOk n) = true
   ·rw [if_pos h] at P
    refine PySem.P.mul_int (Post.same R P _ _ (.int _ _)) ?_
    rcases Bool.or_eq_true_iff.mp h with q | q
    ·exact IntMulOk.of_left (intOk_bits q)
    ·exact IntMulOk.of_right (intOk_bits q)
   ·rw [if_neg h] at P; exact P.elim
  | tup l =>
   refine x25 ha.tup_inv fun z_ z_ zq4 ht hz rl hnr => ?_
   subst zq4
   replace P : Post X (RV X) ρ s (if (decide (0 < n) && (intOk n && sizeOk (l.length * n.toNat))) = true then .ok (.tup (repl l n.toNat)) hp else .bad) Q E := P
   by_cases h : (decide (0 < n) && (intOk n && sizeOk (l.length * n.toNat))) = true
   ·rw [if_pos h] at P
    have h' := Bool.and_eq_true_iff.mp h
    have h'' := Bool.and_eq_true_iff.mp h'.2
    exact mul_tup hnr R ht hz rl (of_decide_eq_true h'.1) h''.1 h''.2 P
   ·rw [if_neg h] at P; exact P.elim
  | lst m =>
   refine x12 ha.lst_inv fun z_ zq3 h1 => ?_
   subst zq3
   replace P : Post X (RV X) ρ s (match lstAt hp m with | some l => if (intOk n && sizeOk (l.length * n.toNat)) = true then newList (repl l n.toNat) hp else .bad | none => .bad) Q E := P
   cases e1 : lstAt hp m with
   | none => rw [e1] at P; exact P.elim
   | some l =>
    rw [e1] at P
    dsimp only at P
    by_cases h : (intOk n && sizeOk (l.length * n.toNat)) = true
    ·rw [if_pos h] at P
     have h' := Bool.and_eq_true_iff.mp h
     refine x13 (R.lst h1 e1) fun vs il z_ rl => ?_
     exact mul_lst B R il rl h'.1 h'.2 P
    ·rw [if_neg h] at P; exact P.elim
  | _ => exact P.elim
theorem bInt_ok {f : Int → Int → Option Int} {op : Operator} (R : RepH X ρ hp s.heap) (ha : VR X ρ s.heap va a) (hb : VR X ρ s.heap vb b) (P : Post X (RV X) ρ s (bInt f a b hp) Q E)
  (h : ∀ (x y z : Int) (t u : Tok), f x y = some z → Q (.int z s.toks) { s with toks := s.toks + 1 } → wpAny X.M A (binaryOp op (.int x t) (.int y u)) Q E s) : wpAny X.M A (binaryOp op va vb) Q E s := by
 rcases bInt_inv (f := f) (p := a) (q := b) (hp := hp) with ⟨x, y, c, rfl, rfl, hf, he⟩ | he
 ·rw [he] at P
  refine x11 ha.int_inv fun z_ zq2 => ?_
  subst zq2
  refine x11 hb.int_inv fun z_ zq1 => ?_
  subst zq1
  exact h _ _ _ _ _ hf (Post.same R P _ _ (.int _ _))
 ·rw [he] at P; exact P.elim
set_option tactic.hygienic true in
theorem binop_ok {op : Operator} {mop : Bop} (hop : bopOf op = some mop) (B : BK X s.heap) (R : RepH X ρ hp s.heap) (ha : VR X ρ s.heap va a) (hb : VR X ρ s.heap vb b)
  (P : Post X (RV X) ρ s (binop mop a b hp) Q E) : wpAny X.M A (binaryOp op va vb) Q E s := by
 cases op <;> cases hop
 ·exact bAdd_ok B R ha hb P
 ·exact bInt_ok (f := fun a b => some (a - b)) R ha hb P fun x y z t u hf q => by cases hf; exact PyProof.Rows.sub_int q
 ·exact bMul_ok B R ha hb P
 ·refine bInt_ok (f := fun a b => if b ≠ 0 then some (a.fmod b) else none) R ha hb P fun x y z t u hf q => ?_
  split at hf
  ·rename_i h; cases hf; exact PyProof.Rows.mod_int' h q
  ·cases hf
 ·exact P.elim
 ·refine bInt_ok (f := fun a b => if b ≠ 0 ∧ intOk b then some (a.fdiv b) else none) R ha hb P fun x y z t u hf q => ?_
  split at hf
  ·rename_i h; cases hf; exact PyProof.Rows.floordiv_int h.1 q (.inl (intOk_pylong h.2))
  ·cases hf
end
end Mine
end
section
namespace Mine
open PySem PySem.Calls PyProof.Rows
section
variable {X : Cx} {ρ : List Addr} {hp : Hp} {h : Heap}
noncomputable def Rd (h : Heap) (v : Value) (d : PyData) (n : Nat) : Prop := (∃ as, Reads h v d as) ∧ d.canLay0 = true ∧ d.depth ≤ n
theorem snapAll_cons {f : PV → Option PyData} {p : PV} {l : List PV} {ds : List PyData} (e : snapAll f (p :: l) = some ds) : ∃ d ds', f p = some d ∧ snapAll f l = some ds' ∧ d :: ds' = ds := by
 replace e : (match f p, snapAll f l with | some d, some ds => some (d :: ds) | _, _ => none) = some ds := e
 cases h1 : f p with
 | none => rw [h1] at e; exact no e
 | some d =>
  cases h2 : snapAll f l with
  | none => rw [h1, h2] at e; exact no e
  | some ds' => rw [h1, h2] at e; exact ei23 d ds' rfl rfl (Option.some.inj e)
theorem snapAll_reads {f : PV → Option PyData} {n : Nat} (hf : ∀ p d v, f p = some d → VR X ρ h v p → Rd h v d n) :
  ∀ {l : List PV} {ds : List PyData} {vs : List Value}, snapAll f l = some ds → VRs X ρ h vs l → (∃ as, ReadsAll h vs ds as) ∧ PyData.canLayAll0 ds = true ∧ PyData.depthAll ds ≤ n := fun {l} => by
 induction l with
 | nil =>
  intro ds vs e r
  cases e; rw [r.nil_inv]; exact ⟨⟨_, .nil⟩, rfl, Nat.zero_le _⟩
 | cons p l ih =>
  intro ds vs e r
  refine x23 (snapAll_cons e) fun d ds' e1 e2 zq => ?_
  subst zq
  refine x23 r.cons_inv fun v ws zq a rr => ?_
  subst zq
  have g := hf _ _ _ e1 a
  have g' := ih e2 rr
  refine x11 g.1 fun as h1 => x11 g'.1 fun bs h4 => ⟨⟨_, .cons h1 h4⟩, ?_, ?_⟩
  ·show (d.canLay0 && PyData.canLayAll0 ds') = true
   rw [g.2.1, g'.2.1]; rfl
  ·show max d.depth (PyData.depthAll ds') ≤ n
   exact Nat.max_le.mpr ⟨g.2.2, g'.2.2⟩
theorem atom_reads {p : PV} {d : PyData} {v : Value} {n : Nat} (r : VR X ρ h v p) (e : atom p = some d) : Rd h v d n := by
 cases p with
 | none => cases e; rw [r.none_inv]; exact ⟨⟨_, .none⟩, rfl, Nat.zero_le _⟩
 | bool b => cases e; rw [r.bool_inv]; exact ⟨⟨_, .bool b⟩, rfl, Nat.zero_le _⟩
 | int i => cases e; refine x11 r.int_inv fun t zq => ?_; rw [zq]; exact ⟨⟨_, .int i t⟩, rfl, Nat.zero_le _⟩
 | str x =>
  by_cases hs : PyData.strOk x = true
  ·obtain rfl := Option.some.inj ((if_pos hs).symm.trans e)
   refine x11 r.str_inv fun t zq => ?_; rw [zq]; exact ⟨⟨_, .str x t⟩, hs, Nat.zero_le _⟩
  ·exact no ((if_neg hs).symm.trans e)
 | _ => exact no e
theorem snap_reads (R : RepH X ρ hp h) (n : Nat) : ∀ (p : PV) (d : PyData) (v : Value), snap n hp p = some d → VR X ρ h v p → Rd h v d n := by
 induction n with
 | zero => exact fun p d v e r => atom_reads r e
 | succ n ih =>
  intro p d v e r
  cases p with
  | tup l =>
   refine x12 (Option.map_eq_some_iff.mp e) fun ds e1 zq36 => ?_
   subst zq36
   refine x25 r.tup_inv fun a vs zq ht z_ rl z_ => ?_
   subst zq
   have g := snapAll_reads ih e1 rl
   refine x11 g.1 fun as h1 => ?_
   obtain ⟨o, ho, hc, k, hd⟩ := ht.tup
   exact ⟨⟨_, .tuple ho hc hd (by rwa [List.toList_toArray])⟩, g.2.1, Nat.succ_le_succ g.2.2⟩
  | lst a =>
   replace e : (match lstAt hp a with | some l => (snapAll (snap n hp) l).map PyData.list | none => none) = some d := e
   cases hl : lstAt hp a with
   | none => rw [hl] at e; exact no e
   | some l =>
    rw [hl] at e
    refine x12 (Option.map_eq_some_iff.mp e) fun ds e1 zq34 => ?_
    subst zq34
    refine x12 r.lst_inv fun b zq ha => ?_
    subst zq
    refine x13 (R.lst ha hl) fun vs il z_ rl => ?_
    obtain ⟨o, ho, hc, k, hd⟩ := il.list
    have g := snapAll_reads ih e1 rl
    refine x11 g.1 fun as h1 => ?_
    exact ⟨⟨_, .list ho hc hd (by rwa [List.toList_toArray])⟩, g.2.1, Nat.succ_le_succ g.2.2⟩
  | _ => exact atom_reads r e
theorem snap_shaped {d : PyData} (h1 : d.canLay0 = true) (h2 : d.depth ≤ snapD) : SeqAt.shaped d = true := by
 unfold SeqAt.shaped
 rw [h1, decide_eq_true (by unfold snapD at h2; exact (Nat.le_of_lt (Nat.lt_of_le_of_lt h2 ltl)))]; rfl
end
noncomputable def copOf : CmpOp → Cop
 | .Eq => .eq
 | .NotEq => .ne
 | .Lt => .lt
 | .LtE => .le
 | .Gt => .gt
 | .GtE => .ge
 | .Is => .is
 | .IsNot => .isNot
 | .In => .isin
 | .NotIn => .notin
section
variable {X : Cx} {A : Around} {s : Shared} {ρ : List Addr} {hp : Hp} {va vb : Value} {a b : PV} {Q : Value → Shared → Prop} {E : Value → Shared → Prop}
theorem cmpI_case {P : Value → Value → Bool → Prop} {f : Int → Int → Bool} {t : Bool} (ha : VR X ρ s.heap va a) (hb : VR X ρ s.heap vb b) (e : cmpI f a b = some t) (h : ∀ x y u w, P (.int x u) (.int y w) (f x y)) : P va vb t := by
 refine x23 (cmpI_inv e) fun x y z1 z2 z3 => ?_
 subst z1 z2 z3
 refine x11 ha.int_inv fun u z => ?_
 subst z
 refine x11 hb.int_inv fun w z => ?_
 subst z
 exact h x y u w
theorem pis_none {b : PV} {t : Bool} (e : pis a b = some t) : a = .none ∧ b = .none ∧ t = true := by
 by_cases h : (isNone a && isNone b) = true
 ·have e' := (if_pos h).symm.trans e
  have h' := Bool.and_eq_true_iff.mp h
  have nn : ∀ {p : PV}, isNone p = true → p = .none := fun {p} q => by cases p <;> first | rfl | cases q
  exact ⟨nn h'.1, nn h'.2, (Option.some.inj e').symm⟩
 ·exact no ((if_neg h).symm.trans e)
theorem pin_inv {p c : PV} {hp : Hp} {t : Bool} (e : pin p c hp = some t) : ∃ x l, snap snapD hp p = some x ∧ snap snapD hp c = some (.list l) ∧ t = l.any fun d => PyData.eqv d x := by
 refine x12 (Option.bind_eq_some_iff.mp e) fun x h1 e => x12 (Option.bind_eq_some_iff.mp e) fun d h2 e => x12 (Option.bind_eq_some_iff.mp e) fun l h3 e => ?_
 refine ei23 x l h1 (h2.trans ?_) (Option.some.inj e).symm
 cases d with
 | list l' => rw [Option.some.inj h3]
 | _ => exact no h3
theorem peq_reads {t : Bool} (R : RepH X ρ hp s.heap) (ha : VR X ρ s.heap va a) (hb : VR X ρ s.heap vb b) (e : peq a b hp = some t) {P : Prop} (k : ∀ da db as bs, Reads s.heap va da as → Reads s.heap vb db bs → SeqAt.shaped da = true → SeqAt.shaped db = true → t = PyData.eqv da db → P) : P := by
 refine x12 (Option.bind_eq_some_iff.mp e) fun x e1 e => x12 (Option.bind_eq_some_iff.mp e) fun y e2 e => ?_
 have g := snap_reads R _ _ _ _ e1 ha
 have g' := snap_reads R _ _ _ _ e2 hb
 exact x11 g.1 fun as h1 => x11 g'.1 fun bs h4 => k _ _ _ _ h1 h4 (snap_shaped g.2.1 g.2.2) (snap_shaped g'.2.1 g'.2.2) (Option.some.inj e).symm
theorem unitsD {n d : Nat} (hu : A.units + 80 < cLine) (hd : d ≤ snapD) : A.units + 1 + min n d < cLine :=
 Nat.lt_of_le_of_lt (Nat.add_le_add_left (Nat.le_trans (Nat.min_le_right _ _) hd) _) (Nat.lt_of_le_of_lt (by show A.units + (1 + 8) ≤ A.units + 80; exact Nat.add_le_add_left (by decide) _) hu)
theorem cmpop_ok {op : CmpOp} {t : Bool} (hu : A.units + 80 < cLine) (R : RepH X ρ hp s.heap) (ha : VR X ρ s.heap va a) (hb : VR X ρ s.heap vb b) (e : cmpop (copOf op) a b hp = some t)
  (h : ∀ tk, Q (.bool t) { s with toks := tk }) : wpAny X.M A (compareOp op va vb) Q E s := by
 cases op with
 | Eq => exact peq_reads R ha hb e fun da db as bs h1 h2 h3 h4 z => eq_dataH h1 h2 h3 h4 (Nat.lt_trans (Nat.add_lt_add_left (by decide) _) hu) (z ▸ h s.toks)
 | NotEq =>
  refine x12 (Option.map_eq_some_iff.mp e) fun t' e' z' => ?_
  exact peq_reads R ha hb e' fun da db as bs h1 h2 h3 h4 z => ne_dataH h1 h2 h3 h4 (Nat.lt_trans (Nat.add_lt_add_left (by decide) _) hu) (z ▸ z' ▸ h s.toks)
 | Lt => exact cmpI_case (P := fun va vb t => Q (.bool t) s → wpAny X.M A (compareOp .Lt va vb) Q E s) ha hb e (fun z_ z_ z_ z_ h => PyProof.Rows.lt_int h) (h s.toks)
 | LtE => exact cmpI_case (P := fun va vb t => Q (.bool t) s → wpAny X.M A (compareOp .LtE va vb) Q E s) ha hb e (fun z_ z_ z_ z_ h => PySem.P.le_int h) (h s.toks)
 | Gt => exact cmpI_case (P := fun va vb t => Q (.bool t) s → wpAny X.M A (compareOp .Gt va vb) Q E s) ha hb e (fun z_ z_ z_ z_ h => PyProof.Rows.gt_int h) (h s.toks)
 | GtE => exact no e
 | Is => exact no e
 | IsNot =>
  refine x12 (Option.map_eq_some_iff.mp e) fun t' e' z => ?_
  refine x03 (pis_none e') fun z1 z2 z3 => ?_
  subst z1 z2 z3 z
  rw [ha.none_inv, hb.none_inv]
  exact PySem.isNot_none (h s.toks)
 | In =>
  refine x23 (pin_inv e) fun x l e1 e2 z => ?_
  have g := snap_reads R _ _ _ _ e1 ha
  have g' := snap_reads R _ _ _ _ e2 hb
  exact x11 g.1 fun as h1 => x11 g'.1 fun bs h4 => PySem.SeqAt.in_list_reads h4 h1 g'.2.1 g.2.1 (unitsD hu g.2.2) (z ▸ h s.toks)
 | NotIn =>
  refine x12 (Option.map_eq_some_iff.mp e) fun t' e' z' => ?_
  refine x23 (pin_inv e') fun x l e1 e2 z => ?_
  have g := snap_reads R _ _ _ _ e1 ha
  have g' := snap_reads R _ _ _ _ e2 hb
  exact x11 g.1 fun as h1 => x11 g'.1 fun bs h4 => PySem.SeqAt.notIn_list_reads h4 h1 g'.2.1 g.2.1 (unitsD hu g.2.2) (z ▸ z' ▸ h s.toks)
theorem VRs.empty {vs : List Value} {l : List PV} {h : Heap} (rl : VRs X ρ h vs l) : (!vs.toArray.isEmpty) = !l.isEmpty := by cases rl <;> rfl
theorem truth_ok {t : Bool} {Q : Bool → Shared → Prop} (R : RepH X ρ hp s.heap) (ha : VR X ρ s.heap va a) (e : truth a hp = some t) (h : ∀ tk, Q t { s with toks := tk }) : wpAny X.M A (truthy va) Q E s := by
 cases a with
 | none => obtain rfl := Option.some.inj e; rw [ha.none_inv]; exact fun z_ z_ z_ => h s.toks
 | bool b => obtain rfl := Option.some.inj e; rw [ha.bool_inv]; exact wpAny_truthy_bool (h s.toks)
 | int i => obtain rfl := Option.some.inj e; refine x11 ha.int_inv fun u z => ?_; rw [z]; exact PySem.P.truthy_int (h s.toks)
 | tup l =>
  obtain rfl := Option.some.inj e
  refine x25 ha.tup_inv fun z_ vs z ht hz rl hnr => ?_
  rw [z]
  exact PyProof.Rows.truthy_tuple ht.tup (by rw [List.size_toArray]; rw [sizeLine_eq] at hz; omega) (by rw [rl.empty]; exact h _)
 | lst n =>
  refine x12 (Option.map_eq_some_iff.mp e) fun l hl z => ?_
  subst z
  refine x12 ha.lst_inv fun z_ z hn => ?_
  rw [z]
  refine x13 (R.lst hn hl) fun vs il hz rl => ?_
  exact wpAny_truthy_list il.list (by rw [List.size_toArray]; rw [sizeLine_eq] at hz; omega) (by rw [rl.empty]; exact h _)
 | _ => exact no e
noncomputable def tyNm : Ty → String
 | .int => "int"
 | .bool => "bool"
 | .tuple => "tuple"
 | _ => "list"
theorem isity_B {t : Ty} {b : Bool} (hB : tyIsB t = true) (e : isity a t hp = some b) : (tagOf a hp).map (tyB t) = some b := by
 cases a with
 | exc c => cases t <;> first | exact no e | (exact absurd hB Bool.false_ne_true)
 | _ => exact (if_pos hB).symm.trans e
noncomputable def IsiP (X : Cx) (A : Around) (s : Shared) (Q : Value → Shared → Prop) (E : Value → Shared → Prop) (v : Value) (k : Nat) (t : Ty) : Prop := (∀ tk, Q (.bool (tyB t k)) { s with toks := tk }) → wpAny X.M A (call (.builtin "isinstance") [v, .type (tyNm t)]) Q E s
theorem ty4 {P : Ty → Prop} {t : Ty} (hB : tyIsB t = true) (h1 : P .int) (h2 : P .bool) (h3 : P .tuple) (h4 : P .list) : P t := by
 cases t with
 | int => exact h1
 | bool => exact h2
 | tuple => exact h3
 | list => exact h4
 | _ => cases hB
theorem isity_ok {t : Ty} {b : Bool} (R : RepH X ρ hp s.heap) (ha : VR X ρ s.heap va a) (hB : tyIsB t = true) (e : isity a t hp = some b)
  (h : ∀ tk, Q (.bool b) { s with toks := tk }) : wpAny X.M A (call (.builtin "isinstance") [va, .type (tyNm t)]) Q E s := by
 refine x12 (Option.map_eq_some_iff.mp (isity_B hB e)) fun k hk hb => ?_
 subst hb
 refine (?_ : IsiP X A s Q E va k t) h
 clear h e
 cases a with
 | none =>
  obtain rfl := Option.some.inj hk
  rw [ha.none_inv]
  exact ty4 hB (fun h => PySem.IsiPair.NoneType_int (h _)) (fun h => PySem.IsiPair.NoneType_bool (h _)) (fun h => PySem.IsiPair.NoneType_tuple (h _)) (fun h => PySem.IsiPair.NoneType_list (h _))
 | bool x =>
  obtain rfl := Option.some.inj hk
  rw [ha.bool_inv]
  exact ty4 hB (fun h => PySem.IsiPair.bool_int (h s.toks)) (fun h => PySem.IsiPair.bool_bool (h s.toks)) (fun h => PySem.IsiPair.bool_tuple (h _)) (fun h => PySem.IsiPair.bool_list (h _))
 | int x =>
  obtain rfl := Option.some.inj hk
  refine x11 ha.int_inv fun u z => ?_
  rw [z]
  exact ty4 hB (fun h => PySem.IsiPair.int_int (h s.toks)) (fun h => PySem.IsiPair.int_bool (h _)) (fun h => PySem.IsiPair.int_tuple (h _)) (fun h => PySem.IsiPair.int_list (h _))
 | str x =>
  obtain rfl := Option.some.inj hk
  refine x11 ha.str_inv fun u z => ?_
  rw [z]
  exact ty4 hB (fun h => PySem.IsiPair.str_int (h _)) (fun h => PySem.IsiPair.str_bool (h _)) (fun h => PySem.IsiPair.str_tuple (h _)) (fun h => PySem.IsiPair.str_list (h _))
 | tup l =>
  obtain rfl := Option.some.inj hk
  refine x25 ha.tup_inv fun z_ vs z ht z_ rl hnr => ?_
  rw [z]
  refine x13 ht.tup fun o ho hc z_ => ?_
  exact ty4 hB (fun h => PySem.IsiPair.tuple_int ho hc (h _)) (fun h => PySem.IsiPair.tuple_bool ho hc (h _)) (fun h => PySem.IsiPair.tuple_tuple ho hc (h s.toks)) (fun h => PySem.IsiPair.tuple_list ho hc (h _))
 | lst n =>
  refine x12 ha.lst_inv fun z_ z hn => ?_
  rw [z]
  have hx : n < hp.os.length := by rw [← R.len]; exact (List.getElem?_eq_some_iff.mp hn).1
  have hm := List.getElem?_eq_getElem hx
  generalize hp.os[n] = mo at hm
  have hO := R.obj _ _ _ hn hm
  replace hk : (match hp.os[n]? with | some (.list _) => some 5 | _ => none) = some k := hk
  rw [hm] at hk
  cases mo with
  | list l =>
   obtain rfl := Option.some.inj hk
   revert hO; refine y13 fun vs il z_ z_ => ?_
   refine x13 il.list fun o ho hc z_ => ?_
   exact ty4 hB (fun h => PySem.IsiPair.list_int ho hc (h _)) (fun h => PySem.IsiPair.list_bool ho hc (h _)) (fun h => PySem.IsiPair.list_tuple ho hc (h _)) (fun h => PySem.IsiPair.list_list ho hc (h s.toks))
  | _ => exact no hk
 | _ => exact no hk
end
end Mine
end
section
namespace Mine
open PySem PySem.Calls PyProof.Rows
section
variable {X : Cx} {sc : Scope} {k : Nat}
abbrev ST (X : Cx) (sc : Scope) (k : Nat) (ex : Expr) (f : Loc → Hp → Res Bool) : Prop := Does X sc k (fun env => isTrue ex env (eval ex env)) RB f
theorem Does.congr {α β : Type} {t : Env → Sem α} {R : Rel α β} {f g : Loc → Hp → Res β} (D : Does X sc k t R f) (h : ∀ loc hp, g loc hp = f loc hp) : Does X sc k t R g :=
 fun A env s ρ loc hp Q E I Rm P => D A env s ρ loc hp Q E I Rm (by rw [h] at P; exact P)
theorem Post.bool {ρ : List Addr} {hp : Hp} {s : Shared} {Q : Value → Shared → Prop} {E : Value → Shared → Prop} {b : Bool} (R₀ : RepH X ρ hp s.heap) (P : Post X (RV X) ρ s (.ok (.bool b) hp) Q E) (tk : Nat) : Q (.bool b) { s with toks := tk } :=
 Post.same R₀ P (.bool b) tk (.bool b)
theorem se_bin {l r : Expr} {op : Operator} {mop : Bop} {pos : Pos} {f g : Loc → Hp → Res PV} (hop : bopOf op = some mop) (hl : SE X sc k l f) (hr : SE X sc k r g) :
  SE X sc k (.BinOp l op r pos) (fun loc hp => (f loc hp).bind fun a hp1 => (g loc hp1).bind fun b hp2 => binop mop a b hp2) := fun A env s ρ loc hp Q E I Rm P => by
 refine wpAny_BinOp (wp_seq hl I Rm P fun va a s₁ ρ₁ hp₁ I₁ g₁ k₁ ra e₁ P₁ Rm => ?_)
 refine wp_seq hr I₁ Rm P₁ fun vb b s₂ ρ₂ hp₂ I₂ g₂ k₂ rb e₂ P₂ Rm => ?_
 exact binop_ok hop I₂.bk I₂.rep (VR.grow ra (I₁.rep.keepF k₂) g₂) rb P₂
theorem se_neg {e : Expr} {pos : Pos} {f : Loc → Hp → Res PV} (he : SE X sc k e f) :
  SE X sc k (.UnaryOp .USub e pos) (fun loc hp => (f loc hp).bind fun a hp1 => match a with | .int i => .ok (.int (-i)) hp1 | _ => .bad) := fun A env s ρ loc hp Q E I Rm P => by
 refine wpAny_UnaryOp (wp_seq he I Rm P fun va a s₁ ρ₁ hp₁ I₁ g₁ k₁ ra e₁ P₁ Rm => ?_)
 cases ra with
 | int i t => exact PySem.P.neg_int (Post.same I₁.rep P₁ _ _ (.int _ _))
 | _ => exact P₁.elim
theorem Post.optB {α β : Type} {R : Rel α β} {ρ : List Addr} {hp : Hp} {s : Shared} {Q : α → Shared → Prop} {E : Value → Shared → Prop} {γ : Type} {o : Option γ} {g : γ → Hp → Res β} (P : Post X R ρ s ((ofOpt o hp).bind g) Q E) :
  ∃ b, o = some b ∧ Post X R ρ s (g b hp) Q E := by
 cases o with
 | none => exact P.elim
 | some b => exact ei12 b rfl P
theorem Post.opt {α β : Type} {R : Rel α β} {ρ : List Addr} {hp : Hp} {s : Shared} {Q : α → Shared → Prop} {E : Value → Shared → Prop} {o : Option β} (P : Post X R ρ s (ofOpt o hp) Q E) :
  ∃ b, o = some b ∧ Post X R ρ s (.ok b hp) Q E := by
 cases o with
 | none => exact P.elim
 | some b => exact ei12 b rfl P
theorem se_not {e : Expr} {pos : Pos} {f : Loc → Hp → Res PV} (he : SE X sc k e f) :
  SE X sc k (.UnaryOp .Not e pos) (fun loc hp => (f loc hp).bind fun a hp1 => (ofOpt (truth a hp1) hp1).bind fun b hp2 => .ok (.bool (!b)) hp2) := fun A env s ρ loc hp Q E I Rm P => by
 refine wpAny_UnaryOp (wp_seq he I Rm P fun va a s₁ ρ₁ hp₁ I₁ g₁ k₁ ra e₁ P₁ Rm => ?_)
 refine x12 (Post.optB P₁) fun b hb P₂ => ?_
 exact PySem.not_value (truth_ok I₁.rep ra hb fun tk => Post.bool I₁.rep P₂ tk)
theorem st_val {e : Expr} {f : Loc → Hp → Res PV} (he : SE X sc k e f) (hi : ∀ env whole, isTrue e env whole = (do let v ← whole; standAt e.pos; holding [v] (truthy v))) :
  ST X sc k e (fun loc hp => (f loc hp).bind fun v hp1 => ofOpt (truth v hp1) hp1) := fun A env s ρ loc hp Q E I Rm P => by
 refine PySem.wpAny_isTrue_value (wp_seq he I Rm P fun va a s₁ ρ₁ hp₁ I₁ g₁ k₁ ra e₁ P₁ Rm => ?_) (hi env _)
 refine x12 (Post.opt P₁) fun b hb P₂ => ?_
 exact truth_ok I₁.rep ra hb fun tk => Post.same I₁.rep P₂ b tk rfl
theorem st_not {e : Expr} {pos : Pos} {f : Loc → Hp → Res Bool} (he : ST X sc k e f) : ST X sc k (.UnaryOp .Not e pos) (fun loc hp => (f loc hp).bind fun b hp1 => .ok (!b) hp1) :=
 fun A env s ρ loc hp Q E I Rm P => by
 dsimp only at P
 refine wpAny_isTrue_Not ?_
 refine he A env s ρ loc hp _ E I Rm ?_
 cases hr : f loc hp with
 | ok b hp1 => rw [hr] at P; exact fun a h' tk ρ' g kk rr rel => P (!a) h' tk ρ' g kk rr (by rw [show a = b from rel]; rfl)
 | exc c hp1 => rw [hr] at P; exact P
 | bad => rw [hr] at P; exact P
inductive SEs (X : Cx) (sc : Scope) (k : Nat) : List Expr → List (Loc → Hp → Res PV) → Prop
 | nil : SEs X sc k [] []
 | cons {e : Expr} {es : List Expr} {f : Loc → Hp → Res PV} {fs : List (Loc → Hp → Res PV)} : SE X sc k e f → (∀ env, starEach (e :: es) env = (false, eval e env) :: starEach es env) → SEs X sc k es fs → SEs X sc k (e :: es) (f :: fs)
inductive STs (X : Cx) (sc : Scope) (k : Nat) : List Expr → List (Loc → Hp → Res Bool) → Prop
 | nil : STs X sc k [] []
 | cons {e : Expr} {es : List Expr} {f : Loc → Hp → Res Bool} {fs : List (Loc → Hp → Res Bool)} : ST X sc k e f → STs X sc k es fs → STs X sc k (e :: es) (f :: fs)
noncomputable def runBool (b : Bool) : List (Loc → Hp → Res PV) → Loc → Hp → Res PV
 | [], _, _ => .bad
 | [f], loc, hp => f loc hp
 | f :: r, loc, hp => (f loc hp).bind fun v hp1 => (ofOpt (truth v hp1) hp1).bind fun t hp2 => if t = b then runBool b r loc hp2 else .ok v hp2
noncomputable def runTs (b : Bool) : List (Loc → Hp → Res Bool) → Loc → Hp → Res Bool
 | [], _, hp => .ok b hp
 | f :: r, loc, hp => (f loc hp).bind fun t hp1 => if t = b then runTs b r loc hp1 else .ok t hp1
noncomputable def runEs : List (Loc → Hp → Res PV) → Loc → Hp → Res (List PV)
 | [], _, hp => .ok [] hp
 | f :: r, loc, hp => (f loc hp).bind fun v hp1 => (runEs r loc hp1).bind fun vs hp2 => .ok (v :: vs) hp2
noncomputable def boolOf : BoolOp → Bool
 | .And => true
 | .Or => false
theorem do_boolOp {op : BoolOp} {pos : Pos} {es : List Expr} {fs : List (Loc → Hp → Res PV)} (h : SEs X sc k es fs) : Does X sc k (fun env => boolOp pos op (evalEach es env)) (RV X) (runBool (boolOf op) fs) := by
 induction h with
 | nil => exact fun A env s ρ loc hp Q E I Rm P => P.elim
 | @cons e es f fs he hs r ih =>
  intro A env s ρ loc hp Q E I Rm P
  cases r with
  | nil => exact he A env s ρ loc hp Q E I Rm P
  | @cons e' es f' fs he' hs' r =>
  show wpAny X.M A (do
   let v ← eval e env
   standAt pos
   let t ← holding [v] (truthy v)
   match op, t with
   | .And, false | .Or, true => pure v
   | _, _ => boolOp pos op (evalEach (e' :: es) env)) Q E s
  have P' : Post X (RV X) ρ s ((f loc hp).bind fun v hp1 => (ofOpt (truth v hp1) hp1).bind fun t hp2 => if t = boolOf op then runBool (boolOf op) (f' :: fs) loc hp2 else .ok v hp2) Q E := P
  refine wpAny_bind (wp_seq he I Rm P' fun va a s₁ ρ₁ hp₁ I₁ g₁ k₁ ra e₁ P₁ Rm => wpAny_bind (wpAny_standAt (wpAny_bind (wpAny_holding ?_))))
  refine x12 (Post.optB P₁) fun t ht P₂ => ?_
  refine wpAny_pos Rm.pos (truth_ok I₁.rep ra ht fun tk hpos => ?_)
  replace Rm : Room X A k ρ₁ { s₁ with toks := tk } := Rm.after (Grow.refl _ _) (Keep.refl _ _) hpos
  have hs : Post X (RV X) ρ₁ { s₁ with toks := tk } (if t = boolOf op then runBool (boolOf op) (f' :: fs) loc hp₁ else .ok a hp₁) Q E :=
   P₂.later (tk := tk) I₁.rep I₁.rep (Grow.refl _ _) (Keep.refl _ _) I₁.rep.isSome
  have I₂ : Inv X sc env ρ₁ loc hp₁ ({ s₁ with toks := tk } : Shared).heap := I₁
  cases op <;> cases t
  ·exact wpAny_pure (Post.same (s := { s₁ with toks := tk }) I₁.rep hs va tk ra)
  ·exact ih A env _ ρ₁ loc hp₁ Q E I₂ Rm hs
  ·exact ih A env _ ρ₁ loc hp₁ Q E I₂ Rm hs
  ·exact wpAny_pure (Post.same (s := { s₁ with toks := tk }) I₁.rep hs va tk ra)
theorem se_boolOp {op : BoolOp} {pos : Pos} {es : List Expr} {fs : List (Loc → Hp → Res PV)} (h : SEs X sc k es fs) : SE X sc k (.BoolOp op es pos) (runBool (boolOf op) fs) := do_boolOp h
set_option tactic.hygienic true in
theorem do_allTrue {op : BoolOp} {es : List Expr} {fs : List (Loc → Hp → Res Bool)} (h : STs X sc k es fs) : Does X sc k (fun env => allTrue op es env) RB (runTs (boolOf op) fs) := by
 induction h with
 | nil =>
  intro A env s ρ loc hp Q E I Rm P
  cases op
  ·exact wpAny_allTrue_And_nil (Post.same I.rep P true s.toks rfl)
  ·exact wpAny_allTrue_Or_nil (Post.same I.rep P false s.toks rfl)
 | @cons e es f fs he r ih =>
  intro A env s ρ loc hp Q E I Rm P
  have P' : Post X RB ρ s ((f loc hp).bind fun t hp1 => if t = boolOf op then runTs (boolOf op) fs loc hp1 else .ok t hp1) Q E := P
  have step : ∀ t s₁ ρ₁ hp₁, Inv X sc env ρ₁ loc hp₁ s₁.heap → Post X RB ρ₁ s₁ (if t = boolOf op then runTs (boolOf op) fs loc hp₁ else .ok t hp₁) Q E → Room X A k ρ₁ s₁ → (if t = boolOf op then wpAny X.M A (allTrue op es env) Q E s₁ else Q t s₁) := fun t s₁ ρ₁ hp₁ I₁ P₁ Rm => by
   split
   ·rename_i hq; rw [if_pos hq] at P₁; exact ih A env _ ρ₁ loc hp₁ Q E I₁ Rm P₁
   ·rename_i hq; rw [if_neg hq] at P₁; exact Post.same I₁.rep P₁ t s₁.toks rfl
  cases op
  ·refine wpAny_allTrue_And_cons (wp_seq he I Rm P' fun t t' s₁ ρ₁ hp₁ I₁ g₁ k₁ rel e₁ P₁ Rm => ?_)
   obtain rfl : t = t' := rel
   have := step t s₁ ρ₁ hp₁ I₁ P₁ Rm
   cases t <;> simpa [boolOf] using this
  ·refine wpAny_allTrue_Or_cons (wp_seq he I Rm P' fun t t' s₁ ρ₁ hp₁ I₁ g₁ k₁ rel e₁ P₁ Rm => ?_)
   obtain rfl : t = t' := rel
   have := step t s₁ ρ₁ hp₁ I₁ P₁ Rm
   cases t <;> simpa [boolOf] using this
theorem st_boolOp {op : BoolOp} {pos : Pos} {es : List Expr} {fs : List (Loc → Hp → Res Bool)} (h : STs X sc k es fs) : ST X sc k (.BoolOp op es pos) (runTs (boolOf op) fs) :=
 fun A env s ρ loc hp Q E I Rm P => PySem.wpAny_isTrue_BoolOp (do_allTrue h A env s ρ loc hp Q E I Rm P)
end
end Mine
end
section
namespace Mine
open PySem PySem.Calls PyProof.Rows
section
variable {X : Cx} {sc : Scope} {k : Nat}
noncomputable def runCmp : PV → List Cop → List (Loc → Hp → Res PV) → Loc → Hp → Res Bool
 | a, [op], [f], loc, hp => (f loc hp).bind fun b hp1 => ofOpt (cmpop op a b hp1) hp1
 | a, op :: ops, f :: fs, loc, hp => (f loc hp).bind fun b hp1 => (ofOpt (cmpop op a b hp1) hp1).bind fun t hp2 => if t then runCmp b ops fs loc hp2 else .ok false hp2
 | _, _, _, _, _ => .bad
theorem markedEach_plain : ∀ (ops : List CmpOp) (es : List Expr) (env : Env), lastMarks ops es = false → markedEach ops es (evalEach es env) = evalEach es env
 | [], es, env, _ => by cases es with
  | nil => rfl
  | cons e r => cases r <;> rfl
 | [op], [], env, _ => rfl
 | [op], [e], env, h => by
  show [markedBehindIn op e (eval e env)] = [eval e env]
  rw [markedBehindIn_of_false h]
 | [op], e :: e' :: r, env, h => by
  show eval e env :: markedEach [] (e' :: r) (evalEach (e' :: r) env) = _
  rw [markedEach_plain [] (e' :: r) env rfl]; rfl
 | op :: op' :: ops, [], env, _ => rfl
 | op :: op' :: ops, e :: r, env, h => by
  show eval e env :: markedEach (op' :: ops) r (evalEach r env) = _
  rw [markedEach_plain (op' :: ops) r env h]; rfl
theorem Post.tok {α β : Type} {R : Rel α β} {ρ : List Addr} {hp : Hp} {s : Shared} {tk : Nat} {r : Res β} {Q : α → Shared → Prop} {E : Value → Shared → Prop} (R₀ : RepH X ρ hp s.heap) (P : Post X R ρ s r Q E) :
  Post X R ρ { s with toks := tk } r Q E := P.later (tk := tk) R₀ R₀ (Grow.refl _ _) (Keep.refl _ _) R₀.isSome
theorem units_of {A : Around} {ρ : List Addr} {s : Shared} (Rm : Room X A k ρ s) : A.units + 80 < cLine := by have := Rm.units; omega
theorem compareChain_ok {pos : Pos} : ∀ {es : List Expr} {fs : List (Loc → Hp → Res PV)} (h : SEs X sc k es fs) (ops : List CmpOp) (hlen : ops.length = es.length) {A : Around} {env : Env} {s : Shared} {ρ : List Addr} {loc : Loc} {hp : Hp} {Q : Value → Shared → Prop} {E : Value → Shared → Prop} {va : Value} {a : PV},
  Inv X sc env ρ loc hp s.heap → Room X A k ρ s → VR X ρ s.heap va a → Post X (RV X) ρ s ((runCmp a (ops.map copOf) fs loc hp).bind fun b hp2 => .ok (.bool b) hp2) Q E →
  wpAny X.M A (compareChain pos va ops (evalEach es env)) Q E s := by
 intro es fs h
 induction h with
 | nil => intro ops hlen A env s ρ loc hp Q E va a I Rm ra P; cases ops with
  | nil => exact P.elim
  | cons op r => cases r <;> exact P.elim
 | @cons e es f fs he hs r ih =>
  intro ops hlen A env s ρ loc hp Q E va a I Rm ra P
  cases ops with
  | nil => exact P.elim
  | cons op ops =>
   cases ops with
   | nil =>
    cases r with
    | nil =>
     show wpAny X.M A (do let rv ← holding [va] (eval e env); standAt pos; operate [va, rv] (compareOp op va rv)) Q E s
     have P' : Post X (RV X) ρ s ((f loc hp).bind fun b hp1 => (ofOpt (cmpop (copOf op) a b hp1) hp1).bind fun t hp2 => .ok (.bool t) hp2) Q E := by
      have : ((f loc hp).bind fun b hp1 => (ofOpt (cmpop (copOf op) a b hp1) hp1).bind fun t hp2 => Res.ok (PV.bool t) hp2) = (runCmp a ([op].map copOf) [f] loc hp).bind fun b hp2 => Res.ok (PV.bool b) hp2 := by
       show _ = ((f loc hp).bind fun b hp1 => ofOpt (cmpop (copOf op) a b hp1) hp1).bind _
       cases f loc hp <;> rfl
      rw [this]; exact P
     refine wpAny_bind (wpAny_holding (wp_seq he I Rm P' fun vb b s₁ ρ₁ hp₁ I₁ g₁ k₁ rb e₁ P₁ Rm => wpAny_bind (wpAny_standAt ?_)))
     refine x12 (Post.optB P₁) fun t ht P₂ => ?_
     refine fun Γ p hΓ => ?_
     rw [Sem.wp_operate]
     exact cmpop_ok (units_of Rm) I₁.rep (VR.grow ra (I.rep.keepF k₁) g₁) rb ht (fun tk => Post.bool I₁.rep P₂ tk) Γ p hΓ
    | cons _ _ _ => simp at hlen
   | cons op' ops =>
    show wpAny X.M A (do
     let rv ← holding [va] (eval e env)
     standAt pos
     let c ← holding [va, rv] (compareOp op va rv)
     release [va, rv] [c]
     if ← holding [c, rv] (truthy c) then compareChain pos rv (op' :: ops) (evalEach es env) else pure c) Q E s
    have P' : Post X (RV X) ρ s ((f loc hp).bind fun b hp1 => (ofOpt (cmpop (copOf op) a b hp1) hp1).bind fun t hp2 => if t then (runCmp b ((op' :: ops).map copOf) fs loc hp2).bind fun b hp2 => .ok (.bool b) hp2 else .ok (.bool false) hp2) Q E := by
     have : ((f loc hp).bind fun b hp1 => (ofOpt (cmpop (copOf op) a b hp1) hp1).bind fun t hp2 => if t then (runCmp b ((op' :: ops).map copOf) fs loc hp2).bind fun b hp2 => Res.ok (PV.bool b) hp2 else Res.ok (PV.bool false) hp2) =
       (runCmp a ((op :: op' :: ops).map copOf) (f :: fs) loc hp).bind fun b hp2 => Res.ok (PV.bool b) hp2 := by
      show _ = ((f loc hp).bind fun b hp1 => (ofOpt (cmpop (copOf op) a b hp1) hp1).bind fun t hp2 => if t then runCmp b ((op' :: ops).map copOf) fs loc hp2 else .ok false hp2).bind _
      cases f loc hp with
      | ok b hp1 =>
       simp only [Res.bind_ok]
       cases cmpop (copOf op) a b hp1 with
       | none => rfl
       | some t => cases t <;> rfl
      | exc c hp1 => rfl
      | bad => rfl
     rw [this]; exact P
    refine wpAny_bind (wpAny_holding (wp_seq he I Rm P' fun vb b s₁ ρ₁ hp₁ I₁ g₁ k₁ rb e₁ P₁ Rm => wpAny_bind (wpAny_standAt (wpAny_bind (wpAny_holding ?_)))))
    refine x12 (Post.optB P₁) fun t ht P₂ => ?_
    refine wpAny_pos Rm.pos (cmpop_ok (units_of Rm) I₁.rep (VR.grow ra (I.rep.keepF k₁) g₁) rb ht fun tk hpos => ?_)
    replace Rm : Room X A k ρ₁ { s₁ with toks := tk } := Rm.after (Grow.refl _ _) (Keep.refl _ _) hpos
    refine wpAny_bind (fun Γ p hΓ => ?_)
    rw [Sem.wp_release]
    show wpAny X.M A _ Q E { s₁ with toks := tk }
    refine wpAny_bind (wpAny_holding (wpAny_truthy_bool ?_))
    cases t with
    | true => exact ih (op' :: ops) (by simpa using hlen) (s := { s₁ with toks := tk }) I₁ Rm rb (P₂.tok I₁.rep)
    | false => exact wpAny_pure (Post.bool I₁.rep P₂ tk)
theorem testChain_ok {pos : Pos} : ∀ {es : List Expr} {fs : List (Loc → Hp → Res PV)} (h : SEs X sc k es fs) (ops : List CmpOp) (hlen : ops.length = es.length) {A : Around} {env : Env} {s : Shared} {ρ : List Addr} {loc : Loc} {hp : Hp} {Q : Bool → Shared → Prop} {E : Value → Shared → Prop} {va : Value} {a : PV},
  Inv X sc env ρ loc hp s.heap → Room X A k ρ s → VR X ρ s.heap va a → Post X RB ρ s (runCmp a (ops.map copOf) fs loc hp) Q E →
  wpAny X.M A (testChain pos va ops (evalEach es env)) Q E s := by
 intro es fs h
 induction h with
 | nil => intro ops hlen A env s ρ loc hp Q E va a I Rm ra P; cases ops with
  | nil => exact P.elim
  | cons op r => cases r <;> exact P.elim
 | @cons e es f fs he hs r ih =>
  intro ops hlen A env s ρ loc hp Q E va a I Rm ra P
  cases ops with
  | nil => exact P.elim
  | cons op ops =>
   cases ops with
   | nil =>
    cases r with
    | nil =>
     show wpAny X.M A (do let rv ← holding [va] (eval e env); standAt pos; let c ← operate [va, rv] (compareOp op va rv); holding [c] (truthy c)) Q E s
     have P' : Post X RB ρ s ((f loc hp).bind fun b hp1 => ofOpt (cmpop (copOf op) a b hp1) hp1) Q E := P
     refine wpAny_bind (wpAny_holding (wp_seq he I Rm P' fun vb b s₁ ρ₁ hp₁ I₁ g₁ k₁ rb e₁ P₁ Rm => wpAny_bind (wpAny_standAt ?_)))
     refine x12 (Post.opt P₁) fun t ht P₂ => ?_
     refine wpAny_bind (fun Γ p hΓ => ?_)
     rw [Sem.wp_operate]
     refine cmpop_ok (units_of Rm) I₁.rep (VR.grow ra (I.rep.keepF k₁) g₁) rb ht (fun tk => ?_) Γ p hΓ
     exact wpAny_holding (wpAny_truthy_bool (Post.same I₁.rep P₂ t tk rfl))
    | cons _ _ _ => simp at hlen
   | cons op' ops =>
    show wpAny X.M A (do
     let rv ← holding [va] (eval e env)
     standAt pos
     let c ← holding [va, rv] (compareOp op va rv)
     release [va, rv] [c]
     if ← holding [c, rv] (truthy c) then testChain pos rv (op' :: ops) (evalEach es env) else pure false) Q E s
    have P' : Post X RB ρ s ((f loc hp).bind fun b hp1 => (ofOpt (cmpop (copOf op) a b hp1) hp1).bind fun t hp2 => if t then runCmp b ((op' :: ops).map copOf) fs loc hp2 else .ok false hp2) Q E := P
    refine wpAny_bind (wpAny_holding (wp_seq he I Rm P' fun vb b s₁ ρ₁ hp₁ I₁ g₁ k₁ rb e₁ P₁ Rm => wpAny_bind (wpAny_standAt (wpAny_bind (wpAny_holding ?_)))))
    refine x12 (Post.optB P₁) fun t ht P₂ => ?_
    refine wpAny_pos Rm.pos (cmpop_ok (units_of Rm) I₁.rep (VR.grow ra (I.rep.keepF k₁) g₁) rb ht fun tk hpos => ?_)
    replace Rm : Room X A k ρ₁ { s₁ with toks := tk } := Rm.after (Grow.refl _ _) (Keep.refl _ _) hpos
    refine wpAny_bind (fun Γ p hΓ => ?_)
    rw [Sem.wp_release]
    show wpAny X.M A _ Q E { s₁ with toks := tk }
    refine wpAny_bind (wpAny_holding (wpAny_truthy_bool ?_))
    cases t with
    | true => exact ih (op' :: ops) (by simpa using hlen) (s := { s₁ with toks := tk }) I₁ Rm rb (P₂.tok I₁.rep)
    | false => exact wpAny_pure (Post.same I₁.rep P₂ false tk rfl)
theorem se_cmp {l : Expr} {ops : List CmpOp} {es : List Expr} {pos : Pos} {f : Loc → Hp → Res PV} {fs : List (Loc → Hp → Res PV)} (hl : SE X sc k l f) (h : SEs X sc k es fs) (hm : lastMarks ops es = false) (hlen : ops.length = es.length) :
  SE X sc k (.Compare l ops es pos) (fun loc hp => (f loc hp).bind fun a hp1 => (runCmp a (ops.map copOf) fs loc hp1).bind fun b hp2 => .ok (.bool b) hp2) := fun A env s ρ loc hp Q E I Rm P => by
 show wpAny X.M A (do compareChain pos (← eval l env) ops (markedEach ops es (evalEach es env))) Q E s
 rw [markedEach_plain ops es env hm]
 exact wpAny_bind (wp_seq hl I Rm P fun va a s₁ ρ₁ hp₁ I₁ g₁ k₁ ra e₁ P₁ Rm => compareChain_ok h ops hlen I₁ Rm ra P₁)
theorem st_cmp {l : Expr} {ops : List CmpOp} {es : List Expr} {pos : Pos} {f : Loc → Hp → Res PV} {fs : List (Loc → Hp → Res PV)} (hl : SE X sc k l f) (h : SEs X sc k es fs) (hm : lastMarks ops es = false) (hlen : ops.length = es.length) :
  ST X sc k (.Compare l ops es pos) (fun loc hp => (f loc hp).bind fun a hp1 => runCmp a (ops.map copOf) fs loc hp1) := fun A env s ρ loc hp Q E I Rm P => by
 show wpAny X.M A (do testChain pos (← eval l env) ops (markedEach ops es (evalEach es env))) Q E s
 rw [markedEach_plain ops es env hm]
 exact wpAny_bind (wp_seq hl I Rm P fun va a s₁ ρ₁ hp₁ I₁ g₁ k₁ ra e₁ P₁ Rm => testChain_ok h ops hlen I₁ Rm ra P₁)
theorem do_spliced {pos : Pos} {es : List Expr} {fs : List (Loc → Hp → Res PV)} (h : SEs X sc k es fs) : Does X sc k (fun env => spliced (backTo pos (starEach es env))) (RVs X) (runEs fs) := by
 induction h with
 | nil => exact fun A env s ρ loc hp Q E I Rm P => PySem.wpAny_items_nil (Post.same I.rep P [] s.toks .nil)
 | cons he hs r ih =>
  intro A env s ρ loc hp Q E I Rm P
  refine PySem.wpAny_items_cons ?_ (hs env)
  refine wp_seq he I Rm P fun va a s₁ ρ₁ hp₁ I₁ g₁ k₁ ra e₁ P₁ Rm => ?_
  refine wp_seq ih I₁ Rm P₁ fun vs ps s₂ ρ₂ hp₂ I₂ g₂ k₂ rs e₂ P₂ Rm => ?_
  exact Post.same I₂.rep P₂ (va :: vs) s₂.toks (.cons (VR.grow ra (I₁.rep.keepF k₂) g₂) rs)
theorem runEs_len {fs : List (Loc → Hp → Res PV)} {loc : Loc} : ∀ {hp hp' : Hp} {vs : List PV}, runEs fs loc hp = .ok vs hp' → vs.length = fs.length := by
 induction fs with
 | nil => intro hp hp' vs e; cases e; rfl
 | cons f fs ih =>
  intro hp hp' vs e
  refine Res.bindI (show ((f loc hp).bind fun v hp1 => (runEs fs loc hp1).bind fun vs hp2 => Res.ok (v :: vs) hp2) = .ok vs hp' from e) fun v hp1 z_ e => Res.bindI e fun ws hp2 h2 e => ?_
  cases e
  exact congrArg Nat.succ (ih h2)
theorem SEs.length {es : List Expr} {fs : List (Loc → Hp → Res PV)} (h : SEs X sc k es fs) : es.length = fs.length := by
 induction h with
 | nil => rfl
 | cons _ _ _ ih => rw [List.length_cons, List.length_cons, ih]
theorem se_tuple {es : List Expr} {fs : List (Loc → Hp → Res PV)} {n : Nat} {pos : Pos} (h : SEs X sc k es fs) (hz : es.length ≤ 1000) :
  SE X sc k (.Tuple es n pos) (fun loc hp => (runEs fs loc hp).bind fun vs hp1 => .ok (.tup vs) hp1) := fun A env s ρ loc hp Q E I Rm P => by
 refine PySem.wpAny_Tuple (wp_seq (do_spliced h) I Rm P fun vs ps s₁ ρ₁ hp₁ I₁ g₁ k₁ rs e₁ P₁ Rm => ?_)
 have hl : vs.length ≤ sizeLine := by rw [VRs.length rs, runEs_len e₁, ← h.length, sizeLine_eq]; exact (Nat.le_of_lt (Nat.lt_of_le_of_lt hz ltl))
 exact ⟨hl, Post.made I₁.rep P₁ (.ref _) _ s₁.toks (fun z_ z_ e => Heap.get?_push_of_some _ e) (.tup ⟨0, Heap.get?_push_size _ rfl⟩ hl (VRs.keepF rs (KeepF.of_all fun z_ z_ e => Heap.get?_push_of_some _ e)) (I₁.rep.free (free_size _)))⟩
theorem se_list {es : List Expr} {fs : List (Loc → Hp → Res PV)} {pos : Pos} (h : SEs X sc k es fs) (hz : es.length ≤ 1000) :
  SE X sc k (.List es pos) (fun loc hp => (runEs fs loc hp).bind fun vs hp1 => newList vs hp1) := fun A env s ρ loc hp Q E I Rm P => by
 refine PySem.wpAny_List (wp_seq (do_spliced h) I Rm P fun vs ps s₁ ρ₁ hp₁ I₁ g₁ k₁ rs e₁ P₁ Rm => ?_)
 have hl : vs.length ≤ sizeLine := by rw [VRs.length rs, runEs_len e₁, ← h.length, sizeLine_eq]; exact (Nat.le_of_lt (Nat.lt_of_le_of_lt hz ltl))
 exact ⟨hl, Post.list I₁.bk I₁.rep P₁ _ vs _ s₁.toks (fun z_ z_ e => Heap.get?_push_of_some _ e) (free_size _) ⟨0, Heap.get?_push_size _ rfl⟩ hl rs⟩
end
end Mine
end
section
namespace Mine
open PySem PySem.Calls PyProof.Rows
theorem cutLo_clip (x : Int) (n : Nat) : cutLo (some x) n = clipAt n x := rfl
theorem cutHi_clip (x : Int) (n : Nat) : cutHi (some x) n = clipAt n x := rfl
theorem sliceAdjust_one (lo hi : Option Int) (n : Nat) : Builtin.Slice.sliceAdjust lo hi 1 (n : Int) = ((cutLo lo n : Int), (cutHi hi n : Int)) := by
 unfold Builtin.Slice.sliceAdjust
 have h1 : ¬ ((1 : Int) < 0) := by exact (Int.not_lt.mpr (Int.le_of_lt ilt))
 simp only [h1, if_false]
 have key : ∀ x : Int, (if x < 0 then max (x + n) 0 else min x (n : Int)) = (((max 0 (min (if x < 0 then x + n else x) (n : Int))).toNat : Nat) : Int) := by
  intro x
  rw [Int.toNat_of_nonneg (Int.le_max_left _ _)]
  by_cases h : x < 0
  ·rw [if_pos h, if_pos h, Int.min_eq_left (by omega), Int.max_comm]
  ·rw [if_neg h, if_neg h, Int.max_eq_right (Int.le_min.mpr ⟨Int.not_lt.mp h, Int.natCast_nonneg _⟩)]
 cases lo <;> cases hi <;> simp only [cutLo, cutHi, key] <;> rfl
set_option tactic.hygienic true in
theorem slicePlaces_one (a b : Nat) : Builtin.Slice.slicePlaces (a : Int) (b : Int) 1 = b - a := by
 unfold Builtin.Slice.slicePlaces
 have h1 : (1 : Int) > 0 := by exact ilt
 simp only [h1, if_true, Int.ediv_one]
 split
 ·rw [Int.sub_add_cancel]; exact Int.toNat_sub b a
 ·rename_i h; exact (Nat.sub_eq_zero_of_le (Int.ofNat_le.mp (Int.not_lt.mp h))).symm
theorem pick_cut (xs : List Value) (lo hi : Option Int) : ((List.range (cutHi hi xs.length - cutLo lo xs.length)).filterMap fun (k : Nat) => xs.toArray[((cutLo lo xs.length : Int) + (k : Int) * 1).toNat]?) = cut xs lo hi := by
 have e : (fun (k : Nat) => xs.toArray[((cutLo lo xs.length : Int) + (k : Int) * 1).toNat]?) = fun k => xs.toArray[cutLo lo xs.length + k]? := by
  funext k
  have : ((cutLo lo xs.length : Int) + (k : Int) * 1).toNat = cutLo lo xs.length + k := by rw [Int.mul_one, ← Int.natCast_add, Int.toNat_natCast]
  rw [this]
 rw [e]
 have := pick_run xs.toArray (cutLo lo xs.length) (cutHi hi xs.length - cutLo lo xs.length)
 rw [List.filterMap_map] at this
 have e2 : ((fun x => xs.toArray[x]?) ∘ fun x => cutLo lo xs.length + x) = fun k => xs.toArray[cutLo lo xs.length + k]? := rfl
 rw [e2] at this
 rw [this]
 unfold cut
 rw [List.drop_take]
theorem cut_len {α : Type} (l : List α) (lo hi : Option Int) : (cut l lo hi).length ≤ l.length := by
 unfold cut; rw [List.length_drop, List.length_take]; exact Nat.le_trans (Nat.sub_le _ _) (Nat.min_le_right _ _)
theorem VRs.cut {X : Cx} {ρ : List Addr} {h : Heap} {vs : List Value} {ps : List PV} (r : VRs X ρ h vs ps) (lo hi : Option Int) : VRs X ρ h (Mine.cut vs lo hi) (Mine.cut ps lo hi) := by
 unfold Mine.cut; rw [r.length]; exact VRs.drop _ (VRs.take _ r)
section
variable {prog : Program} {w : World} {A : Around} {E : Value → Shared → Prop} {s : Shared}
theorem slicePart_ok {v : Value} {o : Option Int} {Q : Option Int → Shared → Prop} (p : IsPart v o) (h : Q o s) : wpAny (model prog w) A (Builtin.Slice.slicePartIndex v) Q E s := by
 cases p with
 | none => exact slicePart_none h
 | int i t => exact slicePart_int h
theorem sliceApplied_ok {sl : Addr} {vl vu : Value} {lo hi : Option Int} {n : Nat} {Q : Int × Int × Nat → Shared → Prop} (hs : s.heap.IsSliceOf sl vl vu .none) (pl : IsPart vl lo) (pu : IsPart vu hi)
  (h : Q ((cutLo lo n : Int), 1, cutHi hi n - cutLo lo n) s) : wpAny (model prog w) A (Builtin.Slice.sliceApplied (.ref sl) (pure (n : Int))) Q E s := by
 refine x13 (id hs) fun os hos hcs hds => ?_
 unfold Builtin.Slice.sliceApplied Builtin.Slice.sliceFields
 refine wpAny_bind (wpAny_bind (wpAny_field hos hds (x := vl) rfl (wpAny_bind (wpAny_field hos hds (x := vu) rfl (wpAny_bind (wpAny_field hos hds (x := .none) rfl (wpAny_pure ?_)))))))
 refine wpAny_bind (slicePart_none ?_)
 show wpAny _ _ (if ((1 : Int) == 0) = true then _ else _) _ _ s
 rw [if_neg (by decide)]
 refine wpAny_bind (slicePart_ok pl (wpAny_bind (slicePart_ok pu (wpAny_bind (wpAny_pure ?_)))))
 show wpAny _ _ (match Builtin.Slice.sliceAdjust lo hi 1 (n : Int) with | (lo, hi) => pure (lo, (1 : Int), Builtin.Slice.slicePlaces lo hi 1)) _ _ s
 rw [sliceAdjust_one]
 show wpAny _ _ (pure ((cutLo lo n : Int), (1 : Int), Builtin.Slice.slicePlaces (cutLo lo n : Int) (cutHi hi n : Int) 1)) _ _ s
 rw [slicePlaces_one]
 exact wpAny_pure h
theorem cut_whole {α : Type} {l : List α} {lo hi : Option Int} (h1 : cutLo lo l.length = 0) (h2 : cutHi hi l.length - cutLo lo l.length = l.length) : cut l lo hi = l := by
 unfold cut
 rw [h1, List.drop_zero, List.take_of_length_le (by omega)]
theorem getItem_tuple_cut {t sl : Addr} {vs : List Value} {vl vu : Value} {lo hi : Option Int} {Q : Value → Shared → Prop} (ht : IsTup s.heap t vs.toArray) (hs : s.heap.IsSliceOf sl vl vu .none) (pl : IsPart vl lo) (pu : IsPart vu hi)
  (hsz : vs.length ≤ sizeLine) (h1 : cut vs lo hi = vs → Q (.ref t) s)
  (h2 : Q (.ref s.heap.objs.size) { s with heap := s.heap.push { cls := .type "tuple", data := .seq (cut vs lo hi).toArray } }) :
  wpAny (model prog w) A (getItem (.ref t) (.ref sl)) Q E s := by
 have hdrop : PySem.sizeOk (.seq (cut vs lo hi).toArray) := by
  show (cut vs lo hi).toArray.size ≤ sizeLine
  rw [List.size_toArray]
  exact Nat.le_trans (cut_len _ _ _) hsz
 refine x13 (id hs) fun os hos hcs hds => ?_
 have hTs : s.TypeIs (.ref sl) "slice" := ⟨os, hos, hcs⟩
 unfold getItem
 try with_reducible refine wpAny_holding ?_
 first | refine wpAny_bind (wpAny_pure ?_) | skip
 refine wpAny_bind (wpAny_sequenceKey ht.typeIs (by decide) ?_)
 refine wpAny_bind (wpAny_callSpecial?_slot (name := Str.ofString "__getitem__") ht.typeIs PyProof.Rows.slot_tuple_getitem
  (wpAny_call_entry PyProof.Rows.slot_tuple_getitem ht.typeIs PyProof.Rows.entry_tuple_getitem ?_ (PyProof.Rows.args_tuple_getitem _ _)))
 show wpAny _ _ (Builtin.Tuple.tupleItemsOf (.ref t) >>= _) _ _ s
 refine wpAny_bind (tupleItemsOf_ ht ?_)
 refine wpAny_bind (wpAny_typeOf hTs ?_)
 rw [if_pos (by decide)]
 have hn : ((vs.toArray.size : Nat) : Int) = ((vs.length : Nat) : Int) := by rw [List.size_toArray]
 show wpAny _ _ (Builtin.Slice.sliceApplied (.ref sl) (pure ((vs.toArray.size : Nat) : Int)) >>= _) _ _ s
 rw [hn]
 refine wpAny_bind (sliceApplied_ok hs pl pu ?_)
 dsimp only
 by_cases hw : ((cutLo lo vs.length : Int) == 0 && (1 : Int) == 1 && (cutHi hi vs.length - cutLo lo vs.length) == vs.toArray.size) = true
 ·rw [if_pos hw]
  have hw' : cutLo lo vs.length = 0 ∧ cutHi hi vs.length - cutLo lo vs.length = vs.length := by
   simp only [List.size_toArray, Bool.and_eq_true, beq_iff_eq] at hw
   exact ⟨by omega, hw.2⟩
  refine wpAny_bind (m := Builtin.Tuple.tupleIsExact _) ?_
  unfold Builtin.Tuple.tupleIsExact
  refine wpAny_bind (wpAny_typeOf ht.typeIs (wpAny_pure ?_))
  rw [if_pos (by decide)]
  first
   | exact wpAny_bind (wpAny_rule (wpAny_pure ⟨_, rfl, wpAny_pure (h1 (cut_whole hw'.1 hw'.2))⟩))
   | exact wpAny_bind (wpAny_rule (wpAny_bind (wpAny_pure (wpAny_pure ⟨_, rfl, wpAny_pure (h1 (cut_whole hw'.1 hw'.2))⟩))))
 ·rw [if_neg hw, pick_cut]
  first
   | exact wpAny_bind (m := Builtin.Tuple.tupleExact _) (wpAny_newObj_type (wpAny_pure ⟨_, rfl, wpAny_pure h2⟩) hdrop)
   | exact wpAny_bind (m := Builtin.Tuple.tupleExact _) (wpAny_newObj_type (wpAny_bind (wpAny_pure (wpAny_pure ⟨_, rfl, wpAny_pure h2⟩))) hdrop)
   | exact wpAny_bind (wpAny_bind (m := Builtin.Tuple.tupleExact _) (wpAny_newObj_type (wpAny_pure (wpAny_pure ⟨_, rfl, wpAny_pure h2⟩)) hdrop))
   | exact wpAny_bind (wpAny_bind (m := Builtin.Tuple.tupleExact _) (wpAny_newObj_type (wpAny_pure ⟨_, rfl, wpAny_pure h2⟩) hdrop))
end
theorem idx_seq {k : Int} {n : Nat} (h0 : 0 ≤ k) (h : k.toNat < n) (hn : n ≤ sizeLine) : seqIndex? k n = some k.toNat ∧ -(2 ^ 63) ≤ k ∧ k < 2 ^ 63 := by
 rw [sizeLine_eq] at hn
 have hk : k < n := (Int.toNat_lt h0).mp h
 refine ⟨?_, Int.le_trans (by decide) h0, Int.lt_trans (Int.lt_of_lt_of_le hk (Int.ofNat_le.mpr hn)) (by decide)⟩
 unfold seqIndex?
 dsimp only
 rw [if_neg (Int.not_lt.mpr h0), if_pos]
 rw [decide_eq_true h0, decide_eq_true hk]; rfl
section
variable {X : Cx} {A : Around} {s : Shared} {ρ : List Addr} {hp : Hp} {va vb : Value} {a b : PV} {Q : Value → Shared → Prop} {E : Value → Shared → Prop} {sc : Scope} {k : Nat}
theorem IntsAre.getV {vs : List Value} {ns : List Int} (h : IntsAre vs ns) : ∀ {j : Nat} {n : Int}, ns[j]? = some n → ∃ t, vs[j]? = some (.int n t) := by
 intro j n e
 refine x11 (h.get j n e) fun t ht => ?_
 exact ei11 t ht
theorem subop_ok {value slice : Expr} {p : PV} (hs : ∀ o i, subscripted slice false o i = operate [o, i] (getItem o i)) (hu : A.units + 80 < cLine) (B : BK X s.heap) (R : RepH X ρ hp s.heap) (ha : VR X ρ s.heap va a) (hb : VR X ρ s.heap vb b) (e : subop a b hp = some p)
  (h : ∀ v tk, VR X ρ s.heap v p → Q v { s with toks := tk }) : wpAny X.M A (subscriptTail value slice va vb) Q E s := by
 refine x12 (Option.bind_eq_some_iff.mp e) fun k hk e => ?_
 obtain rfl := asI_inv hk
 refine x11 hb.int_inv fun t zq => ?_
 subst zq
 by_cases h0 : 0 ≤ k
 ·replace e := (if_pos h0).symm.trans e
  refine x12 (Option.bind_eq_some_iff.mp e) fun l hl e' => ?_
  clear e
  cases a with
  | tup l' =>
   obtain rfl := Option.some.inj hl
   refine x25 ha.tup_inv fun z_ vs zq ht hz rl hnr => ?_
   subst zq
   refine x12 (VRs.get rl e') fun v hv rv => ?_
   refine x03 (idx_seq h0 (List.getElem?_eq_some_iff.mp hv).1 hz) fun h1 h2 h3 => ?_
   exact tail_any ht.tup.typeIs PyProof.Rows.slot_tuple_getitem.lookup (PyProof.Rows.getItem_tuple ht.tup h2 h3 (by rw [List.size_toArray]; exact h1) (by simpa using hv) (h v s.toks rv)) (hs _ _)
  | lst n =>
   refine x12 ha.lst_inv fun z_ zq hn => ?_
   subst zq
   refine x13 (R.lst hn hl) fun vs il hz rl => ?_
   refine x12 (VRs.get rl e') fun v hv rv => ?_
   exact tail_any il.list.typeIs slot_list_getitem.lookup (wpAny_getItem_list il.list h0 (idx_seq h0 (List.getElem?_eq_some_iff.mp hv).1 hz).2.2 (by simpa using hv) (h v s.toks rv)) (hs _ _)
  | frz l' =>
   obtain rfl := Option.some.inj hl
   refine x24 ha.frz_inv fun z_ vs zq il0 hz ia => ?_
   subst zq
   rw [List.getElem?_map] at e'
   refine x12 (Option.map_eq_some_iff.mp e') fun n hn zq1 => ?_
   subst zq1
   refine x11 (IntsAre.getV ia hn) fun tk hv => ?_
   revert il0; refine y12 fun o ho q => ?_
   exact tail_any (Heap.IsList.typeIs ⟨o, B _ _ ho, q⟩) slot_list_getitem.lookup (wpAny_getItem_list ⟨o, B _ _ ho, q⟩ h0 (idx_seq h0 (List.getElem?_eq_some_iff.mp hv).1 hz).2.2 (by simpa using hv) (h _ s.toks (.int n tk))) (hs _ _)
  | _ => exact no hl
 ·exact no ((if_neg h0).symm.trans e)
end
end Mine
end
section
namespace Mine
open PySem PySem.Calls PyProof.Rows
section
variable {X : Cx} {sc : Scope} {k : Nat}
theorem se_sub {o i : Expr} {pos : Pos} {f g : Loc → Hp → Res PV} (ho : SE X sc k o f) (hi : SE X sc k i g) (hs : ∀ o' i', subscripted i false o' i' = operate [o', i'] (getItem o' i')) :
  SE X sc k (.Subscript o i pos) (fun loc hp => (f loc hp).bind fun a hp1 => (g loc hp1).bind fun b hp2 => ofOpt (subop a b hp2) hp2) := fun A env s ρ loc hp Q E I Rm P => by
 refine Subscript_ (wp_seq ho I Rm P fun va a s₁ ρ₁ hp₁ I₁ g₁ k₁ ra e₁ P₁ Rm => ?_)
 refine wp_seq hi I₁ Rm P₁ fun vb b s₂ ρ₂ hp₂ I₂ g₂ k₂ rb e₂ P₂ Rm => ?_
 refine x12 (Post.opt P₂) fun p hp' P₃ => ?_
 exact subop_ok hs (units_of Rm) I₂.bk I₂.rep (VR.grow ra (I₁.rep.keepF k₂) g₂) rb hp' fun v tk rv => Post.same I₂.rep P₃ v tk rv
noncomputable def RO (X : Cx) : Rel Value (Option PV) := fun ρ h v o => match o with
 | none => v = .none
 | some p => VR X ρ h v p
noncomputable def runO : Option (Loc → Hp → Res PV) → Loc → Hp → Res (Option PV)
 | none, _, hp => .ok none hp
 | some f, loc, hp => (f loc hp).bind fun v hp1 => .ok (some v) hp1
inductive SO (X : Cx) (sc : Scope) (k : Nat) : Option Expr → Option (Loc → Hp → Res PV) → Prop
 | none : SO X sc k none none
 | some {e : Expr} {f : Loc → Hp → Res PV} : SE X sc k e f → SO X sc k (some e) (some f)
theorem do_part {e : Option Expr} {f : Option (Loc → Hp → Res PV)} (h : SO X sc k e f) : Does X sc k (fun env => evalPart e env) (RO X) (runO f) := by
 cases h with
 | none => exact fun A env s ρ loc hp Q E I Rm P => wpAny_pure (Post.same I.rep P .none s.toks rfl)
 | some he => exact fun A env s ρ loc hp Q E I Rm P => wp_seq he I Rm P fun va a s₁ ρ₁ hp₁ I₁ g₁ k₁ ra e₁ P₁ Rm => Post.same I₁.rep P₁ va s₁.toks ra
theorem RO.part {ρ : List Addr} {h : Heap} {v : Value} {o : Option PV} {x : Option Int} (r : RO X ρ h v o) (e : asInt? o = some x) : IsPart v x := by
 cases o with
 | none => cases e; cases (show v = .none from r); exact .none
 | some p =>
  have r' : VR X ρ h v p := r
  cases r' <;> simp only [asInt?] at e <;> first | (split at e <;> first | (cases e; exact .int _ _) | cases e) | cases e
theorem RO.grow {ρ ρ' : List Addr} {h h' : Heap} {v : Value} {o : Option PV} (r : RO X ρ h v o) (kf : KeepF ρ h h') (g : Grow ρ ρ' h) : RO X ρ' h' v o := by
 cases o with
 | none => exact r
 | some p => exact VR.grow (show VR X ρ h v p from r) kf g
set_option tactic.hygienic true in
theorem se_slice {o : Expr} {lo hi : Option Expr} {p pos : Pos} {f : Loc → Hp → Res PV} {g g' : Option (Loc → Hp → Res PV)} (ho : SE X sc k o f) (hlo : SO X sc k lo g) (hhi : SO X sc k hi g') :
  SE X sc k (.Subscript o (.Slice lo hi none p) pos) (fun loc hp => (f loc hp).bind fun a hp1 => (runO g loc hp1).bind fun x hp2 => (runO g' loc hp2).bind fun y hp3 => sliceop a x y hp3) := fun A env s ρ loc hp Q E I Rm P => by
 refine Subscript_ (wp_seq ho I Rm P fun va a s₁ ρ₁ hp₁ I₁ g₁ k₁ ra e₁ P₁ Rm => PySem.wpAny_Slice ?_)
 refine wp_seq (do_part hlo) I₁ Rm P₁ fun vl x s₂ ρ₂ hp₂ I₂ g₂ k₂ rl e₂ P₂ Rm => ?_
 refine wp_seq (do_part hhi) I₂ Rm P₂ fun vu y s₃ ρ₃ hp₃ I₃ g₃ k₃ ru e₃ P₃ Rm => ?_
 refine wpAny_pure ?_
 have ra' := VR.grow (VR.grow ra (I₁.rep.keepF k₂) g₂) (I₂.rep.keepF k₃) g₃
 have rl' := RO.grow rl (I₂.rep.keepF k₃) g₃
 have hpush : ∀ b o', s₃.heap.get? b = some o' → (s₃.heap.push { cls := .type "slice", data := .fields #[vl, vu, .none] }).get? b = some o' := fun z_ z_ e => Heap.get?_push_of_some _ e
 have hsl := Heap.IsSliceOf.new s₃.heap vl vu .none
 unfold sliceop at P₃
 split at P₃
 ·rename_i lo' hi' e1 e2
  have pl := RO.part rl' e1
  have pu := RO.part ru e2
  have R₄ := I₃.rep.keep hpush
  have P₄ := P₃.later (tk := s₃.toks) I₃.rep R₄ (Grow.refl _ _) (Keep.of_all hpush) R₄.isSome
  have ra'' := ra'.keepF (KeepF.of_all hpush)
  split at P₄
  ·cases ra'' with
   | tup ht hz rs hnr =>
    refine tail_any (T := "tuple") ht.tup.typeIs PyProof.Rows.slot_tuple_getitem.lookup (getItem_tuple_cut ht.tup hsl pl pu hz (fun e => ?_) ?_) rfl
    ·have e' := VRs.cut rs lo' hi'
     rw [e] at e'
     exact Post.same R₄ P₄ _ s₃.toks (.tup ht hz e' hnr)
    ·exact Post.made R₄ P₄ (.ref _) _ s₃.toks (fun z_ z_ e => Heap.get?_push_of_some _ e) (.tup ⟨0, Heap.get?_push_size _ rfl⟩ (Nat.le_trans (cut_len _ _ _) hz) ((VRs.cut rs lo' hi').keepF (KeepF.of_all fun z_ z_ e => Heap.get?_push_of_some _ e)) (R₄.free (free_size _)))
  ·cases ra'' with
   | lst hn =>
    split at P₄
    ·rename_i l hl
     refine x13 (R₄.lst hn hl) fun vs il hz rs => ?_
     refine tail_any (T := "list") il.list.typeIs slot_list_getitem.lookup (wpAny_getItem_list_slice il.list hsl pl pu .none (by intro q; cases q) ?_ (by rw [List.size_toArray]; exact hz)) rfl
     have e : slicePick vs.toArray lo' hi' none = (cut vs lo' hi').toArray := by
      rw [slicePick_plain]
      congr 1
      unfold cut
      rw [List.drop_take]
      cases lo' <;> cases hi' <;> simp only [Option.elim, List.size_toArray, cutLo_clip, cutHi_clip] <;> rfl
     rw [e]
     have B₄ : BK X _ := fun b o' e => hpush b o' (I₃.bk b o' e)
     exact Post.list B₄ R₄ P₄ _ (cut vs lo' hi') _ s₃.toks (fun z_ z_ e => Heap.get?_push_of_some _ e) (free_size _) ⟨0, Heap.get?_push_size _ rfl⟩ (Nat.le_trans (cut_len _ _ _) hz) (VRs.cut rs lo' hi')
    ·exact P₄.elim
  ·exact P₄.elim
 ·exact P₃.elim
end
end Mine
end
section
namespace Mine
open PySem PySem.Calls PySem.W PyProof.Rows
noncomputable def PairAt (h : Heap) (v : Value) (q : Int × Int) : Prop := ∃ a o t u n, v = .ref a ∧ h.get? a = some o ∧ o.cls = .type "tuple" ∧ o.data = .seq #[.int q.1 t, .int q.2 u] n
theorem PairAt.keep {h h' : Heap} {v : Value} {q : Int × Int} (p : PairAt h v q) (k : ∀ b o, h.get? b = some o → h'.get? b = some o) : PairAt h' v q :=
 x54 p fun a o t u n e ho hc hd => ei54 a o t u n e (k _ _ ho) hc hd
noncomputable def pairLt (q p : Int × Int) : Bool := decide (q.1 < p.1 ∨ q.1 = p.1 ∧ q.2 < p.2)
section
variable {prog : Program} {w : World} {A : Around} {E : Value → Shared → Prop} {s : Shared}
theorem kind_two {v₁ v₂ : Value} {q₁ q₂ : Int × Int} {Q : SortKind → Shared → Prop} (h1 : PairAt s.heap v₁ q₁) (h2 : PairAt s.heap v₂ q₂) (h : Q (tuples' true) s) : wpAny (model prog w) A (keyKind' [v₁, v₂].toArray) Q E s := by
 revert h1; refine y54 fun a₁ o₁ t₁ u₁ n₁ zq6 ho₁ hc₁ hd₁ => ?_
 subst zq6
 revert h2; refine y54 fun a₂ o₂ t₂ u₂ n₂ zq5 ho₂ hc₂ hd₂ => ?_
 subst zq5
 refine kat_kind (fs := [.int q₁.1 t₁, .int q₂.1 t₂]) (T := .type "int") (KatTups.cons ho₁ hc₁ hd₁ rfl (KatTups.cons ho₂ hc₂ hd₂ rfl KatTups.nil)) (Nat.zero_lt_succ _) (fun v hv => ?_) rfl h
 simp only [List.mem_cons, List.not_mem_nil, or_false] at hv
 rcases hv with rfl | rfl
 ·exact (Looks.now : Looks _ _ (pure (Value.type "int")) _)
 ·exact (Looks.now : Looks _ _ (pure (Value.type "int")) _)
theorem lt_two {v₁ v₂ : Value} {q₁ q₂ : Int × Int} {Q : Bool → Shared → Prop} (h1 : PairAt s.heap v₁ q₁) (h2 : PairAt s.heap v₂ q₂) (h : Q (pairLt q₂ q₁) s) : wpAny (model prog w) A (keyLt' (tuples' true) v₂ v₁) Q E s := by
 revert h1; refine y54 fun a₁ o₁ t₁ u₁ n₁ zq4 ho₁ hc₁ hd₁ => ?_
 subst zq4
 revert h2; refine y54 fun a₂ o₂ t₂ u₂ n₂ zq3 ho₂ hc₂ hd₂ => ?_
 subst zq3
 refine kat_lt ho₂ hd₂ ho₁ hd₁ ?_
 show KatLex prog w A true _ Q [(.int q₂.1 t₂, .int q₁.1 t₁), (.int q₂.2 u₂, .int q₁.2 u₁)] 0 s
 refine kat_cons (wpAny_eqBool_int ?_)
 by_cases e : q₂.1 = q₁.1
 ·rw [show (q₂.1 == q₁.1) = true from beq_iff_eq.mpr e]
  refine kat_yes (kat_cons (wpAny_eqBool_int ?_))
  by_cases e2 : q₂.2 = q₁.2
  ·rw [show (q₂.2 == q₁.2) = true from beq_iff_eq.mpr e2]
   rw [show pairLt q₂ q₁ = false from decide_eq_false (by omega)] at h
   exact kat_yes (kat_nil h)
  ·rw [show (q₂.2 == q₁.2) = false from beq_eq_false_iff_ne.mpr e2]
   rw [show pairLt q₂ q₁ = decide (q₂.2 < q₁.2) from decide_eq_decide.mpr (by omega)] at h
   exact kat_no (kat_one _ _ (wpAny_lt_int h))
 ·rw [show (q₂.1 == q₁.1) = false from beq_eq_false_iff_ne.mpr e]
  rw [show pairLt q₂ q₁ = decide (q₂.1 < q₁.1) from decide_eq_decide.mpr (by omega)] at h
  exact kat_no (oneLt_int h)
inductive Sorts (h : Heap) : List Value → List Value → Prop
 | one (v : Value) : Sorts h [v] [v]
 | two {v₁ v₂ : Value} {q₁ q₂ : Int × Int} (h1 : PairAt h v₁ q₁) (h2 : PairAt h v₂ q₂) : Sorts h [v₁, v₂] (if pairLt q₂ q₁ then [v₂, v₁] else [v₁, v₂])
theorem Sorts.keep {h h' : Heap} {vs out : List Value} (x : Sorts h vs out) (k : ∀ b o, h.get? b = some o → h'.get? b = some o) : Sorts h' vs out := by
 cases x with
 | one v => exact .one v
 | two h1 h2 => exact .two (h1.keep k) (h2.keep k)
theorem Sorts.len {h : Heap} {vs out : List Value} (x : Sorts h vs out) : out.length = vs.length ∧ 1 ≤ vs.length ∧ vs.length ≤ 2 := by
 cases x with
 | one v => exact ⟨rfl, Nat.le_refl 1, Nat.le_succ 1⟩
 | two h1 h2 => refine ⟨by split <;> rfl, Nat.le_succ 1, Nat.le_refl 2⟩
theorem list_sort_few {a : Addr} {vs out : List Value} {n : Nat} {P : PySem.Fin → Shared → Prop} (ho : s.heap.get? a = some (seqObj "list" vs.toArray n))
  (hS : Sorts (((s.heap.update a (Obj.mapSeq fun z_ => (#[] : Array Value))).push (seqObj "tuple" vs.toArray 0)).push (seqObj "list" #[] 0)) vs out)
  (h : P (.done (.ret .none)) { s with heap := sortedHeap s.heap a vs out.toArray }) : wpAny (model prog w) A (Builtin.«list.sort» ⟨[.ref a], []⟩) P E s := by
 rw [list_sort_plain]
 have ha : a < s.heap.objs.size := Heap.lt_size ho
 have hlen := hS.len
 refine wpAny_bind (listItems_at ho rfl ?_)
 refine wpAny_bind (listUpdate_at ho rfl ?_ (by rw [List.size_toArray, sizeLine_eq]; omega) (Nat.zero_le _))
 refine x11 (⟨_, get?_update_seq ho (fun z_ => #[])⟩ : ∃ e1, (s.heap.update a (Obj.mapSeq fun z_ => (#[] : Array Value))).get? a = some (seqObj "list" #[] e1)) fun e1 ho1 => ?_
 refine wpAny_bind (seqEpoch_at ho1 rfl ?_)
 refine wpAny_bind (wpAny_newTuple ?_ (by show vs.length ≤ _; rw [sizeLine_eq]; omega))
 refine wpAny_bind (wpAny_newList ?_ (Nat.zero_le _))
 refine wpAny_holding ?_
 have ho6 : (((s.heap.update a (Obj.mapSeq fun z_ => (#[] : Array Value))).push (seqObj "tuple" vs.toArray 0)).push (seqObj "list" #[] 0)).get? a = some (seqObj "list" #[] e1) :=
  Heap.get?_push_of_some _ (Heap.get?_push_of_some _ ho1)
 show wpAny (model prog w) A _ P E { s with heap := ((s.heap.update a (Obj.mapSeq fun z_ => (#[] : Array Value))).push (seqObj "tuple" vs.toArray 0)).push (seqObj "list" #[] 0) }
 dsimp only
 have fin : ∀ st' : SortSt, (arrOf st').map (·.2) = out.toArray → failedOf st' = none → wpAny (model prog w) A (do
   let touched := (← seqEpoch a) != e1
   Builtin.List.listUpdate (.ref a) fun z_ => (arrOf st').map (·.2)
   if let some e := failedOf st' then rule "list.sort.comparison-raised"; throw e
   if touched then rule "list.sort.modified"; raiseError "ValueError" "list modified during sort"
   ret .none) P E { s with heap := ((s.heap.update a (Obj.mapSeq fun z_ => (#[] : Array Value))).push (seqObj "tuple" vs.toArray 0)).push (seqObj "list" #[] 0) } := fun st' e hf => by
  rw [e, hf]
  refine wpAny_bind (seqEpoch_at ho6 rfl ?_)
  refine wpAny_bind (listUpdate_at ho6 rfl ?_ (Nat.zero_le _) (by rw [List.size_toArray, sizeLine_eq]; omega))
  simp only [bne_self_eq_false, Bool.false_eq_true, if_false]
  exact wpAny_pure h
 cases hS with
 | one v =>
  have h1 : (#[v] : Array Value).size < 2 := by show (1 : Nat) < 2; decide
  rw [if_pos h1, if_pos h1]
  refine wpAny_bind (wpAny_pure ?_)
  rw [StateT.run_pure]
  refine wpAny_bind (wpAny_pure ?_)
  exact fin _ (by show (#[v].zip #[v]).map (·.2) = #[v]; simp) rfl
 | @two v₁ v₂ q₁ q₂ h1 h2 =>
  have hn2 : ¬ (#[v₁, v₂] : Array Value).size < 2 := by show ¬ (2 : Nat) < 2; decide
  rw [if_neg hn2, if_neg hn2]
  refine wpAny_bind (kind_two h1 h2 ?_)
  refine wpAny_bind (wpAny_mono (kat_run (vs := [v₁, v₂]) (ks := [v₁, v₂]) (κ := tuples' true) (E := E)
   (Q := fun st' s' => ((arrOf st').map (·.2) = (if pairLt q₂ q₁ then [v₂, v₁] else [v₁, v₂]).toArray ∧ failedOf st' = none) ∧ s' = { s with heap := ((s.heap.update a (Obj.mapSeq fun z_ => (#[] : Array Value))).push (seqObj "tuple" [v₁, v₂].toArray 0)).push (seqObj "list" #[] 0) })
   (G := fun p s' => p = (if pairLt q₂ q₁ then #[1, 0] else #[0, 1]) ∧ s' = { s with heap := ((s.heap.update a (Obj.mapSeq fun z_ => (#[] : Array Value))).push (seqObj "tuple" [v₁, v₂].toArray 0)).push (seqObj "list" #[] 0) }) rfl (Nat.le_refl 2) (show (2 : Nat) < 64 by decide) (fun p st' s' z_ har hf hg => ?_) ?_) ?_ fun z_ z_ e => e)
  ·revert hg; refine y02 fun zq1 zq2 => ?_
   subst zq1
   subst zq2
   refine ⟨⟨?_, hf⟩, rfl⟩
   rw [kat_snds rfl har]
   cases pairLt q₂ q₁ <;> rfl
  ·show wpAny (model prog w) A (keyLt' (tuples' true) v₂ v₁) _ _ _
   refine lt_two h1 h2 ?_
   cases pairLt q₂ q₁
   ·exact ⟨rfl, rfl⟩
   ·refine ⟨?_, rfl⟩
    rw [if_pos rfl]
    dsimp only
    rw [show [v₁, v₂].length = 2 from rfl]
    decide
  ·rintro ⟨⟨⟩, st'⟩ s' ⟨⟨e, hf⟩, rfl⟩
   exact fin st' e hf
theorem sorted_few {l : Addr} {vs out : List Value} {Q : Value → Shared → Prop} (hl : s.heap.IsList l vs.toArray) (hS : Sorts s.heap vs out)
  (h : Q (.ref (s.heap.objs.size + 1)) { s with heap := sortedAll s.heap vs out.toArray }) : wpAny (model prog w) A (call (.builtin "sorted") [.ref l]) Q E s := by
 have hlen := hS.len
 refine Calls.call_function_entry kind_sorted plain_sorted entry_sorted (args_sorted1 _) ?_
 unfold Builtin.«sorted»
 refine wpAny_bind (m := checkCount "sorted" 1 1 _) (wpAny_pure ?_)
 refine wpAny_bind (collect_list hl ?_ (by rw [sizeLine_eq]; omega))
 refine wpAny_bind (wpAny_newList ?_ (by rw [sizeLine_eq]; omega))
 have hsz : ((s.heap.push (seqObj "list" #[] 0)).update s.heap.objs.size (Obj.mapSeq (· ++ vs.toArray))).objs.size = s.heap.objs.size + 1 := by
  rw [Heap.size_update, size_push']
 have hoL : (((s.heap.push (seqObj "list" #[] 0)).update s.heap.objs.size (Obj.mapSeq (· ++ vs.toArray))).push (seqObj "list" vs.toArray 0)).get? (s.heap.objs.size + 1) = some (seqObj "list" vs.toArray 0) := by
  rw [← hsz]; exact Heap.get?_push_size _ rfl
 have keep : ∀ b o, s.heap.get? b = some o → (((s.heap.push (seqObj "list" #[] 0)).update s.heap.objs.size (Obj.mapSeq (· ++ vs.toArray))).push (seqObj "list" vs.toArray 0)).get? b = some o := fun b o q => by
  have hlt : b < s.heap.objs.size := Heap.lt_size q
  rw [Heap.get?_push_ne _ _ _ (by rw [hsz]; exact Nat.ne_of_lt (Nat.lt_succ_of_lt hlt)), Heap.get?_update_ne _ _ _ _ (Nat.ne_of_lt hlt), Heap.get?_push_ne _ _ _ (Nat.ne_of_lt hlt)]
  exact q
 show wpAny _ _ _ _ _ { s with heap := ((s.heap.push (seqObj "list" #[] 0)).update s.heap.objs.size (Obj.mapSeq (· ++ vs.toArray))).push (seqObj "list" vs.toArray 0) }
 rw [hsz]
 refine wpAny_bind (wpAny_holding (wpAny_call_entry slot_list_sort ⟨_, hoL, rfl⟩ entry_list_sort (list_sort_few hoL (hS.keep fun b o q => ?_) ⟨_, rfl, ?_⟩) (args_list_sort _)))
 ·have hlt : b < s.heap.objs.size := Heap.lt_size q
  refine Heap.get?_push_of_some _ (Heap.get?_push_of_some _ ?_)
  rw [Heap.get?_update_ne _ _ _ _ (Nat.ne_of_lt (Nat.lt_succ_of_lt hlt))]
  exact keep b o q
 ·exact wpAny_pure ⟨_, rfl, h⟩
end
end Mine
end
section
namespace Mine
open PySem PySem.Calls PyProof.Rows
noncomputable def bfVal : Bf → Value
 | .len => .builtin "len"
 | .range1 => .type "range"
 | .range2 => .type "range"
 | .range3 => .type "range"
 | .tuple => .type "tuple"
 | .list => .type "list"
 | .all => .builtin "all"
 | .abs => .builtin "abs"
 | .int => .type "int"
 | .sorted => .builtin "sorted"
 | .min => .builtin "min"
section
variable {X : Cx} {A : Around} {s : Shared} {ρ : List Addr} {hp : Hp} {Q : Value → Shared → Prop} {E : Value → Shared → Prop}
theorem all_bools {ρ : List Addr} {h : Heap} {vs : List Value} {l : List PV} (rs : VRs X ρ h vs l) (hb : l.all isB = true) :
  ∃ tr : Nat → Bool, (∀ (i : Nat) (v : Value), vs[i]? = some v → v = .bool (tr i)) ∧ (List.range vs.length).all tr = l.all valB := by
 refine ei12 (fun i => valB (l[i]?.getD .none)) (fun i v e => ?_) ?_
 ·refine x12 (VRs.get' rs e) fun p hp r => ?_
  have hm := List.all_eq_true.mp hb p (List.mem_of_getElem? hp)
  dsimp only
  rw [hp]
  cases r <;> first | rfl | cases hm
 ·rw [VRs.length rs, Bool.eq_iff_iff, List.all_eq_true, List.all_eq_true]
  constructor
  ·intro h p hp
   obtain ⟨i, hi, rfl⟩ := List.getElem_of_mem hp
   have := h i (List.mem_range.mpr hi)
   rwa [List.getElem?_eq_getElem hi] at this
  ·intro h i hi
   have hi' := List.mem_range.mp hi
   have := h l[i] (List.getElem_mem hi')
   rw [List.getElem?_eq_getElem hi']
   exact this
theorem call_all_list {t : Addr} {vs : List Value} {tr : Nat → Bool} (hh : A.handled = none) (hl : s.heap.IsList t vs.toArray) (htr : ∀ (i : Nat) (v : Value), vs[i]? = some v → v = .bool (tr i))
  (h : ∀ h' tk, (∀ b o, s.heap.get? b = some o → h'.get? b = some o) → Q (.bool ((List.range vs.length).all tr)) { s with heap := h', toks := tk }) : wpAny X.M A (call (.builtin "all") [.ref t]) Q E s := by
 refine call_all_walk (wpAny_pyIter_list hl ?_)
 refine x12 (id hl) fun ol hol z_ => ?_
 have hne : t ≠ s.heap.objs.size := Nat.ne_of_lt (Heap.lt_size hol)
 refine ei75 _ _ _ _ _ _ tr rfl (Walks.list (A := A.in1) hh s.heap.objs.size t hne vs.toArray) ⟨⟨_, Heap.get?_push_size _ rfl, rfl, rfl⟩, hl.at fun o e => Heap.get?_push_of_some _ e⟩ ?_ ?_
 ·intro i v s' Q' E' hP hQ
  have := htr i v (by simpa using hP)
  subst this
  exact wpAny_truthy_bool hQ
 ·intro h' tk hk
  rw [List.size_toArray]
  exact h h' tk fun b o e => hk b o (fun q => by rw [List.mem_singleton.mp q] at e; exact absurd (Heap.lt_size e) (Nat.lt_irrefl _)) (Heap.get?_push_of_some _ e)
theorem asPair_inv {p : PV} {q : Int × Int} (h : asPair p = some q) : p = .tup [.int q.1, .int q.2] := by
 unfold asPair at h
 cases h1 : asT p with
 | none => rw [h1] at h; exact no h
 | some l =>
  rw [h1] at h
  replace h : pairI l = some q := h
  rcases l with _ | ⟨x, _ | ⟨y, _ | ⟨_, _⟩⟩⟩
  ·exact no h
  ·exact no h
  ·refine x12 (Option.bind_eq_some_iff.mp (show ((asI x).bind fun a => (asI y).bind fun b => some (a, b)) = some q from h)) fun a ha h => ?_
   refine x12 (Option.bind_eq_some_iff.mp h) fun b hb h => ?_
   cases h
   rw [asT_inv h1, asI_inv ha, asI_inv hb]
  ·exact no h
theorem pair_of {ρ : List Addr} {h : Heap} {v : Value} {p : PV} {q : Int × Int} (r : VR X ρ h v p) (e : asPair p = some q) : PairAt h v q := by
 rw [asPair_inv e] at r
 refine x25 r.tup_inv fun z_ z_ zq20 ht z_ rs z_ => ?_
 subst zq20
 refine x23 rs.two_inv fun z_ z_ zq19 r1 r2 => ?_
 subst zq19
 refine x11 r1.int_inv fun z_ zq18 => ?_
 subst zq18
 refine x11 r2.int_inv fun z_ zq17 => ?_
 subst zq17
 refine x11 (id ht) fun n ho => ?_
 exact ei54 _ _ _ _ n rfl ho rfl rfl
set_option tactic.hygienic true in
theorem sort2_ok {ρ : List Addr} {h : Heap} {vs : List Value} {l l' : List PV} (hs : sort2 l = some l') (rs : VRs X ρ h vs l) : ∃ out, Sorts h vs out ∧ VRs X ρ h out l' := by
 cases rs with
 | nil => exact no hs
 | cons r1 rs =>
  cases rs with
  | nil => cases hs; exact ei12 _ (.one _) (.cons r1 .nil)
  | cons r2 rs =>
   cases rs with
   | cons _ _ => exact no hs
   | nil =>
    rename_i v p w q
    replace hs : (match asPair p, asPair q with | some x, some y => some (if decide (y.1 < x.1 ∨ y.1 = x.1 ∧ y.2 < x.2) then [q, p] else [p, q]) | _, _ => none) = some l' := hs
    cases h1 : asPair p with
    | none => rw [h1] at hs; exact no hs
    | some x =>
     cases h2 : asPair q with
     | none => rw [h1, h2] at hs; exact no hs
     | some y =>
      rw [h1, h2] at hs
      cases hs
      refine ei12 _ (.two (pair_of r1 h1) (pair_of r2 h2)) ?_
      show VRs X ρ h (if pairLt y x = true then _ else _) (if pairLt y x = true then _ else _)
      cases pairLt y x
      ·exact .cons r1 (.cons r2 .nil)
      ·exact .cons r2 (.cons r1 .nil)
theorem ints_of {ρ : List Addr} {h : Heap} : ∀ {vs : List Value} {ns : List Int}, VRs X ρ h vs (ns.map .int) → IntsAre vs ns
 | vs, [], r => by obtain rfl := r.nil_inv; exact .nil
 | vs, n :: ns, r => by
  refine x23 r.cons_inv fun z_ z_ zq16 r1 r2 => ?_
  subst zq16
  refine x11 r1.int_inv fun z_ zq15 => ?_
  subst zq15
  exact .cons _ _ (ints_of r2)
theorem ints1 {vs : List Value} {a : Int} (h : IntsAre vs [a]) : ∃ t, vs = [.int a t] := by cases h with | cons n t r => cases r; exact ei11 _ rfl
theorem ints2 {vs : List Value} {a b : Int} (h : IntsAre vs [a, b]) : ∃ t u, vs = [.int a t, .int b u] := by cases h with | cons n t r => refine x11 (ints1 r) fun u zq14 => ?_; subst zq14; exact ei21 _ _ rfl
theorem onI_ok {f : List Int → Hp → Res PV} {vs : List Value} {ps : List PV} {C : Prop} (rs : VRs X ρ s.heap vs ps) (P : Post X (RV X) ρ s (onI f ps hp) Q E) (h : ∀ l, IntsAre vs l → Post X (RV X) ρ s (f l hp) Q E → C) : C := by
 unfold onI at P
 cases e : intsOf ps with
 | none => rw [e] at P; exact P.elim
 | some l =>
  rw [e] at P
  obtain rfl := intsOf_inv e
  exact h l (ints_of rs) P
theorem onL_ok {f : Nat → Hp → List PV → Res PV} {vs : List Value} {ps : List PV} {C : Prop} (R : RepH X ρ hp s.heap) (rs : VRs X ρ s.heap vs ps) (P : Post X (RV X) ρ s (onL f ps hp) Q E)
  (h : ∀ a n l ws, vs = [.ref a] → LI s.heap a ws.toArray → ws.length ≤ sizeLine → VRs X ρ s.heap ws l → Post X (RV X) ρ s (f n hp l) Q E → C) : C := by
 unfold onL at P
 cases e : (one1 ps).bind asL with
 | none => rw [e] at P; exact P.elim
 | some n =>
  rw [e] at P
  dsimp only at P
  refine x12 (Option.bind_eq_some_iff.mp e) fun p hp1 hp2 => ?_
  obtain rfl := one1_inv hp1
  obtain rfl := asL_inv hp2
  cases hl : lstAt hp n with
  | none => rw [hl] at P; exact P.elim
  | some l =>
   rw [hl] at P
   refine x12 rs.one_inv fun z_ zq13 r => ?_
   subst zq13
   refine x12 r.lst_inv fun a zq12 hn => ?_
   subst zq12
   refine x13 (R.lst hn hl) fun ws il hz rl => ?_
   exact h a n l ws rfl il hz rl P
theorem on1_ok {f : PV → Hp → Res PV} {vs : List Value} {ps : List PV} {C : Prop} (rs : VRs X ρ s.heap vs ps) (P : Post X (RV X) ρ s (match one1 ps with | some p => f p hp | none => .bad) Q E) (h : ∀ v p, vs = [v] → VR X ρ s.heap v p → Post X (RV X) ρ s (f p hp) Q E → C) : C := by
 cases e : one1 ps with
 | none => rw [e] at P; exact P.elim
 | some p =>
  rw [e] at P
  obtain rfl := one1_inv e
  refine x12 rs.one_inv fun v zq11 r => ?_
  subst zq11
  exact h v p rfl r P
theorem bLen_ok {vs : List Value} {ps : List PV} (hh : A.handled = none) (B : BK X s.heap) (R : RepH X ρ hp s.heap) (rs : VRs X ρ s.heap vs ps) (P : Post X (RV X) ρ s (bLen ps hp) Q E) :
  wpAny X.M A (call (bfVal .len) vs) Q E s := by
 refine on1_ok rs P fun v p hv r P => ?_
 subst hv
 cases p with
 | tup l =>
  refine x25 r.tup_inv fun z_ vs zq10 ht hz rl hnr => ?_
  subst zq10
  refine PyProof.Rows.len_tuple ht.tup (by rw [List.size_toArray]; rw [sizeLine_eq] at hz; omega) ?_
  rw [List.size_toArray, VRs.length rl]
  exact Post.same R P _ _ (.int _ _)
 | frz l =>
  refine x24 r.frz_inv fun a vs zq9 il0 hz ia => ?_
  subst zq9
  have il : s.heap.IsList a vs.toArray := by revert il0; refine y12 fun o ho q => ?_; exact ei12 o (B _ _ ho) q
  refine Calls.call_len_list il (by rw [List.size_toArray]; rw [sizeLine_eq] at hz; omega) ?_
  rw [List.size_toArray, ia.length]
  exact Post.same R P _ _ (.int _ _)
 | lst n =>
  refine x12 r.lst_inv fun a zq8 hn => ?_
  subst zq8
  have fin : Post X (RV X) ρ s (match lstAt hp n with | some l => .ok (.int l.length) hp | none => .bad) Q E → wpAny X.M A (call (bfVal .len) [.ref a]) Q E s := fun P => by
   cases hl : lstAt hp n with
   | none => rw [hl] at P; exact P.elim
   | some l =>
    rw [hl] at P
    refine x13 (R.lst hn hl) fun vs il hz rl => ?_
    refine Calls.call_len_list il.list (by rw [List.size_toArray]; rw [sizeLine_eq] at hz; omega) ?_
    rw [List.size_toArray, VRs.length rl]
    exact Post.same R P _ _ (.int _ _)
  exact fin P
 | _ => exact P.elim
theorem bR1_ok {vs : List Value} {ps : List PV} (hh : A.handled = none) (B : BK X s.heap) (R : RepH X ρ hp s.heap) (rs : VRs X ρ s.heap vs ps) (P : Post X (RV X) ρ s (bR1 ps hp) Q E) :
  wpAny X.M A (call (bfVal .range1) vs) Q E s := by
 refine onI_ok rs P fun l ia P => ?_
 rcases l with _ | ⟨b, _ | ⟨_, _⟩⟩
 ·exact P.elim
 ·refine x11 (ints1 ia) fun z_ zq7 => ?_
  subst zq7
  replace P : Post X (RV X) ρ s (if intOk b = true then .ok (.rng 0 b 1) hp else .bad) Q E := P
  by_cases h : intOk b = true
  ·rw [if_pos h] at P
   exact PySem.call_range_1 (Post.made R P (.ref _) _ _ (fun z_ z_ e => Heap.get?_push_of_some _ e) (.rng (IsRange.new ..) (R.free (free_size _))))
  ·rw [if_neg h] at P; exact P.elim
 ·exact P.elim
theorem bR2_ok {vs : List Value} {ps : List PV} (hh : A.handled = none) (B : BK X s.heap) (R : RepH X ρ hp s.heap) (rs : VRs X ρ s.heap vs ps) (P : Post X (RV X) ρ s (bR2 ps hp) Q E) :
  wpAny X.M A (call (bfVal .range2) vs) Q E s := by
 refine onI_ok rs P fun l ia P => ?_
 rcases l with _ | ⟨a, _ | ⟨b, _ | ⟨_, _⟩⟩⟩
 ·exact P.elim
 ·exact P.elim
 ·refine x21 (ints2 ia) fun z_ z_ zq6 => ?_
  subst zq6
  replace P : Post X (RV X) ρ s (if (intOk a && intOk b) = true then .ok (.rng a b 1) hp else .bad) Q E := P
  by_cases h : (intOk a && intOk b) = true
  ·rw [if_pos h] at P
   exact PySem.call_range_2 (Post.made R P (.ref _) _ _ (fun z_ z_ e => Heap.get?_push_of_some _ e) (.rng (IsRange.new ..) (R.free (free_size _))))
  ·rw [if_neg h] at P; exact P.elim
 ·exact P.elim
theorem bR3_ok {vs : List Value} {ps : List PV} (hh : A.handled = none) (B : BK X s.heap) (R : RepH X ρ hp s.heap) (rs : VRs X ρ s.heap vs ps) (P : Post X (RV X) ρ s (bR3 ps hp) Q E) :
  wpAny X.M A (call (bfVal .range3) vs) Q E s := by
 refine onI_ok rs P fun l ia P => ?_
 rcases l with _ | ⟨a, _ | ⟨b, _ | ⟨c, _ | ⟨_, _⟩⟩⟩⟩
 ·exact P.elim
 ·exact P.elim
 ·exact P.elim
 ·cases ia with
  | cons n t ia =>
   refine x21 (ints2 ia) fun z_ z_ zq5 => ?_
   subst zq5
   replace P : Post X (RV X) ρ s (if (intOk a && intOk b && c == -1) = true then .ok (.rng a b c) hp else .bad) Q E := P
   by_cases h : (intOk a && intOk b && c == -1) = true
   ·rw [if_pos h] at P
    obtain rfl := beq_iff_eq.mp (Bool.and_eq_true_iff.mp h).2
    exact PySem.call_range_3 (by decide) (Post.made R P (.ref _) _ _ (fun z_ z_ e => Heap.get?_push_of_some _ e) (.rng (IsRange.new ..) (R.free (free_size _)))) (Or.inl (PyProof.noPylong_small (by decide)))
   ·rw [if_neg h] at P; exact P.elim
 ·exact P.elim
theorem bTuple_ok {vs : List Value} {ps : List PV} (hh : A.handled = none) (B : BK X s.heap) (R : RepH X ρ hp s.heap) (rs : VRs X ρ s.heap vs ps) (P : Post X (RV X) ρ s (bTuple ps hp) Q E) :
  wpAny X.M A (call (bfVal .tuple) vs) Q E s := by
 refine onL_ok R rs P fun a n l ws hv il hz rl P => ?_
 subst hv
 refine PySem.call_tuple_list il.list (fun h' hk => ?_) (by rw [List.size_toArray]; exact hz)
 exact Post.made R P (.ref _) _ s.toks (fun b o e => Heap.get?_push_of_some _ (hk b o e)) (.tup ⟨0, Heap.get?_push_size _ rfl⟩ hz (rl.keepF (KeepF.of_all fun b o e => Heap.get?_push_of_some _ (hk b o e))) ((R.keep hk).free (free_size _)))
theorem bList_ok {vs : List Value} {ps : List PV} (hh : A.handled = none) (B : BK X s.heap) (R : RepH X ρ hp s.heap) (rs : VRs X ρ s.heap vs ps) (P : Post X (RV X) ρ s (bList ps hp) Q E) :
  wpAny X.M A (call (bfVal .list) vs) Q E s := by
 refine on1_ok rs P fun v p hv r P => ?_
 subst hv
 cases p with
 | lst n =>
  refine x12 r.lst_inv fun a zq4 hn => ?_
  subst zq4
  have fin : Post X (RV X) ρ s (match lstAt hp n with | some l => newList l hp | none => .bad) Q E → wpAny X.M A (call (bfVal .list) [.ref a]) Q E s := fun P => by
   cases hl : lstAt hp n with
   | none => rw [hl] at P; exact P.elim
   | some l =>
    rw [hl] at P
    refine x13 (R.lst hn hl) fun vs il hz rl => ?_
    obtain ⟨o, ho, hc, n, hd⟩ := il.list
    refine PySem.call_list_seq _ (.inl rfl) ho hc hd (fun h' c' hk hg => ?_) (by rw [List.size_toArray]; exact hz)
    exact Post.list B R P _ vs h' s.toks hk (free_size _) ⟨_, hg⟩ hz rl
  exact fin P
 | tup l =>
  refine x25 r.tup_inv fun z_ z_ zq3 ht hz rl hnr => ?_
  subst zq3
  obtain ⟨o, ho, hc, n, hd⟩ := ht.tup
  refine PySem.call_list_seq _ (.inr rfl) ho hc hd (fun h' c' hk hg => ?_) (by rw [List.size_toArray]; exact hz)
  exact Post.list B R P _ _ h' s.toks hk (free_size _) ⟨_, hg⟩ hz rl
 | _ => exact P.elim
theorem bAll_ok {vs : List Value} {ps : List PV} (hh : A.handled = none) (B : BK X s.heap) (R : RepH X ρ hp s.heap) (rs : VRs X ρ s.heap vs ps) (P : Post X (RV X) ρ s (bAll ps hp) Q E) :
  wpAny X.M A (call (bfVal .all) vs) Q E s := by
 refine onL_ok R rs P fun a n l ws hv il hz rl P => ?_
 subst hv
 by_cases hb : l.all isB = true
 ·rw [if_pos hb] at P
  refine x12 (all_bools rl hb) fun tr h1 h2 => ?_
  refine call_all_list hh il.list h1 fun h' tk hk => ?_
  rw [h2]
  exact Post.made R P _ h' tk hk (.bool _)
 ·rw [if_neg hb] at P; exact P.elim
theorem bAbs_ok {vs : List Value} {ps : List PV} (hh : A.handled = none) (B : BK X s.heap) (R : RepH X ρ hp s.heap) (rs : VRs X ρ s.heap vs ps) (P : Post X (RV X) ρ s (bAbs ps hp) Q E) :
  wpAny X.M A (call (bfVal .abs) vs) Q E s := by
 refine onI_ok rs P fun l ia P => ?_
 rcases l with _ | ⟨b, _ | ⟨_, _⟩⟩
 ·exact P.elim
 ·refine x11 (ints1 ia) fun z_ zq2 => ?_
  subst zq2
  exact PyProof.Rows.call_abs_int fun u tk => Post.same R P _ tk (.int _ _)
 ·exact P.elim
theorem bIntB_ok {vs : List Value} {ps : List PV} (B : BK X s.heap) (R : RepH X ρ hp s.heap) (rs : VRs X ρ s.heap vs ps) (P : Post X (RV X) ρ s (bIntB ps hp) Q E) :
  wpAny X.M A (call (bfVal .int) vs) Q E s := by
 refine on1_ok rs P fun v p hv r P => ?_
 subst hv
 cases p with
 | bool b =>
  obtain rfl := r.bool_inv
  exact PySem.call_int_bool (Post.same R P _ _ (.int _ _))
 | _ => exact P.elim
theorem bMin_ok {vs : List Value} {ps : List PV} (hh : A.handled = none) (B : BK X s.heap) (R : RepH X ρ hp s.heap) (rs : VRs X ρ s.heap vs ps) (P : Post X (RV X) ρ s (bMin ps hp) Q E) :
  wpAny X.M A (call (bfVal .min) vs) Q E s := by
 refine onI_ok rs P fun l ia P => ?_
 rcases l with _ | ⟨a, _ | ⟨b, _ | ⟨_, _⟩⟩⟩
 ·exact P.elim
 ·exact P.elim
 ·refine x21 (ints2 ia) fun z_ z_ zq1 => ?_
  subst zq1
  refine PySem.min_two_ints hh fun h' tk hk => ?_
  replace P : Post X (RV X) ρ s (.ok (.int (if b < a then b else a)) hp) Q E := P
  by_cases c : b < a
  ·rw [if_pos c] at P ⊢; exact Post.made R P _ h' tk hk (.int _ _)
  ·rw [if_neg c] at P ⊢; exact Post.made R P _ h' tk hk (.int _ _)
 ·exact P.elim
theorem bSorted_ok {vs : List Value} {ps : List PV} (hh : A.handled = none) (B : BK X s.heap) (R : RepH X ρ hp s.heap) (rs : VRs X ρ s.heap vs ps) (P : Post X (RV X) ρ s (bSorted ps hp) Q E) :
  wpAny X.M A (call (bfVal .sorted) vs) Q E s := by
 refine onL_ok R rs P fun a n l ws hv il hz rl P => ?_
 subst hv
 cases hs : sort2 l with
 | none => rw [hs] at P; exact P.elim
 | some l' =>
  rw [hs] at P
  refine x12 (sort2_ok hs rl) fun out so ro => ?_
  refine sorted_few il.list so ?_
  refine x11 (sortedAll_at s.heap ws out.toArray) fun e he => ?_
  have hlen := so.len
  refine Post.list B R P _ out _ s.toks (fun z_ z_ e => sortedAll_old e) ?_ ⟨e, he⟩ (by rw [sizeLine_eq]; omega) ro
  cases q : s.heap.get? (s.heap.objs.size + 1) with
  | none => rfl
  | some o => exact absurd (Heap.lt_size q) (Nat.not_lt.mpr (Nat.le_succ _))
theorem bfun_ok {b : Bf} {vs : List Value} {ps : List PV} (hh : b.calm = false → A.handled = none) (B : BK X s.heap) (R : RepH X ρ hp s.heap) (rs : VRs X ρ s.heap vs ps) (P : Post X (RV X) ρ s (bfun b ps hp) Q E) :
  wpAny X.M A (call (bfVal b) vs) Q E s := by
 cases b with
 | len => exact bLen_ok (hh rfl) B R rs P
 | range1 => exact bR1_ok (hh rfl) B R rs P
 | range2 => exact bR2_ok (hh rfl) B R rs P
 | range3 => exact bR3_ok (hh rfl) B R rs P
 | tuple => exact bTuple_ok (hh rfl) B R rs P
 | list => exact bList_ok (hh rfl) B R rs P
 | all => exact bAll_ok (hh rfl) B R rs P
 | abs => exact bAbs_ok (hh rfl) B R rs P
 | int => exact bIntB_ok B R rs P
 | min => exact bMin_ok (hh rfl) B R rs P
 | sorted => exact bSorted_ok (hh rfl) B R rs P
end
end Mine
end
section
namespace Mine
open PySem PySem.Calls PyProof.Rows PySem.SeqAt
noncomputable def mfName : Mf → Str
 | .append => "append"
 | .pop => "pop"
section
variable {X : Cx} {A : Around} {s : Shared} {ρ : List Addr} {hp : Hp} {Q : Value → Shared → Prop} {E : Value → Shared → Prop}
theorem append_ok {t : Addr} {v : Value} {n : Nat} {p : PV} {l : List PV} {hp' : Hp} (R : RepH X ρ hp s.heap) (hn : ρ[n]? = some t) (hl : lstAt hp n = some l) (rv : VR X ρ s.heap v p) (hz : sizeOk l.length = true)
  (hs : setObj n (.list (l ++ [p])) hp = some hp') (P : Post X (RV X) ρ s (.ok .none hp') Q E) : wpAny X.M A (call (.builtin "list.append") [.ref t, v]) Q E s := by
 refine x13 (R.lst hn hl) fun vs zq2 hz' rl => ?_
 obtain ⟨e, ho⟩ := zq2
 have hvz : vs.length ≤ 1000000 := by rw [VRs.length rl]; exact of_decide_eq_true hz
 refine call_meets PySem.F.slot_list_append ⟨_, ho, rfl⟩ PySem.F.entry_list_append (PySem.F.args_list_append_2 _ _) (PySem.list_append t vs.toArray e v (by rw [List.size_toArray, sizeLine_eq]; exact (Nat.le_of_lt (Nat.lt_of_le_of_lt hvz ltl)))) ⟨ho, ?_⟩
 unfold setObj at hs
 split at hs
 ·cases hs
  have hk : ∀ b o, s.heap.get? b = some o → b ≠ t → (s.heap.update t (Obj.mapSeq fun x => x.push v)).get? b = some o := fun b o eb hb => by
   rw [Heap.get?_update_other _ _ (Ne.symm hb)]; exact eb
  have kf : KeepF ρ s.heap (s.heap.update t (Obj.mapSeq fun x => x.push v)) := fun b o eb z_ hf => hk b o eb fun q => by
   subst q; obtain rfl := Option.some.inj (ho.symm.trans eb); exact Fixed.not rfl (by decide) (by decide) hf
  have hnew : LI (s.heap.update t (Obj.mapSeq fun x => x.push v)) t (vs ++ [v]).toArray := by
   have hg := Heap.get?_update_self (fun o => Obj.mapSeq (fun x => x.push v) o) ho rfl
   have he : (vs ++ [v]).toArray = vs.toArray.push v := by simp
   rw [he]
   exact ei11 _ hg
  refine P .none _ s.toks ρ (Grow.refl _ _) (Keep.of_off fun b o eb hb => hk b o eb fun q => hb (q ▸ List.mem_of_getElem? hn)) (R.set hn kf hk hnew (by simp; rw [sizeLine_eq]; omega) ?_) .none
  exact (rl.append (.cons rv .nil)).keepF kf
 ·cases hs
theorem erase_last (vs : List Value) : vs.toArray.eraseIdxIfInBounds (vs.toArray.size - 1) = vs.dropLast.toArray := by
 rcases vs.eq_nil_or_concat with rfl | ⟨l, a, rfl⟩
 ·rfl
 ·unfold Array.eraseIdxIfInBounds
  rw [dif_pos (by simp)]
  simp [List.eraseIdx_append_of_length_le]
theorem pop_ok {t : Addr} {n : Nat} {p : PV} {l : List PV} {hp' : Hp} (R : RepH X ρ hp s.heap) (hn : ρ[n]? = some t) (hl : lstAt hp n = some l) (hg : l.getLast? = some p)
  (hs : setObj n (.list l.dropLast) hp = some hp') (P : Post X (RV X) ρ s (.ok p hp') Q E) : wpAny X.M A (call (.builtin "list.pop") [.ref t]) Q E s := by
 refine x13 (R.lst hn hl) fun vs zq1 hz' rl => ?_
 obtain ⟨e, ho⟩ := zq1
 rw [List.getLast?_eq_getElem?, ← VRs.length rl] at hg
 refine x12 (VRs.get rl hg) fun y hy ry => ?_
 refine call_meets PySem.F.slot_list_pop ⟨_, ho, rfl⟩ PySem.F.entry_list_pop (PySem.F.args_list_pop_1 _) (PySem.MeetsSeq.list_pop_last t vs.toArray e y (by rw [List.size_toArray, List.getElem?_toArray]; exact hy) (by rw [List.size_toArray]; exact hz')) ⟨ho, ?_⟩
 unfold setObj at hs
 split at hs
 ·cases hs
  generalize hH : s.heap.update t (Obj.mapSeq fun xs => xs.eraseIdxIfInBounds (vs.toArray.size - 1)) = h'
  have hk : ∀ b o, s.heap.get? b = some o → b ≠ t → h'.get? b = some o := fun b o eb hb => by
   rw [← hH, Heap.get?_update_other _ _ (Ne.symm hb)]; exact eb
  have kf : KeepF ρ s.heap h' := fun b o eb z_ hf => hk b o eb fun q => by
   subst q; obtain rfl := Option.some.inj (ho.symm.trans eb); exact Fixed.not rfl (by decide) (by decide) hf
  have hnew : LI h' t vs.dropLast.toArray := by
   have hg := Heap.get?_update_self (fun o => Obj.mapSeq (fun xs => xs.eraseIdxIfInBounds (vs.toArray.size - 1)) o) ho rfl
   rw [← erase_last, ← hH]
   exact ei11 _ hg
  have rd : VRs X ρ s.heap vs.dropLast l.dropLast := by
   rw [List.dropLast_eq_take, List.dropLast_eq_take, ← VRs.length rl]; exact rl.take _
  refine P y _ s.toks ρ (Grow.refl _ _) (Keep.of_off fun b o eb hb => hk b o eb fun q => hb (q ▸ List.mem_of_getElem? hn)) (R.set hn kf hk hnew (Nat.le_trans (by rw [List.length_dropLast]; exact Nat.sub_le _ _) hz') (rd.keepF kf)) (ry.keepF kf)
 ·cases hs
end
end Mine
end
section
namespace Mine
open PySem PySem.Calls PyProof.Rows PySem.SeqAt
section
variable {M : Model} {A : Around} {E : Value → Shared → Prop} {s : Shared}
theorem callWith_machine {pos : Pos} {f : Value} {first : List Value} {args : List (Bool × Sem Value)} {Q : Value → Shared → Prop} (hf : keeperOf f = pure .machine) (hplain : args.any (·.1) = false)
  (h : wpAny M A (evalArgs f true args []) (fun a s₁ => wpAny M A (call f (first ++ a.pos) a.kw) Q E s₁) E s) :
  wpAny M A (callWith pos f first args []) Q E s := by
 unfold callWith
 refine wpAny_bind (wpAny_holding (wpAny_mono h (fun a s₁ h₁ => wpAny_bind (wpAny_standAt ?_)) fun z_ z_ x => x))
 simp only [hplain, List.any_nil, Bool.or_false]
 refine wpAny_bind (wpAny_of_eq hf ?_)
 exact wpAny_bind (wpAny_mono h₁ (fun r s₂ hr => wpAny_bind (wpAny_holding (wpAny_point (wpAny_pure hr)))) fun z_ z_ x => x)
end
section
variable {X : Cx} {sc : Scope} {k : Nat}
theorem SEs.plain {es : List Expr} {fs : List (Loc → Hp → Res PV)} (h : SEs X sc k es fs) (pos : Pos) (env : Env) : (backTo pos (starEach es env)).any (·.1) = false := by
 induction h with
 | nil => rfl
 | cons he hs r ih =>
  rw [hs env]
  show (false || (backTo pos (starEach _ env)).any (·.1)) = false
  rw [ih]; rfl
theorem args_ok {pos : Pos} {f : Value} {es : List Expr} {fs : List (Loc → Hp → Res PV)} {A : Around} {env : Env} {s : Shared} {ρ : List Addr} {loc : Loc} {hp : Hp} {γ δ : Type} {R' : Rel γ δ} {Q : γ → Shared → Prop} {E : Value → Shared → Prop} {g : List PV → Hp → Res δ} {W : Args → Shared → Prop}
  (h : SEs X sc k es fs) (I : Inv X sc env ρ loc hp s.heap) (Rm : Room X A k ρ s) (P : Post X R' ρ s ((runEs fs loc hp).bind g) Q E)
  (step : ∀ vs ps s₁ ρ₁ hp₁, Inv X sc env ρ₁ loc hp₁ s₁.heap → Grow ρ ρ₁ s.heap → Keep X ρ s.heap s₁.heap → VRs X ρ₁ s₁.heap vs ps → runEs fs loc hp = .ok ps hp₁ → Post X R' ρ₁ s₁ (g ps hp₁) Q E → Room X A k ρ₁ s₁ → W ⟨vs, []⟩ s₁) :
  wpAny X.M A (evalArgs f true (backTo pos (starEach es env)) []) W E s := by
 cases h with
 | nil => exact PyProof.Rows.evalArgs_none (step [] [] s ρ hp I (Grow.refl _ _) (Keep.refl _ _) .nil rfl P Rm)
 | cons he hs r =>
  have hd := do_spliced (pos := pos) (SEs.cons he hs r)
  have key : wpAny X.M A (spliced (backTo pos (starEach (_ :: _) env))) (fun vs s' => W ⟨vs, []⟩ s') E s := wp_seq hd I Rm P fun vs ps s₁ ρ₁ hp₁ I₁ g₁ k₁ rs e₁ P₁ Rm => step vs ps s₁ ρ₁ hp₁ I₁ g₁ k₁ rs e₁ P₁ Rm
  rw [hs env] at key ⊢
  exact evalArgs_plain key
noncomputable def Names (X : Cx) (sc : Scope) (x : Str) (v : Value) : Prop :=
 ∀ (A : Around) (env : Env) (s : Shared) (pos : Pos) (Q : Value → Shared → Prop) (E : Value → Shared → Prop), env.scope = sc → sc.kind = .function → env.globals = mainGlobals → env.builtins = builtinsNs → BK X s.heap → Q v s → wpAny X.M A (eval (.Name x pos) env) Q E s
theorem call_name {f : Str} {p pos : Pos} {es : List Expr} {env : Env} : eval (.Call (.Name f p) es [] pos) env = (do callWith pos (← eval (.Name f p) env) [] (backTo pos (starEach es env)) []) := rfl
theorem se_bcall {b : Bf} {f : Str} {p pos : Pos} {es : List Expr} {fs : List (Loc → Hp → Res PV)} (hf : Names X sc f (bfVal b)) (h : SEs X sc k es fs) (hl : Bool) (hk : hl = false → 2 ≤ k) :
  SE X sc k (.Call (.Name f p) es [] pos) (fun loc hp => (runEs fs loc hp).bind fun vs hp1 => if (hl && !b.calm) = true then .bad else bfun b vs hp1) := fun A env s ρ loc hp Q E I Rm P => by
 rw [call_name]
 refine wpAny_bind (hf A env s p _ E I.scope I.kind I.glo I.blt I.bk ?_)
 refine callWith_machine (by cases b <;> rfl) (h.plain pos env) (args_ok h I Rm P fun vs ps s₁ ρ₁ hp₁ I₁ g₁ k₁ rs e₁ P₁ Rm => ?_)
 cases hq : (hl && !b.calm) with
 | true => rw [hq] at P₁; exact P₁.elim
 | false =>
  rw [hq] at P₁
  refine bfun_ok (fun hc => Rm.hnd (hk ?_)) I₁.bk I₁.rep rs P₁
  rw [hc] at hq
  simpa using hq
theorem se_isi {t : Ty} (hB : tyIsB t = true) {T f x : Str} {p p' pos : Pos} {e : Expr} {g : Loc → Hp → Res PV} (hf : Names X sc f (.builtin "isinstance")) (hx : Names X sc x (.type (tyNm t))) (he : SE X sc k e g)
  (hs : ∀ env, starEach [e, .Name x p'] env = [(false, eval e env), (false, eval (.Name x p') env)]) :
  SE X sc k (.Call (.Name f p) [e, .Name x p'] [] pos) (fun loc hp => (g loc hp).bind fun a hp1 => (ofOpt (isity a t hp1) hp1).bind fun b hp2 => .ok (.bool b) hp2) := fun A env s ρ loc hp Q E I Rm P => by
 rw [call_name]
 refine wpAny_bind (hf A env s p _ E I.scope I.kind I.glo I.blt I.bk ?_)
 refine callWith_machine rfl (by rw [hs env]; rfl) ?_
 rw [hs env]
 refine evalArgs_plain (spliced_cons ?_)
 refine wp_seq he I Rm P fun va a s₁ ρ₁ hp₁ I₁ g₁ k₁ ra e₁ P₁ Rm => ?_
 refine spliced_cons (hx A env s₁ p' _ E I₁.scope I₁.kind I₁.glo I₁.blt I₁.bk (spliced_nil ?_))
 refine x12 (Post.optB P₁) fun b hb P₂ => ?_
 exact isity_ok I₁.rep ra hB hb fun tk => Post.bool I₁.rep P₂ tk
structure CallOk (X : Cx) (P : MProg) (k : Nat) (C : Caller) : Prop where
 held : P.held = false → 2 ≤ k
 fn : ∀ i ps hp, C i ps hp ≠ .bad → ∃ o fd, X.base.get? (X.fa i) = some o ∧ o.data = .func fd
 run : ∀ (A A' : Around) (s : Shared) (ρ : List Addr) (hp : Hp) (i : Nat) (vs : List Value) (ps : List PV) (Q : Value → Shared → Prop) (E : Value → Shared → Prop),
  BK X s.heap → RepH X ρ hp s.heap → VRs X ρ s.heap vs ps → Nigh A A' → Room X A k ρ s → Post X (RV X) ρ s (C i ps hp) Q E → wpAny X.M A' (call (.ref (X.fa i)) vs) Q E s
theorem se_call {MP : MProg} {C : Caller} {f : Expr} {pos : Pos} {es : List Expr} {g : Loc → Hp → Res PV} {fs : List (Loc → Hp → Res PV)} (HC : CallOk X MP k C) (hf : SE X sc k f g) (h : SEs X sc k es fs)
  (he : ∀ env, eval (.Call f es [] pos) env = (do callWith pos (← eval f env) [] (backTo pos (starEach es env)) [])) :
  SE X sc k (.Call f es [] pos) (fun loc hp => (g loc hp).bind fun v hp1 => match v with | .fn i => (runEs fs loc hp1).bind fun vs hp2 => C i vs hp2 | _ => .bad) := fun A env s ρ loc hp Q E I Rm P => by
 rw [he env]
 refine wpAny_bind (wp_seq hf I Rm P fun va a s₁ ρ₁ hp₁ I₁ g₁ k₁ ra e₁ P₁ Rm => ?_)
 cases ra with
 | fn i =>
  cases hr : runEs fs loc hp₁ with
  | ok ps hp₂ =>
   have P₁' := P₁
   dsimp only at P₁'
   rw [hr, Res.bind_ok] at P₁'
   have hnb : C i ps hp₂ ≠ .bad := fun q => by rw [q] at P₁'; exact P₁'
   refine x22 (HC.fn i ps hp₂ hnb) fun o fd ho hd => ?_
   refine callWith_function (o := o) (fd := fd) (args_ok h I₁ Rm P₁ fun vs ps s₂ ρ₂ hp₂ I₂ g₂ k₂ rs e₂ P₂ Rm => ⟨⟨I₂.bk _ _ ho, hd⟩, ?_⟩)
   exact HC.run A A s₂ ρ₂ hp₂ i vs ps Q E I₂.bk I₂.rep rs (.refl A) Rm P₂
  | exc c hp₂ =>
   refine callWith_function (o := default) (fd := default) (args_ok h I₁ Rm P₁ fun vs ps s₂ ρ₂ hp₂ I₂ g₂ k₂ rs e₂ P₂ Rm => ?_)
   rw [hr] at e₂; cases e₂
  | bad => dsimp only at P₁; rw [hr] at P₁; exact P₁.elim
 | _ => exact P₁.elim
end
end Mine
end
section
namespace Mine
open PySem PySem.Calls PyProof.Rows PySem.SeqAt
noncomputable def plainBase : Expr → Bool
 | .Call (.Name _ _) [] [] _ => false
 | _ => true
theorem attributeBase_plain {o : Expr} {attr : Str} {env : Env} {whole : Sem Value} (h : plainBase o = true) : attributeBase o attr env whole = whole := by
 cases o with
 | Call f es kws p =>
  cases f with
  | Name s q =>
   cases es with
   | nil => cases kws with
    | nil => exact absurd h Bool.false_ne_true
    | cons _ _ => rfl
   | cons _ _ => rfl
  | _ => rfl
 | _ => rfl
theorem eval_method {o : Expr} {name : Str} {apos pos : Pos} {args : List Expr} {env : Env} (h1 : plainBase o = true) (h2 : (apos.endLine == pos.line) = true)
  (h3 : methodCallForm args.length (backTo pos (starEach args env)) [] = true) : eval (.Call (.Attribute o name apos) args [] pos) env = (do
   let ov ← eval o env
   standAt apos.atName
   let (f, first) ← holding [ov] (getMethod ov name (do return (← importBound o env).getD true))
   callWith pos f first (backTo pos (starEach args env)) []) := by
 have e : eval (.Call (.Attribute o name apos) args [] pos) env = (do
   let ov ← attributeBase o name env (eval o env)
   standAt apos.atName
   methodCall o name apos pos env ov (args.length + 0) (backTo pos (starEach args env)) []) := rfl
 rw [e, attributeBase_plain h1]
 unfold methodCall calleeOf methodCallPos
 simp only [Nat.add_zero, h3, h2, Bool.not_true, Bool.false_or, if_true]
 rfl
section
variable {X : Cx} {sc : Scope} {k : Nat}
theorem SEs.form {es : List Expr} {fs : List (Loc → Hp → Res PV)} (h : SEs X sc k es fs) (pos : Pos) (env : Env) (hl : es.length < 30) : methodCallForm es.length (backTo pos (starEach es env)) [] = true := by
 have hp := h.plain pos env
 unfold methodCallForm
 have : (backTo pos (starEach es env)).all (fun x => !x.1) = true := by
  rw [List.all_eq_true]
  intro x hx
  have := List.any_eq_false.mp hp x hx
  simpa using this
 rw [this]
 simp
 exact hl
set_option tactic.hygienic true in
theorem se_meth {m : Mf} {o : Expr} {name : Str} {apos pos : Pos} {es : List Expr} {f : Loc → Hp → Res PV} {fs : List (Loc → Hp → Res PV)} (hm : mfName m = name) (h1 : plainBase o = true) (h2 : (apos.endLine == pos.line) = true) (h3 : es.length < 30)
  (ho : SE X sc k o f) (h : SEs X sc k es fs) :
  SE X sc k (.Call (.Attribute o name apos) es [] pos) (fun loc hp => (f loc hp).bind fun a hp1 => if recv m a hp1 then (runEs fs loc hp1).bind fun vs hp2 => method m a vs hp2 else .bad) := fun A env s ρ loc hp Q E I Rm P => by
 rw [eval_method h1 h2 (h.form pos env h3)]
 refine wpAny_bind (wp_seq ho I Rm P fun va a s₁ ρ₁ hp₁ I₁ g₁ k₁ ra e₁ P₁ Rm => wpAny_bind (wpAny_standAt (wpAny_bind (wpAny_holding ?_))))
 subst hm
 split at P₁
 ·rename_i hr
  cases ra with
  | lst hn =>
   rename_i t n
   replace hr : (lstAt hp₁ n).isSome = true := by cases m <;> exact hr
   refine x11 (Option.isSome_iff_exists.mp hr) fun l hl => ?_
   refine x13 (I₁.rep.lst hn hl) fun vs zq3 z_ z_ => ?_
   obtain ⟨e, ho⟩ := zq3
   cases m with
   | append =>
    refine PySem.getMethod_builtin (T := "list") (id := "list.append") ⟨_, ho, rfl⟩ PySem.F.plainAttrs_list PySem.F.slot_list_append PySem.type_list_append (fun a e => by cases e; exact ei12 _ ho rfl) ?_
    refine callWith_machine rfl (h.plain pos env) (args_ok h I₁ Rm P₁ fun vs ps s₂ ρ₂ hp₂ I₂ g₂ k₂ rs e₂ P₂ Rm => ?_)
    revert g₂; refine y12 fun ex zq2 z_ => ?_
    subst zq2
    have hn₂ := hn
    have hlt := (List.getElem?_eq_some_iff.mp hn).1
    rw [← List.getElem?_append_left (l₂ := ex) hlt] at hn₂
    cases rs with
    | nil => exact P₂.elim
    | cons r rs' =>
     cases rs' with
     | cons _ _ => exact P₂.elim
     | nil =>
      dsimp only [method, mAppend] at P₂
      split at P₂
      ·rename_i l₂ hl₂
       split at P₂
       ·rename_i hz
        split at P₂
        ·rename_i hp' hs
         exact append_ok I₂.rep hn₂ hl₂ r hz hs P₂
        ·exact P₂.elim
       ·exact P₂.elim
      ·exact P₂.elim
   | pop =>
    refine PySem.getMethod_builtin (T := "list") (id := "list.pop") ⟨_, ho, rfl⟩ PySem.F.plainAttrs_list PySem.F.slot_list_pop PySem.F.type_list_pop (fun a e => by cases e; exact ei12 _ ho rfl) ?_
    refine callWith_machine rfl (h.plain pos env) (args_ok h I₁ Rm P₁ fun vs ps s₂ ρ₂ hp₂ I₂ g₂ k₂ rs e₂ P₂ Rm => ?_)
    revert g₂; refine y12 fun ex zq1 z_ => ?_
    subst zq1
    have hn₂ := hn
    have hlt := (List.getElem?_eq_some_iff.mp hn).1
    rw [← List.getElem?_append_left (l₂ := ex) hlt] at hn₂
    cases rs with
    | cons _ _ => exact P₂.elim
    | nil =>
     dsimp only [method, mPop] at P₂
     split at P₂
     ·rename_i l₂ hl₂
      split at P₂
      ·rename_i v hv
       split at P₂
       ·rename_i hp' hs
        exact pop_ok I₂.rep hn₂ hl₂ hv hs P₂
       ·exact P₂.elim
      ·exact P₂.elim
     ·exact P₂.elim
  | _ => cases m <;> cases hr
 ·exact P₁.elim
end
end Mine
end
section
namespace Mine
open PySem PySem.Calls PyProof.Rows PySem.SeqAt
noncomputable def CalmR (A : Around) (h : Heap) : Prop := A.handled = none ∨ ∃ x o vs C, A.handled = some (.ref x) ∧ h.get? x = some o ∧ o.cls = .ref C ∧ o.data = .fields vs ∧ vs[2]? = some .none
theorem Calm.r {X : Cx} {A : Around} {ρ : List Addr} {h : Heap} (c : Calm X A ρ h) : CalmR A h := by
 rcases c with c | ⟨a, c, e, r⟩
 ·exact .inl c
 ·cases r with
  | exc h1 h2 h3 h4 h5 h6 => exact .inr ⟨a, _, _, _, e, h1, h2, h3, h4⟩
theorem CalmR.but {A : Around} {h h' : Heap} {it : Addr} {o : Obj} {s : String} (c : CalmR A h) (ho : h.get? it = some o) (hc : o.cls = .type s) (he : Heap.ExtBut it h h') : CalmR A h' := by
 rcases c with c | ⟨x, ox, vs, C, e, h1, h2, h3, h4⟩
 ·exact .inl c
 ·refine .inr ⟨x, ox, vs, C, e, he x ox (fun q => ?_) h1, h2, h3, h4⟩
  subst q
  obtain rfl := Option.some.inj (ho.symm.trans h1)
  rw [hc] at h2; cases h2
theorem CalmR.butF {A : Around} {h h' : Heap} {it : Addr} (c : CalmR A h) (ho : ∀ o, h.get? it = some o → ¬ Fixed o) (he : Heap.ExtBut it h h') : CalmR A h' := by
 rcases c with c | ⟨x, ox, vs, C, e, h1, h2, h3, h4⟩
 ·exact .inl c
 ·refine .inr ⟨x, ox, vs, C, e, he x ox (fun q => ?_) h1, h2, h3, h4⟩
  subst q
  exact ho _ h1 (.inr ⟨.inr ⟨C, h2⟩, vs, h3⟩)
theorem CalmR.all {A : Around} {h h' : Heap} (c : CalmR A h) (k : ∀ b o, h.get? b = some o → h'.get? b = some o) : CalmR A h' :=
 c.imp id (y43 fun x o vs C e h1 r => ei43 x o vs C e (k _ _ h1) r)
theorem entry_unchain : entryFor table "proto.unchain" = some Builtin.«proto.unchain» := entryFor_of_tree (by kernel_rfl)
section
variable {prog : Program} {w : World} {A : Around} {E : Value → Shared → Prop} {s : Shared}
theorem stop_calm {α : Type} {Q : α → Shared → Prop} (hc : CalmR A s.heap)
  (hE : ∀ h' e, (∀ b o, s.heap.get? b = some o → h'.get? b = some o) → (∃ o, h'.get? e = some o ∧ o.cls = .type "StopIteration") → E (.ref e) { s with heap := h' }) :
  wpAny (model prog w) A (newExc (.type "StopIteration") [] >>= fun e => (raiseNew e : Sem α)) Q E s := by
 refine wpAny_bind ?_
 simp only [newExc, newTuple]
 refine wpAny_bind (wpAny_newObj_type ?_ (by size_fits))
 refine wpAny_bind (m := firstArgMember _ _) (wpAny_of_eq (a := Value.none) (by first | rfl | (simp only [firstArgMember]; rfl)) ?_)
 refine wpAny_newObj_type ?_ (by size_fits)
 simp only [raiseNew]
 refine wpAny_bind (wpAny_handled ?_)
 rcases hc with hc | ⟨x, o, vs, C, e, h1, h2, h3, h4⟩
 ·rw [hc]
  exact wpAny_bind (wpAny_pure (wpAny_throw (hE _ _ (fun b o e => Heap.get?_push_of_some _ (Heap.get?_push_of_some _ e)) ⟨_, Heap.get?_push_size _ rfl, rfl⟩)))
 ·rw [e]
  generalize hH : s.heap.push { cls := .type "tuple", data := .seq ([] : List Value).toArray } = H at *
  have kH : ∀ b o, s.heap.get? b = some o → H.get? b = some o := fun b o e => hH ▸ Heap.get?_push_of_some _ e
  generalize hob : ({ cls := .type "StopIteration", dict := none, data := .fields (#[.ref s.heap.objs.size, .none, .none, .none, .bool false, Value.none] ++ ownMembersOf (.type "StopIteration") []) } : Obj) = ob at *
  have hcb : ob.cls = .type "StopIteration" := by rw [← hob]
  have hfb : ob.isFreed = false := by rw [← hob]; rfl
  refine x12 (⟨_, by rw [← hob], by simp; omega⟩ : ∃ vb, ob.data = .fields vb ∧ 2 < vb.size) fun vb hdb hsb => ?_
  have hx := kH _ _ h1
  have hxs : x ≠ H.objs.size := Nat.ne_of_lt (Heap.lt_size hx)
  dsimp only
  have hne : ((Value.ref x != Value.ref H.objs.size) = true) := by simpa using hxs
  rw [if_pos hne]
  refine wpAny_bind (wpAny_holding (wpAny_runValue (codeAny_builtin entry_unchain ?_)))
  show wpAny _ _ (field (.ref x) 2 >>= _) _ _ _
  refine wpAny_bind (wpAny_field (Heap.get?_push_of_some _ hx) h3 h4 ?_)
  refine wpAny_bind (wpAny_pure ?_)
  have hob' : (H.push ob).get? H.objs.size = some ob := Heap.get?_push_size _ hfb
  refine wpAny_pure ?_
  unfold updateField
  show wpAny (model prog w) A _ Q E _
  refine wpAny_bind (wpAny_bind (wpAny_load hob' ?_))
  rw [hdb]
  dsimp only
  rw [if_pos hsb]
  refine wpAny_update hob' ?_
  refine wpAny_throw (hE _ _ (fun b o eb => ?_) ⟨_, Heap.get?_update_self _ hob' (Obj.isFreed_of_fields (Obj.data_mapFields hdb _)), (Obj.cls_mapFields _ _).trans hcb⟩)
  have := kH b o eb
  rw [Heap.get?_update_other _ _ (Nat.ne_of_gt (Heap.lt_size this))]
  exact Heap.get?_push_of_some _ this
theorem tup_stop {it t : Addr} {i : Nat} {items : Array Value} {Q : Option Value → Shared → Prop} (hc : CalmR A s.heap) (hit : s.heap.IsTupleIter it t i) (ht : IsTup s.heap t items) (hx : items[i]? = none)
  (hE : ∀ h' e, Heap.ExtBut it s.heap h' → (∃ o, h'.get? e = some o ∧ o.cls = .type "StopIteration") → E (.ref e) { s with heap := h' }) : wpAny (model prog w) A (callSpecial? (.ref it) (Str.ofString "__next__")) Q E s := by
 refine x13 (id hit) fun o ho hcl hd => ?_
 obtain ⟨ol, hol, _, nl, hdl⟩ := ht
 refine wpAny_callSpecial?_slot (name := Str.ofString "__next__") hit.typeIs F.slot_tuple_iterator_next
  (wpAny_call_entry F.slot_tuple_iterator_next hit.typeIs F.entry_tuple_iterator_next ?_ (F.args_tuple_iterator_next_1 _))
 show wpAny _ _ (field (.ref it) 0 >>= _) _ _ s
 refine wpAny_bind (wpAny_field ho hd (x := .ref t) rfl ?_)
 show wpAny _ _ (if (Value.ref t == Value.none) = true then _ else _) _ _ s
 rw [if_neg (show ¬ ((Value.ref t == Value.none) = true) from Bool.false_ne_true)]
 show wpAny _ _ (field (.ref it) 1 >>= _) _ _ s
 refine wpAny_bind (wpAny_field ho hd (x := .int i 0) rfl ?_)
 show wpAny _ _ (seqItems? (.ref t) >>= _) _ _ s
 refine wpAny_bind (wpAny_seqItems hol hdl ?_)
 simp only [Int.toNat_natCast, hx]
 refine wpAny_bind (wpAny_rule (wpAny_bind (wpAny_setField ho hd (by simp) ?_)))
 have hs := (Heap.SameBut.update s.heap it (Obj.mapFields (·.setIfInBounds 0 Value.none))).extBut
 refine stop_calm (s := { s with heap := _ }) ?_ fun h' e k hx => ?_
 ·exact (show CalmR A.in1 s.heap from hc).but ho hcl hs
 ·exact hE h' e (fun b o hb eb => k b o (hs b o hb eb)) hx
theorem nextOf_list_end {it l : Addr} {i : Nat} {items : Array Value} {Q : Value → Shared → Prop} (hc : CalmR A s.heap) (hit : s.heap.IsListIter it l i) (hl : s.heap.IsList l items) (hx : items[i]? = none)
  (hE : ∀ h' e, Heap.ExtBut it s.heap h' → (∃ o, h'.get? e = some o ∧ o.cls = .type "StopIteration") → E (.ref e) { s with heap := h' }) : wpAny (model prog w) A (Builtin.SmallTypes.nextOf (.ref it)) Q E s := by
 refine x13 (id hit) fun o ho hcl hd => ?_
 obtain ⟨ol, hol, _, nl, hdl⟩ := hl
 unfold Builtin.SmallTypes.nextOf
 refine wpAny_bind (wpAny_callSpecial?_slot (name := Str.ofString "__next__") hit.typeIs slot_listiter_next
  (wpAny_call_entry slot_listiter_next hit.typeIs entry_listiter_next ?_ (args_listiter_next _)))
 show wpAny _ _ (field (.ref it) 0 >>= _) _ _ s
 refine wpAny_bind (wpAny_field ho hd (x := .ref l) rfl ?_)
 show wpAny _ _ (if (Value.ref l == Value.none) = true then _ else _) _ _ s
 rw [if_neg (show ¬ ((Value.ref l == Value.none) = true) from Bool.false_ne_true)]
 show wpAny _ _ (field (.ref it) 1 >>= _) _ _ s
 refine wpAny_bind (wpAny_field ho hd (x := .int i 0) rfl ?_)
 show wpAny _ _ (seqItems? (.ref l) >>= _) _ _ s
 refine wpAny_bind (wpAny_seqItems hol hdl ?_)
 simp only [Int.toNat_natCast, hx]
 refine wpAny_bind (wpAny_rule (wpAny_bind (wpAny_setField ho hd (by simp) ?_)))
 have hs := (Heap.SameBut.update s.heap it (Obj.mapFields (·.setIfInBounds 0 Value.none))).extBut
 refine stop_calm (s := { s with heap := _ }) ?_ fun h' e k hx => ?_
 ·exact (show CalmR A.in1 s.heap from hc).but ho hcl hs
 ·exact hE h' e (fun b o hb eb => k b o (hs b o hb eb)) hx
theorem unpack_calm {t : Addr} {items : Array Value} {targets : List (Bool × (Value → Sem Unit))} {Q : Unit → Shared → Prop} (hc : CalmR A s.heap) (ht : s.heap.IsTuple t items)
  (hn : targets.length = items.size) (hstar : targets.findIdx? (·.1) = none)
  (h : ∀ h', Heap.ExtBut s.heap.objs.size s.heap h' → wpAny (model prog w) A (assignInOrder (targets.map (·.2)) items.toList) Q E { s with heap := h' }) :
  wpAny (model prog w) A (unpack (.ref t) targets) Q E s := by
 unfold unpack
 rw [hn, hstar]
 have hlt : t ≠ s.heap.objs.size := by revert ht; refine y12 fun o ho z_ => ?_; exact Nat.ne_of_lt (Heap.lt_size ho)
 refine wpAny_bind (wpAny_holding ?_)
 unfold unpackItems notIterableAtAll
 refine wpAny_bind (wpAny_bind (wpAny_specialOf ht.typeIs F.slot_tuple_iter.lookup (wpAny_pure ?_)))
 simp only [Bool.false_eq_true, if_false]
 refine wpAny_bind (wpAny_holding (wpAny_pyIter_tuple ht ?_))
 refine wpAny_bind (wpAny_holding (wpAny_draw_tuple hlt items.size 0 _ _ ⟨_, Heap.get?_push_size _ rfl, rfl, rfl⟩ (ht.push _) (by omega) fun h₁ hit₁ hs₁ => ?_))
 have hall : List.take items.size (List.drop 0 items.toList) = items.toList := by
  rw [List.drop_zero]; exact List.take_of_length_le (by simp)
 rw [hall]
 rw [if_neg (by simp)]
 have ht₁ : h₁.IsTuple t items := (ht.push _).extBut hs₁.extBut hlt
 have kp : Heap.ExtBut s.heap.objs.size s.heap h₁ := fun b o hb e => hs₁.extBut b o hb (Heap.get?_push_of_some _ e)
 have hc₁ : CalmR A h₁ := hc.all fun b o e => kp b o (Nat.ne_of_lt (Heap.lt_size e)) e
 unfold pyNext
 refine wpAny_bind (wpAny_holding (wpAny_bind (wpAny_attempt (tup_stop (s := { s with heap := h₁ }) hc₁ hit₁ ht₁ (by simp) fun h₂ e he₂ hx => ?_))))
 revert hx; refine y12 fun oe hoe hce => ?_
 refine wpAny_bind (wpAny_isInstance (T := "StopIteration") (b := true) ⟨oe, hoe, hce⟩ isSubtype_stop ?_)
 refine wpAny_pure ?_
 simp only [Option.isSome_none, Bool.false_eq_true, if_false]
 exact wpAny_pure (h h₂ fun b o hb e => he₂ b o hb (kp b o hb e))
theorem assign_calm {env : Env} {elts : List Expr} {x1} {pos : Pos} {t : Addr} {items : Array Value} {Q : Unit → Shared → Prop} (hc : CalmR A s.heap) (ht : s.heap.IsTuple t items)
  (hn : (assignEach elts env).length = items.size) (hstar : (assignEach elts env).findIdx? (·.1) = none)
  (h : ∀ h', Heap.ExtBut s.heap.objs.size s.heap h' → wpAny (model prog w) A (assignInOrder ((assignEach elts env).map (·.2)) items.toList) Q E { s with heap := h' }) :
  wpAny (model prog w) A (assign (.Tuple elts x1 pos) env (.ref t)) Q E s := by
 rw [arm_assign_Tuple]
 exact wpAny_bind (wpAny_standAt (unpack_calm hc ht hn hstar h))
end
end Mine
end
section
namespace Mine
open PySem PySem.Calls PyProof.Rows PySem.SeqAt
noncomputable def tailOf (X : Cx) (c : Nat) : List Value := if c = 0 then bmV else .ref (X.ca 0) :: bmV
noncomputable def ExcCls (C N : Addr) (tl : List Value) (o : Obj) : Prop := ∃ nm q bs hdct sn sub ab col dd k0 k1 k2 k3 k5, o = excClassObj nm q C N bs tl hdct sn sub ab col dd k0 k1 k2 k3 k5 "ValueError.__new__"
noncomputable def ClsAt (X : Cx) (h : Heap) (c : Nat) : Prop :=
 ∃ N mN o, h.get? (X.ca c) = some o ∧ ExcCls (X.ca c) N (tailOf X c) o ∧ h.Ns N mN ∧ (∀ n ∈ quietNames, mN n = none) ∧ mN "__class__" = none
structure ClssOk (X : Cx) : Prop where
 all : ∀ c, c < 9 → ClsAt X X.base c
 inj : ∀ c d, c < 9 → d < 9 → X.ca c = X.ca d → c = d
theorem ClsAt.keeps {X : Cx} {h h' : Heap} {c : Nat} (x : ClsAt X h c) (k : ∀ b o, h.get? b = some o → h'.get? b = some o) : ClsAt X h' c := by
 revert x; refine y34 fun N mN o ho hx hN hq => ?_
 exact ei34 N mN o (k _ _ ho) hx (hN.keeps k) hq
theorem ClsAt.tail {X : Cx} {h : Heap} {c : Nat} (x0 : ClsAt X h 0) : OwnTailQ h bmV (tailOf X c) := by
 unfold tailOf
 by_cases hc : c = 0
 ·rw [if_pos hc]; exact .base
 ·rw [if_neg hc]
  revert x0; refine y35 fun N mN z_ hC zq9 hN hq z_ => ?_
  obtain ⟨nm, q, bs, hdct, sn, sub, ab, col, dd, k0, k1, k2, k3, k5, rfl⟩ := zq9
  exact .own hC hN hq .base
theorem has_cls {X : Cx} (CO : ClssOk X) {c d : Nat} (hc : c < 9) (hd : d < 9) : (Value.ref (X.ca c) :: tailOf X c).contains (.ref (X.ca d)) = under c d := by
 have key : ∀ e, e < 9 → (Value.ref (X.ca d) == Value.ref (X.ca e)) = (d == e) := fun e he => by
  by_cases q : d = e
  ·subst q; simp
  ·rw [beq_eq_false_iff_ne.mpr q, beq_eq_false_iff_ne]
   intro z; exact q (CO.inj _ _ hd he (by injection z))
 unfold tailOf under
 rw [List.contains_cons, key c hc]
 by_cases h0 : c = 0
 ·subst h0
  rw [if_pos rfl]
  cases hq : d == 0 with
  | true => rfl
  | false =>
   have : (0 == d) = false := by rw [beq_eq_false_iff_ne] at hq ⊢; exact fun z => hq z.symm
   rw [this]; rfl
 ·rw [if_neg h0, List.contains_cons, key 0 (by decide)]
  have : bmV.contains (.ref (X.ca d)) = false := rfl
  rw [this, Bool.or_false, Bool.or_comm]
  congr 1
  by_cases q : d = c
  ·subst q; rfl
  ·rw [beq_eq_false_iff_ne.mpr q, beq_eq_false_iff_ne.mpr (Ne.symm q)]
theorem has_type {X : Cx} {c : Nat} {v : Value} (hv : bmV.contains v = true) : (Value.ref (X.ca c) :: tailOf X c).contains v = true := by
 unfold tailOf
 by_cases h0 : c = 0
 ·rw [if_pos h0, List.contains_cons, hv, Bool.or_true]
 ·rw [if_neg h0, List.contains_cons, List.contains_cons, hv, Bool.or_true, Bool.or_true]
theorem lk_verr_class : typeLookup (.type "ValueError") "__class__" = pure (some (.builtin "object.__class__")) := by rw [typeLookup_type, builtinLookup_eq_fast]; kernel_rfl
section
variable {X : Cx} {prog : Program} {w : World} {A : Around} {E : Value → Shared → Prop} {h : Heap} {g : Array GenState} {d : Drawn} {t : Nat} {os : OsState} {a : Addr} {o : Obj} {c : Nat}
theorem lookup_class {M : Model} {Q : Option Value → Shared → Prop} (x0 : ClsAt X h 0) (xc : ClsAt X h c) (hq : Q (some (.builtin "object.__class__")) ⟨h, g, d, t, os⟩) : wpAny M A (typeLookup (.ref (X.ca c)) "__class__") Q E ⟨h, g, d, t, os⟩ := by
 have hrest : lookupAlong bmV "__class__" = pure (some (.builtin "object.__class__")) := by
  have := lk_verr_class
  rw [typeLookup_eq, PySem.F.excBase_ValueError.mroIs] at this
  exact this
 revert xc; refine y35 fun N mN z_ hC zq8 hN z_ hcl => ?_
 obtain ⟨nm, q, bs, hdct, sn, sub, ab, col, dd, k0, k1, k2, k3, k5, rfl⟩ := zq8
 rw [typeLookup_eq]
 refine wpAny_bind (wpAny_mroOf_exc hC ?_)
 rw [lookupAlong_cons]
 refine wpAny_bind (wpAny_classOwn_exc hC hN ?_)
 rw [hcl]
 show wpAny M A (lookupAlong (tailOf X c) "__class__") Q E _
 unfold tailOf
 by_cases h0 : c = 0
 ·rw [if_pos h0, hrest]; exact wpAny_pure hq
 ·rw [if_neg h0]
  revert x0; refine y35 fun N mN z_ hC zq7 hN z_ hcl => ?_
  obtain ⟨nm, q, bs, hdct, sn, sub, ab, col, dd, k0, k1, k2, k3, k5, rfl⟩ := zq7
  rw [lookupAlong_cons]
  refine wpAny_bind (wpAny_classOwn_exc hC hN ?_)
  rw [hcl]
  show wpAny M A (lookupAlong bmV "__class__") Q E _
  rw [hrest]; exact wpAny_pure hq
theorem class_get_exc {R : Result → Shared → Prop} (xc : ClsAt X h c) (hx : h.get? a = some o) (hc : o.cls = .ref (X.ca c)) (hq : R (.ok (.ret (.ref (X.ca c)))) ⟨h, g, d, t, os⟩) :
  codeAny (model prog w) A (.call (.builtin "getset_descriptor.__get__") ⟨[.builtin "object.__class__", .ref a, .ref (X.ca c)], []⟩) R ⟨h, g, d, t, os⟩ := by
 revert xc; refine y35 fun N mN z_ hC zq6 hN z_ hcl => ?_
 obtain ⟨nm, q, bs, hdct, sn, sub, ab, col, dd, k0, k1, k2, k3, k5, rfl⟩ := zq6
 have hT5 : (⟨h, g, d, t, os⟩ : Shared).TypeIs (.builtin "object.__class__") "getset_descriptor" := F.typeOf_object_class
 have hcB : (Value.ref (X.ca c) :: tailOf X c).contains (.type (".".intercalate ("object.__class__".cutAt '.').dropLast)) = true := by
  rw [F.owner_object_class]; exact has_type rfl
 refine codeAny_call_builtin F.slot_gs_get.plain F.entry_gs_get (F.slot_gs_get.check _ _ _ _ _ _ _ _ hT5 (F.args_gs_get _ _ _) ?_)
 repeat (any_goals (first | assumption | (with_reducible refine wpAny_loadPart_at hx ?_; rw [hc]) | (with_reducible refine wpAny_isSubtype_exc hC ?_; rw [hcB]) | wp_step))
 refine ⟨Code.quiet_builtin _ (by decide +kernel), codeAny_builtin F.entry_object_class ?_⟩
 repeat (any_goals (first | assumption | (with_reducible refine wpAny_loadPart_at hx ?_; rw [hc]) | wp_step))
theorem class_entry_exc {tk : Tok} {Q : Fin → Shared → Prop} (x0 : ClsAt X h 0) (xc : ClsAt X h c) (hx : h.get? a = some o) (hc : o.cls = .ref (X.ca c)) (hq : Q (.done (.ret (.ref (X.ca c)))) ⟨h, g, d, t, os⟩) :
  wpAny (model prog w) A (Builtin.«object.__getattribute__» ⟨[.ref a, .str "__class__" tk], []⟩) Q E ⟨h, g, d, t, os⟩ := by
 have hT5 : (⟨h, g, d, t, os⟩ : Shared).TypeIs (.builtin "object.__class__") "getset_descriptor" := F.typeOf_object_class
 have f5 := F.typeOf_object_class
 have f6 := F.slot_gs_get.lookup
 have f7 := F.slot_gs_set.lookup
 repeat (any_goals (first | assumption | (with_reducible refine wpAny_loadPart_at hx ?_; rw [hc]) | with_reducible refine lookup_class x0 xc ?_ | wp_step))
 refine class_get_exc xc hx hc ?_
 repeat (any_goals (first | assumption | wp_step))
theorem class_call_exc {tk : Tok} {R : Result → Shared → Prop} (x0 : ClsAt X h 0) (xc : ClsAt X h c) (hx : h.get? a = some o) (hc : o.cls = .ref (X.ca c)) (hq : R (.ok (.ret (.ref (X.ca c)))) ⟨h, g, d, t, os⟩) :
  codeAny (model prog w) A (.call (.builtin "BaseException.__getattribute__") ⟨[.ref a, .str "__class__" tk], []⟩) R ⟨h, g, d, t, os⟩ := by
 have xc' := xc
 revert xc; refine y35 fun N mN z_ hC zq5 hN z_ hcl => ?_
 obtain ⟨nm, q, bs, hdct, sn, sub, ab, col, dd, k0, k1, k2, k3, k5, rfl⟩ := zq5
 exact codeAny_call_builtin PySem.F.attrBase_ValueError.ga.plain F.entry_bexc_ga (wpAny_check_ga_own PySem.F.attrBase_ValueError hC x0.tail hx hc (class_entry_exc x0 xc' hx hc hq))
theorem class_by_exc {tk : Tok} {Q : Value → Shared → Prop} (x0 : ClsAt X h 0) (xc : ClsAt X h c) (hx : h.get? a = some o) (hc : o.cls = .ref (X.ca c)) (hq : Q (.ref (X.ca c)) ⟨h, g, d, t, os⟩) :
  wpAny (model prog w) A (getAttrBy (.ref a) (.str "__class__" tk) false) Q E ⟨h, g, d, t, os⟩ := by
 have xc' := xc
 revert xc; refine y35 fun N mN z_ hC zq4 hN hmN hcl => ?_
 obtain ⟨nm, q, bs, hdct, sn, sub, ab, col, dd, k0, k1, k2, k3, k5, rfl⟩ := zq4
 have f3 := PySem.F.attrBase_ValueError.ga.bind (.ref a)
 have hx2 : (Value.builtin "BaseException.__getattribute__" == Value.builtin "object.__getattribute__") = false := by decide +kernel
 have hx1 : (onTheHeap (Value.ref (X.ca c)) && Value.builtin "BaseException.__getattribute__" == Value.builtin "object.__getattribute__") = false := by rw [hx2]; rfl
 have hm1 : ("__getattribute__" : Str) ∈ quietNames := .tail _ (.head _)
 have hm2 : ("__getattr__" : Str) ∈ quietNames := .tail _ (.tail _ (.head _))
 repeat (any_goals (first | assumption | (with_reducible refine wpAny_loadPart_at hx ?_; rw [hc]) | with_reducible refine wpAny_typeLookup_tailQ hm1 hC hN hmN x0.tail PySem.F.attrBase_ValueError.mro PySem.F.attrBase_ValueError.ga.lookup ?_ | with_reducible refine wpAny_typeLookup_tailQ hm2 hC hN hmN x0.tail PySem.F.attrBase_ValueError.mro PySem.F.attrBase_ValueError.noGetattr ?_ | wp_step))
 refine class_call_exc x0 xc' hx hc ?_
 repeat (any_goals (first | assumption | wp_step))
theorem class_attr_exc {Q : Option Value → Shared → Prop} (x0 : ClsAt X h 0) (xc : ClsAt X h c) (hx : h.get? a = some o) (hc : o.cls = .ref (X.ca c)) (hq : Q (some (.ref (X.ca c))) ⟨h, g, d, t + 1, os⟩) : wpAny (model prog w) A (getAttr? (.ref a) "__class__") Q E ⟨h, g, d, t, os⟩ := by
 unfold getAttr? getAttrBy?
 repeat (any_goals (first | assumption | with_reducible apply class_by_exc x0 xc hx hc | wp_step))
theorem isi_own {e : Nat} {dep : Int} {tk : Tok} {Q : Fin → Shared → Prop} (CO : ClssOk X) (B : BK X h) (hc9 : c < 9) (he9 : e < 9) (hx : h.get? a = some o) (hc : o.cls = .ref (X.ca c)) (hq : ∀ t', Q (.done (.ret (.bool (under c e)))) ⟨h, g, d, t', os⟩) :
  wpAny (model prog w) A (Builtin.«isinstance.nested» ⟨[.ref a, .ref (X.ca e), .int dep tk], []⟩) Q E ⟨h, g, d, t, os⟩ := by
 have x0 := (CO.all 0 (by decide)).keeps B
 have xc := (CO.all c hc9).keeps B
 have xe := (CO.all e he9).keeps B
 have xc' := xc
 revert xc; refine y35 fun N mN z_ hC zq3 hN hmN hcl => ?_
 obtain ⟨nm, q, bs, hdct, sn, sub, ab, col, dd, k0, k1, k2, k3, k5, rfl⟩ := zq3
 revert xe; refine y35 fun N' mN' z_ hC' zq2 hN' hmN' hcl' => ?_
 obtain ⟨nm', q', bs', hdct', sn', sub', ab', col', dd', k0', k1', k2', k3', k5', rfl⟩ := zq2
 have hcon := has_cls CO hc9 he9
 by_cases hce : c = e
 ·subst hce
  have hu : under c c = true := by unfold under; simp
  rw [hu] at hq
  have hb : (Value.ref (X.ca c) == Value.ref (X.ca c)) = true := by simp
  have hq0 := hq t
  repeat (any_goals (first | assumption | (with_reducible refine wpAny_loadPart_at hx ?_; rw [hc]) | wp_step))
 ·have hb : (Value.ref (X.ca c) == Value.ref (X.ca e)) = false := by
   rw [beq_eq_false_iff_ne]; intro z; exact hce (CO.inj _ _ hc9 he9 (by injection z))
  have hq0 := hq t
  have hq1 := hq (t + 1)
  cases hu : under c e with
  | true =>
   rw [hu] at hq0 hcon
   repeat (any_goals (first | assumption | (with_reducible refine wpAny_loadPart_at hx ?_; rw [hc]) | with_reducible refine wpAny_loadPart_at hC' ?_ | (with_reducible refine wpAny_isSubtype_exc hC ?_; rw [hcon]) | wp_step))
  | false =>
   rw [hu] at hq1 hcon
   repeat (any_goals (first | assumption | (with_reducible refine wpAny_loadPart_at hx ?_; rw [hc]) | with_reducible refine wpAny_loadPart_at hC' ?_ | with_reducible refine wpAny_loadPart_at hC ?_ | (with_reducible refine wpAny_isSubtype_exc hC ?_; rw [hcon]) | with_reducible apply class_attr_exc x0 xc' hx hc | wp_step))
theorem isi_verr {dep : Int} {tk : Tok} {Q : Fin → Shared → Prop} (CO : ClssOk X) (B : BK X h) (hc9 : c < 9) (hx : h.get? a = some o) (hc : o.cls = .ref (X.ca c)) (hq : Q (.done (.ret (.bool true))) ⟨h, g, d, t, os⟩) :
  wpAny (model prog w) A (Builtin.«isinstance.nested» ⟨[.ref a, .type "ValueError", .int dep tk], []⟩) Q E ⟨h, g, d, t, os⟩ := by
 refine x35 ((CO.all c hc9).keeps B) fun N mN z_ hC zq1 hN hmN hcl => ?_
 obtain ⟨nm, q, bs, hdct, sn, sub, ab, col, dd, k0, k1, k2, k3, k5, rfl⟩ := zq1
 have hcon : (Value.ref (X.ca c) :: tailOf X c).contains (.type "ValueError") = true := has_type rfl
 have hty : typeOf (.type "ValueError") = pure (.type "type") := by kernel_rfl
 have hb : (Value.ref (X.ca c) == Value.type "ValueError") = false := rfl
 repeat (any_goals (first | assumption | (with_reducible refine wpAny_loadPart_at hx ?_; rw [hc]) | (with_reducible refine wpAny_isSubtype_exc hC ?_; rw [hcon]) | wp_step))
end
inductive ClsV (X : Cx) : Ty → Value → Prop
 | verr : ClsV X .verr (.type "ValueError")
 | own (d : Nat) : d < 9 → ClsV X (.own d) (.ref (X.ca d))
set_option tactic.hygienic true in
theorem isiX_ok {X : Cx} {A : Around} {E : Value → Shared → Prop} {s : Shared} {ρ : List Addr} {hp : Hp} {va v : Value} {a : PV} {t : Ty} {b : Bool} {Q : Value → Shared → Prop} (CO : ClssOk X) (B : BK X s.heap) (ha : VR X ρ s.heap va a) (hv : ClsV X t v) (e : isity a t hp = some b)
  (h : ∀ tk, Q (.bool b) { s with toks := tk }) : wpAny X.M A (call (.builtin "isinstance") [va, v]) Q E s := by
 have hB : tyIsB t = false := by cases hv <;> rfl
 cases ha with
 | exc h1 h2 h3 h4 h5 h6 =>
  rename_i a c o vs
  refine call_isinstance (S := fun z_ R s => BK X s.heap ∧ s.heap.get? a = some o ∧ ∀ tk, R (.ok (.ret (.bool b))) { s with toks := tk }) (fun z_ z_ A R s hs => ?_) ⟨B, h1, fun tk => h tk⟩
  obtain ⟨hh, g, d, tk, os⟩ := s
  revert hs; refine y03 fun B' h1' hr => ?_
  cases hv with
  | verr => cases e; exact isinstance_outer (isi_verr CO B' h5 h1' h2 (hr tk)) (by intro q; cases q)
  | own d hd => cases e; exact isinstance_outer (isi_own CO B' h5 hd h1' h2 fun t' => hr t') (by intro q; cases q)
 | _ => exact no ((if_neg (by rw [hB]; decide)).symm.trans e)
end Mine
end
section
namespace Mine
open PySem PySem.Calls PyProof.Rows PySem.SeqAt
section
variable {prog : Program} {w : World} {A : Around} {E : Value → Shared → Prop} {s : Shared}
end
inductive In (X : Cx) (ρ : List Addr) (h : Heap) (I : Addr) : Src → Prop
 | at {a : Addr} {n i : Nat} : ρ[n]? = some a → h.IsListIter I a i → In X ρ h I (.at n i)
theorem In.keep {X : Cx} {ρ ρ' : List Addr} {h h' : Heap} {I : Addr} {src : Src} (x : In X ρ h I src) (kf : KeepF ρ h h') (g : Grow ρ ρ' h) (kI : ∀ o, h.get? I = some o → h'.get? I = some o) : In X ρ' h' I src := by
 cases x with
 | «at» hn hit =>
  revert g; refine y12 fun e zq1 z_ => ?_
  subst zq1
  refine .at ?_ (hit.at fun o eo => kI o eo)
  rw [List.getElem?_append_left (List.getElem?_eq_some_iff.mp hn).1]; exact hn
theorem In.there {X : Cx} {ρ : List Addr} {h : Heap} {I : Addr} {src : Src} (x : In X ρ h I src) : ∃ o, h.get? I = some o ∧ ¬ Fixed o ∧ o.cls ≠ .type "zip" := by
 cases x with
 | «at» _ hit =>
  revert hit; refine y13 fun o ho hc z_ => ?_
  exact ei13 o ho (Fixed.not hc (by decide) (by decide)) (by rw [hc]; decide)
theorem In.nodict {X : Cx} {ρ : List Addr} {h : Heap} {I : Addr} {src : Src} (x : In X ρ h I src) (o : Obj) (e : h.get? I = some o) (es : Array DictEntry) (ep : Nat) : o.data ≠ .dict es ep := fun q => by
 cases x with
 | «at» _ hit => revert hit; refine y13 fun o' e' z_ hd => ?_; obtain rfl := Option.some.inj (e.symm.trans e'); rw [hd] at q; cases q
theorem In.keepSame {X : Cx} {ρ : List Addr} {h h' : Heap} {I b : Addr} {src : Src} (x : In X ρ h I src) (hb : ∃ o, h.get? b = some o ∧ (¬ Fixed o ∨ b ∈ ρ)) (hne : I ≠ b) (hs : Heap.ExtBut b h h') : In X ρ h' I src := by
 refine x.keep (fun c o e hc hf => hs c o (fun q => ?_) e) (Grow.refl _ _) (fun o e => hs _ _ hne e)
 subst q
 revert hb; refine y12 fun o' e' hn => ?_
 obtain rfl := Option.some.inj (e.symm.trans e')
 rcases hn with hn | hn
 ·exact hn hf
 ·exact hc hn
section
variable {X : Cx} {A : Around} {s : Shared} {ρ : List Addr} {hp : Hp} {E : Value → Shared → Prop}
set_option tactic.hygienic true in
theorem in_next {I : Addr} {src : Src} {r : Option (PV × Src)} {Q : Value → Shared → Prop} (hh : CalmR A s.heap) (R : RepH X ρ hp s.heap) (hI : I ∉ ρ) (x : In X ρ s.heap I src) (e : src.next hp = some r)
  (hend : r = none → ∀ h' ex, Heap.ExtBut I s.heap h' → (∃ o, h'.get? ex = some o ∧ o.cls = .type "StopIteration") → E (.ref ex) { s with heap := h' })
  (hitem : ∀ p src', r = some (p, src') → ∀ v h' tk, Heap.SameBut I s.heap h' → In X ρ h' I src' → VR X ρ h' v p → Q v { s with heap := h', toks := tk }) : wpAny X.M A (Builtin.SmallTypes.nextOf (.ref I)) Q E s := by
 refine x13 x.there fun oI hoI hfI z_ => ?_
 have kf : ∀ {h'}, Heap.ExtBut I s.heap h' → KeepF ρ s.heap h' := fun he b o eb z_ hf => he b o (fun q => by subst q; obtain rfl := Option.some.inj (hoI.symm.trans eb); exact hfI hf) eb
 cases x with
 | «at» hn hit =>
  rename_i a n i
  have e' := e
  unfold Src.next at e'
  split at e'
  ·rename_i l hl
   refine x13 (R.lst hn hl) fun vs il hz rl => ?_
   cases hv : l[i]? with
   | none =>
    rw [hv] at e'; cases e'
    have hnone : vs.toArray[i]? = none := by
     have h1 : l.length ≤ i := by simpa using hv
     rw [← VRs.length rl] at h1
     simpa using h1
    exact nextOf_list_end hh hit il.list hnone fun h' ex he hx => hend rfl h' ex he hx
   | some p =>
    rw [hv] at e'; cases e'
    refine x12 (VRs.get rl hv) fun v hvv rv => ?_
    exact wpAny_nextOf_list_item hit il.list (x := v) (by simpa using hvv) fun h' hit' hs => hitem p _ rfl v h' s.toks hs (.at hn hit') (rv.keepF (kf hs.extBut))
  ·cases e'
theorem RepH.own {h' : Heap} {m : Nat} {TO : Addr} {h : Heap} {x y : Value} (R : RepH X ρ hp h) (hm : ρ[m]? = some TO) (ho : hp.os[m]? = some .own) (kf : KeepF ρ h h') (k : ∀ b o, h.get? b = some o → b ∈ ρ → b ≠ TO → h'.get? b = some o)
  (hn : h'.get? TO = some { cls := .type "tuple", data := .seq #[x, y] }) : RepH X ρ hp h' := by
 refine ⟨R.len, R.nodup, R.new, fun n b o e1 e2 => ?_⟩
 have hlt : n < ρ.length := (List.getElem?_eq_some_iff.mp e1).1
 by_cases hnm : n = m
 ·subst hnm
  obtain rfl := Option.some.inj (hm.symm.trans e1)
  obtain rfl := Option.some.inj (ho.symm.trans e2)
  exact ei21 x y hn
 ·refine ObjR.keepF (R.obj n b o e1 e2) kf fun ob eo => k b ob eo (List.mem_of_getElem? e1) fun q => ?_
  subst q
  exact hnm ((List.getElem?_inj hlt R.nodup).mp (e1.trans hm.symm))
end
end Mine
end
section
namespace Mine
open PySem PySem.Calls PyProof.Rows PySem.SeqAt
section
variable {X : Cx} {A : Around} {s : Shared} {ρ : List Addr} {hp : Hp} {E : Value → Shared → Prop}
theorem RepH.but {h h' : Heap} {b : Addr} (R : RepH X ρ hp h) (hb : b ∉ ρ) (hf : ∃ o, h.get? b = some o ∧ ¬ Fixed o) (hs : Heap.ExtBut b h h') : KeepF ρ h h' ∧ RepH X ρ hp h' := by
 have kf : KeepF ρ h h' := fun c o e z_ hfx => hs c o (fun q => by
  subst q
  revert hf; refine y12 fun o' e' hn => ?_
  obtain rfl := Option.some.inj (e.symm.trans e'); exact hn hfx) e
 exact ⟨kf, R.keepOn kf fun c hc o e => hs c o (fun q => hb (q ▸ hc)) e⟩
structure ZipR (X : Cx) (ρ : List Addr) (h : Heap) (z TI TO i1 i2 : Addr) (m : Nat) (sa sb : Src) (f0 : Value) : Prop where
 hz : IsZip h z TI TO f0
 hTI : IsPair h TI (.ref i1) (.ref i2)
 hm : ρ[m]? = some TO
 xa : In X ρ h i1 sa
 xb : In X ρ h i2 sb
 nz : z ∉ ρ
 nT : TI ∉ ρ
 n1 : i1 ∉ ρ
 n2 : i2 ∉ ρ
 i12 : i1 ≠ i2
theorem ZipR.sep {h : Heap} {z TI TO i1 i2 : Addr} {m : Nat} {sa sb : Src} {f0 : Value} (Z : ZipR X ρ h z TI TO i1 i2 m sa sb f0) :
  (TI ≠ z ∧ i1 ≠ z ∧ i2 ≠ z ∧ TI ≠ i1 ∧ TI ≠ i2) ∧ (TO ≠ z ∧ TO ≠ TI ∧ TO ≠ i1 ∧ TO ≠ i2) := by
 have hTO : TO ∈ ρ := List.mem_of_getElem? Z.hm
 refine x13 Z.xa.there fun o1 e1 f1 c1 => ?_
 refine x13 Z.xb.there fun o2 e2 f2 c2 => ?_
 refine ⟨⟨fun q => ?_, fun q => ?_, fun q => ?_, fun q => ?_, fun q => ?_⟩, fun q => Z.nz (q ▸ hTO), fun q => Z.nT (q ▸ hTO), fun q => Z.n1 (q ▸ hTO), fun q => Z.n2 (q ▸ hTO)⟩
 ·have a := Z.hTI; have b := Z.hz; rw [q] at a; unfold IsPair at a; rw [b] at a; exact absurd (show Value.type "zip" = Value.type "tuple" from congrArg Obj.cls (Option.some.inj a)) (by decide)
 ·have b := Z.hz; rw [q, b] at e1; cases e1; exact c1 rfl
 ·have b := Z.hz; rw [q, b] at e2; cases e2; exact c2 rfl
 ·have a := Z.hTI; unfold IsPair at a; rw [q, e1] at a; cases a; exact f1 (.inl ⟨rfl, _, _, rfl⟩)
 ·have a := Z.hTI; unfold IsPair at a; rw [q, e2] at a; cases a; exact f2 (.inl ⟨rfl, _, _, rfl⟩)
theorem ex_ne {h : Heap} {ex z TI TO : Addr} {v : Value} {oe : Obj} (hoe : h.get? ex = some oe) (hce : oe.cls = .type "StopIteration") (hz : IsZip h z TI TO v) : ex ≠ z := fun x => by
 rw [x, hz] at hoe; cases hoe; simp at hce
theorem off4 {b z T i j : Addr} (h : b ∉ [z, T, i, j]) : b ≠ z ∧ b ≠ i ∧ b ≠ j := ⟨fun q => h (q ▸ .head _), fun q => h (q ▸ .tail _ (.tail _ (.head _))), fun q => h (q ▸ .tail _ (.tail _ (.tail _ (.head _))))⟩
theorem zip_code {z TI TO i1 i2 : Addr} {m : Nat} {sa sb : Src} {r : Option (PV × Src)} {Q : Value → Shared → Prop} (hh : CalmR A s.heap) (R : RepH X ρ hp s.heap) (Z : ZipR X ρ s.heap z TI TO i1 i2 m sa sb .none) (e : (Src.zip m sa sb).next hp = some r)
  (hend : r = none → ∀ h' ex, KeepF ρ s.heap h' → (∀ b o, b ∉ [z, TI, i1, i2] → b ∉ ρ → s.heap.get? b = some o → h'.get? b = some o) → RepH X ρ hp h' → (∃ o, h'.get? ex = some o ∧ o.cls = .type "StopIteration") → ∀ tk, E (.ref ex) { s with heap := h', toks := tk })
  (hitem : ∀ p sa' sb', r = some (p, .zip m sa' sb') → ∀ (T : Addr) h', KeepF ρ s.heap h' → (∀ b o, b ∉ [z, TI, i1, i2] → b ∉ ρ → s.heap.get? b = some o → h'.get? b = some o) → RepH X ρ hp h' → ZipR X ρ h' z TI TO i1 i2 m sa' sb' (rawInt T) → VR X ρ h' (.ref T) p → ∀ tk, Q (.ref T) { s with heap := h', toks := tk }) :
  wpAny X.M A (Builtin.«zip.__next__» ⟨[.ref z], []⟩) (fun fin s' => ∃ v, fin = .done (.ret v) ∧ Q v s') E s := by
 refine x05 Z.sep fun zq1 TOz TOTI TOi1 TOi2 => ?_
 obtain ⟨TIz, i1z, i2z, TIi1, TIi2⟩ := zq1
 obtain ⟨hz, hTI, hm, xa, xb, nz, nT, n1, n2, i12⟩ := Z
 have hTOin : TO ∈ ρ := List.mem_of_getElem? hm
 -- what the small side says
 unfold Src.next at e
 have hown : hp.os[m]? = some .own := by
  split at e
  ·assumption
  ·cases e
 rw [hown] at e
 dsimp only at e
 refine x21 (R.obj m TO _ hm hown : ∃ a b, IsPair s.heap TO a b) fun a b hTO => ?_
 refine x11 (by
  cases q : sa.next hp with
  | none => rw [q] at e; cases e
  | some ra => exact ei11 ra rfl : ∃ ra, sa.next hp = some ra) fun ra hra => ?_
 have zf : ∀ {h : Heap} {v : Value}, IsZip h z TI TO v → ∃ o, h.get? z = some o ∧ ¬ Fixed o := fun hz => ⟨_, hz, Fixed.not rfl (by decide) (by decide)⟩
 show wpAny _ _ (field (.ref z) 2 >>= _) _ _ _
 refine wpAny_bind (wpAny_field hz rfl (x := .bool false) rfl ?_)
 show wpAny _ _ (field (.ref z) 3 >>= _) _ _ _
 refine wpAny_bind (wpAny_field hz rfl (x := .ref TI) rfl ?_)
 refine wpAny_bind (wpAny_seqItems hTI rfl ?_)
 show wpAny _ _ (Builtin.SmallTypes.ownedTupleIsFree (.ref z) >>= _) _ _ _
 refine wpAny_bind ?_
 unfold Builtin.SmallTypes.ownedTupleIsFree
 refine wpAny_bind (wpAny_field hz rfl (x := .none) rfl (wpAny_pure ?_))
 simp only [if_true]
 refine wpAny_bind (wpAny_rule ?_)
 refine wpAny_bind (wpAny_field hz rfl (x := .ref TO) rfl ?_)
 refine wpAny_bind (wpAny_setField_rec hz (by simp) fun h₁ hz₁ hs₁ => ?_)
 replace hz₁ : IsZip h₁ z TI TO .ellipsis := hz₁
 refine x02 (R.but nz (zf hz) hs₁.extBut) fun kf₁ R₁ => ?_
 have xa₁ := xa.keepSame (x12 (zf hz) fun o e f => ei12 o e (.inl f)) i1z hs₁.extBut
 have xb₁ := xb.keepSame (x12 (zf hz) fun o e f => ei12 o e (.inl f)) i2z hs₁.extBut
 refine wpAny_bind ?_
 simp only [List.zipIdx_cons, List.zipIdx_nil, List.forIn_cons, List.forIn_nil]
 refine wpAny_bind (wpAny_bind (wpAny_onRaise ?_))
 show wpAny _ _ (Builtin.SmallTypes.nextOf (.ref i1) >>= _) _ _ _
 have kk₁ : ∀ b o, b ∉ [z, TI, i1, i2] → b ∉ ρ → s.heap.get? b = some o → h₁.get? b = some o := fun b o hb z_ eb => hs₁.extBut b o (by first | exact (off4 hb).1 | exact (off4 hb).2.1 | exact (off4 hb).2.2) eb
 have hh₁ : CalmR A h₁ := hh.but hz rfl hs₁.extBut
 refine wpAny_bind (in_next (s := { s with heap := h₁ }) hh₁ R₁ n1 xa₁ hra (fun hr h₂ ex hs₂ hex => ?_) (fun p1 sa' hr v1 h₂ tk₂ hs₂ xa₂ rv1 => ?_))
 ·subst hr
  rw [hra] at e; cases e
  revert hex; refine y12 fun oe hoe hce => ?_
  have hz₂ : IsZip h₂ z TI TO .ellipsis := hs₂ _ _ i1z.symm hz₁
  have hez : ex ≠ z := ex_ne hoe hce hz₂
  refine x13 xa₁.there fun o1 e1 f1 z_ => ?_
  refine x02 (R₁.but n1 ⟨o1, e1, f1⟩ hs₂) fun kf₂ R₂ => ?_
  refine wpAny_setField_rec hz₂ (by simp) fun h₃ z_ hs₃ => ?_
  refine x02 (R₂.but nz (zf hz₂) hs₃.extBut) fun kf₃ R₃ => ?_
  exact hend rfl h₃ ex (fun b o eb hb hf => kf₃ b o (kf₂ b o (kf₁ b o eb hb hf) hb hf) hb hf) (fun b o hb hr eb => hs₃.extBut b o (by first | exact (off4 hb).1 | exact (off4 hb).2.1 | exact (off4 hb).2.2) (hs₂ b o (by first | exact (off4 hb).1 | exact (off4 hb).2.1 | exact (off4 hb).2.2) (kk₁ b o hb hr eb))) R₃ ⟨oe, hs₃.extBut _ _ hez hoe, hce⟩ _
 ·subst hr
  rw [hra] at e
  dsimp only at e
  refine x11 (by
   cases q : sb.next hp with
   | none => rw [q] at e; cases e
   | some rb => exact ei11 rb rfl : ∃ rb, sb.next hp = some rb) fun rb hrb => ?_
  rw [hrb] at e
  refine x13 xa₁.there fun o1 e1 f1 z_ => ?_
  refine x02 (R₁.but n1 ⟨o1, e1, f1⟩ hs₂.extBut) fun kf₂ R₂ => ?_
  have xb₂ := xb₁.keepSame ⟨o1, e1, .inl f1⟩ i12.symm hs₂.extBut
  refine wpAny_pure ?_
  have hTO₂ : IsPair h₂ TO a b := hs₂.extBut _ _ TOi1 (hs₁.extBut _ _ TOz hTO)
  refine wpAny_bind (wpAny_seqItems hTO₂ rfl ?_)
  refine wpAny_bind (wpAny_updateSeq_pair hTO₂ fun h₃ hTO₃ hs₃ => ?_)
  replace hTO₃ : IsPair h₃ TO v1 b := hTO₃
  have kf₃ : KeepF ρ h₂ h₃ := fun c o ec hc z_ => hs₃.extBut c o (fun q => hc (q ▸ hTOin)) ec
  have R₃ : RepH X ρ hp h₃ := R₂.own hm hown kf₃ (fun c o ec z_ hne => hs₃.extBut c o hne ec) hTO₃
  have xa₃ := xa₂.keepSame ⟨_, hTO₂, .inr hTOin⟩ (Ne.symm TOi1) hs₃.extBut
  have xb₃ := xb₂.keepSame ⟨_, hTO₂, .inr hTOin⟩ (Ne.symm TOi2) hs₃.extBut
  have rv1₃ := rv1.keepF kf₃
  have hz₃ : IsZip h₃ z TI TO .ellipsis := hs₃.extBut _ _ TOz.symm (hs₂.extBut _ _ i1z.symm hz₁)
  have kk₃ : ∀ b o, b ∉ [z, TI, i1, i2] → b ∉ ρ → s.heap.get? b = some o → h₃.get? b = some o := fun b o hb hr eb => hs₃.extBut b o (fun q => hr (q ▸ hTOin)) (hs₂.extBut b o (by first | exact (off4 hb).1 | exact (off4 hb).2.1 | exact (off4 hb).2.2) (kk₁ b o hb hr eb))
  have kfa : KeepF ρ s.heap h₃ := fun b o eb hb hf => kf₃ b o (kf₂ b o (kf₁ b o eb hb hf) hb hf) hb hf
  refine wpAny_bind (wpAny_letGo (wpAny_pure ?_))
  refine wpAny_bind (wpAny_bind (wpAny_onRaise ?_))
  show wpAny _ _ (Builtin.SmallTypes.nextOf (.ref i2) >>= _) _ _ _
  have hh₃ : CalmR A h₃ := (hh₁.butF (fun o e => by obtain rfl := Option.some.inj (e1.symm.trans e); exact f1) hs₂.extBut).but hTO₂ rfl hs₃.extBut
  refine wpAny_bind (in_next (s := { s with heap := h₃, toks := tk₂ }) hh₃ R₃ n2 xb₃ hrb (fun hr h₄ ex hs₄ hex => ?_) (fun p2 sb' hr v2 h₄ tk₄ hs₄ xb₄ rv2 => ?_))
  ·subst hr
   cases e
   revert hex; refine y12 fun oe hoe hce => ?_
   have hz₄ : IsZip h₄ z TI TO .ellipsis := hs₄ _ _ i2z.symm hz₃
   have hez : ex ≠ z := ex_ne hoe hce hz₄
   refine x13 xb₃.there fun o2 e2 f2 z_ => ?_
   refine x02 (R₃.but n2 ⟨o2, e2, f2⟩ hs₄) fun kf₄ R₄ => ?_
   refine wpAny_setField_rec hz₄ (by simp) fun h₅ z_ hs₅ => ?_
   refine x02 (R₄.but nz (zf hz₄) hs₅.extBut) fun kf₅ R₅ => ?_
   exact hend rfl h₅ ex (fun b o eb hb hf => kf₅ b o (kf₄ b o (kfa b o eb hb hf) hb hf) hb hf) (fun b o hb hr eb => hs₅.extBut b o (by first | exact (off4 hb).1 | exact (off4 hb).2.1 | exact (off4 hb).2.2) (hs₄ b o (by first | exact (off4 hb).1 | exact (off4 hb).2.1 | exact (off4 hb).2.2) (kk₃ b o hb hr eb))) R₅ ⟨oe, hs₅.extBut _ _ hez hoe, hce⟩ _
  ·subst hr
   cases e
   refine x13 xb₃.there fun o2 e2 f2 z_ => ?_
   refine x02 (R₃.but n2 ⟨o2, e2, f2⟩ hs₄.extBut) fun kf₄ R₄ => ?_
   have xa₄ := xa₃.keepSame ⟨o2, e2, .inl f2⟩ i12 hs₄.extBut
   refine wpAny_pure ?_
   have hTO₄ : IsPair h₄ TO v1 b := hs₄.extBut _ _ TOi2 hTO₃
   refine wpAny_bind (wpAny_seqItems hTO₄ rfl ?_)
   refine wpAny_bind (wpAny_updateSeq_pair hTO₄ fun h₅ hTO₅ hs₅ => ?_)
   replace hTO₅ : IsPair h₅ TO v1 v2 := hTO₅
   have kf₅ : KeepF ρ h₄ h₅ := fun c o ec hc z_ => hs₅.extBut c o (fun q => hc (q ▸ hTOin)) ec
   have R₅ : RepH X ρ hp h₅ := R₄.own hm hown kf₅ (fun c o ec z_ hne => hs₅.extBut c o hne ec) hTO₅
   have xa₅ := xa₄.keepSame ⟨_, hTO₄, .inr hTOin⟩ (Ne.symm TOi1) hs₅.extBut
   have xb₅ := xb₄.keepSame ⟨_, hTO₄, .inr hTOin⟩ (Ne.symm TOi2) hs₅.extBut
   have rv1₅ := (rv1₃.keepF kf₄).keepF kf₅
   have rv2₅ := rv2.keepF kf₅
   have hz₅ : IsZip h₅ z TI TO .ellipsis := hs₅.extBut _ _ TOz.symm (hs₄.extBut _ _ i2z.symm hz₃)
   have kk₅ : ∀ b o, b ∉ [z, TI, i1, i2] → b ∉ ρ → s.heap.get? b = some o → h₅.get? b = some o := fun b o hb hr eb => hs₅.extBut b o (fun q => hr (q ▸ hTOin)) (hs₄.extBut b o (by first | exact (off4 hb).1 | exact (off4 hb).2.1 | exact (off4 hb).2.2) (kk₃ b o hb hr eb))
   have kfb : KeepF ρ s.heap h₅ := fun b o eb hb hf => kf₅ b o (kf₄ b o (kfa b o eb hb hf) hb hf) hb hf
   have hTI₅ : IsPair h₅ TI (.ref i1) (.ref i2) := kfb _ _ hTI nT (.inl ⟨rfl, _, _, rfl⟩)
   refine wpAny_bind (wpAny_letGo (wpAny_pure (wpAny_pure ?_)))
   refine wpAny_bind (wpAny_seqItems hTO₅ rfl ?_)
   refine wpAny_bind (wpAny_newTuple ?_)
   have hzlt : z < h₅.objs.size := Heap.lt_size hz₅
   show wpAny _ _ (Builtin.SmallTypes.ownedTupleHandOut (.ref z) (.ref h₅.objs.size) >>= _) _ _ _
   refine wpAny_bind ?_
   unfold Builtin.SmallTypes.ownedTupleHandOut
   have hz₆ : IsZip (h₅.push { cls := .type "tuple", data := .seq #[v1, v2] }) z TI TO .ellipsis := Heap.get?_push_of_some _ hz₅
   refine wpAny_bind (wpAny_setField_rec hz₆ (by simp) fun h₇ hz₇ hs₇ => ?_)
   replace hz₇ : IsZip h₇ z TI TO (rawInt h₅.objs.size) := hz₇
   refine wpAny_setField_rec hz₇ (by simp) fun h₈ hz₈ hs₈ => ?_
   replace hz₈ : IsZip h₈ z TI TO (rawInt h₅.objs.size) := hz₈
   have up : ∀ c o, c ≠ z → h₅.get? c = some o → h₈.get? c = some o := fun c o c1 e => hs₈.extBut _ _ c1 (hs₇.extBut _ _ c1 (Heap.get?_push_of_some _ e))
   have hT₈ : h₈.get? h₅.objs.size = some { cls := .type "tuple", data := .seq #[v1, v2] } := hs₈.extBut _ _ (Nat.ne_of_gt hzlt) (hs₇.extBut _ _ (Nat.ne_of_gt hzlt) (Heap.get?_push_size _ rfl))
   have upx : Heap.ExtBut z h₅ h₈ := fun c o c1 e => up c o c1 e
   refine x02 (R₅.but nz (zf hz₅) upx) fun kf₈ R₈ => ?_
   refine wpAny_pure ⟨_, rfl, hitem _ sa' sb' rfl h₅.objs.size h₈ (fun b o eb hb hf => kf₈ b o (kfb b o eb hb hf) hb hf) (fun b o hb hr eb => up b o (by first | exact (off4 hb).1 | exact (off4 hb).2.1 | exact (off4 hb).2.2) (kk₅ b o hb hr eb)) R₈ ⟨hz₈, up _ _ TIz hTI₅, hm, ?_, ?_, nz, nT, n1, n2, i12⟩ ?_ tk₄⟩
   ·exact xa₅.keepSame (x12 (zf hz₅) fun o e f => ei12 o e (.inl f)) i1z upx
   ·exact xb₅.keepSame (x12 (zf hz₅) fun o e f => ei12 o e (.inl f)) i2z upx
   ·exact .tup (vs := [v1, v2]) ⟨_, hT₈⟩ (by rw [sizeLine_eq]; simp) (.cons (rv1₅.keepF kf₈) (.cons (rv2₅.keepF kf₈) .nil)) (R₅.free (free_size _))
theorem zip_step {z TI TO i1 i2 : Addr} {m : Nat} {sa sb : Src} {r : Option (PV × Src)} {Q : Option Value → Shared → Prop} (hh : CalmR A s.heap) (R : RepH X ρ hp s.heap) (Z : ZipR X ρ s.heap z TI TO i1 i2 m sa sb .none) (e : (Src.zip m sa sb).next hp = some r)
  (hend : r = none → ∀ h', KeepF ρ s.heap h' → (∀ b o, b ∉ [z, TI, i1, i2] → b ∉ ρ → s.heap.get? b = some o → h'.get? b = some o) → RepH X ρ hp h' → ∀ tk, Q none { s with heap := h', toks := tk })
  (hitem : ∀ p sa' sb', r = some (p, .zip m sa' sb') → ∀ (T : Addr) h', KeepF ρ s.heap h' → (∀ b o, b ∉ [z, TI, i1, i2] → b ∉ ρ → s.heap.get? b = some o → h'.get? b = some o) → RepH X ρ hp h' → ZipR X ρ h' z TI TO i1 i2 m sa' sb' (rawInt T) → VR X ρ h' (.ref T) p → ∀ tk, Q (some (.ref T)) { s with heap := h', toks := tk }) :
  wpAny X.M A (pyNext (.ref z)) Q E s := by
 have hT : s.TypeIs (.ref z) "zip" := ⟨_, Z.hz, rfl⟩
 unfold pyNext
 refine wpAny_bind (wpAny_attempt (wpAny_callSpecial?_slot (name := Str.ofString "__next__") hT F.slot_zip_next
  (wpAny_call_entry F.slot_zip_next hT F.entry_zip_next (zip_code (X := X) hh R Z e (fun hr h' ex kf kk R' hex tk => ?_) (fun p sa' sb' hr T h' kf kk R' Z' rv tk => ?_)) (F.args_zip_next_1 _))))
 ·revert hex; refine y12 fun o ho hc => ?_
  refine wpAny_bind (wpAny_isInstance (T := "StopIteration") (b := true) ⟨o, ho, hc⟩ isSubtype_stop ?_)
  exact wpAny_pure (hend hr h' kf kk R' tk)
 ·exact wpAny_pure (hitem p sa' sb' hr T h' kf kk R' Z' rv tk)
end
end Mine
end
section
namespace Mine
open PySem PySem.Calls PyProof.Rows PySem.SeqAt
noncomputable def KeepW (ρ wr : List Addr) (h h' : Heap) : Prop := ∀ b o, b ∉ wr → b ∉ ρ → h.get? b = some o → h'.get? b = some o
theorem KeepW.refl (ρ wr : List Addr) (h : Heap) : KeepW ρ wr h h := fun z_ z_ z_ z_ e => e
theorem KeepW.trans {ρ wr : List Addr} {h h₁ h₂ : Heap} (k : KeepW ρ wr h h₁) (k' : KeepW ρ wr h₁ h₂) : KeepW ρ wr h h₂ := fun b o hb hr e => k' b o hb hr (k b o hb hr e)
theorem KeepF.trans {ρ : List Addr} {h h₁ h₂ : Heap} (k : KeepF ρ h h₁) (k' : KeepF ρ h₁ h₂) : KeepF ρ h h₂ := fun b o e hb hf => k' b o (k b o e hb hf) hb hf
noncomputable def NotOwned (o : Obj) : Prop := ∃ T vs, o.cls = .type T ∧ o.data = .fields vs ∧ ["enumerate", "zip", "dict_itemiterator", "dict_reverseitemiterator", "odict_iterator", "itertools.zip_longest", "itertools.pairwise"].contains T = false
inductive SrcR (X : Cx) (ρ : List Addr) (h : Heap) : List Addr → Value → Src → Prop
 | walk {I : Addr} {fp wr : List Addr} {n : Nat} {P : Nat → Value → Prop} {St : Nat → Heap → Prop} {i : Nat} {l : List PV} :
   (∀ A : Around, A.handled = none → Walks X.prog X.w A I fp wr n P St) → St i h → i + l.length = n → (∀ j v p, P (i + j) v → l[j]? = some p → VR X ρ h v p) →
   (∀ b ∈ fp, b ∉ wr → b ∉ ρ ∧ ∃ o, h.get? b = some o ∧ Fixed o) → (∀ i h, St i h → ∀ b ∈ wr, ∃ o, h.get? b = some o ∧ ¬ Fixed o) → (∀ i h, St i h → ∃ o, h.get? I = some o ∧ NotOwned o) → (∀ b ∈ wr, b = I) → SrcR X ρ h wr (.ref I) (.items l)
 | at {I a : Addr} {n i : Nat} : ρ[n]? = some a → h.IsListIter I a i → SrcR X ρ h [I] (.ref I) (.at n i)
 | enum {e I a : Addr} {n i : Nat} {old : Value} : ρ[n]? = some a → IsEnum h e I i old → h.IsListIter I a i → e ≠ I → SrcR X ρ h [e, I] (.ref e) (.enum n i)
 | zip {z TI TO i1 i2 : Addr} {m : Nat} {sa sb : Src} : ZipR X ρ h z TI TO i1 i2 m sa sb .none → SrcR X ρ h [z, TI, i1, i2] (.ref z) (.zip m sa sb)
inductive Mid (X : Cx) (ρ : List Addr) (h : Heap) : List Addr → Value → Value → Src → Prop
 | plain {wr : List Addr} {I : Addr} {v : Value} {src : Src} : SrcR X ρ h wr (.ref I) src → (∃ o, h.get? I = some o ∧ NotOwned o) → Mid X ρ h wr (.ref I) v src
 | enum {e I a T : Addr} {n i : Nat} {x : Value} : ρ[n]? = some a → IsEnumOut h e I i x T → h.IsListIter I a i → e ≠ I → Mid X ρ h [e, I] (.ref e) (.ref T) (.enum n i)
 | zip {z TI TO i1 i2 T : Addr} {m : Nat} {sa sb : Src} : ZipR X ρ h z TI TO i1 i2 m sa sb (rawInt T) → Mid X ρ h [z, TI, i1, i2] (.ref z) (.ref T) (.zip m sa sb)
noncomputable def Src.isZ : Src → Bool
 | .zip _ _ _ => true
 | _ => false
noncomputable def Src.own : Src → Bool
 | .enum _ _ => true
 | .zip _ _ _ => true
 | _ => false
theorem Mid.src {X : Cx} {ρ : List Addr} {h : Heap} {wr : List Addr} {it v : Value} {src : Src} (x : Mid X ρ h wr it v src) (hs : src.own = false) : SrcR X ρ h wr it src := by
 cases x with
 | plain x _ => exact x
 | enum _ _ _ _ => cases hs
 | zip _ => cases hs
theorem next_kind {src src' : Src} {hp : Hp} {p : PV} (e : src.next hp = some (some (p, src'))) : src'.own = src.own ∧ src'.isZ = src.isZ := by
 cases src with
 | items l => cases l with
  | nil => cases e
  | cons a l => cases e; exact ⟨rfl, rfl⟩
 | «at» n i =>
  simp only [Src.next] at e
  split at e
  ·cases q : (_ : List PV)[i]? with
   | none => rw [q] at e; cases e
   | some v => rw [q] at e; cases e; exact ⟨rfl, rfl⟩
  ·cases e
 | zip m a b =>
  simp only [Src.next] at e
  split at e
  ·split at e
   ·cases e
   ·cases e
   ·split at e
    ·cases e
    ·cases e
    ·cases e; exact ⟨rfl, rfl⟩
  ·cases e
 | enum n i =>
  simp only [Src.next] at e
  split at e
  ·cases q : (_ : List PV)[i]? with
   | none => rw [q] at e; cases e
   | some v => rw [q] at e; cases e; exact ⟨rfl, rfl⟩
  ·cases e
theorem next_own {src src' : Src} {hp : Hp} {p : PV} (e : src.next hp = some (some (p, src'))) : src'.own = src.own := (next_kind e).1
theorem next_isZ {src src' : Src} {hp : Hp} {p : PV} (e : src.next hp = some (some (p, src'))) : src'.isZ = src.isZ := (next_kind e).2
theorem ZipR.keep {X : Cx} {ρ ρ' : List Addr} {h h' : Heap} {z TI TO i1 i2 : Addr} {m : Nat} {sa sb : Src} {f0 : Value} (Z : ZipR X ρ h z TI TO i1 i2 m sa sb f0) (kf : KeepF ρ h h') (g : Grow ρ ρ' h) (kw : ∀ b ∈ [z, TI, i1, i2], ∀ o, h.get? b = some o → h'.get? b = some o) : ZipR X ρ' h' z TI TO i1 i2 m sa sb f0 := by
 refine x13 Z.xa.there fun o1 e1 z_ z_ => ?_
 refine x13 Z.xb.there fun o2 e2 z_ z_ => ?_
 refine ⟨kw z (by simp) _ Z.hz, kw TI (by simp) _ Z.hTI, ?_, Z.xa.keep kf g fun o e => kw i1 (by simp) o e, Z.xb.keep kf g fun o e => kw i2 (by simp) o e, g.off' Z.nz (by rw [Z.hz]; rfl), g.off' Z.nT (by rw [Z.hTI]; rfl), g.off' Z.n1 (by rw [e1]; rfl), g.off' Z.n2 (by rw [e2]; rfl), Z.i12⟩
 revert g; refine y12 fun e zq5 z_ => ?_
 subst zq5
 rw [List.getElem?_append_left (List.getElem?_eq_some_iff.mp Z.hm).1]; exact Z.hm
theorem SrcR.keep {X : Cx} {ρ ρ' : List Addr} {h h' : Heap} {wr : List Addr} {it : Value} {src : Src} (x : SrcR X ρ h wr it src) (kf : KeepF ρ h h') (g : Grow ρ ρ' h) (kw : ∀ b ∈ wr, ∀ o, h.get? b = some o → h'.get? b = some o) : SrcR X ρ' h' wr it src := by
 cases x with
 | walk W st hn hv hf hnf hno hwI =>
  refine .walk W ?_ hn (fun j v p hp hl => VR.grow (hv j v p hp hl) kf g) (fun b hb hw => ?_) hnf hno hwI
  ·refine (W { handled := none } rfl).frame _ _ _ st fun b hb o e => ?_
   by_cases hw : b ∈ wr
   ·exact kw b hw o e
   ·obtain ⟨hbr, o', e', hfx⟩ := hf b hb hw
    obtain rfl := Option.some.inj (e.symm.trans e')
    exact kf b o e hbr hfx
  ·obtain ⟨hbr, o', e', hfx⟩ := hf b hb hw
   exact ⟨g.off' hbr (by rw [e']; rfl), o', kf _ _ e' hbr hfx, hfx⟩
 | «at» hn hit =>
  revert g; refine y12 fun e zq4 z_ => ?_
  subst zq4
  refine .at ?_ (hit.at fun o eo => kw _ (.head _) o eo)
  rw [List.getElem?_append_left (List.getElem?_eq_some_iff.mp hn).1]; exact hn
 | enum hn he hit hne =>
  revert g; refine y12 fun e zq3 z_ => ?_
  subst zq3
  refine .enum ?_ (kw _ (by simp) _ he) (hit.at fun o eo => kw _ (by simp) o eo) hne
  rw [List.getElem?_append_left (List.getElem?_eq_some_iff.mp hn).1]; exact hn
 | zip Z => exact .zip (Z.keep kf g kw)
theorem SrcR.there {X : Cx} {ρ : List Addr} {h : Heap} {wr : List Addr} {it : Value} {src : Src} (x : SrcR X ρ h wr it src) : ∀ b ∈ wr, ∃ o, h.get? b = some o := by
 cases x with
 | walk W st hn hv hf hnf hno hwI => exact fun b hb => x12 (hnf _ _ st b hb) fun o e z_ => ei11 o e
 | «at» hn hit =>
  intro b hb
  rw [List.mem_singleton.mp hb]
  revert hit; refine y13 fun o ho hc z_ => ?_
  exact ei11 o ho
 | enum hn he hit hne =>
  intro b hb
  rcases List.mem_cons.mp hb with rfl | hb
  ·exact ei11 _ he
  ·rw [List.mem_singleton.mp hb]
   revert hit; refine y13 fun o ho hc z_ => ?_
   exact ei11 o ho
 | zip Z =>
  refine x13 Z.xa.there fun o1 e1 z_ z_ => ?_
  refine x13 Z.xb.there fun o2 e2 z_ z_ => ?_
  intro b hb
  simp only [List.mem_cons, List.not_mem_nil, or_false] at hb
  rcases hb with rfl | rfl | rfl | rfl
  ·exact ei11 _ Z.hz
  ·exact ei11 _ Z.hTI
  ·exact ei11 _ e1
  ·exact ei11 _ e2
theorem SrcR.nodict {X : Cx} {ρ : List Addr} {h : Heap} {wr : List Addr} {it : Value} {src : Src} (x : SrcR X ρ h wr it src) : ∀ b ∈ wr, ∀ o, h.get? b = some o → ∀ es ep, o.data ≠ .dict es ep := by
 have key : ∀ {b : Addr} {o o' : Obj} {vs : Array Value}, h.get? b = some o → h.get? b = some o' → o'.data = .fields vs → ∀ es ep, o.data ≠ .dict es ep := fun e e' hd es ep q => by
  obtain rfl := Option.some.inj (e.symm.trans e'); rw [hd] at q; cases q
 cases x with
 | walk W st hn hv hf hnf hno hwI =>
  intro b hb o e
  obtain ⟨o', e', T, vs, _, hd, _⟩ := hno _ _ st
  rw [hwI b hb] at e
  exact key e e' hd
 | «at» hn hit =>
  intro b hb o e
  rw [List.mem_singleton.mp hb] at e
  revert hit; refine y13 fun o' e' z_ hd => ?_
  exact key e e' hd
 | enum hn he hit hne =>
  intro b hb o e
  rcases List.mem_cons.mp hb with rfl | hb
  ·exact key e he rfl
  ·rw [List.mem_singleton.mp hb] at e
   revert hit; refine y13 fun o' e' z_ hd => ?_
   exact key e e' hd
 | zip Z =>
  intro b hb o e
  simp only [List.mem_cons, List.not_mem_nil, or_false] at hb
  rcases hb with rfl | rfl | rfl | rfl
  ·exact key e Z.hz rfl
  ·intro es ep q
   have := Z.hTI
   unfold IsPair at this
   obtain rfl := Option.some.inj (e.symm.trans this); cases q
  ·exact Z.xa.nodict o e
  ·exact Z.xb.nodict o e
section
variable {X : Cx} {A : Around} {s : Shared} {ρ : List Addr} {hp : Hp} {E : Value → Shared → Prop}
theorem listiter_nofix {h : Heap} {I a : Addr} {i : Nat} (hit : h.IsListIter I a i) {o : Obj} (eo : h.get? I = some o) : ¬ Fixed o := by
 intro hfx
 revert hit; refine y13 fun o' ho' hc z_ => ?_
 obtain rfl := Option.some.inj (eo.symm.trans ho')
 exact Fixed.not hc (by decide) (by decide) hfx
theorem enum_nofix : ¬ Fixed ({ cls := .type "enumerate", dict := none, data := d, slots := #[] } : Obj) := Fixed.not rfl (by decide) (by decide)
set_option tactic.hygienic true in
theorem src_next {wr : List Addr} {it : Value} {src : Src} {r : Option (PV × Src)} {Q : Option Value → Shared → Prop} (hc : CalmR A s.heap) (hz : A.handled = none ∨ src.isZ = true) (R : RepH X ρ hp s.heap) (x : SrcR X ρ s.heap wr it src) (hoff : ∀ b ∈ wr, b ∉ ρ) (e : src.next hp = some r)
  (hend : r = none → ∀ h' tk, KeepW ρ wr s.heap h' → KeepF ρ s.heap h' → RepH X ρ hp h' → Q none { s with heap := h', toks := tk })
  (hitem : ∀ p src', r = some (p, src') → ∀ v h' tk, KeepW ρ wr s.heap h' → KeepF ρ s.heap h' → RepH X ρ hp h' → Mid X ρ h' wr it v src' → VR X ρ h' v p → Q (some v) { s with heap := h', toks := tk }) :
  wpAny X.M A (pyNext it) Q E s := by
 have hq0 : src.isZ = false → A.handled = none := fun q => hz.elim id fun z => by rw [q] at z; cases z
 have kr : ∀ {h'}, KeepF ρ s.heap h' → (∀ b o, b ∉ wr → s.heap.get? b = some o → h'.get? b = some o) → RepH X ρ hp h' := fun kf k => R.keepOn kf fun b hb o eo => k b o (fun q => hoff b q hb) eo
 cases x with
 | walk W st hn hv hf hnf hno hwI =>
  rename_i I fp n P St i l
  have kfx : ∀ {h'}, (∀ b o, b ∉ wr → s.heap.get? b = some o → h'.get? b = some o) → KeepF ρ s.heap h' := by
   intro h' k b o eb _ hfx
   refine k b o (fun q => ?_) eb
   refine x12 (hnf _ _ st b q) fun o' e' hno => ?_
   obtain rfl := Option.some.inj (eb.symm.trans e'); exact hno hfx
  cases l with
  | nil =>
   cases e
   have hin : i = n := by simpa using hn
   subst hin
   refine (W A (hq0 rfl)).done s Q E st fun h' tk k => hend rfl h' tk (fun b o hb z_ eb => k b o hb eb) (kfx k) (kr (kfx k) k)
  | cons p l =>
   cases e
   refine (W A (hq0 rfl)).item i s Q E (by simp only [List.length_cons] at hn; omega) st fun v h' tk hP st' k => ?_
   have kf := kfx k
   refine hitem p _ rfl v h' tk (fun b o hb z_ eb => k b o hb eb) kf (kr kf k) (.plain (.walk W st' (by simp only [List.length_cons] at hn; omega) (fun j v p hp hl => ?_) (fun b hb hw => ?_) hnf hno hwI) (hno _ _ st')) ?_
   ·have := hv (j + 1) v p (by rw [← Nat.add_assoc, Nat.add_right_comm]; exact hp) (by simpa using hl)
    exact this.keepF kf
   ·obtain ⟨hbr, o', e', hfx⟩ := hf b hb hw
    exact ⟨hbr, o', kf _ _ e' hbr hfx, hfx⟩
   ·exact (hv 0 v p (by simpa using hP) rfl).keepF kf
 | «at» hn hit =>
  rename_i I a n i
  have e' := e
  simp only [Src.next] at e'
  split at e'
  ·rename_i l hl
   refine x13 (R.lst hn hl) fun vs il hz rl => ?_
   have fin : ∀ {h'}, Heap.ExtBut I s.heap h' → KeepF ρ s.heap h' ∧ (∀ b o, b ∉ [I] → s.heap.get? b = some o → h'.get? b = some o) := by
    intro h' he
    refine ⟨fun b o eb z_ hfx => he b o (fun q => ?_) eb, fun b o hb eb => he b o (fun q => hb (by rw [q]; exact .head _)) eb⟩
    subst q; exact listiter_nofix hit eb hfx
   cases hv : l[i]? with
   | none =>
    rw [hv] at e'; cases e'
    have hnone : vs.toArray[i]? = none := by
     have h1 : l.length ≤ i := by simpa using hv
     rw [← VRs.length rl] at h1
     simpa using h1
    exact wpAny_pyNext_list_end (hq0 rfl) hit il.list hnone fun h₁ he => by
     refine x02 (fin he) fun kf kw => ?_
     exact hend rfl h₁ s.toks (fun b o hb z_ eb => kw b o hb eb) kf (kr kf kw)
   | some p =>
    rw [hv] at e'; cases e'
    refine x12 (VRs.get rl hv) fun v hvv rv => ?_
    refine wpAny_pyNext_list_item hit il.list (x := v) (by simpa using hvv) fun h₁ hit₁ hs₁ => ?_
    refine x02 (fin hs₁.extBut) fun kf kw => ?_
    refine hitem p _ rfl v h₁ s.toks (fun b o hb z_ eb => kw b o hb eb) kf (kr kf kw) (.plain (.at hn hit₁) ?_) (rv.keepF kf)
    revert hit₁; refine y13 fun o ho hc hd => ?_
    exact ⟨o, ho, _, _, hc, hd, by decide⟩
  ·cases e'
 | enum hn he hit hne =>
  rename_i en I a n i old
  have e' := e
  simp only [Src.next] at e'
  split at e'
  ·rename_i l hl
   refine x13 (R.lst hn hl) fun vs il hz rl => ?_
   cases hv : l[i]? with
   | none =>
    rw [hv] at e'; cases e'
    have hnone : vs.toArray[i]? = none := by
     have h1 : l.length ≤ i := by simpa using hv
     rw [← VRs.length rl] at h1
     simpa using h1
    refine wpAny_pyNext_enum_end (hq0 rfl) he hit il.list hnone fun h₁ hx => ?_
    have kw : ∀ b o, b ∉ [en, I] → s.heap.get? b = some o → h₁.get? b = some o := fun b o hb eb => hx b o (fun q => hb (by simp [q])) eb
    have kf : KeepF ρ s.heap h₁ := fun b o eb z_ hfx => hx b o (fun q => by subst q; exact listiter_nofix hit eb hfx) eb
    exact hend rfl h₁ s.toks (fun b o hb z_ eb => kw b o hb eb) kf (kr kf kw)
   | some p =>
    rw [hv] at e'; cases e'
    refine x12 (VRs.get rl hv) fun v hvv rv => ?_
    refine wpAny_pyNext_enum_item he hit il.list (x := v) (by simpa using hvv) hne fun h₁ he₁ hit₁ hT hsz hk => ?_
    have kw : ∀ b o, b ∉ [en, I] → s.heap.get? b = some o → h₁.get? b = some o := fun b o hb eb => hk b o (fun q => hb (by simp [q])) (fun q => hb (by simp [q])) eb
    have kf : KeepF ρ s.heap h₁ := fun b o eb z_ hfx => hk b o (fun q => by subst q; obtain rfl := Option.some.inj (he.symm.trans eb); exact enum_nofix hfx) (fun q => by subst q; exact listiter_nofix hit eb hfx) eb
    refine hitem _ _ rfl _ h₁ _ (fun b o hb z_ eb => kw b o hb eb) kf (kr kf kw) (.enum (i := i + 1) hn (by simpa using he₁) hit₁ hne) (.tup (vs := [.int i s.toks, v]) ⟨_, hT⟩ (by rw [sizeLine_eq]; simp) (.cons (.int _ _) (.cons (rv.keepF kf) .nil)) (R.free (free_size _)))
  ·cases e'
 | zip Z =>
  rename_i z TI TO i1 i2 m sa sb
  refine zip_step hc R Z e (fun hr h' kf kk R' tk => hend hr h' tk (fun b o hb hr' eb => kk b o hb hr' eb) kf R') (fun p sa' sb' hr T h' kf kk R' Z' rv tk => hitem p _ hr _ h' tk (fun b o hb hr' eb => kk b o hb hr' eb) kf R' (.zip Z') rv)
noncomputable def Lets (target : Expr) (src : Src) : Prop := (∃ elts k pos, target = .Tuple elts k pos) ∨ ((∀ it v, letOwnedTupleGo target it v = pure ()) ∧ src.own = false)
set_option tactic.hygienic true in
theorem lets_ok {target : Expr} {wr : List Addr} {it v : Value} {src : Src} {Q : Unit → Shared → Prop} (L : Lets target src) (R : RepH X ρ hp s.heap) (hoff : ∀ b ∈ wr, b ∉ ρ) (x : Mid X ρ s.heap wr it v src)
  (h : ∀ h', KeepW ρ wr s.heap h' → KeepF ρ s.heap h' → RepH X ρ hp h' → SrcR X ρ h' wr it src → Q () { s with heap := h' }) : wpAny X.M A (letOwnedTupleGo target it v) Q E s := by
 rcases L with ⟨elts, k, pos, rfl⟩ | ⟨hl, hs⟩
 ·cases x with
  | plain x ho =>
   rename_i I
   have fin : Q () s := h s.heap (KeepW.refl _ _ _) (KeepF.refl _ _) R x
   obtain ⟨o, ho, T, vs, hc, hd, hno⟩ := ho
   unfold letOwnedTupleGo
   cases v with
   | ref a =>
    refine wpAny_bind (wpAny_load ho ?_)
    rw [hc, hd]
    dsimp only
    rw [hno]
    exact wpAny_pure fin
   | _ => exact wpAny_pure fin
  | enum hn he hit hne =>
   rename_i en I a T n i x
   refine wpAny_letOwnedTupleGo_enum he fun h' he' hs' => ?_
   have kf : KeepF ρ s.heap h' := fun b o eb z_ hfx => hs'.extBut b o (fun q => by subst q; obtain rfl := Option.some.inj (he.symm.trans eb); exact enum_nofix hfx) eb
   exact h h' (fun b o hb z_ eb => hs'.extBut b o (fun q => hb (by simp [q])) eb) kf (R.keepOn kf fun b hb o eo => hs'.extBut b o (fun q => hoff en (by simp) (q ▸ hb)) eo) (.enum hn he' (hit.extBut hs'.extBut (Ne.symm hne)) hne)
  | zip Z =>
   rename_i z TI TO i1 i2 T m sa sb
   refine wpAny_letOwnedTupleGo_zip Z.hz fun h' hz' hs' => ?_
   have hzf : ∃ o, s.heap.get? z = some o ∧ ¬ Fixed o := ⟨_, Z.hz, Fixed.not rfl (by decide) (by decide)⟩
   refine x02 (R.but Z.nz hzf hs'.extBut) fun kf R' => ?_
   refine x02 Z.sep fun zq2 z_ => ?_
   obtain ⟨TIz, i1z, i2z, TIi1, TIi2⟩ := zq2
   have hzf' : ∃ o, s.heap.get? z = some o ∧ (¬ Fixed o ∨ z ∈ ρ) := x12 hzf fun o e f => ei12 o e (.inl f)
   exact h h' (fun b o hb z_ eb => hs'.extBut b o (fun q => hb (by simp [q])) eb) kf R' (.zip ⟨hz', hs'.extBut _ _ TIz Z.hTI, Z.hm, Z.xa.keepSame hzf' i1z hs'.extBut, Z.xb.keepSame hzf' i2z hs'.extBut, Z.nz, Z.nT, Z.n1, Z.n2, Z.i12⟩)
 ·rw [hl it v]
  exact wpAny_pure (h s.heap (KeepW.refl _ _ _) (KeepF.refl _ _) R (x.src hs))
end
section
variable {X : Cx} {A : Around} {s : Shared} {ρ : List Addr} {hp : Hp} {E : Value → Shared → Prop}
theorem rngItems_len (a c : Int) (n : Nat) : (rngItems a c n).length = n := by
 induction n generalizing a with
 | zero => rfl
 | succ n ih => rw [rngItems, List.length_cons, ih]
theorem rngItems_get {a c : Int} {n j : Nat} {p : PV} (h : (rngItems a c n)[j]? = some p) : p = .int (a + j * c) := by
 induction n generalizing a j with
 | zero => cases h
 | succ n ih =>
  cases j with
  | zero => cases h; simp
  | succ j =>
   have := ih (a := a + c) (j := j) (by simpa [rngItems] using h)
   rw [this]
   congr 1
   push_cast
   rw [Int.add_mul, Int.one_mul]
   omega
theorem fix_tupiter {h : Heap} {I t : Addr} {i : Nat} (x : h.IsTupleIter I t i) : ∃ o, h.get? I = some o ∧ ¬ Fixed o := by
 revert x; refine y13 fun o ho hc z_ => ?_
 exact ei12 o ho (Fixed.not hc (by decide) (by decide))
theorem rngOk_iff {i : Int} (h : rngOk i = true) : -1000000 ≤ i ∧ i ≤ 1000000 := by unfold rngOk at h; simpa using h
set_option tactic.hygienic true in
theorem rng_size2 {a b c : Int} (hc : c = 1 ∨ c = -1) : Builtin.Range.rangeSize a b c = ((rngLen a b c : Nat) : Int) := by
 have key : ∀ x y : Int, (if x < y then y - x - 1 + 1 else 0) = ((y - x).toNat : Int) := fun x y => by
  split
  ·rename_i h; rw [Int.sub_add_cancel]; exact (Int.toNat_of_nonneg (Int.sub_nonneg_of_le (Int.le_of_lt h))).symm
  ·rename_i h; rw [Int.toNat_of_nonpos (Int.sub_nonpos_of_le (Int.not_lt.mp h))]; rfl
 rcases hc with rfl | rfl
 ·unfold Builtin.Range.rangeSize
  rw [if_pos (by decide), Int.ediv_one]; exact key a b
 ·unfold Builtin.Range.rangeSize
  rw [if_neg (by decide), show -(-1 : Int) = 1 from rfl, Int.ediv_one]; exact key b a
theorem rng_le2 {a b c : Int} (ha : -1000000 ≤ a ∧ a ≤ 1000000) (hb : -1000000 ≤ b ∧ b ≤ 1000000) (hc : c = 1 ∨ c = -1) : ((rngLen a b c : Nat) : Int) ≤ 2000000 := by
 have key : ∀ x y : Int, -1000000 ≤ x → y ≤ 1000000 → (((y - x).toNat : Nat) : Int) ≤ 2000000 := fun x y h1 h2 => by
  rw [Int.toNat_eq_max]; exact Int.max_le.mpr ⟨Int.sub_le_sub h2 h1, by decide⟩
 rcases hc with rfl | rfl
 ·exact key a b ha.1 hb.2
 ·exact key b a hb.1 ha.2
theorem rng_small2 {a b c : Int} (ha : -1000000 ≤ a ∧ a ≤ 1000000) (hb : -1000000 ≤ b ∧ b ≤ 1000000) (hc : c = 1 ∨ c = -1) : Builtin.Range.small a b c = true := by
 have hle := rng_le2 ha hb hc
 have h0 := Int.natCast_nonneg (rngLen a b c)
 unfold Builtin.Range.small
 rw [rng_size2 hc]
 unfold Builtin.Range.rangeFitsLong
 generalize ((rngLen a b c : Nat) : Int) = n at *
 rcases hc with rfl | rfl <;> simp <;> omega
set_option tactic.hygienic true in
theorem src1_ok {v : Value} {p : PV} {src : Src} {Q : Value → Shared → Prop} (B : BK X s.heap) (R : RepH X ρ hp s.heap) (rv : VR X ρ s.heap v p) (e : src1 p hp = some src)
  (h : ∀ it wr h' tk, (∀ b o, s.heap.get? b = some o → h'.get? b = some o) → (∀ b ∈ wr, s.heap.get? b = none) → SrcR X ρ h' wr it src → Q it { s with heap := h', toks := tk }) : wpAny X.M A (pyIter v) Q E s := by
 unfold src1 at e
 split at e
 ·split at e
  ·rename_i a b c hc
   cases e
   cases rv with
   | rng hr hnr =>
    have hc' := Bool.and_eq_true_iff.mp hc
    have hab := Bool.and_eq_true_iff.mp hc'.1
    have ha := rngOk_iff hab.1
    have hb := rngOk_iff hab.2
    have hstep : c = 1 ∨ c = -1 := by simpa using hc'.2
    have hsize : Builtin.Range.rangeSize a b c = ((rngLen a b c : Nat) : Int) := rng_size2 hstep
    have hle : ((rngLen a b c : Nat) : Int) ≤ 2000000 := rng_le2 ha hb hstep
    have hsmall : Builtin.Range.small a b c = true := rng_small2 ha hb hstep
    refine wpAny_pyIter_range hr hsmall ?_
    rw [hsize]
    refine h _ [s.heap.objs.size] _ s.toks (fun z_ z_ e => Heap.get?_push_of_some _ e) (fun b hb => by rw [List.mem_singleton.mp hb]; exact free_size _)
     (.walk (i := 0) (fun A hh => Walks.range hh s.heap.objs.size a c (rngLen a b c)) ?_ (by rw [rngItems_len]; omega) (fun j v p hp hl => ?_) (fun b hb hw => absurd hb hw) (fun i h st b hb => ?_) (fun i h st => ⟨_, st, _, _, rfl, rfl, by decide⟩) (fun b hb => List.mem_singleton.mp hb))
    ·show IsRangeIter _ _ _ _ _
     simpa using Heap.get?_push_size _ rfl
    ·rw [rngItems_get hl]
     revert hp; refine y11 fun t zq1 => ?_
     subst zq1
     rw [Nat.zero_add]
     exact .int _ t
    ·rw [List.mem_singleton.mp hb]
     exact ei12 _ st (Fixed.not rfl (by decide) (by decide))
  ·cases e
 ·cases e
  cases rv with
  | tup ht hz rl hnr =>
   rename_i t vs
   refine wpAny_pyIter_tuple ht.tup ?_
   refine x11 (id ht) fun nn ho => ?_
   have hne : t ≠ s.heap.objs.size := fun q => Nat.lt_irrefl _ (q ▸ Heap.lt_size ho)
   have kp : ∀ b o, s.heap.get? b = some o → (s.heap.push { cls := .type "tuple_iterator", data := .fields #[.ref t, .int 0 0] }).get? b = some o := fun z_ z_ e => Heap.get?_push_of_some _ e
   refine h _ [s.heap.objs.size] _ s.toks kp (fun b hb => by rw [List.mem_singleton.mp hb]; exact free_size _)
    (.walk (i := 0) (fun A hh => Walks.tuple hh s.heap.objs.size t hne vs.toArray) ⟨⟨_, Heap.get?_push_size _ rfl, rfl, rfl⟩, ⟨_, kp _ _ ho, rfl, nn, rfl⟩⟩ (by rw [List.size_toArray, VRs.length rl]; omega) (fun j v p hp hl => ?_) (fun b hb hw => ?_) (fun i h st b hb => ?_) (fun i h st => let ⟨o, ho, hc, hd⟩ := st.1; ⟨o, ho, _, _, hc, hd, by decide⟩) (fun b hb => List.mem_singleton.mp hb))
   ·refine x12 (VRs.get rl hl) fun v' hv' rv' => ?_
    have hp' : vs[j]? = some v := by simpa using hp
    obtain rfl := Option.some.inj (hv'.symm.trans hp')
    exact rv'.keepF (KeepF.of_all kp)
   ·rcases List.mem_cons.mp hb with q | q
    ·exact absurd (q ▸ .head _) hw
    ·rw [List.mem_singleton.mp q]; exact ⟨hnr, _, kp _ _ ho, .inl ⟨rfl, _, _, rfl⟩⟩
   ·rw [List.mem_singleton.mp hb]; exact fix_tupiter st.1
 ·cases rv with
  | lst hn =>
   rename_i n a
   have fin : (match lstAt hp n with | some _ => some (Src.at n 0) | none => none) = some src → wpAny X.M A (pyIter (.ref a)) Q E s := fun e => by
    cases hl : lstAt hp n with
    | none => rw [hl] at e; exact no e
    | some l =>
     rw [hl] at e
     cases e
     refine x13 (R.lst hn hl) fun vs il hz rl => ?_
     refine wpAny_pyIter_list il.list ?_
     exact h _ [s.heap.objs.size] _ s.toks (fun z_ z_ e => Heap.get?_push_of_some _ e) (fun b hb => by rw [List.mem_singleton.mp hb]; exact free_size _) (.at hn ⟨_, Heap.get?_push_size _ rfl, rfl, rfl⟩)
   exact fin e
 ·cases e
end
end Mine
end
section
namespace Mine
open PySem PySem.Calls PyProof.Rows PySem.SeqAt
noncomputable def KeepS (X : Cx) (env : Env) (ρ : List Addr) (h h' : Heap) : Prop := ∀ b o, h.get? b = some o → b ∉ ρ → b ≠ env.locals → (∀ x c, env.cells.lookup x = some c → b ≠ c) → ∃ o', h'.get? b = some o' ∧ Like X b o o'
theorem Keep.s {X : Cx} {env : Env} {ρ : List Addr} {h h' : Heap} (k : Keep X ρ h h') : KeepS X env ρ h h' := fun b o e hb z_ z_ => k b o e hb
theorem KeepS.refl {X : Cx} (env : Env) (ρ : List Addr) (h : Heap) : KeepS X env ρ h h := fun z_ o e z_ z_ z_ => ⟨o, e, .refl o⟩
theorem KeepS.of_off {X : Cx} {env : Env} {ρ : List Addr} {h h' : Heap} (k : ∀ b o, h.get? b = some o → b ∉ ρ → b ≠ env.locals → (∀ x c, env.cells.lookup x = some c → b ≠ c) → h'.get? b = some o) : KeepS X env ρ h h' := fun b o e hb hl hc => ⟨o, k b o e hb hl hc, .refl o⟩
theorem KeepS.exact {X : Cx} {env : Env} {ρ : List Addr} {h h' : Heap} {b : Addr} {o : Obj} (k : KeepS X env ρ h h') (e : h.get? b = some o) (hb : b ∉ ρ) (hl : b ≠ env.locals) (hc : ∀ x c, env.cells.lookup x = some c → b ≠ c) (hd : ∀ es ep, o.data ≠ .dict es ep) : h'.get? b = some o := by
 refine x12 (k b o e hb hl hc) fun o' e' l => ?_
 rw [e', l.exact hd]
theorem KeepS.trans {X : Cx} {env : Env} {ρ ρ₁ : List Addr} {h h₁ h₂ : Heap} (k : KeepS X env ρ h h₁) (g : Grow ρ ρ₁ h) (k' : KeepS X env ρ₁ h₁ h₂) : KeepS X env ρ h h₂ := by
 intro b o e hb hl hc
 refine x12 (k b o e hb hl hc) fun o₁ e₁ l₁ => ?_
 refine x12 (k' b o₁ e₁ (g.off' hb (by rw [e]; rfl)) hl hc) fun o₂ e₂ l₂ => ?_
 exact ei12 o₂ e₂ (l₁.trans l₂)
theorem Inv.keepFS {X : Cx} {sc : Scope} {env : Env} {ρ : List Addr} {loc : Loc} {hp : Hp} {h h' : Heap} (I : Inv X sc env ρ loc hp h) (k : KeepS X env ρ h h') : KeepF ρ h h' := fun b o e hb hf => by
 refine k.exact e hb (fun q => ?_) (fun x c hc q => ?_) (Fixed.nodict hf)
 ·refine x12 I.vars fun mm zq7 z_ => ?_
  obtain ⟨oL, es, ep, eL, hd, _⟩ := zq7
  rw [q, show h.get? env.locals = some oL from eL] at e; cases e
  exact Fixed.nodict hf es ep hd
 ·refine x11 ((I.newC x c hc).2.2) fun w hw => ?_
  rw [q] at e
  exact IsCell.nofix hw e hf
theorem KeepS.dict {X : Cx} {sc : Scope} {env : Env} {ρ ρ' : List Addr} {loc loc' : Loc} {hp hp' : Hp} {h h' : Heap} (I₀ : Inv X sc env ρ loc hp h) (I : Inv X sc env ρ' loc' hp' h') (kk : KeepS X env ρ h h') {b : Addr} {o : Obj} {es : Array DictEntry} {ep : Nat} (e : h.get? b = some o) (hd : o.data = .dict es ep) (hb : b ∉ ρ) : ∃ o' es' ep', h'.get? b = some o' ∧ o'.data = .dict es' ep' := by
 by_cases hl : b = env.locals
 ·refine x12 I.vars fun m zq6 z_ => ?_
  obtain ⟨oL, es', ep', eL, hdd, _⟩ := zq6
  exact ei32 oL es' ep' (by rw [hl]; exact eL) hdd
 ·refine x12 (kk b o e hb hl fun x c hx q => by
   refine x22 ((I₀.newC x c hx).2.2) fun w o2 e2 hdc => ?_
   rw [← q, e] at e2; cases e2
   rw [hd] at hdc; cases hdc) fun o' e' l => ?_
  exact ei32 o' es ep e' (l.data.trans hd)
theorem Room.afterS {X : Cx} {sc : Scope} {A : Around} {k : Nat} {env : Env} {ρ ρ' : List Addr} {s : Shared} {h' : Heap} {tk : Nat} {loc₀ loc : Loc} {hp₀ hp : Hp} (Rm : Room X A k ρ s) (I₀ : Inv X sc env ρ loc₀ hp₀ s.heap) (g : Grow ρ ρ' s.heap) (kk : KeepS X env ρ s.heap h') (I : Inv X sc env ρ' loc hp h') (hpos : X.mt ≤ tk) : Room X A k ρ' { s with heap := h', toks := tk } :=
 Rm.keep g (I₀.keepFS kk) (fun b o es ep e hd hb => kk.dict I₀ I e hd hb) hpos
theorem Grow.transS {X : Cx} {sc : Scope} {env : Env} {ρ ρ₁ ρ₂ : List Addr} {loc : Loc} {hp : Hp} {h h₁ : Heap} (I : Inv X sc env ρ₁ loc hp h₁) (k : KeepS X env ρ h h₁) (g : Grow ρ ρ₁ h) (g' : Grow ρ₁ ρ₂ h₁) : Grow ρ ρ₂ h := by
 revert g; refine y12 fun e zq5 hx => ?_
 subst zq5
 revert g'; refine y12 fun e' zq4 hx' => ?_
 subst zq4
 refine ei12 (e ++ e') (by rw [List.append_assoc]) (fun a ha => ?_)
 rcases List.mem_append.mp ha with q | q
 ·exact hx a q
 ·have hnone := hx' a q
  cases hq : h.get? a with
  | none => rfl
  | some o =>
   exfalso
   have h1 : a ∉ ρ := fun m => by
    exact nsS hnone (I.rep.isSome a (List.mem_append_left _ m))
   have h2 : a ≠ env.locals := fun m => by
    refine x12 I.vars fun m' zq3 z_ => ?_
    obtain ⟨oL, _, _, eL, _⟩ := zq3
    rw [m, eL] at hnone; cases hnone
   have h3 : ∀ x c, env.cells.lookup x = some c → a ≠ c := fun x c hc m => by
    have := I.cellSome hc; rw [← m, hnone] at this; cases this
   refine x12 (k a o hq h1 h2 h3) fun z_ e' z_ => ?_
   rw [e'] at hnone; cases hnone
noncomputable def PostS (X : Cx) (sc : Scope) (env : Env) (ρ : List Addr) (s : Shared) (r : SR) (Q : Flow → Shared → Prop) (E : Value → Shared → Prop) : Prop := match r with
 | .nxt loc' hp' => ∀ h' tk ρ', Grow ρ ρ' s.heap → KeepS X env ρ s.heap h' → Inv X sc env ρ' loc' hp' h' → Q .next { s with heap := h', toks := tk }
 | .brk loc' hp' => ∀ h' tk ρ', Grow ρ ρ' s.heap → KeepS X env ρ s.heap h' → Inv X sc env ρ' loc' hp' h' → Q .brk { s with heap := h', toks := tk }
 | .ret p hp' => ∀ v h' tk ρ', Grow ρ ρ' s.heap → KeepS X env ρ s.heap h' → BK X h' → RepH X ρ' hp' h' → VR X ρ' h' v p → Q (.ret v) { s with heap := h', toks := tk }
 | .exc c loc' hp' => ∀ e hr h' tk ρ', Grow ρ ρ' s.heap → KeepS X env ρ s.heap hr → Inv X sc env ρ' loc' hp' hr → Fly X c e hr h' → E e { s with heap := h', toks := tk }
 | .bad => False
noncomputable def FT (A : Around) (env : Env) : Prop := ∃ outer, A.frames = some (env :: outer) ∧ env.frame = some env.locals
noncomputable def DoesS (X : Cx) (sc : Scope) (k : Nat) (t : Env → Sem Flow) (f : Loc → Hp → SR) : Prop :=
 ∀ (A : Around) (env : Env) (s : Shared) (ρ : List Addr) (loc : Loc) (hp : Hp) (Q : Flow → Shared → Prop) (E : Value → Shared → Prop),
  FT A env → Inv X sc env ρ loc hp s.heap → Room X A k ρ s → PostS X sc env ρ s (f loc hp) Q E → wpAny X.M A (t env) Q E s
section
variable {X : Cx} {sc : Scope} {k : Nat}
theorem PostS.later {env : Env} {ρ ρ₁ : List Addr} {loc₁ : Loc} {hp₁ : Hp} {s : Shared} {h₁ : Heap} {tk : Nat} {r : SR} {Q : Flow → Shared → Prop} {E : Value → Shared → Prop}
  (I₁ : Inv X sc env ρ₁ loc₁ hp₁ h₁) (g : Grow ρ ρ₁ s.heap) (kk : KeepS X env ρ s.heap h₁) (P : PostS X sc env ρ s r Q E) : PostS X sc env ρ₁ { s with heap := h₁, toks := tk } r Q E := by
 cases r with
 | nxt loc' hp' => exact fun h' tk' ρ' g' k' I' => P h' tk' ρ' (Grow.transS I₁ kk g g') (kk.trans g k') I'
 | brk loc' hp' => exact fun h' tk' ρ' g' k' I' => P h' tk' ρ' (Grow.transS I₁ kk g g') (kk.trans g k') I'
 | ret p hp' => exact fun v h' tk' ρ' g' k' b' r' rv => P v h' tk' ρ' (Grow.transS I₁ kk g g') (kk.trans g k') b' r' rv
 | exc c loc' hp' => exact fun e hr h' tk' ρ' g' k' I' fl => P e hr h' tk' ρ' (Grow.transS I₁ kk g g') (kk.trans g k') I' fl
 | bad => exact P
theorem wp_stm {α β : Type} {R : Rel α β} {A : Around} {env : Env} {s : Shared} {ρ : List Addr} {loc : Loc} {hp : Hp} {Q : Flow → Shared → Prop} {E : Value → Shared → Prop}
  {t : Env → Sem α} {f : Loc → Hp → Res β} {W : α → Shared → Prop} {g : β → Hp → SR} (D : Does X sc k t R f) (I : Inv X sc env ρ loc hp s.heap) (Rm : Room X A k ρ s)
  (P : PostS X sc env ρ s ((f loc hp).stm loc g) Q E)
  (step : ∀ a b s₁ ρ₁ hp₁, Inv X sc env ρ₁ loc hp₁ s₁.heap → Grow ρ ρ₁ s.heap → Keep X ρ s.heap s₁.heap → R ρ₁ s₁.heap a b → f loc hp = .ok b hp₁ → PostS X sc env ρ₁ s₁ (g b hp₁) Q E → Room X A k ρ₁ s₁ → W a s₁) :
  wpAny X.M A (t env) W E s := by
 refine wpAny_pos Rm.pos (D A env s ρ loc hp _ _ I Rm ?_)
 cases hr : f loc hp with
 | ok b hp₁ =>
  rw [hr, Res.stm_ok] at P
  intro a h' tk ρ' gr kk rr rel hpos
  have I' := I.after gr kk rr
  exact step a b _ ρ' hp₁ I' gr kk rel hr (P.later I' gr kk.s) (Rm.after gr kk hpos)
 | exc c hp₁ =>
  rw [hr, Res.stm_exc] at P
  exact fun e hr h' tk ρ' gr kk rr fl z_ => P e hr h' tk ρ' gr kk.s (I.after gr kk rr) fl
 | bad => rw [hr] at P; exact P.elim
theorem Inv.sameBut {env : Env} {ρ : List Addr} {loc loc' : Loc} {hp : Hp} {h h' : Heap} {a : Addr} (I : Inv X sc env ρ loc hp h) (hs : Heap.SameBut a h h') (ha : a = env.locals ∨ ∃ x, env.cells.lookup x = some a)
  (hnf : ∀ o, h.get? a = some o → ¬ Fixed o) (hL : (h'.get? a).isSome = true) (hC : ∀ w, h.IsCell a w → ∃ w', h'.IsCell a w') (L : LocR X env ρ h' loc') : Inv X sc env ρ loc' hp h' := by
 have hoff : a ∉ ρ := by
  rcases ha with rfl | ⟨x, hx⟩
  ·exact I.offL
  ·exact I.offC x a hx
 have hbase : X.base.get? a = none := by
  rcases ha with rfl | ⟨x, hx⟩
  ·exact I.newL
  ·exact (I.newC x a hx).1
 have kb : ∀ b o, h.get? b = some o → b ≠ a → h'.get? b = some o := fun b o e hb => hs.extBut b o hb e
 have kf : KeepF ρ h h' := fun b o e z_ hf => kb b o e fun q => by subst q; exact hnf o e hf
 refine ⟨fun b o e => kb b o (I.bk b o e) fun q => ?_, I.rep.keepOn kf fun b hb o e => kb b o e fun q => hoff (q ▸ hb), L, I.scope, I.kind, I.glo, I.blt, I.offL, I.offC, I.newL, fun x c hc => ⟨(I.newC x c hc).1, (I.newC x c hc).2.1, ?_⟩, I.one, I.inj, fun x hx => ?_⟩
 ·subst q; exact no (hbase.symm.trans e)
 ·by_cases q : c = a
  ·refine x11 ((I.newC x c hc).2.2) fun w hw => ?_
   rw [q] at hw ⊢; exact hC w hw
  ·refine x22 ((I.newC x c hc).2.2) fun w o ho hd => ?_
   exact ei22 w o (kb c o ho q) hd
 ·refine x22 (I.cel x hx) fun c w hc hw => ?_
  by_cases q : c = a
  ·subst q
   refine x11 (hC w hw) fun w' hw' => ?_
   exact ei22 c w' hc hw'
  ·revert hw; refine y12 fun o ho hd => ?_
   exact ⟨c, w, hc, o, kb c o ho q, hd⟩
theorem store_ok {A : Around} {env : Env} {s : Shared} {ρ : List Addr} {loc : Loc} {hp : Hp} {x : Nat} {v : Value} {p : PV} {Q : Unit → Shared → Prop} {E : Value → Shared → Prop} (I : Inv X sc env ρ loc hp s.heap) (rv : VR X ρ s.heap v p)
  (hx : sc.names.lookup (X.nm x) = some .local ∨ sc.names.lookup (X.nm x) = some .cell)
  (h : ∀ h' tk, KeepS X env ρ s.heap h' → Inv X sc env ρ (putv loc x p) hp h' → Q () { s with heap := h', toks := tk }) : wpAny X.M A (storeName env (X.nm x) v) Q E s := by
 have hsc : env.scope.kind = .function := by rw [I.scope]; exact I.kind
 refine x12 (id I.vars) fun m hn hv => ?_
 rcases hx with hx | hx
 ·have hk : env.kindOf (X.nm x) = some .local := by unfold Env.kindOf; rw [I.scope]; exact hx
  refine wpAny_storeName_local hk hn (fun h' hn' hs => ?_) (by rw [hsc]; rfl)
  have hnf : ∀ o, s.heap.get? env.locals = some o → ¬ Fixed o := by
   intro o eo hf
   revert hn; refine y33 fun o' es ep eo' hd z_ => ?_
   obtain rfl := Option.some.inj (eo.symm.trans eo')
   rcases hf with ⟨_, xs, n, q⟩ | ⟨_, vs, q⟩ <;> rw [hd] at q <;> cases q
  have kf : KeepF ρ s.heap h' := fun b o e z_ hf => hs.extBut b o (fun q => by subst q; exact hnf o e hf) e
  have L' : LocR X env ρ h' (putv loc x p) := by
   refine ei12 _ hn' (fun y q hq => ?_)
   rw [getv_putv] at hq
   by_cases hy : y = x
   ·subst hy
    obtain rfl := Option.some.inj ((if_pos rfl).symm.trans hq)
    exact ⟨fun z_ => ⟨v, if_pos rfl, rv.keepF kf⟩, fun hc => by rw [hk] at hc; cases hc⟩
   ·rw [if_neg hy] at hq
    have hne : X.nm y ≠ X.nm x := fun e => hy (I.inj y x e)
    refine ⟨fun hl => ?_, fun hc => ?_⟩
    ·refine x12 ((hv y q hq).1 hl) fun w h1 h2 => ?_
     exact ei12 w (by rw [if_neg hne]; exact h1) (h2.keepF kf)
    ·refine x23 ((hv y q hq).2 hc) fun c w h1 zq2 h2 => ?_
     obtain ⟨o, ho, hd⟩ := zq2
     exact ei23 c w h1 ⟨o, hs.extBut _ _ (I.newC _ _ h1).2.1 ho, hd⟩ (h2.keepF kf)
  refine h h' _ (.of_off fun b o e z_ hl z_ => hs.extBut b o hl e) (I.sameBut hs (.inl rfl) hnf ?_ (fun w hw => ?_) L')
  ·revert hn'; refine y32 fun o z_ z_ e z_ => ?_; rw [e]; rfl
  ·revert hw; refine y12 fun o eo hd => ?_
   revert hn; refine y33 fun o' z_ z_ e' hd' z_ => ?_
   obtain rfl := Option.some.inj (eo.symm.trans e'); rw [hd] at hd'; cases hd'
 ·have hk : env.kindOf (X.nm x) = some .cell := by unfold Env.kindOf; rw [I.scope]; exact hx
  refine x22 (I.cel _ hx) fun c w₀ hc hw₀ => ?_
  refine wpAny_storeName_cell hsc hk hc hw₀ (fun h' hv' hs => ?_)
  have hnf : ∀ o, s.heap.get? c = some o → ¬ Fixed o := by
   intro o eo hf
   revert hw₀; refine y12 fun o' eo' hd => ?_
   obtain rfl := Option.some.inj (eo.symm.trans eo')
   rcases hf with ⟨_, xs, n, q⟩ | ⟨_, vs, q⟩ <;> rw [hd] at q <;> cases q
  have kf : KeepF ρ s.heap h' := fun b o e z_ hf => hs.extBut b o (fun q => by subst q; exact hnf o e hf) e
  have L' : LocR X env ρ h' (putv loc x p) := by
   refine ei12 m (hn.sameBut hs (Ne.symm (I.newC _ _ hc).2.1)) (fun y q hq => ?_)
   rw [getv_putv] at hq
   by_cases hy : y = x
   ·subst hy
    obtain rfl := Option.some.inj ((if_pos rfl).symm.trans hq)
    exact ⟨fun hl => (by rw [hk] at hl; cases hl), fun z_ => ⟨c, v, hc, hv', rv.keepF kf⟩⟩
   ·rw [if_neg hy] at hq
    have hne : X.nm y ≠ X.nm x := fun e => hy (I.inj y x e)
    refine ⟨fun hl => ?_, fun hcc => ?_⟩
    ·refine x12 ((hv y q hq).1 hl) fun w h1 h2 => ?_
     exact ei12 w h1 (h2.keepF kf)
    ·refine x23 ((hv y q hq).2 hcc) fun c' w h1 zq1 h2 => ?_
     obtain ⟨o, ho, hd⟩ := zq1
     exact ei23 c' w h1 ⟨o, hs.extBut _ _ (fun q => hne (I.one _ _ c' h1 (q ▸ hc))) ho, hd⟩ (h2.keepF kf)
  refine h h' s.toks (.of_off fun b o e z_ z_ hcc => hs.extBut b o (hcc _ _ hc) e) (I.sameBut hs (.inr ⟨_, hc⟩) hnf ?_ (fun z_ z_ => ⟨_, hv'⟩) L')
  revert hv'; refine y12 fun o e z_ => ?_; rw [e]; rfl
end
end Mine
end
section
namespace Mine
open PySem PySem.Calls PyProof.Rows PySem.SeqAt
noncomputable def isComp : Expr → Bool
 | .ListComp .. => true
 | .SetComp .. => true
 | .DictComp .. => true
 | _ => false
theorem swaps_no {value : Expr} {t : Option Expr} {n : Nat} {env : Env} (h : isComp value = false) : swapsWith value t n env = pure false := by
 cases value <;> first | rfl | cases h
section
variable {X : Cx} {sc : Scope} {k : Nat}
theorem PostS.nxt {env : Env} {ρ : List Addr} {loc : Loc} {hp : Hp} {s : Shared} {Q : Flow → Shared → Prop} {E : Value → Shared → Prop} (I : Inv X sc env ρ loc hp s.heap) (P : PostS X sc env ρ s (.nxt loc hp) Q E) : Q .next s :=
 P s.heap s.toks ρ (Grow.refl _ _) (KeepS.refl _ _ _) I
theorem sx_nil : DoesS X sc k (execs []) (fun loc hp => .nxt loc hp) := fun A env s ρ loc hp Q E Ft I Rm P => wpAny_execs_nil (PostS.nxt I P)
theorem sx_cons {st : Stmt} {rest : List Stmt} {f g : Loc → Hp → SR} (h1 : DoesS X sc k (exec st) f) (h2 : DoesS X sc k (execs rest) g) : DoesS X sc k (execs (st :: rest)) (fun loc hp => (f loc hp).seq g) := fun A env s ρ loc hp Q E Ft I Rm P => by
 dsimp only at P
 refine wpAny_execs_cons (wpAny_pos Rm.pos (h1 A env s ρ loc hp _ _ Ft I Rm ?_))
 cases hr : f loc hp with
 | nxt loc' hp' =>
  rw [hr, SR.seq_nxt] at P
  exact fun h' tk ρ' g' k' I' hpos => h2 A env _ ρ' loc' hp' Q E Ft I' (Rm.afterS I g' k' I' hpos) (P.later I' g' k')
 | brk loc' hp' => rw [hr] at P; exact fun h' tk ρ' g' k' I' z_ => P h' tk ρ' g' k' I'
 | ret p hp' => rw [hr] at P; exact fun v h' tk ρ' g' k' b' r' rv z_ => P v h' tk ρ' g' k' b' r' rv
 | exc c loc' hp' => rw [hr] at P; exact fun e hr' h' tk ρ' g' k' I' fl z_ => P e hr' h' tk ρ' g' k' I' fl
 | bad => rw [hr] at P; exact P
theorem sx_expr {e : Expr} {pos : Pos} {f : Loc → Hp → Res PV} (he : SE X sc k e f) (hc : isComp e = false) : DoesS X sc k (exec (.Expr e pos)) (fun loc hp => (f loc hp).stm loc fun v hp1 => match v with | .none => .nxt loc hp1 | _ => .bad) :=
 fun A env s ρ loc hp Q E Ft I Rm P => by
 refine wpAny_Expr (wp_stm he I Rm P fun va a s₁ ρ₁ hp₁ I₁ g₁ k₁ ra e₁ P₁ Rm => ?_) (by unfold interactive; rw [I.scope, I.kind]; rfl) (swaps_no hc)
 cases ra with
 | none => exact PostS.nxt I₁ P₁
 | _ => exact P₁.elim
theorem sx_ret {e : Expr} {pos : Pos} {f : Loc → Hp → Res PV} (he : SE X sc k e f) : DoesS X sc k (exec (.Return (some e) pos)) (fun loc hp => (f loc hp).stm loc fun v hp1 => .ret v hp1) := fun A env s ρ loc hp Q E Ft I Rm P =>
 wpAny_Return_some (wp_stm he I Rm P fun va a s₁ ρ₁ hp₁ I₁ g₁ k₁ ra e₁ P₁ Rm => P₁ va s₁.heap s₁.toks ρ₁ (Grow.refl _ _) (KeepS.refl _ _ _) I₁.bk I₁.rep ra)
theorem sx_brk {pos : Pos} : DoesS X sc k (exec (.Break pos)) (fun loc hp => .brk loc hp) := fun A env s ρ loc hp Q E Ft I Rm P =>
 wpAny_Break (P s.heap s.toks ρ (Grow.refl _ _) (KeepS.refl _ _ _) I)
theorem sx_asg {x : Nat} {p pos : Pos} {e : Expr} {f : Loc → Hp → Res PV} (he : SE X sc k e f) (hc : isComp e = false) (hx : sc.names.lookup (X.nm x) = some .local ∨ sc.names.lookup (X.nm x) = some .cell) :
  DoesS X sc k (exec (.Assign [.Name (X.nm x) p] e pos)) (fun loc hp => (f loc hp).stm loc fun v hp1 => .nxt (putv loc x v) hp1) := fun A env s ρ loc hp Q E Ft I Rm P =>
 wpAny_Assign_Name (wp_stm he I Rm P fun va a s₁ ρ₁ hp₁ I₁ g₁ k₁ ra e₁ P₁ Rm => store_ok I₁ ra hx fun h' tk ks I' => P₁ h' tk ρ₁ (Grow.refl _ _) ks I') (swaps_no hc)
theorem sx_if {c : Expr} {a b : List Stmt} {pos : Pos} {f : Loc → Hp → Res Bool} {g g' : Loc → Hp → SR} (hc : ST X sc k c f) (ha : DoesS X sc k (execs a) g) (hb : DoesS X sc k (execs b) g') :
  DoesS X sc k (exec (.If c a b pos)) (fun loc hp => (f loc hp).stm loc fun t hp1 => if t then g loc hp1 else g' loc hp1) := fun A env s ρ loc hp Q E Ft I Rm P => by
 refine wpAny_If (wp_stm hc I Rm P fun t t' s₁ ρ₁ hp₁ I₁ g₁ k₁ ra e₁ P₁ Rm => ?_)
 obtain rfl : t = t' := ra
 cases t with
 | true => exact ha A env s₁ ρ₁ loc hp₁ Q E Ft I₁ Rm P₁
 | false => exact hb A env s₁ ρ₁ loc hp₁ Q E Ft I₁ Rm P₁
end
end Mine
end
section
namespace Mine
open PySem PySem.Calls PyProof.Rows PySem.SeqAt
section
variable {X : Cx} {sc : Scope} {k : Nat}
theorem se_isiX {t : Ty} {v : Value} {f x : Str} {p p' pos : Pos} {e : Expr} {g : Loc → Hp → Res PV} (CO : ClssOk X) (hv : ClsV X t v) (hf : Names X sc f (.builtin "isinstance")) (hx : Names X sc x v) (he : SE X sc k e g)
  (hs : ∀ env, starEach [e, .Name x p'] env = [(false, eval e env), (false, eval (.Name x p') env)]) :
  SE X sc k (.Call (.Name f p) [e, .Name x p'] [] pos) (fun loc hp => (g loc hp).bind fun a hp1 => (ofOpt (isity a t hp1) hp1).bind fun b hp2 => .ok (.bool b) hp2) := fun A env s ρ loc hp Q E I Rm P => by
 rw [call_name]
 refine wpAny_bind (hf A env s p _ E I.scope I.kind I.glo I.blt I.bk ?_)
 refine callWith_machine rfl (by rw [hs env]; rfl) ?_
 rw [hs env]
 refine evalArgs_plain (spliced_cons ?_)
 refine wp_seq he I Rm P fun va a s₁ ρ₁ hp₁ I₁ g₁ k₁ ra e₁ P₁ Rm => ?_
 refine spliced_cons (hx A env s₁ p' _ E I₁.scope I₁.kind I₁.glo I₁.blt I₁.bk (spliced_nil ?_))
 refine x12 (Post.optB P₁) fun b hb P₂ => ?_
 exact isiX_ok CO I₁.bk ra hv hb fun tk => Post.bool I₁.rep P₂ tk
theorem sx_raise {x m : Str} {c kk : Nat} {np cpos pos p0 : Pos} (CO : ClssOk X) (hc9 : c < 9) (hx : Names X sc x (.ref (X.ca c))) (hd : Bool) (hk : hd = false → 2 ≤ k) :
  DoesS X sc k (exec (.Raise (some (.Call (.Name x np) [.Constant (.str m) kk p0] [] cpos)) none pos)) (fun loc hp => if hd = true then .bad else .exc c loc hp) := fun A env s ρ loc hp Q E Ft I Rm P => by
 cases hd with
 | true => exact P.elim
 | false =>
 replace P : PostS X sc env ρ s (.exc c loc hp) Q E := P
 have hnd := Rm.hnd (hk rfl)
 have x0 := CO.all 0 (by decide)
 refine x35 (CO.all c hc9) fun N mN z_ hC zq4 hN hmN hcl => ?_
 obtain ⟨nm, q, bs, hdct, sn, sub, ab, col, dd, k0, k1, k2, k3, k5, rfl⟩ := zq4
 have T := (x0.tail (c := c)).tail
 refine wpAny_Raise_call_subT (C := X.ca c) (nm := nm) (q := q) (N := N) (bs := bs) (bm := tailOf X c) (hdct := hdct) (sn := sn) (sub := sub) (ab := ab) (col := col) (dd := dd) (k0 := k0) (k1 := k1) (k2 := k2) (k3 := k3) (k5 := k5)
  PySem.F.excBase_ValueError (mN := mN) (T.hasType PySem.F.excBase_ValueError.hasBase) hnd rfl (hmN _ (.head _)) (hx A env s np _ _ I.scope I.kind I.glo I.blt I.bk ⟨rfl, ?_⟩)
 refine evalArgs_plain (spliced_cons (show wpAny X.M A (eval (.Constant (.str m) kk p0) env) _ E s from PySem.wpAny_Constant_str (spliced_nil ⟨rfl, by rw [sizeLine_eq]; show 1 ≤ 16777216; decide, I.bk _ _ hC, hN.keeps I.bk, T.keeps I.bk, fun h' e hm => ?_⟩)))
 refine x13 hm.there fun t0 he z_ z_ => ?_
 exact P (.ref e) s.heap h' (s.toks + 1) ρ (Grow.refl _ _) (KeepS.refl _ _ _) I ⟨hm.keeps, e, _, _, rfl, hm.new, he, rfl, rfl, rfl, hc9, .inl rfl⟩
theorem Inv.went {env : Env} {ρ : List Addr} {loc : Loc} {hp : Hp} {hr hr' : Heap} (I : Inv X sc env ρ loc hp hr) (w : Went X ρ hr hr') : Inv X sc env ρ loc hp hr' :=
 I.after (Grow.refl _ _) w.keep (w.rep I.rep)
theorem Inv.more' {env : Env} {ρ : List Addr} {loc : Loc} {hp : Hp} {h h' : Heap} (I : Inv X sc env ρ loc hp h) (k : ∀ b o, h.get? b = some o → h'.get? b = some o) : Inv X sc env ρ loc hp h' :=
 I.after (Grow.refl _ _) (Keep.of_all k) (I.rep.keep k)
theorem Frs.afterS {env : Env} {ρ ρ' : List Addr} {loc loc' : Loc} {hp hp' : Hp} {h h' : Heap} {l : List Env} (F : Frs X ρ h l) (I₀ : Inv X sc env ρ loc hp h) (I : Inv X sc env ρ' loc' hp' h') (g : Grow ρ ρ' h) (k : KeepS X env ρ h h') : Frs X ρ' h' l :=
 F.keep g fun b o es ep e hd hb => k.dict I₀ I e hd hb
theorem matches_ok {M : Model} {A : Around} {E : Value → Shared → Prop} {s : Shared} {a : Addr} {o : Obj} {c : Nat} {Q : Bool → Shared → Prop} (CO : ClssOk X) (B : BK X s.heap) (hc9 : c < 9) (hx : s.heap.get? a = some o) (hc : o.cls = .ref (X.ca c)) (h : Q true s) :
  wpAny M A (excMatches (.ref a) (.ref (X.ca 0))) Q E s := by
 refine x35 ((CO.all c hc9).keeps B) fun N mN z_ hC zq3 hN hmN hcl => ?_
 obtain ⟨nm, q, bs, hdct, sn, sub, ab, col, dd, k0, k1, k2, k3, k5, rfl⟩ := zq3
 refine x35 ((CO.all 0 (by decide)).keeps B) fun N' mN' z_ hC' zq2 hN' hmN' hcl' => ?_
 obtain ⟨nm', q', bs', hdct', sn', sub', ab', col', dd', k0', k1', k2', k3', k5', rfl⟩ := zq2
 have hcB : (Value.ref (X.ca 0) :: tailOf X 0).contains (.type "BaseException") = true := has_type rfl
 have hcC : (Value.ref (X.ca c) :: tailOf X c).contains (.ref (X.ca 0)) = true := by rw [has_cls CO hc9 (by decide)]; rfl
 have f := tc_notTuple
 obtain ⟨hh, g, d, tk, os⟩ := s
 unfold excMatches
 repeat (first | (with_reducible refine wpAny_loadPart_at hx ?_; rw [hc]) | with_reducible refine wpAny_loadPart_at hC' ?_ | (with_reducible refine wpAny_isSubtype_exc hC' ?_; rw [hcB]) | (with_reducible refine wpAny_isSubtype_exc hC ?_; rw [hcC]) | wp_step)
 exact h
theorem sx_try {body : List Stmt} {x : Nat} {r : Str} {e : Expr} {rp hpos pos rpos : Pos} {f : Loc → Hp → SR} {g : Loc → Hp → Res PV} (CO : ClssOk X) (hr0 : Names X sc r (.ref (X.ca 0))) (hb : DoesS X sc k (execs body) f) (he : SE X sc 1 e g)
  (hx : sc.names.lookup (X.nm x) = some .local) (hd : Bool) (hk : hd = false → 2 ≤ k) :
  DoesS X sc k (exec (.Try body [.ExceptHandler (some (.Name r rp)) (some (X.nm x)) [.Return (some e) rpos] hpos] [] [] pos)) (fun loc hp => if hd = true then .bad else match f loc hp with
   | .exc c loc1 hp1 => (g (putv loc1 x (.exc c)) hp1).stmB fun v hp2 => .ret v hp2
   | r => r) := fun A env s ρ loc hp Q E Ft I Rm P => by
 cases hd with
 | true => exact P.elim
 | false =>
 have hnd := Rm.hnd (hk rfl)
 have hk2 := hk rfl
 refine wpAny_Try_except (wpAny_pos Rm.pos (hb A env s ρ loc hp _ _ Ft I Rm ?_))
 cases hr : f loc hp with
 | nxt loc' hp' =>
  simp only [hr] at P
  exact fun h' tk ρ' g' k' I' z_ => wpAny_execs_nil (P h' tk ρ' g' k' I')
 | brk loc' hp' => simp only [hr] at P; exact fun h' tk ρ' g' k' I' z_ => P h' tk ρ' g' k' I'
 | ret p hp' => simp only [hr] at P; exact fun v h' tk ρ' g' k' b' r' rv z_ => P v h' tk ρ' g' k' b' r' rv
 | bad => simp only [hr] at P; exact P.elim
 | exc c loc₁ hp₁ =>
  simp only [hr] at P
  replace P : PostS X sc env ρ s ((g (putv loc₁ x (.exc c)) hp₁).stmB fun v hp2 => .ret v hp2) Q E := P
  intro ev hr₁ h₁ tk₁ ρ₁ g₁ k₁ I₁ fl hpos₁
  revert Ft; refine y12 fun outer hl hef => ?_
  refine x12 Rm.frs fun l hl' hF => ?_
  obtain rfl := Option.some.inj (hl.symm.trans hl')
  have hF₁ := hF.afterS I I₁ g₁ k₁
  refine fly_leave (s := { s with heap := h₁, toks := tk₁ }) hl hF₁ hef fl fun hr₂ h₂ w₂ fl₂ => ?_
  have I₂ : Inv X sc env ρ₁ loc₁ hp₁ h₂ := (I₁.went w₂).more' fl₂.old
  refine x38 fl₂.obj fun a o vs zq1 han ha hca hda h2a h9 hta => ?_
  subst zq1
  refine wpAny_handleBy_cons (codeAny_handlers_test (hr0 (A.mark (some (.ref a))) env { s with heap := h₂, toks := tk₁ } rp _ _ I₂.scope I₂.kind I₂.glo I₂.blt I₂.bk (matches_ok CO I₂.bk h9 ha hca ?_))) (by intro q; cases q)
  refine codeAny_handlers_suite_as (fly_set (s := { s with heap := h₂, toks := tk₁ }) fl₂ fun h₃ fl₃ => ?_)
  have I₃ : Inv X sc env ρ₁ loc₁ hp₁ h₃ := (I₁.went w₂).more' fl₃.old
  have k₃ : KeepS X env ρ s.heap h₃ := (k₁.trans g₁ w₂.keep.s).trans g₁ (Keep.of_all fl₃.old).s
  refine x38 fl₃.obj fun a' o' vs' hq han' ha' hca' hda' h2a' z_ z_ => ?_
  cases hq
  have rv : VR X ρ₁ h₃ (.ref a) (.exc c) := .exc ha' hca' hda' h2a' h9 ((I₁.went w₂).rep.free han')
  refine wpAny_pos (s := { s with heap := h₃, toks := tk₁ }) hpos₁ (store_ok (s := { s with heap := h₃, toks := tk₁ }) I₃ rv (.inl hx) fun h₄ tk₄ k₄ I₄ hpos₄ => ?_)
  have k₄' : KeepS X env ρ s.heap h₄ := k₃.trans g₁ k₄
  have rv₄ : VR X ρ₁ h₄ (.ref a) (.exc c) := rv.keepF (I₃.keepFS k₄)
  have hF₄ : Frs X ρ₁ h₄ (env :: outer) := hF.afterS I I₄ g₁ k₄'
  have Rm₄ : Room X (A.mark (some (.ref a))) 1 ρ₁ { s with heap := h₄, toks := tk₄ } :=
   ⟨fun q => absurd q (by decide), .inr ⟨a, c, rfl, rv₄⟩, by have := Rm.depth; show A.depth + 2 * 1 < _; omega, by have := Rm.units; show A.units + 10 * 1 + 80 < _; omega, hpos₄, env :: outer, hl, hF₄⟩
  refine wpAny_execs_cons (wpAny_Return_some (he (A.mark (some (.ref a))) env _ ρ₁ (putv loc₁ x (.exc c)) hp₁ _ _ I₄ Rm₄ ?_))
  cases hg : g (putv loc₁ x (.exc c)) hp₁ with
  | bad => rw [hg] at P; exact P.elim
  | exc c' hp' => rw [hg] at P; exact P.elim
  | ok v hp₂ =>
   rw [hg, Res.stmB_ok] at P
   intro va h₅ tk₅ ρ₅ g₅ k₅ r₅ rv₅
   have I₅ := I₄.after g₅ k₅ r₅
   have g' : Grow ρ ρ₅ s.heap := Grow.transS I₄ k₄' g₁ g₅
   show wpAny X.M A (do bindName env (X.nm x) .none; unbindBehindTheSuite env (X.nm x) hpos) (fun z_ s' => Q (.ret va) s') E { s with heap := h₅, toks := tk₅ }
   refine x12 (id I₅.vars) fun m hn z_ => ?_
   have hsc : env.scope.kind = .function := by rw [I.scope]; exact I.kind
   refine wpAny_nameGoes (s := { s with heap := h₅, toks := tk₅ }) (by unfold Env.kindOf; rw [I.scope]; exact hx) hn (by rw [hsc]; rfl) fun h₆ m' hn' hs => ?_
   have kf : KeepF ρ₅ h₅ h₆ := I₅.keepFS (.of_off fun b o e z_ hq z_ => hs.extBut b o hq e)
   refine P va h₆ _ ρ₅ g' ((k₄'.trans g₁ k₅.s).trans g' (.of_off fun b o e z_ hq z_ => hs.extBut b o hq e)) (fun b o e => hs.extBut b o (fun q => ?_) (I₅.bk b o e)) (r₅.keepOn kf fun b hb o e => hs.extBut b o (fun q => I₅.offL (q ▸ hb)) e) (rv₅.keepF kf)
   have := I₅.newL
   rw [← q, e] at this; cases this
end
end Mine
end
section
namespace Mine
open PySem PySem.Calls PyProof.Rows PySem.SeqAt
noncomputable def PostI (X : Cx) (ρ : List Addr) (s : Shared) (r : Res Src) (Q : Value → Shared → Prop) (E : Value → Shared → Prop) : Prop := match r with
 | .ok src hp' => ∀ it wr h' tk ρ', Grow ρ ρ' s.heap → Keep X ρ s.heap h' → RepH X ρ' hp' h' → (∀ b ∈ wr, s.heap.get? b = none) → (∀ b ∈ wr, b ∉ ρ') → SrcR X ρ' h' wr it src → Q it { s with heap := h', toks := tk }
 | .exc c hp' => ∀ e hr h' tk ρ', Grow ρ ρ' s.heap → Keep X ρ s.heap hr → RepH X ρ' hp' hr → Fly X c e hr h' → E e { s with heap := h', toks := tk }
 | .bad => False
noncomputable def DoesIt (X : Cx) (sc : Scope) (k : Nat) (iter : Expr) (f : Loc → Hp → Res Src) : Prop :=
 ∀ (A : Around) (env : Env) (s : Shared) (ρ : List Addr) (loc : Loc) (hp : Hp) (Q : Value → Shared → Prop) (E : Value → Shared → Prop),
  Inv X sc env ρ loc hp s.heap → Room X A k ρ s → PostI X ρ s (f loc hp) Q E → wpAny X.M A (eval iter env) (fun x s₁ => wpAny X.M A (pyIter x) Q E s₁) E s
noncomputable def BindOk (X : Cx) (sc : Scope) (target : Expr) (t : Tgt) : Prop :=
 ∀ (A : Around) (env : Env) (s : Shared) (ρ : List Addr) (loc loc1 : Loc) (hp : Hp) (v : Value) (p : PV) (Q : Unit → Shared → Prop) (E : Value → Shared → Prop), CalmR A s.heap → Inv X sc env ρ loc hp s.heap → VR X ρ s.heap v p → bindT t p loc = some loc1 →
  (∀ h' tk, KeepS X env ρ s.heap h' → Inv X sc env ρ loc1 hp h' → Q () { s with heap := h', toks := tk }) → wpAny X.M A (assign target env v) Q E s
section
variable {X : Cx} {sc : Scope} {k : Nat}
theorem bind_name {x : Nat} {p : Pos} (hx : sc.names.lookup (X.nm x) = some .local ∨ sc.names.lookup (X.nm x) = some .cell) : BindOk X sc (.Name (X.nm x) p) (.one x) := fun A env s ρ loc loc1 hp v p Q E z_ I rv e h => by
 cases e
 exact wpAny_assign_Name (store_ok I rv hx h)
theorem sx_asgT {tg e : Expr} {pos : Pos} {t : Tgt} {f : Loc → Hp → Res PV} (he : SE X sc k e f) (ht : BindOk X sc tg t) (hc : isComp e = false) (hw : ∀ env, swappedStores [tg] e env = pure none) (hs : ∀ env, (assignEach [tg] env).map (·.2) = [assign tg env]) (hk : 2 ≤ k) :
  DoesS X sc k (exec (.Assign [tg] e pos)) (fun loc hp => (f loc hp).stm loc fun v hp1 => match bindT t v loc with | some loc1 => .nxt loc1 hp1 | none => .bad) := fun A env s ρ loc hp Q E Ft I Rm P =>
 wpAny_Assign_stores (wp_stm he I Rm P fun va a s₁ ρ₁ hp₁ I₁ g₁ k₁ ra e₁ P₁ Rm => by
  rw [hs env]
  cases hb : bindT t a loc with
  | none => rw [hb] at P₁; exact P₁.elim
  | some loc1 =>
   rw [hb] at P₁
   exact ht A env s₁ ρ₁ loc loc1 hp₁ va a _ E (.inl (Rm.hnd hk)) I₁ ra hb fun h' tk ks I' => P₁ h' tk ρ₁ (Grow.refl _ _) ks I') (swaps_no hc) (hw env)
theorem it_plain {iter : Expr} {f : Loc → Hp → Res PV} (hi : SE X sc k iter f) : DoesIt X sc k iter (fun loc hp => (runEs [f] loc hp).bind fun vs hp1 => ofOpt (srcOf .plain vs hp1) (srcHp .plain hp1)) := fun A env s ρ loc hp Q E I Rm P => by
 refine hi A env s ρ loc hp _ E I Rm ?_
 dsimp only at P
 cases hr : f loc hp with
 | ok p hp₁ =>
  simp only [runEs, hr, Res.bind_ok] at P
  intro v h₁ tk ρ₁ g₁ k₁ r₁ rv
  have I₁ := I.after g₁ k₁ r₁
  cases hs : srcOf .plain [p] hp₁ with
  | none => rw [hs] at P; exact P.elim
  | some src =>
   rw [hs] at P
   refine src1_ok (s := { s with heap := h₁, toks := tk }) I₁.bk r₁ rv hs fun it wr h' tk' kp hw sr => ?_
   refine P it wr h' tk' ρ₁ g₁ (k₁.trans g₁ (Keep.of_all kp)) (r₁.keep kp) (fun b hb => ?_) (fun b hb hm => ?_) sr
   ·by_cases hm : b ∈ ρ
    ·revert g₁; refine y12 fun ex zq3 z_ => ?_
     subst zq3
     exact nsS (show h₁.get? b = none from hw b hb) (r₁.isSome b (List.mem_append_left _ hm))
    ·exact k₁.free hm (hw b hb)
   ·exact nsS (show h₁.get? b = none from hw b hb) (r₁.isSome b hm)
 | exc c hp₁ => simp only [runEs, hr, Res.bind_exc] at P; exact P
 | bad => simp only [runEs, hr, Res.bind_bad] at P; exact P.elim
structure Off (X : Cx) (env : Env) (wr : List Addr) : Prop where
 l : env.locals ∉ wr
 c : ∀ x c, env.cells.lookup x = some c → c ∉ wr
 b : ∀ b o, X.base.get? b = some o → b ∉ wr
theorem Inv.off {env : Env} {ρ : List Addr} {loc : Loc} {hp : Hp} {h : Heap} {wr : List Addr} (I : Inv X sc env ρ loc hp h) (hw : ∀ b ∈ wr, h.get? b = none) : Off X env wr := by
 refine ⟨fun q => ?_, fun x c hc q => ?_, fun b o e q => ?_⟩
 ·refine x12 I.vars fun m zq2 z_ => ?_
  obtain ⟨o, _, _, e, _⟩ := zq2
  exact no ((hw _ q).symm.trans e)
 ·exact nsS (hw _ q) (I.cellSome hc)
 ·have := I.bk b o e; exact no ((hw _ q).symm.trans this)
theorem Inv.keepW {env : Env} {ρ : List Addr} {loc : Loc} {hp : Hp} {h h' : Heap} {wr : List Addr} (I : Inv X sc env ρ loc hp h) (O : Off X env wr) (kw : KeepW ρ wr h h') (kf : KeepF ρ h h') (R : RepH X ρ hp h') : Inv X sc env ρ loc hp h' := by
 refine ⟨fun b o e => kw b o (O.b b o e) (fun hb => by exact no ((I.rep.new b hb).symm.trans e)) (I.bk b o e), R, I.vars.keep kf (Grow.refl ρ h) (fun o e => ⟨o, kw _ _ O.l I.offL e, rfl⟩) (fun x c o hc e => kw _ _ (O.c x c hc) (I.offC x c hc) e), I.scope, I.kind, I.glo, I.blt, I.offL, I.offC, I.newL, fun x c hc => ⟨(I.newC x c hc).1, (I.newC x c hc).2.1, ?_⟩, I.one, I.inj, fun x hx => ?_⟩
 ·refine x22 ((I.newC x c hc).2.2) fun w o ho hd => ?_
  exact ei22 w o (kw _ _ (O.c x c hc) (I.offC x c hc) ho) hd
 ·obtain ⟨c, w, hc, o, ho, hd⟩ := I.cel x hx
  exact ⟨c, w, hc, o, kw _ _ (O.c x c hc) (I.offC x c hc) ho, hd⟩
theorem SrcR.keepS {env : Env} {ρ ρ' : List Addr} {loc : Loc} {hp : Hp} {h h' : Heap} {wr : List Addr} {it : Value} {src : Src} (sr : SrcR X ρ h wr it src) (I : Inv X sc env ρ loc hp h) (O : Off X env wr) (hoff : ∀ b ∈ wr, b ∉ ρ)
  (g : Grow ρ ρ' h) (k : KeepS X env ρ h h') : SrcR X ρ' h' wr it src := by
 have hkw : ∀ b ∈ wr, ∀ o, h.get? b = some o → h'.get? b = some o := fun b hb o e => k.exact e (hoff b hb) (fun q => O.l (q ▸ hb)) (fun x c hc q => O.c x c hc (q ▸ hb)) (sr.nodict b hb o e)
 refine sr.keep (fun b o e hb hf => k.exact e hb (fun q => ?_) (fun x c hc q => ?_) (Fixed.nodict hf)) g hkw
 ·refine x12 I.vars fun mm zq1 z_ => ?_
  obtain ⟨oL, es, ep, eL, hd, _⟩ := zq1
  rw [q, show h.get? env.locals = some oL from eL] at e; cases e
  rcases hf with ⟨_, xs, nn, q2⟩ | ⟨_, vs, q2⟩ <;> rw [hd] at q2 <;> cases q2
 ·refine x11 ((I.newC x c hc).2.2) fun w hw => ?_
  rw [q] at e
  exact IsCell.nofix hw e hf
theorem DoesIt.pos {iter : Expr} {f : Loc → Hp → Res Src} {A : Around} {env : Env} {s : Shared} {ρ : List Addr} {loc : Loc} {hp : Hp} {Q : Value → Shared → Prop} {E : Value → Shared → Prop} (hi : DoesIt X sc k iter f) (I : Inv X sc env ρ loc hp s.heap) (Rm : Room X A k ρ s)
  (P : PostI X ρ s (f loc hp) (fun it s' => X.mt ≤ s'.toks → Q it s') (fun e s' => X.mt ≤ s'.toks → E e s')) : wpAny X.M A (eval iter env) (fun x s₁ => wpAny X.M A (pyIter x) Q E s₁) E s :=
 wpAny_pos Rm.pos (wpAny_mono (hi A env s ρ loc hp _ _ I Rm P) (fun x s₁ h hp => wpAny_pos hp h) (fun e s' h => h))
inductive ForI (X : Cx) (sc : Scope) (env : Env) (ρ : List Addr) (s : Shared) (wr : List Addr) (it : Value) (target : Expr) (K : Nat → Src → Loc → Hp → Prop) : Nat → Shared → Prop
 | mk {m : Nat} {h' : Heap} {tk : Nat} {ρ' : List Addr} {loc' : Loc} {hp' : Hp} {src' : Src} : Inv X sc env ρ' loc' hp' h' → Grow ρ ρ' s.heap → KeepS X env ρ s.heap h' → SrcR X ρ' h' wr it src' → (∀ b ∈ wr, b ∉ ρ') → Lets target src' → X.mt ≤ tk → K m src' loc' hp' →
   ForI X sc env ρ s wr it target K m { s with heap := h', toks := tk }
set_option tactic.hygienic true in
theorem sx_for {target iter : Expr} {body : List Stmt} {pos : Pos} {t : Tgt} {f : Loc → Hp → Res Src} {g : Loc → Hp → SR} (hi : DoesIt X sc k iter f) (ht : BindOk X sc target t) (hb : DoesS X sc k (execs body) g)
  (hlet : ∀ loc hp src hp', f loc hp = .ok src hp' → Lets target src) (hset : ∀ env x, foldedSetIterable iter env x = pure x) (n : Nat) (hd : Bool) (hk : hd = false → 2 ≤ k) :
  DoesS X sc k (exec (.For target iter body [] pos)) (fun loc hp => if hd = true then .bad else (f loc hp).stm loc fun src hp1 => forLoop t g n src loc hp1) := fun A env s ρ loc hp Q E Ft I Rm P => by
 cases hd with
 | true => exact P.elim
 | false =>
 replace P : PostS X sc env ρ s ((f loc hp).stm loc fun src hp1 => forLoop t g n src loc hp1) Q E := P
 have hnd := Rm.hnd (hk rfl)
 refine wpAny_For (hi.pos I Rm ?_) (hset env)
 cases hr : f loc hp with
 | bad => rw [hr] at P; exact P.elim
 | exc c hp₁ => rw [hr, Res.stm_exc] at P; exact fun e hr' h₂ tk₂ ρ₂ g₂ k₂ r₂ fl z_ => P e hr' h₂ tk₂ ρ₂ g₂ k₂.s (I.after g₂ k₂ r₂) fl
 | ok src hp₁ =>
  rw [hr, Res.stm_ok] at P
  intro it wr h₁ tk₁ ρ₁ g₁ k₁ r₁ hw hoff sr hpos₁
  have I₁ := I.after g₁ k₁ r₁
  have O : Off X env wr := I.off hw
  refine codeAny_forLoop_any (ForI X sc env ρ s wr it target (fun m src' loc' hp' => PostS X sc env ρ s (forLoop t g m src' loc' hp') Q E)) ?_ n (.mk I₁ g₁ k₁.s sr hoff (hlet _ _ _ _ hr) hpos₁ P)
  rintro m _ ⟨I', gr, ks, sr', hoff', lt', hpos', P'⟩
  rename_i h' tk ρ' loc' hp' src'
  cases m with
  | zero => exact P'.elim
  | succ m =>
   cases hn : src'.next hp' with
   | none => simp only [forLoop, hn] at P'; exact P'.elim
   | some r =>
    have ksw : ∀ {h₂}, KeepW ρ' wr h' h₂ → KeepS X env ρ s.heap h₂ := fun kw b o e hb hl hc => x12 (ks b o e hb hl hc) fun o' e' l => ei12 o' (kw b o' (fun q => by exact no ((hw b q).symm.trans e)) (gr.off' hb (by rw [e]; rfl)) e') l
    refine wpAny_pos hpos' (src_next (A := A) (s := { s with heap := h', toks := tk }) (.inl hnd) (.inl hnd) I'.rep sr' hoff' hn (fun hr₂ h₂ tk₂ kw kf r₂ z_ => ?_) (fun p src₂ hr₂ v hm tkm kwm kfm rm mid rv hposm => ?_))
    ·subst hr₂
     simp only [forLoop, hn] at P'
     exact wpAny_execs_nil (P' h₂ tk₂ ρ' gr (ksw kw) (I'.keepW O kw kf r₂))
    ·subst hr₂
     have lt₂ : Lets target src₂ := by
      rcases lt' with q | ⟨q1, q2⟩
      ·exact .inl q
      ·exact .inr ⟨q1, (next_own hn).trans q2⟩
     refine lets_ok (s := { s with heap := hm, toks := tkm }) lt₂ rm hoff' mid fun h₂ kw2 kf2 r₂ sr₂ => ?_
     have kw := kwm.trans kw2
     have kf := kfm.trans kf2
     replace rv := rv.keepF kf2
     have I₂ := I'.keepW O kw kf r₂
     have ks₂ := ksw kw
     simp only [forLoop, hn] at P'
     cases hbt : bindT t p loc' with
     | none => rw [hbt] at P'; exact P'.elim
     | some loc₁ =>
      rw [hbt] at P'
      dsimp only at P'
      refine wpAny_pos (s := { s with heap := h₂, toks := tkm }) hposm (ht A env _ ρ' loc' loc₁ hp' v p _ _ (.inl hnd) I₂ rv hbt fun h₃ tk₃ k₃ I₃ hpos₃ => ?_)
      have ks₃ := ks₂.trans gr k₃
      have sr₃ : SrcR X ρ' h₃ wr it src₂ := sr₂.keepS I₂ O hoff' (Grow.refl ρ' h₂) k₃
      refine wpAny_pos hpos₃ (wpAny_mono (hb A env _ ρ' loc₁ hp' (fun fl s₃ => X.mt ≤ s₃.toks → match fl with
        | .next | .cont => ∃ m', m' < m + 1 ∧ ForI X sc env ρ s wr it target (fun m src' loc' hp' => PostS X sc env ρ s (forLoop t g m src' loc' hp') Q E) m' s₃
        | .brk => Q .next s₃
        | .ret v => Q (.ret v) s₃) (fun z_ z_ => False) Ft I₃ (Rm.afterS I gr ks₃ I₃ hpos₃) ?_) (fun fl s₃ x hp => by cases fl <;> exact x hp) fun z_ z_ x => x.elim)
      cases hg : g loc₁ hp' with
      | nxt loc₄ hp₄ =>
       rw [hg] at P'
       intro h₄ tk₄ ρ₄ g₄ k₄ I₄ hpos₄
       refine ei12 m (Nat.lt_succ_self m) (.mk I₄ (Grow.transS I₃ ks₃ gr g₄) (ks₃.trans gr k₄) ?_ ?_ lt₂ hpos₄ P')
       ·exact sr₃.keepS I₃ O hoff' g₄ k₄
       ·intro b hb
        refine g₄.off (hoff' b hb) ?_
        refine x11 (sr₃.there b hb) fun o e => ?_
        exact Option.isSome_iff_exists.mpr ⟨o, e⟩
      | brk loc₄ hp₄ =>
       rw [hg] at P'
       exact fun h₄ tk₄ ρ₄ g₄ k₄ I₄ z_ => P' h₄ tk₄ ρ₄ (Grow.transS I₃ ks₃ gr g₄) (ks₃.trans gr k₄) I₄
      | ret p₄ hp₄ =>
       rw [hg] at P'
       exact fun v h₄ tk₄ ρ₄ g₄ k₄ b₄ r₄ rv z_ => P' v h₄ tk₄ ρ₄ (Grow.transS I₃ ks₃ gr g₄) (ks₃.trans gr k₄) b₄ r₄ rv
      | exc c loc₄ hp₄ => rw [hg] at P'; exact P'.elim
      | bad => rw [hg] at P'; exact P'.elim
end
end Mine
end
section
namespace Mine
open PySem PySem.Calls PyProof.Rows PySem.SeqAt
end Mine
end
section
namespace Mine
open PySem PySem.Calls PyProof.Rows PySem.SeqAt
theorem sub_ri_reversed : isSubtype (.type "range_iterator") (.type "reversed") = pure false := by rw [isSubtype_type]; kernel_rfl
theorem range_rev_meets (r : Addr) (a b c : Int) (t u v : Tok) (hs : (Builtin.Range.rangeFitsLong a && Builtin.Range.rangeFitsLong b && Builtin.Range.rangeFitsLong c && Builtin.Range.rangeFitsLong (-c) && Builtin.Range.rangeFitsLong (a - c) && Builtin.Range.rangeFitsLong (Builtin.Range.rangeSize a b c)) = true) :
  Meets (Builtin.«range.__reversed__» ⟨[.ref r], []⟩) (fun z_ R s => IsRange s.heap r a b c t u v ∧ R (.ok (.ret (.ref s.heap.objs.size))) { s with heap := s.heap.push { cls := .type "range_iterator", data := .fields #[rawInt (a + (Builtin.Range.rangeSize a b c - 1) * c), rawInt (Builtin.Range.rangeSize a b c), rawInt (-c)] } }) :=
 .of_wp fun prog w A R s h => by
  obtain ⟨hp, g, d, tk, os⟩ := s; revert h; refine y02 fun hr h => ?_
  wp_walk
  rw [hs]
  wp_walk
  exact ei12 _ rfl h
section
variable {prog : Program} {w : World} {A : Around} {E : Value → Shared → Prop} {s : Shared}
noncomputable def rrObj (x n c : Int) : Obj := { cls := .type "range_iterator", data := .fields #[rawInt x, rawInt n, rawInt c] }
theorem code_reversed_newR {r : Addr} {a b c : Int} {t u v : Tok} {Q₁ : Value → Shared → Prop} (hr : IsRange s.heap r a b c t u v)
  (hs : (Builtin.Range.rangeFitsLong a && Builtin.Range.rangeFitsLong b && Builtin.Range.rangeFitsLong c && Builtin.Range.rangeFitsLong (-c) && Builtin.Range.rangeFitsLong (a - c) && Builtin.Range.rangeFitsLong (Builtin.Range.rangeSize a b c)) = true)
  (h : Q₁ (.ref s.heap.objs.size) { s with heap := s.heap.push (rrObj (a + (Builtin.Range.rangeSize a b c - 1) * c) (Builtin.Range.rangeSize a b c) (-c)) }) :
  codeAny (model prog w) A (.call (.builtin "reversed.__new__") ⟨[.type "reversed", .ref r], []⟩) (wants Q₁ E) s := by
 have hT : s.TypeIs (.ref r) "range" := ⟨_, hr, rfl⟩
 refine codeAny_of_tree ?_
 show wpAny _ A.in1 (do checkBuiltinCall "reversed.__new__" ⟨[.type "reversed", .ref r], []⟩; again (.builtin "reversed.__new__" ⟨[.type "reversed", .ref r], []⟩)) _ _ s
 refine wpAny_bind (wpAny_of_eq (F.newCall_reversed_1 _) (wpAny_pure ⟨plainId_quiet F.plain_reversed_new _, codeAny_builtin F.entry_reversed_new ?_⟩))
 rw [Around.under_plainId F.plain_reversed_new _]
 unfold Builtin.«reversed.__new__»
 refine wpAny_bind (wpAny_of_eq (newClass_reversed _) ?_)
 try dsimp only
 refine wpAny_bind (wpAny_of_eq (a := ()) (by first | rfl | kernel_rfl) ?_)
 refine wpAny_bind (wpAny_of_eq (a := ()) (by first | rfl | kernel_rfl) ?_)
 try dsimp only
 refine wpAny_bind (wpAny_specialOf hT F.slot_range_reversed.lookup ?_)
 try dsimp only
 refine wpAny_bind (wpAny_of_eq (F.slot_range_reversed.bind _) ?_)
 try dsimp only
 first
 | rw [if_neg (show ¬ ((Value.builtin "range.__reversed__" == Value.none) = true) from Bool.false_ne_true)]
 | (show wpAny _ _ (if (Value.builtin "range.__reversed__" == Value.none) = true then _ else _) _ _ _; rw [if_neg (show ¬ ((Value.builtin "range.__reversed__" == Value.none) = true) from Bool.false_ne_true)])
 refine wpAny_bind (wpAny_rule ?_)
 refine wpAny_bind (m := runValue (.call (.builtin "range.__reversed__") ⟨[.ref r], []⟩)) (show wpAny _ _ (call (.builtin "range.__reversed__") [.ref r]) _ _ _ from
  call_meets F.slot_range_reversed hT F.entry_range_reversed (F.args_range_reversed_1 _) (range_rev_meets r a b c t u v hs) ⟨hr, ?_⟩)
 first
 | exact wpAny_pure h
 | exact wpAny_bind (wpAny_pure (wpAny_pure h))
theorem rev_size {b : Int} (hb : -1000000 ≤ b ∧ b ≤ 1000000) : Builtin.Range.rangeSize 0 b 1 = (b.toNat : Int) ∧ b.toNat ≤ 1000000 := by
 refine ⟨?_, by omega⟩
 unfold Builtin.Range.rangeSize
 simp only [show (1 : Int) > 0 by decide, if_true, Int.ediv_one]
 split <;> (clear hb; omega)
theorem fits_small {x : Int} (h1 : -2000000 ≤ x) (h2 : x ≤ 2000000) : Builtin.Range.rangeFitsLong x = true := by
 unfold Builtin.Range.rangeFitsLong
 simp; omega
theorem rev_small {b : Int} {N : Nat} (hb : -1000000 ≤ b ∧ b ≤ 1000000) (hs : Builtin.Range.rangeSize 0 b 1 = (N : Int)) (hN : N ≤ 1000000) :
  (Builtin.Range.rangeFitsLong 0 && Builtin.Range.rangeFitsLong b && Builtin.Range.rangeFitsLong 1 && Builtin.Range.rangeFitsLong (-1) && Builtin.Range.rangeFitsLong (0 - 1) && Builtin.Range.rangeFitsLong (Builtin.Range.rangeSize 0 b 1)) = true := by
 rw [hs, fits_small (by decide) (by decide), fits_small (x := b) (by exact (Int.le_of_lt (Int.lt_of_lt_of_le ilt hb.1))) (by exact (Int.le_of_lt (Int.lt_of_le_of_lt hb.2 ilt))), fits_small (x := 1) (by decide) (by decide), fits_small (x := -1) (by decide) (by decide), fits_small (x := 0 - 1) (by decide) (by decide), fits_small (x := (N : Int)) (by omega) (by exact (Int.le_of_lt (Int.lt_of_le_of_lt (Int.ofNat_le.mpr hN) ilt)))]; rfl
theorem call_reversed_rng {r : Addr} {a b c : Int} {t u v : Tok} {Q : Value → Shared → Prop} (hr : IsRange s.heap r a b c t u v)
  (hs : (Builtin.Range.rangeFitsLong a && Builtin.Range.rangeFitsLong b && Builtin.Range.rangeFitsLong c && Builtin.Range.rangeFitsLong (-c) && Builtin.Range.rangeFitsLong (a - c) && Builtin.Range.rangeFitsLong (Builtin.Range.rangeSize a b c)) = true)
  (h : Q (.ref s.heap.objs.size) { s with heap := s.heap.push (rrObj (a + (Builtin.Range.rangeSize a b c - 1) * c) (Builtin.Range.rangeSize a b c) (-c)) }) : wpAny (model prog w) A (call (.type "reversed") [.ref r]) Q E s := by
 refine callType_other (U := "range_iterator") (Q₁ := fun obj s₁ => obj = .ref s.heap.objs.size ∧ s₁ = { s with heap := s.heap.push (rrObj (a + (Builtin.Range.rangeSize a b c - 1) * c) (Builtin.Range.rangeSize a b c) (-c)) }) (by decide +kernel) F.create_reversed ⟨_, _, F.mro_reversed⟩ F.made_reversed sub_ri_reversed (F.typeCall_reversed_1 _) (code_reversed_newR hr hs ⟨rfl, rfl⟩) ?_
 rintro obj s₁ ⟨rfl, rfl⟩
 exact ⟨⟨_, Heap.get?_push_size _ rfl, rfl⟩, h⟩
end
section
variable {X : Cx} {sc : Scope} {k : Nat}
set_option tactic.hygienic true in
theorem it_rev {f : Str} {p pos : Pos} {e : Expr} {g : Loc → Hp → Res PV} (hf : Names X sc f (.type "reversed")) (he : SE X sc k e g) (hs : ∀ env, starEach [e] env = [(false, eval e env)]) (hk : 2 ≤ k) :
  DoesIt X sc k (.Call (.Name f p) [e] [] pos) (fun loc hp => (runEs [g] loc hp).bind fun vs hp1 => ofOpt (srcOf .rev vs hp1) (srcHp .rev hp1)) := fun A env s ρ loc hp Q E I Rm P => by
 rw [call_name]
 refine wpAny_bind (hf A env s p _ E I.scope I.kind I.glo I.blt I.bk ?_)
 refine callWith_machine rfl (by rw [hs env]; rfl) ?_
 rw [hs env]
 refine evalArgs_plain (spliced_cons ?_)
 refine he A env s ρ loc hp _ E I Rm ?_
 dsimp only at P
 cases hr : g loc hp with
 | bad => simp only [runEs, hr, Res.bind_bad] at P; exact P.elim
 | exc c hp₁ => simp only [runEs, hr, Res.bind_exc] at P; exact P
 | ok p hp₁ =>
  simp only [runEs, hr, Res.bind_ok] at P
  intro v h₁ tk ρ₁ g₁ k₁ r₁ rv
  have I₁ := I.after g₁ k₁ r₁
  refine spliced_nil ?_
  cases rv with
  | rng hrg hnr =>
   rename_i r a b c t u v
   dsimp only [srcOf, srcR] at P
   by_cases hc0 : ¬ ((a == 0 && rngOk b && c == 1) = true)
   ·rw [if_neg hc0] at P; exact P.elim
   have hc := Classical.not_not.mp hc0
   rw [if_pos hc] at P
   have hc' := Bool.and_eq_true_iff.mp hc
   have hab := Bool.and_eq_true_iff.mp hc'.1
   obtain rfl : a = 0 := eq_of_beq hab.1
   obtain rfl : c = 1 := eq_of_beq hc'.2
   refine x02 (rev_size (rngOk_iff hab.2)) fun hsize hle => ?_
   have hsmall := rev_small (rngOk_iff hab.2) hsize hle
   generalize b.toNat = N at *
   refine call_reversed_rng (s := { s with heap := h₁, toks := tk }) hrg hsmall ?_
   rw [hsize]
   have kp : ∀ b' o, h₁.get? b' = some o → (h₁.push (rrObj (0 + ((N : Int) - 1) * 1) (N : Int) (-1))).get? b' = some o := fun z_ z_ e => Heap.get?_push_of_some _ e
   have hst : IsRangeIter (h₁.push (rrObj (0 + ((N : Int) - 1) * 1) (N : Int) (-1))) h₁.objs.size (0 + ((N : Int) - 1) * 1) (N : Int) (-1) := Heap.get?_push_size _ rfl
   have W := fun (A : Around) (hh : A.handled = none) => Walks.range (prog := X.prog) (w := X.w) hh h₁.objs.size (0 + ((N : Int) - 1) * 1) (-1) N
   have hst0 : IsRangeIter (h₁.push (rrObj (0 + ((N : Int) - 1) * 1) (N : Int) (-1))) h₁.objs.size (0 + ((N : Int) - 1) * 1 + ((0 : Nat) : Int) * (-1)) ((N : Int) - ((0 : Nat) : Int)) (-1) := by simpa using hst
   refine (W A (Rm.hnd hk)).self 0 { s with heap := h₁.push (rrObj (0 + ((N : Int) - 1) * 1) (N : Int) (-1)), toks := tk } _ _ hst0 ?_
   refine P _ [h₁.objs.size] _ tk ρ₁ g₁ (k₁.trans g₁ (Keep.of_all kp)) (r₁.keep kp) (fun b hb => ?_) (fun b hb hm => ?_)
    (.walk (i := 0) W hst0 (by rw [List.length_reverse, rngItems_len]; omega) (fun j v p hp hl => ?_) (fun b hb hw => absurd hb hw) (fun i h st b hb => ?_) (fun i h st => ⟨_, st, _, _, rfl, rfl, by decide⟩) (fun b hb => List.mem_singleton.mp hb))
   ·rw [List.mem_singleton.mp hb]
    by_cases hm : h₁.objs.size ∈ ρ
    ·have := r₁.old g₁ _ hm
     rw [free_size] at this; cases this
    ·exact k₁.free hm (free_size _)
   ·rw [List.mem_singleton.mp hb] at hm
    have := r₁.isSome _ hm
    rw [free_size] at this; cases this
   ·have hj : j < N := by
     have := (List.getElem?_eq_some_iff.mp hl).1
     rw [List.length_reverse, rngItems_len] at this; exact this
    rw [List.getElem?_reverse (by rw [rngItems_len]; exact hj), rngItems_len] at hl
    rw [rngItems_get hl]
    revert hp; refine y11 fun t' zq1 => ?_
    subst zq1
    rw [Nat.zero_add]
    have e2 : 0 + ((N : Int) - 1) * 1 + (j : Int) * (-1) = 0 + ((N - 1 - j : Nat) : Int) * 1 := by
     omega
    rw [e2]
    exact .int _ t'
   ·rw [List.mem_singleton.mp hb]
    exact ei12 _ st (Fixed.not rfl (by decide) (by decide))
  | _ => exact P.elim
end
end Mine
end
section
namespace Mine
open PySem PySem.Calls PyProof.Rows PySem.SeqAt
noncomputable def KeepL (env : Env) (h h' : Heap) : Prop := ∀ b o, h.get? b = some o → b ≠ env.locals → h'.get? b = some o
noncomputable def BindL (X : Cx) (sc : Scope) (target : Expr) (t : Tgt) : Prop :=
 ∀ (A : Around) (env : Env) (s : Shared) (ρ : List Addr) (loc loc1 : Loc) (hp : Hp) (v : Value) (p : PV) (Q : Unit → Shared → Prop) (E : Value → Shared → Prop), CalmR A s.heap → Inv X sc env ρ loc hp s.heap → VR X ρ s.heap v p → bindT t p loc = some loc1 →
  (∀ h' tk, KeepL env s.heap h' → Inv X sc env ρ loc1 hp h' → Q () { s with heap := h', toks := tk }) → wpAny X.M A (assign target env v) Q E s
noncomputable def Tgt.names : Tgt → List Nat
 | .one x => [x]
 | .two x y => [x, y]
 | .three x y z => [x, y, z]
theorem tupOf_inv {v : PV} {ps : List PV} (h : tupOf v = some ps) : v = .tup ps := by
 cases v with
 | tup l => cases h; rfl
 | _ => exact nomatch h
theorem bindXs_inv {xs : List Nat} {ps : List PV} {loc l1 : Loc} (h : bindXs xs ps loc = some l1) : ps.length = xs.length ∧ (∀ loc', ∃ l1', bindXs xs ps loc' = some l1' ∧ ∀ z, (z ∈ xs ∨ getv loc z = getv loc' z) → getv l1 z = getv l1' z) ∧ ∀ z, z ∉ xs → getv l1 z = getv loc z := by
 induction xs generalizing ps loc with
 | nil =>
  cases ps with
  | nil => cases h; exact ⟨rfl, fun loc' => ⟨loc', rfl, fun z hz => hz.elim (fun q => nomatch q) id⟩, fun z_ z_ => rfl⟩
  | cons _ _ => exact nomatch h
 | cons x xs ih =>
  cases ps with
  | nil => exact nomatch h
  | cons p ps =>
   refine x03 (ih (show bindXs xs ps (putv loc x p) = some l1 from h)) fun h1 h2 h3 => ?_
   refine ⟨congrArg Nat.succ h1, fun loc' => ?_, fun z hz => ?_⟩
   ·refine x12 (h2 (putv loc' x p)) fun l' e g => ?_
    refine ei12 l' e (fun z hz => g z ?_)
    by_cases q : z = x
    ·right; rw [getv_putv, getv_putv, if_pos q, if_pos q]
    ·rcases hz with hz | hz
     ·exact .inl ((List.mem_cons.mp hz).resolve_left q)
     ·right; rw [getv_putv, getv_putv, if_neg q, if_neg q]; exact hz
   ·rw [h3 z fun q => hz (.tail _ q), getv_putv, if_neg (show ¬ z = x from fun q => hz (by rw [q]; exact .head _))]
theorem bindT_inv {t : Tgt} {p : PV} {loc l1 : Loc} (e : bindT t p loc = some l1) : (∃ x, t = .one x ∧ l1 = putv loc x p) ∨ ∃ ps, p = .tup ps ∧ bindXs t.names ps loc = some l1 ∧ ∀ loc', bindT t p loc' = bindXs t.names ps loc' := by
 cases t with
 | one x => cases e; exact .inl ⟨x, rfl, rfl⟩
 | two x y =>
  refine x12 (Option.bind_eq_some_iff.mp (show ((tupOf p).bind fun ps => bindXs [x, y] ps loc) = some l1 from e)) fun ps h1 h2 => ?_
  cases tupOf_inv h1
  exact .inr ⟨ps, rfl, h2, fun z_ => rfl⟩
 | three x y z =>
  refine x12 (Option.bind_eq_some_iff.mp (show ((tupOf p).bind fun ps => bindXs [x, y, z] ps loc) = some l1 from e)) fun ps h1 h2 => ?_
  cases tupOf_inv h1
  exact .inr ⟨ps, rfl, h2, fun z_ => rfl⟩
theorem bindT_two {t : Tgt} {p : PV} {loc loc' l1 : Loc} (e : bindT t p loc = some l1) : ∃ l1', bindT t p loc' = some l1' ∧ ∀ x, (x ∈ t.names ∨ getv loc x = getv loc' x) → getv l1 x = getv l1' x := by
 rcases bindT_inv e with ⟨x, rfl, rfl⟩ | ⟨ps, _, h, h'⟩
 ·refine ei12 _ rfl (fun y hy => ?_)
  rw [getv_putv, getv_putv]
  by_cases q : y = x
  ·rw [if_pos q, if_pos q]
  ·rw [if_neg q, if_neg q]; exact hy.elim (fun z => absurd (List.mem_singleton.mp z) q) id
 ·refine x12 ((bindXs_inv h).2.1 loc') fun l h1 h2 => ?_
  exact ei12 l ((h' loc').trans h1) h2
theorem bindT_off {t : Tgt} {p : PV} {loc l1 : Loc} (e : bindT t p loc = some l1) {x : Nat} (hx : x ∉ t.names) : getv l1 x = getv loc x := by
 rcases bindT_inv e with ⟨y, rfl, rfl⟩ | ⟨ps, _, h, _⟩
 ·rw [getv_putv, if_neg (show ¬ x = y from fun q => hx (by rw [q]; exact .head _))]
 ·exact (bindXs_inv h).2.2 x hx
section
variable {X : Cx} {sc : Scope} {k : Nat}
theorem Inv.locEq {env : Env} {ρ : List Addr} {loc loc' : Loc} {hp : Hp} {h : Heap} (I : Inv X sc env ρ loc hp h) (e : ∀ x p, getv loc' x = some p → sc.names.lookup (X.nm x) = some .local ∨ sc.names.lookup (X.nm x) = some .cell → getv loc x = some p) : Inv X sc env ρ loc' hp h := by
 refine ⟨I.bk, I.rep, ?_, I.scope, I.kind, I.glo, I.blt, I.offL, I.offC, I.newL, I.newC, I.one, I.inj, I.cel⟩
 refine x12 I.vars fun m hn hv => ?_
 have hk : ∀ x, env.kindOf x = sc.names.lookup x := fun x => by unfold Env.kindOf; rw [I.scope]
 refine ei12 m hn (fun x p q => ⟨fun hl => (hv x p (e x p q (.inl (hk _ ▸ hl)))).1 hl, fun hl => (hv x p (e x p q (.inr (hk _ ▸ hl)))).2 hl⟩)
theorem store_local {A : Around} {env : Env} {s : Shared} {ρ : List Addr} {loc : Loc} {hp : Hp} {x : Nat} {v : Value} {p : PV} {Q : Unit → Shared → Prop} {E : Value → Shared → Prop} (I : Inv X sc env ρ loc hp s.heap) (rv : VR X ρ s.heap v p)
  (hx : sc.names.lookup (X.nm x) = some .local)
  (h : ∀ h' tk, KeepL env s.heap h' → Inv X sc env ρ (putv loc x p) hp h' → Q () { s with heap := h', toks := tk }) : wpAny X.M A (storeName env (X.nm x) v) Q E s := by
 have hsc : env.scope.kind = .function := by rw [I.scope]; exact I.kind
 refine x12 (id I.vars) fun m hn hv => ?_
 have hk : env.kindOf (X.nm x) = some .local := by unfold Env.kindOf; rw [I.scope]; exact hx
 refine wpAny_storeName_local hk hn (fun h' hn' hs => ?_) (by rw [hsc]; rfl)
 have hnf : ∀ o, s.heap.get? env.locals = some o → ¬ Fixed o := by
  intro o eo hf
  revert hn; refine y33 fun o' es ep eo' hd z_ => ?_
  obtain rfl := Option.some.inj (eo.symm.trans eo')
  rcases hf with ⟨_, xs, n, q⟩ | ⟨_, vs, q⟩ <;> rw [hd] at q <;> cases q
 have kf : KeepF ρ s.heap h' := fun b o e z_ hf => hs.extBut b o (fun q => by subst q; exact hnf o e hf) e
 have L' : LocR X env ρ h' (putv loc x p) := by
  refine ei12 _ hn' (fun y q hq => ?_)
  rw [getv_putv] at hq
  by_cases hy : y = x
  ·subst hy
   obtain rfl := Option.some.inj ((if_pos rfl).symm.trans hq)
   exact ⟨fun z_ => ⟨v, if_pos rfl, rv.keepF kf⟩, fun hc => by rw [hk] at hc; cases hc⟩
  ·rw [if_neg hy] at hq
   have hne : X.nm y ≠ X.nm x := fun e => hy (I.inj y x e)
   refine ⟨fun hl => ?_, fun hc => ?_⟩
   ·refine x12 ((hv y q hq).1 hl) fun w h1 h2 => ?_
    exact ei12 w (by rw [if_neg hne]; exact h1) (h2.keepF kf)
   ·refine x23 ((hv y q hq).2 hc) fun c w h1 zq7 h2 => ?_
    obtain ⟨o, ho, hd⟩ := zq7
    exact ei23 c w h1 ⟨o, hs.extBut _ _ (I.newC _ _ h1).2.1 ho, hd⟩ (h2.keepF kf)
 refine h h' _ (fun b o e hl => hs.extBut b o hl e) (I.sameBut hs (.inl rfl) hnf ?_ (fun w hw => ?_) L')
 ·revert hn'; refine y32 fun o z_ z_ e z_ => ?_; rw [e]; rfl
 ·revert hw; refine y12 fun o eo hd => ?_
  revert hn; refine y33 fun o' z_ z_ e' hd' z_ => ?_
  obtain rfl := Option.some.inj (eo.symm.trans e'); rw [hd] at hd'; cases hd'
theorem bindL_name {x : Nat} {p : Pos} (hx : sc.names.lookup (X.nm x) = some .local) : BindL X sc (.Name (X.nm x) p) (.one x) := fun A env s ρ loc loc1 hp v p Q E z_ I rv e h => by
 cases e
 exact wpAny_assign_Name (store_local I rv hx h)
theorem src_self {A : Around} {s : Shared} {ρ : List Addr} {wr : List Addr} {it : Value} {src : Src} {Q : Value → Shared → Prop} {E : Value → Shared → Prop} (hz : A.handled = none ∨ src.isZ = true) (x : SrcR X ρ s.heap wr it src) (h : Q it s) : wpAny X.M A (pyIter it) Q E s := by
 cases x with
 | walk W st hn hv hf hnf hno hwI => exact (W A (hz.elim id fun q => nomatch q)).self _ _ _ _ st h
 | «at» hn hit => exact wpAny_pyIter_listiter hit h
 | enum hn he hit hne => exact wpAny_pyIter_enum he h
 | zip Z => exact wpAny_pyIter_zip Z.hz h
noncomputable def putvs (loc : Loc) : List (Nat × Pos) → List PV → Loc
 | x :: xs, p :: ps => putvs (putv loc x.1 p) xs ps
 | _, _ => loc
theorem KeepL.trans' {env : Env} {h h₁ h₂ : Heap} (k : KeepL env h h₁) (k' : KeepL env h₁ h₂) : KeepL env h h₂ := fun b o e hl => k' b o (k b o e hl) hl
theorem assign_names {A : Around} {env : Env} {hp : Hp} {ρ : List Addr} {Q : Unit → Shared → Prop} {E : Value → Shared → Prop} : ∀ (xs : List (Nat × Pos)) (vs : List Value) (ps : List PV) (s : Shared) (loc : Loc), Inv X sc env ρ loc hp s.heap → VRs X ρ s.heap vs ps →
  (∀ x ∈ xs, sc.names.lookup (X.nm x.1) = some .local ∨ sc.names.lookup (X.nm x.1) = some .cell) → xs.length = vs.length → (∀ h' tk, KeepS X env ρ s.heap h' → Inv X sc env ρ (putvs loc xs ps) hp h' → Q () { s with heap := h', toks := tk }) →
  wpAny X.M A (assignInOrder (xs.map fun x => assign (.Name (X.nm x.1) x.2) env) vs) Q E s := by
 intro xs
 induction xs with
 | nil =>
  intro vs ps s loc I rs hx hl h
  cases rs with
  | nil => exact assignInOrder_nil (h s.heap s.toks (KeepS.refl _ _ _) I)
  | cons _ _ => cases hl
 | cons x xs ih =>
  intro vs ps s loc I rs hx hl h
  cases rs with
  | nil => cases hl
  | cons rv rs =>
   refine assignInOrder_cons (wpAny_assign_Name (store_ok I rv (hx x (.head _)) fun h₁ tk₁ k₁ I₁ => ?_))
   have kf : KeepF ρ s.heap h₁ := fun b o e hb hf => k₁.exact e hb (fun q => by
    refine x12 I.vars fun mm zq6 z_ => ?_
    obtain ⟨oL, es, ep, eL, hd, _⟩ := zq6
    rw [q, show s.heap.get? env.locals = some oL from eL] at e; cases e
    rcases hf with ⟨_, xs, nn, q2⟩ | ⟨_, vs, q2⟩ <;> rw [hd] at q2 <;> cases q2) (fun y c hc q => by
    refine x11 ((I.newC y c hc).2.2) fun w hw => ?_
    rw [q] at e
    exact IsCell.nofix hw e hf) (Fixed.nodict hf)
   exact ih _ _ { s with heap := h₁, toks := tk₁ } _ I₁ (rs.keepF kf) (fun y hy => hx y (.tail _ hy)) (by simpa using hl) fun h' tk k I' => h h' tk (k₁.trans (Grow.refl _ _) k) I'
theorem assign_namesL {A : Around} {env : Env} {hp : Hp} {ρ : List Addr} {Q : Unit → Shared → Prop} {E : Value → Shared → Prop} : ∀ (xs : List (Nat × Pos)) (vs : List Value) (ps : List PV) (s : Shared) (loc : Loc), Inv X sc env ρ loc hp s.heap → VRs X ρ s.heap vs ps →
  (∀ x ∈ xs, sc.names.lookup (X.nm x.1) = some .local) → xs.length = vs.length → (∀ h' tk, KeepL env s.heap h' → Inv X sc env ρ (putvs loc xs ps) hp h' → Q () { s with heap := h', toks := tk }) →
  wpAny X.M A (assignInOrder (xs.map fun x => assign (.Name (X.nm x.1) x.2) env) vs) Q E s := by
 intro xs
 induction xs with
 | nil =>
  intro vs ps s loc I rs hx hl h
  cases rs with
  | nil => exact assignInOrder_nil (h s.heap s.toks (fun z_ z_ e z_ => e) I)
  | cons _ _ => cases hl
 | cons x xs ih =>
  intro vs ps s loc I rs hx hl h
  cases rs with
  | nil => cases hl
  | cons rv rs =>
   refine assignInOrder_cons (wpAny_assign_Name (store_local I rv (hx x (.head _)) fun h₁ tk₁ k₁ I₁ => ?_))
   have kf : KeepF ρ s.heap h₁ := fun b o e hb hf => k₁ b o e (fun q => by
    refine x12 I.vars fun mm zq5 z_ => ?_
    obtain ⟨oL, es, ep, eL, hd, _⟩ := zq5
    rw [q, show s.heap.get? env.locals = some oL from eL] at e; cases e
    rcases hf with ⟨_, xs, nn, q2⟩ | ⟨_, vs, q2⟩ <;> rw [hd] at q2 <;> cases q2)
   exact ih _ _ { s with heap := h₁, toks := tk₁ } _ I₁ (rs.keepF kf) (fun y hy => hx y (.tail _ hy)) (by simpa using hl) fun h' tk k I' => h h' tk (k₁.trans' k) I'
theorem Inv.more {env : Env} {ρ : List Addr} {loc : Loc} {hp : Hp} {h h' : Heap} (I : Inv X sc env ρ loc hp h) (k : ∀ b o, h.get? b = some o → h'.get? b = some o) : Inv X sc env ρ loc hp h' :=
 I.after (Grow.refl _ _) (Keep.of_all k) (I.rep.keep k)
theorem each_names (env : Env) : ∀ xs : List (Nat × Pos), assignEach (xs.map fun x => Expr.Name (X.nm x.1) x.2) env = xs.map fun x => (false, assign (.Name (X.nm x.1) x.2) env)
 | [] => rfl
 | x :: xs => by
  rw [List.map_cons, List.map_cons, ← each_names env xs]; rfl
theorem nostar {α : Type} : ∀ l : List α, ∀ f : α → (Value → Sem Unit), (l.map fun x => (false, f x)).findIdx? (·.1) = none
 | [], _ => rfl
 | x :: l, f => by rw [List.map_cons, List.findIdx?_cons, nostar l f]; rfl
set_option tactic.hygienic true in
theorem bind_tuple {xs : List (Nat × Pos)} {kk : Nat} {pos : Pos} {t : Tgt} (hx : ∀ x ∈ xs, sc.names.lookup (X.nm x.1) = some .local ∨ sc.names.lookup (X.nm x.1) = some .cell)
  (ht : ∀ v loc loc1, bindT t v loc = some loc1 → ∃ ps, v = .tup ps ∧ ps.length = xs.length ∧ loc1 = putvs loc xs ps) : BindOk X sc (.Tuple (xs.map fun x => Expr.Name (X.nm x.1) x.2) kk pos) t := fun A env s ρ loc loc1 hp v p Q E hh I rv e h => by
 refine x13 (ht _ _ _ e) fun ps zq3 hlen zq4 => ?_
 subst zq3
 subst zq4
 cases rv with
 | tup htt hz rl hnr =>
  rename_i a vs
  refine x11 (id htt) fun n ho => ?_
  have hT : s.heap.IsTuple a vs.toArray := ⟨_, ho, rfl, n, rfl⟩
  have hlen' : xs.length = vs.length := by rw [VRs.length rl, hlen]
  refine assign_calm hh hT (by rw [each_names, List.length_map, List.size_toArray]; exact hlen') (by rw [each_names]; exact nostar xs _) fun h₁ he => ?_
  have kp : ∀ b o, s.heap.get? b = some o → h₁.get? b = some o := fun b o eb => he b o (Nat.ne_of_lt (Heap.lt_size eb)) eb
  rw [each_names, List.map_map]
  exact assign_names xs vs ps { s with heap := h₁ } loc (I.more kp) (rl.keepF (KeepF.of_all kp)) hx hlen' fun h' tk k I' => h h' tk (fun b o eb hb hl hc => k b o (kp b o eb) hb hl hc) I'
set_option tactic.hygienic true in
theorem bindL_tuple {xs : List (Nat × Pos)} {kk : Nat} {pos : Pos} {t : Tgt} (hx : ∀ x ∈ xs, sc.names.lookup (X.nm x.1) = some .local)
  (ht : ∀ v loc loc1, bindT t v loc = some loc1 → ∃ ps, v = .tup ps ∧ ps.length = xs.length ∧ loc1 = putvs loc xs ps) : BindL X sc (.Tuple (xs.map fun x => Expr.Name (X.nm x.1) x.2) kk pos) t := fun A env s ρ loc loc1 hp v p Q E hh I rv e h => by
 refine x13 (ht _ _ _ e) fun ps zq1 hlen zq2 => ?_
 subst zq1
 subst zq2
 cases rv with
 | tup htt hz rl hnr =>
  rename_i a vs
  refine x11 (id htt) fun n ho => ?_
  have hT : s.heap.IsTuple a vs.toArray := ⟨_, ho, rfl, n, rfl⟩
  have hlen' : xs.length = vs.length := by rw [VRs.length rl, hlen]
  refine assign_calm hh hT (by rw [each_names, List.length_map, List.size_toArray]; exact hlen') (by rw [each_names]; exact nostar xs _) fun h₁ he => ?_
  have kp : ∀ b o, s.heap.get? b = some o → h₁.get? b = some o := fun b o eb => he b o (Nat.ne_of_lt (Heap.lt_size eb)) eb
  rw [each_names, List.map_map]
  exact assign_namesL xs vs ps { s with heap := h₁ } loc (I.more kp) (rl.keepF (KeepF.of_all kp)) hx hlen' fun h' tk k I' => h h' tk (fun b o eb hl => k b o (kp b o eb) hl) I'
theorem bindXs_vs : ∀ {xs : List (Nat × Pos)} {ps : List PV} {loc l1 : Loc}, bindXs (xs.map (·.1)) ps loc = some l1 → l1 = putvs loc xs ps
 | [], [], _, _, h => by cases h; rfl
 | [], _ :: _, _, _, h => nomatch h
 | _ :: _, [], _, _, h => nomatch h
 | x :: xs, p :: ps, loc, l1, h => bindXs_vs (xs := xs) (ps := ps) (loc := putv loc x.1 p) h
theorem bindN {t : Tgt} {xs : List (Nat × Pos)} (hn : t.names = xs.map (·.1)) (h1 : ∀ x, t ≠ .one x) : ∀ v loc loc1, bindT t v loc = some loc1 → ∃ ps, v = .tup ps ∧ ps.length = xs.length ∧ loc1 = putvs loc xs ps := fun v loc loc1 e => by
 rcases bindT_inv e with ⟨x, q, _⟩ | ⟨ps, rfl, h, _⟩
 ·exact absurd q (h1 x)
 ·rw [hn] at h
  exact ei13 ps rfl (by have := (bindXs_inv h).1; rwa [List.length_map] at this) (bindXs_vs h)
theorem bind2 (x y : Nat × Pos) : ∀ v loc loc1, bindT (.two x.1 y.1) v loc = some loc1 → ∃ ps, v = .tup ps ∧ ps.length = [x, y].length ∧ loc1 = putvs loc [x, y] ps := bindN rfl fun z_ q => nomatch q
theorem bind3 (x y z : Nat × Pos) : ∀ v loc loc1, bindT (.three x.1 y.1 z.1) v loc = some loc1 → ∃ ps, v = .tup ps ∧ ps.length = [x, y, z].length ∧ loc1 = putvs loc [x, y, z] ps := bindN rfl fun z_ q => nomatch q
theorem closure_get (env : Env) : ∀ (l : List (Str × NameKind)) (cs : List (Str × Addr)), (∀ y ∈ l, y.2 = .free → ∃ c, env.cells.lookup y.1 = some c) → (∀ x c, cs.lookup x = some c → env.cells.lookup x = some c) →
  ∃ cl : List (Str × Addr), (forIn l cs fun (x : Str × NameKind) (r : List (Str × Addr)) => match x with | (name, kind) => if (kind == NameKind.free) = true then do let __do_lift ← cellOf env name; pure (ForInStep.yield ((name, __do_lift) :: r)) else pure (ForInStep.yield r) : Sem (List (Str × Addr))) = pure cl ∧
   (∀ x c, cl.lookup x = some c → env.cells.lookup x = some c) ∧ (∀ x, ((∃ c, cs.lookup x = some c) ∨ (x, NameKind.free) ∈ l) → ∃ c, cl.lookup x = some c)
 | [], cs, _, hcs => ⟨cs, rfl, hcs, fun x hx => by rcases hx with hx | hx; exact hx; cases hx⟩
 | (n, kd) :: r, cs, hl, hcs => by
  by_cases hk : kd = .free
  ·subst hk
   refine x11 (hl (n, .free) (.head _) rfl) fun c hc => ?_
   have hcs' : ∀ x c', ((n, c) :: cs).lookup x = some c' → env.cells.lookup x = some c' := fun x c' q => by
    simp only [List.lookup] at q
    cases hb : x == n with
    | true => rw [hb] at q; cases q; rw [eq_of_beq hb]; exact hc
    | false => rw [hb] at q; exact hcs x c' q
   refine x13 (closure_get env r ((n, c) :: cs) (fun y hy => hl y (.tail _ hy)) hcs') fun cl h1 h2 h3 => ?_
   refine ei13 cl ?_ h2 (fun x hx => h3 x ?_)
   ·rw [List.forIn_cons]
    simp only [beq_self_eq_true, if_true]
    have : cellOf env n = pure c := by unfold cellOf; rw [hc]
    rw [this]
    exact h1
   ·rcases hx with ⟨c', hx⟩ | hx
    ·left
     simp only [List.lookup]
     cases hb : x == n with
     | true => exact ei11 c rfl
     | false => exact ei11 c' hx
    ·rcases List.mem_cons.mp hx with q | q
     ·left
      cases q
      simp [List.lookup]
     ·right; exact q
  ·refine x13 (closure_get env r cs (fun y hy => hl y (.tail _ hy)) hcs) fun cl h1 h2 h3 => ?_
   refine ei13 cl ?_ h2 (fun x hx => h3 x ?_)
   ·rw [List.forIn_cons]
    have : (kd == NameKind.free) = false := by simpa using hk
    simp only [this]
    exact h1
   ·rcases hx with hx | hx
    ·exact .inl hx
    ·rcases List.mem_cons.mp hx with q | q
     ·cases q; exact absurd rfl hk
     ·right; exact q
theorem closure_ok {scope : Scope} {env : Env} (hl : ∀ y ∈ scope.names, y.2 = .free → ∃ c, env.cells.lookup y.1 = some c) :
  ∃ cl : List (Str × Addr), closureFor scope env = pure cl ∧ (∀ x c, cl.lookup x = some c → env.cells.lookup x = some c) ∧ (∀ x, (x, NameKind.free) ∈ scope.names → ∃ c, cl.lookup x = some c) := by
 refine x13 (closure_get env scope.names [] hl (fun x c q => by cases q)) fun cl h1 h2 h3 => ?_
 refine ei13 cl ?_ h2 (fun x hx => h3 x (.inr hx))
 unfold closureFor
 exact (congrArg (fun m : Sem (List (Str × Addr)) => m >>= fun r => pure r) h1).trans rfl
end
end Mine
end
section
namespace Mine
open PySem PySem.Calls PyProof.Rows PySem.SeqAt
noncomputable def relab (scope sc : Scope) : Scope := { scope with names := scope.names.map fun (n, k) => if (k == .free && sc.kind == .function && sc.names.lookup n == some .cell) then (n, .cell) else (n, k) }
theorem relabel_eq {scope sc : Scope} {env : Env} (h : env.scope = sc) : relabel scope env = relab scope sc := by subst h; rfl
theorem relab_cell {scope sc : Scope} {x : Str} (h : (relab scope sc).names.lookup x = some .cell) (hc : ∀ y ∈ scope.names, y.2 ≠ .cell) : (x, NameKind.free) ∈ scope.names ∧ sc.names.lookup x = some .cell := by
 unfold relab at h
 dsimp only at h
 generalize scope.names = l at h hc
 induction l with
 | nil => cases h
 | cons a r ih =>
  obtain ⟨n, kd⟩ := a
  have ih' := fun q => ih q (fun y hy => hc y (.tail _ hy))
  rw [List.map_cons] at h
  by_cases hk : (kd == .free && sc.kind == .function && sc.names.lookup n == some .cell) = true
  ·simp only [hk, if_true, List.lookup] at h
   cases hb : x == n with
   | true =>
    have e := eq_of_beq hb; subst e
    simp only [Bool.and_eq_true, beq_iff_eq] at hk
    exact ⟨by rw [hk.1.1]; exact .head _, hk.2⟩
   | false =>
    rw [hb] at h
    refine x02 (ih' h) fun h1 h2 => ?_
    exact ⟨.tail _ h1, h2⟩
  ·simp only [hk, if_false, List.lookup, Bool.false_eq_true] at h
   cases hb : x == n with
   | true =>
    rw [hb] at h
    cases h
    exact absurd rfl (hc (n, .cell) (.head _))
   | false =>
    rw [hb] at h
    refine x02 (ih' h) fun h1 h2 => ?_
    exact ⟨.tail _ h1, h2⟩
noncomputable def runIfs : List (Loc → Hp → Res Bool) → Loc → Hp → Res Bool
 | [], _, hp => .ok true hp
 | f :: r, loc, hp => (f loc hp).bind fun b hp1 => if b then runIfs r loc hp1 else .ok false hp1
section
variable {X : Cx} {sc : Scope} {k : Nat}
inductive SIfs (X : Cx) (sc : Scope) (k : Nat) : List Expr → List (Loc → Hp → Res Bool) → Prop
 | nil : SIfs X sc k [] []
 | cons {e : Expr} {f : Loc → Hp → Res Bool} {es : List Expr} {fs : List (Loc → Hp → Res Bool)} : ST X sc k e f → SIfs X sc k es fs → SIfs X sc k (e :: es) (f :: fs)
theorem ifs_false {M : Model} {A : Around} {env : Env} {ifs : List Expr} {s : Shared} {Q : Bool → Shared → Prop} {E : Value → Shared → Prop} (h : Q false s) :
  wpAny M A (forIn ifs false fun c r => if r = true then do let ok ← isTrue c env (eval c env); pure (ForInStep.yield ok) else pure (ForInStep.yield r)) Q E s := by
 induction ifs with
 | nil => exact wpAny_pure h
 | cons c r ih => rw [List.forIn_cons]; exact ih
theorem ifs_ok {ifs : List Expr} {fs : List (Loc → Hp → Res Bool)} (h : SIfs X sc k ifs fs) : Does X sc k (fun env => forIn ifs true fun c r => if r = true then do let ok ← isTrue c env (eval c env); pure (ForInStep.yield ok) else pure (ForInStep.yield r)) RB (runIfs fs) := by
 induction h with
 | nil => exact fun A env s ρ loc hp Q E I Rm P => wpAny_pure (Post.same I.rep P true s.toks rfl)
 | cons he hr ih =>
  intro A env s ρ loc hp Q E I Rm P
  dsimp only
  rw [List.forIn_cons]
  simp only [if_true]
  refine wpAny_bind (wpAny_bind (wp_seq he I Rm P fun a b s₁ ρ₁ hp₁ I₁ g₁ k₁ ra e₁ P₁ Rm => wpAny_pure ?_))
  cases (ra : a = b)
  cases a with
  | true => exact ih A env s₁ ρ₁ loc hp₁ Q E I₁ Rm P₁
  | false => exact ifs_false (Post.same I₁.rep P₁ false s₁.toks rfl)
noncomputable def PostC (X : Cx) (ρ : List Addr) (s : Shared) (r : Res (List PV)) (RR : Value → Addr → Result → Shared → Prop) : Prop := match r with
 | .ok l hp' => ∀ D C h' tk ρ' vs m, s.heap.get? D = none → s.heap.get? C = none → D ≠ C → h'.Ns C m → LI h' D vs.toArray → vs.length ≤ sizeLine → VRs X ρ' h' vs l → D ∉ ρ' → C ∉ ρ' →
   Grow ρ ρ' s.heap → Keep X ρ s.heap h' → RepH X ρ' hp' h' → RR (.ref D) C (.ok .next) { s with heap := h', toks := tk }
 | .exc c hp' => True
 | .bad => False
structure CompScope (X : Cx) (sc scope : Scope) (t : Tgt) : Prop where
 cell : ∀ y ∈ scope.names, y.2 ≠ .cell
 kind : scope.kind = .function
 free : ∀ y ∈ scope.names, y.2 = .free → sc.names.lookup y.1 = some .cell
 loc : ∀ x, (relab scope sc).names.lookup (X.nm x) = some .local → x ∈ t.names
 names : ∀ x ∈ scope.names, x.2 = .local → scope.names.lookup x.1 = some .local
 tloc : ∀ x ∈ t.names, (relab scope sc).names.lookup (X.nm x) = some .local
theorem getv_filter (q : Nat → Bool) (x : Nat) : ∀ loc : Loc, getv (loc.filter fun a => q a.1) x = if q x then getv loc x else none
 | [] => by show none = if q x then none else none; rw [ite_self]
 | (y, v) :: r => by
  have ih := getv_filter q x r
  by_cases hq : q y = true
  ·rw [List.filter_cons_of_pos (p := fun a : Nat × Option PV => q a.1) hq]
   show (if y = x then v else getv _ x) = if q x then (if y = x then v else getv r x) else none
   rw [ih]
   by_cases h : y = x
   ·subst h; rw [if_pos rfl, if_pos hq, if_pos rfl]
   ·rw [if_neg h, if_neg h]
  ·rw [List.filter_cons_of_neg (p := fun a : Nat × Option PV => q a.1) hq, ih]
   show _ = if q x then (if y = x then v else getv r x) else none
   by_cases h : y = x
   ·subst h; rw [if_neg hq, if_neg hq]
   ·rw [if_neg h]
noncomputable def freeL (X : Cx) (sc : Scope) (loc : Loc) : Loc := loc.filter fun a => sc.names.lookup (X.nm a.1) != some .local
theorem getv_free {X : Cx} {sc : Scope} {loc : Loc} {x : Nat} : getv (freeL X sc loc) x = if (sc.names.lookup (X.nm x) != some .local) = true then getv loc x else none := getv_filter (fun a => sc.names.lookup (X.nm a) != some .local) x loc
theorem comp_env {scope : Scope} {t : Tgt} {env : Env} {ρ : List Addr} {loc : Loc} {hp : Hp} {h h' : Heap} {cl : List (Str × Addr)} {C : Addr} {cenv : Env} (CS : CompScope X sc scope t) (I : Inv X sc env ρ loc hp h)
  (hcl : ∀ x c, cl.lookup x = some c → env.cells.lookup x = some c) (hcl' : ∀ x, (x, NameKind.free) ∈ scope.names → ∃ c, cl.lookup x = some c) (kp : ∀ b o, h.get? b = some o → h'.get? b = some o)
  (hC : h.get? C = none) (hn : h'.Ns C (fun z_ => none)) (e1 : cenv.scope = relab scope sc) (e2 : cenv.locals = C) (e3 : cenv.globals = env.globals) (e4 : cenv.builtins = env.builtins) (e5 : cenv.cells = cl) :
  Inv X (relab scope sc) cenv ρ (freeL X (relab scope sc) loc) hp h' := by
 have kf : KeepF ρ h h' := KeepF.of_all kp
 have hk : ∀ x, cenv.kindOf x = (relab scope sc).names.lookup x := fun x => by unfold Env.kindOf; rw [e1]
 have hko : ∀ x, env.kindOf x = sc.names.lookup x := fun x => by unfold Env.kindOf; rw [I.scope]
 refine ⟨fun b o e => kp _ _ (I.bk b o e), I.rep.keep kp, ⟨_, e2 ▸ hn, fun x p q => ⟨fun hl => ?_, fun hc => ?_⟩⟩, e1, CS.kind, e3.trans I.glo, e4.trans I.blt, ?_, fun x c hc => ?_, ?_, fun x c hc => ?_, fun x y c hx hy => ?_, I.inj, fun x hx => ?_⟩
 ·rw [hk] at hl
  rw [getv_free, hl] at q
  simp at q
 ·rw [hk] at hc
  rw [getv_free, hc] at q
  have q' : getv loc x = some p := by simpa using q
  refine x02 (relab_cell hc CS.cell) fun hm ho => ?_
  refine x12 I.vars fun z_ z_ hv => ?_
  refine x23 ((hv x p q').2 (by rw [hko]; exact ho)) fun c v h1 h2 h3 => ?_
  refine x11 (hcl' _ hm) fun c' hc' => ?_
  have := hcl _ _ hc'
  rw [h1] at this; cases this
  revert h2; refine y12 fun o ho' hd => ?_
  exact ei23 c v (by rw [e5]; exact hc') ⟨o, kp _ _ ho', hd⟩ (h3.keepF kf)
 ·rw [e2]; intro hm
  exact nsS hC (I.rep.isSome _ hm)
 ·rw [e5] at hc; exact I.offC x c (hcl _ _ hc)
 ·rw [e2]; exact I.bk.free hC
 ·rw [e5] at hc
  obtain ⟨h1, h2, w, o, ho, hd⟩ := I.newC x c (hcl _ _ hc)
  refine ⟨h1, ?_, w, o, kp _ _ ho, hd⟩
  rw [e2]; rintro rfl
  exact no (hC.symm.trans ho)
 ·rw [e5] at hx hy
  exact I.one x y c (hcl _ _ hx) (hcl _ _ hy)
 ·refine x02 (relab_cell hx CS.cell) fun hm ho => ?_
  refine x11 (hcl' _ hm) fun c hc => ?_
  obtain ⟨h1, h2, w, o, ho', hd⟩ := I.newC x c (hcl _ _ hc)
  exact ⟨c, w, by rw [e5]; exact hc, o, kp _ _ ho', hd⟩
end
end Mine
end
section
namespace Mine
open PySem PySem.Calls PyProof.Rows PySem.SeqAt
structure AccR (X : Cx) (ρ : List Addr) (h : Heap) (D : Addr) (vs : List Value) (acc : List PV) : Prop where
 li : LI h D vs.toArray
 rl : VRs X ρ h vs acc
 off : D ∉ ρ
theorem AccR.nodict {X : Cx} {ρ : List Addr} {h : Heap} {D : Addr} {vs : List Value} {acc : List PV} (a : AccR X ρ h D vs acc) {o : Obj} (e : h.get? D = some o) (es : Array DictEntry) (ep : Nat) : o.data ≠ .dict es ep := fun q => by
 obtain ⟨⟨n, e'⟩, _, _⟩ := a
 obtain rfl := Option.some.inj (e.symm.trans e'); cases q
theorem AccR.step {X : Cx} {ρ ρ' : List Addr} {h h' : Heap} {D : Addr} {vs : List Value} {acc : List PV} (a : AccR X ρ h D vs acc) (kf : KeepF ρ h h') (g : Grow ρ ρ' h) (kd : ∀ o, h.get? D = some o → h'.get? D = some o) : AccR X ρ' h' D vs acc := by
 obtain ⟨⟨n, e⟩, rl, off⟩ := a
 exact ⟨⟨n, kd _ e⟩, rl.grow kf g, g.off off (by rw [e]; rfl)⟩
theorem AccR.nofix {X : Cx} {ρ : List Addr} {h : Heap} {D : Addr} {vs : List Value} {acc : List PV} (a : AccR X ρ h D vs acc) {o : Obj} (e : h.get? D = some o) : ¬ Fixed o := by
 obtain ⟨⟨n, e'⟩, _, _⟩ := a
 obtain rfl := Option.some.inj (e.symm.trans e')
 exact Fixed.not rfl (by decide) (by decide)
theorem AccR.some {X : Cx} {ρ : List Addr} {h : Heap} {D : Addr} {vs : List Value} {acc : List PV} (a : AccR X ρ h D vs acc) : (h.get? D).isSome = true := by
 obtain ⟨⟨n, e'⟩, _, _⟩ := a
 rw [e']; rfl
inductive CompI (X : Cx) (sc : Scope) (cenv : Env) (ρ : List Addr) (s : Shared) (loc0 : Loc) (wr : List Addr) (it : Value) (target : Expr) (D : Addr) (K : Nat → Src → List PV → Hp → Prop) : Nat → Shared → Prop
 | mk {m : Nat} {h' : Heap} {tk : Nat} {ρ' : List Addr} {hp' : Hp} {src' : Src} {vs : List Value} {acc : List PV} : Inv X sc cenv ρ' loc0 hp' h' → Grow ρ ρ' s.heap → Keep X ρ s.heap h' → SrcR X ρ' h' wr it src' → (∀ b ∈ wr, b ∉ ρ') → Lets target src' → AccR X ρ' h' D vs acc → acc.length + m ≤ loops → X.mt ≤ tk → K m src' acc hp' →
   CompI X sc cenv ρ s loc0 wr it target D K m { s with heap := h', toks := tk }
section
variable {X : Cx} {sc : Scope} {k : Nat}
theorem Inv.keepFL {env : Env} {ρ : List Addr} {loc : Loc} {hp : Hp} {h h' : Heap} (I : Inv X sc env ρ loc hp h) (kl : KeepL env h h') : KeepF ρ h h' := fun b o e z_ hf => kl b o e fun q => by
 refine x12 I.vars fun mm zq2 z_ => ?_
 obtain ⟨oL, es, ep, eL, hd, _⟩ := zq2
 rw [q, show h.get? env.locals = some oL from eL] at e; cases e
 rcases hf with ⟨_, xs, nn, q2⟩ | ⟨_, vs, q2⟩ <;> rw [hd] at q2 <;> cases q2
theorem compLoop_any {prog : Program} {w : World} {A : Around} {s : Shared} {R : Result → Shared → Prop} {elt target iter : Expr} {ifs : List Expr} {scope : Scope} {pos : Pos} {it acc : Value} {env : Env} (I : Nat → Shared → Prop)
  (turn : ∀ n s, I n s → wpAny (model prog w) A (pyNext it) (fun r s₁ => match r with
   | none => R (.ok .next) s₁
   | some v => wpAny (model prog w) A (letOwnedTupleGo target it v) (fun z_ s₁' => wpAny (model prog w) A (assign target env v) (fun z_ s₂ =>
     wpAny (model prog w) A (forIn ifs true fun c r => if r = true then do let ok ← isTrue c env (eval c env); pure (ForInStep.yield ok) else pure (ForInStep.yield r)) (fun ok s₃ =>
      if ok = true then wpAny (model prog w) A (eval elt env) (fun x s₄ =>
       wpAny (model prog w) A (call (.builtin "list.append") [acc, x]) (fun z_ s₅ => ∃ m, m < n ∧ I m s₅) (notedBy (model prog w) A env fun e s' => R (.error e) s') s₄) (notedBy (model prog w) A env fun e s' => R (.error e) s') s₃
      else ∃ m, m < n ∧ I m s₃) (notedBy (model prog w) A env fun e s' => R (.error e) s') s₂) (notedBy (model prog w) A env fun e s' => R (.error e) s') s₁') (notedBy (model prog w) A env fun e s' => R (.error e) s') s₁) (notedBy (model prog w) A env fun e s' => R (.error e) s') s)
  (n : Nat) (h : I n s) : codeAny (model prog w) A (.compLoop (.ListComp elt [⟨target, iter, ifs, 0⟩] scope pos) 0 it acc env) R s := by
 refine codeAny_loop rfl I (fun n s hI => ?_) n h
 show wpAny _ A ((compTurn (.ListComp elt [⟨target, iter, ifs, 0⟩] scope pos) 0 it acc env).onRaise (fun x => do noteFrame x env; theTreesLotGoes x)) _ _ s
 refine wpAny_noted ?_
 rw [compTurn_list]
 refine wpAny_bind (wpAny_standAt (wpAny_bind (wpAny_mono (turn n s hI) (fun r s₁ h₁ => ?_) fun z_ z_ h' => h')))
 cases r with
 | none => exact wpAny_pure h₁
 | some v =>
  refine wpAny_bind (wpAny_mono h₁ (fun z_ s₁' h₁' => ?_) fun z_ z_ h' => h')
  refine wpAny_bind (wpAny_mono h₁' (fun z_ s₂ h₂ => wpAny_bind (wpAny_mono h₂ (fun ok s₃ h₃ => ?_) fun z_ z_ h' => h')) fun z_ z_ h' => h')
  cases ok with
  | false => exact wpAny_pure ⟨rfl, h₃⟩
  | true =>
   exact wpAny_bind (wpAny_bind (wpAny_mono h₃ (fun x s₄ h₄ => wpAny_bind (wpAny_mono h₄ (fun z_ s₅ h₅ => wpAny_pure (wpAny_pure ⟨rfl, h₅⟩)) fun z_ z_ h' => h')) fun z_ z_ h' => h'))
section
variable {bind : PV → Option Loc} {test : Loc → Hp → Res Bool} {elt : Loc → Hp → Res PV} {f : Nat} {src src' : Src} {acc : List PV} {hp : Hp} {v : PV}
theorem comp_none (h : src.next hp = none) : compLoop bind test elt (f + 1) src acc hp = .bad := by unfold compLoop; rw [h]
theorem comp_end (h : src.next hp = some none) : compLoop bind test elt (f + 1) src acc hp = .ok acc hp := by unfold compLoop; rw [h]
theorem comp_item (h : src.next hp = some (some (v, src'))) : compLoop bind test elt (f + 1) src acc hp = match bind v with
   | none => .bad
   | some loc => (test loc hp).bindB fun b hp1 => if b then (elt loc hp1).bindB fun p hp2 => compLoop bind test elt f src' (acc ++ [p]) hp2 else compLoop bind test elt f src' acc hp1 := by
 first | (rw [compLoop, h]; done) | (rw [compLoop, h]; rfl)
end
set_option tactic.hygienic true in
theorem comp_block {elt target iter : Expr} {ifs : List Expr} {scope : Scope} {pos : Pos} {t : Tgt} {g : Loc → Hp → Res PV} {fs : List (Loc → Hp → Res Bool)} {cl : List (Str × Addr)} {RR : Value → Addr → Result → Shared → Prop}
  {A : Around} {env : Env} {s : Shared} {ρ ρ₁ : List Addr} {loc : Loc} {hp hp₁ : Hp} {h₁ : Heap} {tk₁ : Nat} {E : Value → Shared → Prop} {wr : List Addr} {it : Value} {src : Src}
  (CS : CompScope X sc scope t) (ht : BindL X (relab scope sc) target t) (hifs : SIfs X (relab scope sc) k ifs fs) (he : SE X (relab scope sc) k elt g)
  (hcl : ∀ x c, cl.lookup x = some c → env.cells.lookup x = some c) (hcl' : ∀ x, (x, NameKind.free) ∈ scope.names → ∃ c, cl.lookup x = some c)
  (hlet : Lets target src) (I₀ : Inv X sc env ρ loc hp s.heap) (Rm : Room X A k ρ s) (I₁ : Inv X sc env ρ₁ loc hp₁ h₁) (g₁ : Grow ρ ρ₁ s.heap) (k₁ : Keep X ρ s.heap h₁)
  (hw : ∀ b ∈ wr, s.heap.get? b = none) (hoff : ∀ b ∈ wr, b ∉ ρ₁) (sr : SrcR X ρ₁ h₁ wr it src) (hpos₁ : X.mt ≤ tk₁) (hzz : A.handled = none ∨ src.isZ = true)
  (P : PostC X ρ s (compLoop (fun v => bindT t v loc) (runIfs fs) g loops src [] hp₁) RR) :
  wpAny X.M A (PySem.newList []) (fun acc s₃ => wpAny X.M A (newFunctionEnv scope env.globals cl [] env.qual none .none (some env)) (fun cenv s₄ =>
   codeAny X.M A (.compStart (.ListComp elt [⟨target, iter, ifs, 0⟩] scope pos) 0 it acc { cenv with scope := relabel scope env }) (RR acc cenv.locals) s₄) E s₃) E { s with heap := h₁, toks := tk₁ } := by
 refine wpAny_newObj_type (wpAny_newFunctionEnv CS.cell (by intro y hy; simp at hy) (fun h₂ hns hsb => ?_) CS.kind)
 dsimp only at hns hsb ⊢
 generalize hH2 : h₁.push { cls := .type "list", dict := none, data := .seq ([] : List Value).toArray } = H2 at hns hsb ⊢
 have hCs : H2.objs.size = h₁.objs.size + 1 := by rw [← hH2, Heap.size_push]
 have hDC : h₁.objs.size ≠ H2.objs.size := by rw [hCs]; exact Nat.ne_of_lt (Nat.lt_succ_self _)
 have kp : ∀ b o, h₁.get? b = some o → h₂.get? b = some o := fun b o e => hsb.extBut b o (by rw [hCs]; exact Nat.ne_of_lt (Nat.lt_succ_of_lt (Heap.lt_size e))) (Heap.get?_push_of_some _ (hH2 ▸ Heap.get?_push_of_some _ e))
 have hD1 : h₁.get? h₁.objs.size = none := free_size _
 have hC1 : h₁.get? H2.objs.size = none := by
  cases q : h₁.get? H2.objs.size with
  | none => rfl
  | some o => have := Heap.lt_size q; rw [hCs] at this; exact absurd this (Nat.not_lt.mpr (Nat.le_succ _))
 have fresh : ∀ a, h₁.get? a = none → s.heap.get? a = none := fun a ha => by
  by_cases hm : a ∈ ρ
  ·exact nsS ha (I₁.rep.old g₁ a hm)
  ·exact k₁.free hm ha
 have offρ : ∀ a, h₁.get? a = none → a ∉ ρ₁ := fun a ha hm => by
  exact nsS ha (I₁.rep.isSome a hm)
 have offw : ∀ a, h₁.get? a = none → a ∉ wr := fun a ha hm => by
  refine x11 (sr.there a hm) fun o e => ?_
  exact no (ha.symm.trans e)
 generalize hc : ({ newEnv scope H2.objs.size env.globals cl env.qual none Value.none (some env) builtinsNs with scope := relabel scope env } : Env) = cenv
 have hns' : h₂.Ns H2.objs.size (fun z_ => none) := hns
 have IC : Inv X (relab scope sc) cenv ρ₁ (freeL X (relab scope sc) loc) hp₁ h₂ :=
  comp_env (C := H2.objs.size) CS I₁ hcl hcl' kp hC1 hns' (by rw [← hc]; exact relabel_eq I₁.scope) (by rw [← hc]; rfl) (by rw [← hc]; rfl) (by rw [← hc]; rfl) (by rw [← hc]; rfl)
 have hLoc : cenv.locals = H2.objs.size := by rw [← hc]; rfl
 have hCl : cenv.cells = cl := by rw [← hc]; rfl
 have O₀ := I₀.off hw
 have O : Off X cenv wr := ⟨by rw [hLoc]; exact offw _ hC1, fun x c q => O₀.c x c (hcl _ _ (by rw [hCl] at q; exact q)), O₀.b⟩
 have OD : Off X cenv [h₁.objs.size] := by
  refine ⟨by rw [hLoc]; simpa using (Ne.symm hDC), fun x c q m => ?_, fun b o e m => ?_⟩
  ·have := I₁.cellSome (hcl _ _ (by rw [hCl] at q; exact q))
   rw [List.mem_singleton.mp m, hD1] at this; cases this
  ·have := I₁.bk b o e
   rw [List.mem_singleton.mp m, hD1] at this; cases this
 have hacc : AccR X ρ₁ h₂ h₁.objs.size [] [] := ⟨⟨0, hsb.extBut _ _ hDC (Heap.get?_push_of_some _ (hH2 ▸ Heap.get?_push_size _ rfl))⟩, .nil, offρ _ hD1⟩
 have sr₂ : SrcR X ρ₁ h₂ wr it src := sr.keep (KeepF.of_all kp) (Grow.refl _ h₁) (fun b z_ o e => kp b o e)
 have loop : ∀ s₃ : Shared, s₃ = { s with heap := h₂, toks := tk₁ + ([] : List (Str × Value)).length } →
   codeAny X.M A (.compLoop (.ListComp elt [⟨target, iter, ifs, 0⟩] scope pos) 0 it (.ref h₁.objs.size) cenv) (RR (.ref h₁.objs.size) H2.objs.size) s₃ := by
  rintro s₃ rfl
  refine compLoop_any (CompI X (relab scope sc) cenv ρ s (freeL X (relab scope sc) loc) wr it target h₁.objs.size (fun m src' acc hp' => (A.handled = none ∨ src'.isZ = true) ∧ PostC X ρ s (compLoop (fun v => bindT t v loc) (runIfs fs) g m src' acc hp') RR)) ?_ loops
   (.mk IC g₁ (k₁.trans g₁ (Keep.of_all kp)) sr₂ hoff hlet hacc (by simp) (Nat.le_trans hpos₁ (Nat.le_add_right _ _)) ⟨hzz, P⟩)
  rintro m _ ⟨I', gr, ks, sr', hoff', lt', ha', hlen, hpos', hz', P'⟩
  rename_i h' tk ρ' hp' src' vs acc
  cases m with
  | zero => exact P'.elim
  | succ m =>
   cases hn : src'.next hp' with
   | none => rw [comp_none hn] at P'; exact P'.elim
   | some r =>
    have ksw : ∀ {h₂}, KeepW ρ' wr h' h₂ → Keep X ρ s.heap h₂ := fun kw b o e hb => x12 (ks b o e hb) fun o' e' l => ei12 o' (kw b o' (fun q => by exact no ((hw b q).symm.trans e)) (gr.off' hb (by rw [e]; rfl)) e') l
    have hDw : h₁.objs.size ∉ wr := offw _ hD1
    refine wpAny_pos hpos' (src_next (A := A) (s := { s with heap := h', toks := tk }) (Rm.after (tk := tk) gr ks hpos').calm.r hz' I'.rep sr' hoff' hn (fun hr₂ h₂ tk₂ kw kf r₂ z_ => ?_) (fun p src₂ hr₂ v hm tkm kwm kfm rm mid rv hposm => ?_))
    ·subst hr₂
     rw [comp_end hn] at P'
     have I₂ := I'.keepW O kw kf r₂
     have ha₂ := ha'.step kf (Grow.refl _ _) (fun o e => kw _ _ hDw ha'.off e)
     refine x12 I₂.vars fun mm hmm z_ => ?_
     refine P' _ _ h₂ tk₂ ρ' vs mm (fresh _ hD1) (fresh _ hC1) hDC (hLoc ▸ hmm) ha₂.li ?_ ha₂.rl ha₂.off (hLoc ▸ I₂.offL) gr (ksw kw) r₂
     rw [VRs.length ha₂.rl, sizeLine_eq]
     simp only [loops] at hlen
     omega
    ·subst hr₂
     have lt₂ : Lets target src₂ := by
      rcases lt' with q | ⟨q1, q2⟩
      ·exact .inl q
      ·exact .inr ⟨q1, (next_own hn).trans q2⟩
     have hz₂ : A.handled = none ∨ src₂.isZ = true := hz'.imp id fun q => (next_isZ hn).trans q
     refine lets_ok (s := { s with heap := hm, toks := tkm }) lt₂ rm hoff' mid fun h₂ kw2 kf2 r₂ sr₂ => ?_
     have kw := kwm.trans kw2
     have kf := kfm.trans kf2
     replace rv := rv.keepF kf2
     have I₂ := I'.keepW O kw kf r₂
     have ks₂ := ksw kw
     have ha₂ := ha'.step kf (Grow.refl _ _) (fun o e => kw _ _ hDw ha'.off e)
     rw [comp_item hn] at P'
     cases hbt : bindT t p loc with
     | none => rw [hbt] at P'; exact P'.elim
     | some loc₁ =>
      rw [hbt] at P'
      dsimp only at P'
      refine x12 (bindT_two (loc' := freeL X (relab scope sc) loc) hbt) fun loc₁' hb' heq => ?_
      refine wpAny_pos (s := { s with heap := h₂, toks := tkm }) hposm (ht A cenv _ ρ' _ loc₁' hp' v p _ _ (Rm.after (tk := tkm) gr ks₂ hposm).calm.r I₂ rv hb' fun h₃ tk₃ k₃ I₃' hpos₃ => ?_)
      have hDL : h₁.objs.size ≠ cenv.locals := by rw [hLoc]; exact hDC
      have ks₃ : Keep X ρ s.heap h₃ := fun b o e hb => x12 (ks₂ b o e hb) fun o' e' l => ei12 o' (k₃ b o' e' (fun q => by
       have := fresh _ hC1
       rw [q, hLoc, this] at e; cases e)) l
      have ha₃ := ha₂.step (I₂.keepFL k₃) (Grow.refl _ _) (fun o e => k₃ _ _ e hDL)
      have sr₃ : SrcR X ρ' h₃ wr it src₂ := sr₂.keepS I₂ O hoff' (Grow.refl ρ' h₂) (.of_off fun b o e z_ hl z_ => k₃ b o e hl)
      have I₃ : Inv X (relab scope sc) cenv ρ' loc₁ hp' h₃ := I₃'.locEq fun x q hq hx => by
       rw [← heq x]
       ·exact hq
       ·rcases hx with hx | hx
        ·exact .inl (CS.loc x hx)
        ·right
         rw [getv_free, hx]
         rfl
      replace Rm : Room X A k ρ' { s with heap := h₃, toks := tk₃ } := Rm.after gr ks₃ hpos₃
      refine wpAny_pos hpos₃ (ifs_ok hifs A cenv _ ρ' loc₁ hp' _ _ I₃ Rm ?_)
      cases hg : runIfs fs loc₁ hp' with
      | bad => rw [hg] at P'; exact P'.elim
      | exc c hp₄ => rw [hg] at P'; exact P'.elim
      | ok b hp₄ =>
       rw [hg, Res.bindB_ok] at P'
       intro b' h₄ tk₄ ρ₄ g₄ k₄ r₄ rb hpos₄
       cases (rb : b' = b)
       have I₄ := I₃.after g₄ k₄ r₄
       have gr₄ : Grow ρ ρ₄ s.heap := Grow.trans ks₃ (I₃.rep.old gr) gr g₄
       have ks₄ : Keep X ρ s.heap h₄ := ks₃.trans gr k₄
       have hoff₄ : ∀ b ∈ wr, b ∉ ρ₄ := fun b hb => g₄.off (hoff' b hb) (by refine x11 (sr₃.there b hb) fun o e => ?_; exact Option.isSome_iff_exists.mpr ⟨o, e⟩)
       have ha₄ := ha₃.step (I₃.rep.keepF k₄) g₄ (fun o e => k₄.exact e ha₃.off (ha₃.nodict e))
       have sr₄ := sr₃.keepS I₃ O hoff' g₄ k₄.s
       have hloc : ∀ x p, getv (freeL X (relab scope sc) loc) x = some p → (relab scope sc).names.lookup (X.nm x) = some .local ∨ (relab scope sc).names.lookup (X.nm x) = some .cell → getv loc₁ x = some p := by
        intro x p hq hx
        rw [getv_free] at hq
        rcases hx with hx | hx
        ·rw [hx] at hq; simp at hq
        ·rw [bindT_off hbt fun hm => by have := CS.tloc x hm; rw [hx] at this; cases this]
         rw [hx] at hq
         simpa using hq
       cases b with
       | false =>
        rw [if_neg (by decide)]
        rw [if_neg (by decide)] at P'
        exact ei12 m (Nat.lt_succ_self m) (.mk (I₄.locEq hloc) gr₄ ks₄ sr₄ hoff₄ lt₂ ha₄ (by (clear hpos₁ hCs hpos' hposm hpos₃ hpos₄; omega)) hpos₄ ⟨hz₂, P'⟩)
       | true =>
        rw [if_pos rfl]
        rw [if_pos rfl] at P'
        refine wpAny_pos hpos₄ (he A cenv _ ρ₄ loc₁ hp₄ _ _ I₄ (Rm.after g₄ k₄ hpos₄) ?_)
        cases hge : g loc₁ hp₄ with
        | bad => rw [hge] at P'; exact P'.elim
        | exc c hp₅ => rw [hge] at P'; exact P'.elim
        | ok pe hp₅ =>
         rw [hge, Res.bindB_ok] at P'
         intro ve h₅ tk₅ ρ₅ g₅ k₅ r₅ rve hpos₅
         have I₅ := I₄.after g₅ k₅ r₅
         have gr₅ : Grow ρ ρ₅ s.heap := Grow.trans ks₄ (I₄.rep.old gr₄) gr₄ g₅
         have ks₅ : Keep X ρ s.heap h₅ := ks₄.trans gr₄ k₅
         have hoff₅ : ∀ b ∈ wr, b ∉ ρ₅ := fun b hb => g₅.off (hoff₄ b hb) (by refine x11 (sr₄.there b hb) fun o e => ?_; exact Option.isSome_iff_exists.mpr ⟨o, e⟩)
         have ha₅ := ha₄.step (I₄.rep.keepF k₅) g₅ (fun o e => k₅.exact e ha₄.off (ha₄.nodict e))
         have sr₅ := sr₄.keepS I₄ O hoff₄ g₅ k₅.s
         have hzl : vs.length ≤ sizeLine := by
          rw [VRs.length ha₅.rl, sizeLine_eq]
          simp only [loops] at hlen
          (clear hpos₁ hCs hpos' hposm hpos₃ hpos₄ hpos₅; omega)
         refine x11 ha₅.li fun n₅ ho₅ => ?_
         refine call_meets PySem.F.slot_list_append ⟨_, ho₅, rfl⟩ PySem.F.entry_list_append (PySem.F.args_list_append_2 _ _) (PySem.list_append _ vs.toArray n₅ ve (by rw [List.size_toArray]; exact hzl)) ⟨ho₅, ?_⟩
         generalize hH6 : h₅.update h₁.objs.size (Obj.mapSeq fun x => x.push ve) = h₆
         have hk₆ : ∀ b o, h₅.get? b = some o → b ≠ h₁.objs.size → h₆.get? b = some o := fun b o eb hb => by
          rw [← hH6, Heap.get?_update_other _ _ (Ne.symm hb)]; exact eb
         have kw₆ : KeepW ρ₅ [h₁.objs.size] h₅ h₆ := fun b o hb z_ eb => hk₆ b o eb fun q => hb (by rw [q]; exact .head _)
         have kf₆ : KeepF ρ₅ h₅ h₆ := fun b o eb z_ hf => hk₆ b o eb fun q => by subst q; exact ha₅.nofix eb hf
         have r₆ : RepH X ρ₅ hp₅ h₆ := r₅.keepOn kf₆ fun b hb o eb => hk₆ b o eb fun q => ha₅.off (q ▸ hb)
         have I₆ := I₅.keepW OD kw₆ kf₆ r₆
         have hnew : LI h₆ h₁.objs.size (vs ++ [ve]).toArray := by
          have hg := Heap.get?_update_self (fun o => Obj.mapSeq (fun x => x.push ve) o) ho₅ rfl
          have he : (vs ++ [ve]).toArray = vs.toArray.push ve := by simp
          rw [he, ← hH6]
          exact ei11 _ hg
         refine ei12 m (Nat.lt_succ_self m) (.mk (I₆.locEq hloc) gr₅ (fun b o e hb => x12 (ks₅ b o e hb) fun o' e' l => ei12 o' (hk₆ b o' e' (fun q => by rw [q, fresh _ hD1] at e; cases e)) l) ?_ hoff₅ lt₂ ⟨hnew, (ha₅.rl.append (.cons rve .nil)).keepF kf₆, ha₅.off⟩ (by simp; (clear hpos₁ hCs hpos' hposm hpos₃ hpos₄ hpos₅ hzl; omega)) hpos₅ ⟨hz₂, P'⟩)
         exact sr₅.keep kf₆ (Grow.refl _ h₅) fun b hb o eb => hk₆ b o eb fun q => hDw (q ▸ hb)
 subst hc
 exact codeAny_compStart_list (loop _ rfl) (src_self hzz sr₂ (loop _ rfl))
theorem se_comp {elt target iter : Expr} {ifs : List Expr} {scope : Scope} {pos : Pos} {t : Tgt} {f : Loc → Hp → Res Src} {g : Loc → Hp → Res PV} {fs : List (Loc → Hp → Res Bool)} (hi : DoesIt X sc k iter f)
  (CS : CompScope X sc scope t) (ht : BindL X (relab scope sc) target t) (hifs : SIfs X (relab scope sc) k ifs fs) (he : SE X (relab scope sc) k elt g)
  (hlet : ∀ loc hp src hp', f loc hp = .ok src hp' → Lets target src) (hset : ∀ env x, foldedSetIterable iter env x = pure x) (hd : Bool) (hk : hd = false → 2 ≤ k ∨ ∀ loc hp src hp', f loc hp = .ok src hp' → src.isZ = true) :
  SE X sc k (.ListComp elt [⟨target, iter, ifs, 0⟩] scope pos) (fun loc hp => if hd = true then .bad else (f loc hp).bind fun src hp1 => (compLoop (fun v => bindT t v loc) (runIfs fs) g loops src [] hp1).bind fun l hp2 => newList l hp2) := fun A env s ρ loc hp Q E I Rm P => by
 cases hd with
 | true => exact P.elim
 | false =>
 replace P : Post X (RV X) ρ s ((f loc hp).bind fun src hp1 => (compLoop (fun v => bindT t v loc) (runIfs fs) g loops src [] hp1).bind fun l hp2 => newList l hp2) Q E := P
 rw [eval_ListComp]
 refine x13 (closure_ok (scope := scope) (env := env) fun y hy hf => by
  refine x22 (I.cel _ (CS.free y hy hf)) fun c w hc z_ => ?_
  exact ei11 c hc) fun cl hc1 hc2 hc3 => ?_
 refine wpAny_comprehension_free (use := none) rfl (hset env) hc1 CS.kind CS.names (hi.pos I Rm ?_)
 cases hr : f loc hp with
 | bad => rw [hr] at P; exact P.elim
 | exc c hp₁ => rw [hr, Res.bind_exc] at P; exact fun e hr' h₂ tk₂ ρ₂ g₂ k₂ r₂ fl z_ => P e hr' h₂ tk₂ ρ₂ g₂ k₂ r₂ fl
 | ok src hp₁ =>
  rw [hr, Res.bind_ok] at P
  intro it wr h₁ tk₁ ρ₁ g₁ k₁ r₁ hw hoff sr hpos₁
  have I₁ := I.after g₁ k₁ r₁
  refine comp_block (RR := fun acc C => compPost X.M A E none Q acc C) CS ht hifs he hc2 hc3 (hlet _ _ _ _ hr) I Rm I₁ g₁ k₁ hw hoff sr hpos₁ ((hk rfl).imp (fun q => Rm.hnd q) fun q => q _ _ _ _ hr) ?_
  cases hl : compLoop (fun v => bindT t v loc) (runIfs fs) g loops src [] hp₁ with
  | bad => rw [hl] at P; exact P.elim
  | exc c hp₂ => trivial
  | ok l hp₂ =>
   rw [hl, Res.bind_ok] at P
   intro D C h' tk ρ' vs m hD hC hDC hn hli hz rl hDρ hCρ gr ks r'
   refine ei12 m hn (fun h₃ hs₃ => ?_)
   have hnf : ∀ o, h'.get? C = some o → ¬ Fixed o := by
    intro o eo hf
    revert hn; refine y33 fun o' es ep eo' hd z_ => ?_
    obtain rfl := Option.some.inj (eo.symm.trans eo')
    rcases hf with ⟨_, xs, n, q⟩ | ⟨_, vs, q⟩ <;> rw [hd] at q <;> cases q
   have kf : KeepF ρ' h' h₃ := fun b o e z_ hf => hs₃.extBut b o (fun q => by subst q; exact hnf o e hf) e
   have hli' : LI h₃ D vs.toArray := by revert hli; refine y11 fun n e => ?_; exact ei11 n (hs₃.extBut _ _ hDC e)
   have r₃ : RepH X ρ' hp₂ h₃ := r'.keepOn kf fun b hb o e => hs₃.extBut b o (fun q => hCρ (q ▸ hb)) e
   refine P (.ref D) h₃ tk (ρ' ++ [D]) ?_ (fun b o e hb => x12 (ks b o e hb) fun o' e' l => ei12 o' (hs₃.extBut b o' (fun q => by rw [q, hC] at e; cases e) e') l) (r₃.newList hDρ (I.bk.free hD) hli' hz (rl.keepF kf)) (.lst ?_)
   ·revert gr; refine y12 fun ex zq1 hx => ?_
    subst zq1
    exact ei12 (ex ++ [D]) (by rw [List.append_assoc]) (fun a ha => by
     rcases List.mem_append.mp ha with q | q
     ·exact hx a q
     ·rw [List.mem_singleton.mp q]; exact hD)
   ·rw [← r'.len, List.getElem?_append_right (Nat.le_refl _), Nat.sub_self]; rfl
end
end Mine
end
section
namespace Mine
open PySem PySem.Calls PyProof.Rows PySem.SeqAt
section
variable {X : Cx} {sc : Scope} {k : Nat}
theorem swaps_comp {elt : Expr} {gens : List Comprehension} {scope : Scope} {pos p : Pos} {x : Str} {n : Nat} {env : Env} (hs : env.scope = sc) (hk : sc.kind = .function) :
  ∃ b, swapsWith (.ListComp elt gens scope pos) (some (.Name x p)) n env = pure b ∧ (b = true → sc.names.lookup x = some .local) := by
 refine ei12 _ rfl (fun h => ?_)
 simp only [Bool.and_eq_true, beq_iff_eq] at h
 have := h.1.1.2
 unfold Env.kindOf at this
 rw [hs] at this
 exact this
theorem sx_asg_comp {elt target iter : Expr} {ifs : List Expr} {scope : Scope} {pos p spos : Pos} {x : Nat} {t : Tgt} {f : Loc → Hp → Res Src} {g : Loc → Hp → Res PV} {fs : List (Loc → Hp → Res Bool)} (hi : DoesIt X sc k iter f)
  (CS : CompScope X sc scope t) (ht : BindL X (relab scope sc) target t) (hifs : SIfs X (relab scope sc) k ifs fs) (he : SE X (relab scope sc) k elt g)
  (hlet : ∀ loc hp src hp', f loc hp = .ok src hp' → Lets target src) (hset : ∀ env x, foldedSetIterable iter env x = pure x) (hx : sc.names.lookup (X.nm x) = some .local ∨ sc.names.lookup (X.nm x) = some .cell) (hd : Bool) (hk : hd = false → 2 ≤ k ∨ ∀ loc hp src hp', f loc hp = .ok src hp' → src.isZ = true) :
  DoesS X sc k (exec (.Assign [.Name (X.nm x) p] (.ListComp elt [⟨target, iter, ifs, 0⟩] scope pos) spos))
   (fun loc hp => (if hd = true then .bad else (f loc hp).bind fun src hp1 => (compLoop (fun v => bindT t v loc) (runIfs fs) g loops src [] hp1).bind fun l hp2 => newList l hp2).stm loc fun v hp1 => .nxt (putv loc x v) hp1) := fun A env s ρ loc hp Q E Ft I Rm P => by
 refine x12 (swaps_comp (elt := elt) (gens := [⟨target, iter, ifs, 0⟩]) (scope := scope) (pos := pos) (p := p) (x := X.nm x) (n := spos.line) I.scope I.kind) fun b hsw hloc => ?_
 cases b with
 | false =>
  refine wpAny_Assign_Name (wp_stm (se_comp hi CS ht hifs he hlet hset hd hk) I Rm P fun va a s₁ ρ₁ hp₁ I₁ g₁ k₁ ra e₁ P₁ Rm => store_ok I₁ ra hx fun h' tk ks I' => P₁ h' tk ρ₁ (Grow.refl _ _) ks I') hsw
 | true =>
  cases hd with
  | true => exact P.elim
  | false =>
  replace P : PostS X sc env ρ s (((f loc hp).bind fun src hp1 => (compLoop (fun v => bindT t v loc) (runIfs fs) g loops src [] hp1).bind fun l hp2 => newList l hp2).stm loc fun v hp1 => .nxt (putv loc x v) hp1) Q E := P
  have hxl := hloc rfl
  rw [exec_Assign_Name_used _ _ _ _ hsw]
  refine wpAny_bind (wpAny_standAt (wpAny_bind ?_))
  show wpAny _ A (do let _ ← comprehension (.ListComp elt [⟨target, iter, ifs, 0⟩] scope pos) scope env _ (PySem.newList []) false (eval iter env) (some (assign (.Name (X.nm x) p) env))) _ _ s
  refine x13 (closure_ok (scope := scope) (env := env) fun y hy hf => by
   refine x22 (I.cel _ (CS.free y hy hf)) fun c w hc z_ => ?_
   exact ei11 c hc) fun cl hc1 hc2 hc3 => ?_
  refine wpAny_bind (wpAny_mono (wpAny_comprehension_free (use := some (assign (.Name (X.nm x) p) env)) (Q := fun z_ s' => Q .next s') rfl (hset env) hc1 CS.kind CS.names
   (hi.pos I Rm ?_)) (fun z_ s' hq => wpAny_pure (wpAny_pure hq)) fun z_ z_ e => e)
  cases hr : f loc hp with
  | bad => rw [hr] at P; exact P.elim
  | exc c hp₁ => rw [hr] at P; exact fun e hr' h₂ tk₂ ρ₂ g₂ k₂ r₂ fl z_ => P e hr' h₂ tk₂ ρ₂ g₂ k₂.s (I.after g₂ k₂ r₂) fl
  | ok src hp₁ =>
   rw [hr, Res.bind_ok] at P
   intro it wr h₁ tk₁ ρ₁ g₁ k₁ r₁ hw hoff sr hpos₁
   have I₁ := I.after g₁ k₁ r₁
   refine comp_block (RR := fun acc C => compPost X.M A E (some (assign (.Name (X.nm x) p) env)) (fun z_ s' => Q .next s') acc C) CS ht hifs he hc2 hc3 (hlet _ _ _ _ hr) I Rm I₁ g₁ k₁ hw hoff sr hpos₁ ((hk rfl).imp (fun q => Rm.hnd q) fun q => q _ _ _ _ hr) ?_
   cases hl : compLoop (fun v => bindT t v loc) (runIfs fs) g loops src [] hp₁ with
   | bad => rw [hl] at P; exact P.elim
   | exc c hp₂ => trivial
   | ok l hp₂ =>
    rw [hl, Res.bind_ok] at P
    intro D C h' tk ρ' vs m hD hC hDC hn hli hz rl hDρ hCρ gr ks r'
    show wpAny _ A (assign (.Name (X.nm x) p) env (.ref D)) _ _ _
    have r₃ := r'.newList hDρ (I.bk.free hD) hli hz rl
    have g₃ : Grow ρ (ρ' ++ [D]) s.heap := by
     revert gr; refine y12 fun ex zq2 hx => ?_
     subst zq2
     exact ei12 (ex ++ [D]) (by rw [List.append_assoc]) (fun a ha => by
      rcases List.mem_append.mp ha with q | q
      ·exact hx a q
      ·rw [List.mem_singleton.mp q]; exact hD)
    have I₃ := I.after g₃ ks r₃
    have hv : VR X (ρ' ++ [D]) h' (.ref D) (.lst hp₂.os.length) := .lst (by rw [← r'.len, List.getElem?_append_right (Nat.le_refl _), Nat.sub_self]; rfl)
    refine wpAny_assign_Name (store_local (s := { s with heap := h', toks := tk }) I₃ hv hxl fun h₄ tk₄ k₄ I₄ => ?_)
    have hCL : C ≠ env.locals := by
     rintro rfl
     refine x12 I.vars fun mm zq1 z_ => ?_
     obtain ⟨oL, es, ep, eL, hd, _⟩ := zq1
     exact no (hC.symm.trans eL)
    have hn₄ : h₄.Ns C m := hn.at' fun o e => k₄ _ _ e hCL
    refine ei12 m hn₄ (fun h₅ hs₅ => ?_)
    have hnf : ∀ o, h₄.get? C = some o → ¬ Fixed o := by
     intro o eo hf
     revert hn₄; refine y33 fun o' es ep eo' hd z_ => ?_
     obtain rfl := Option.some.inj (eo.symm.trans eo')
     rcases hf with ⟨_, xs, n, q⟩ | ⟨_, vs, q⟩ <;> rw [hd] at q <;> cases q
    have kf : KeepF (ρ' ++ [D]) h₄ h₅ := fun b o e z_ hf => hs₅.extBut b o (fun q => by subst q; exact hnf o e hf) e
    have hCρ' : C ∉ ρ' ++ [D] := fun q => by
     rcases List.mem_append.mp q with q | q
     ·exact hCρ q
     ·exact hDC (List.mem_singleton.mp q).symm
    have I₅ := I₄.keepW (wr := [C]) (I.off fun b hb => by rw [List.mem_singleton.mp hb]; exact hC) (fun b o hb z_ e => hs₅.extBut b o (fun q => hb (by rw [q]; exact .head _)) e) kf (I₄.rep.keepOn kf fun b hb o e => hs₅.extBut b o (fun q => hCρ' (q ▸ hb)) e)
    exact P h₅ tk₄ (ρ' ++ [D]) g₃ (fun b o e hb hl hcc => x12 (ks b o e hb) fun o' e' l => ei12 o' (hs₅.extBut b o' (fun q => by rw [q, hC] at e; cases e) (k₄ b o' e' hl)) l) I₅
end
end Mine
end
section
set_option linter.unusedSectionVars false
namespace Mine
open PySem
noncomputable def Fl (hp hp' : Hp) : Prop := hp'.lo = hp.lo ∧ hp.os.length ≤ hp'.os.length ∧ ∀ n, n < hp.lo → n < hp.os.length → hp'.os[n]? = hp.os[n]?
theorem Fl.refl (hp : Hp) : Fl hp hp := ⟨rfl, Nat.le_refl _, fun z_ z_ z_ => rfl⟩
theorem Fl.trans {a b c : Hp} (h : Fl a b) (h' : Fl b c) : Fl a c := ⟨h'.1.trans h.1, Nat.le_trans h.2.1 h'.2.1, fun n hn hl => (h'.2.2 n (h.1 ▸ hn) (Nat.lt_of_lt_of_le hl h.2.1)).trans (h.2.2 n hn hl)⟩
theorem Fl.new (hp : Hp) (o : MObj) : Fl hp { hp with os := hp.os ++ [o] } := ⟨rfl, by simp, fun n z_ hl => by simp only [List.getElem?_append_left hl]⟩
theorem Fl.inst (hp : Hp) : Fl hp (newInst hp) := ⟨rfl, by unfold newInst; simp, fun n z_ hl => by unfold newInst; simp only [List.getElem?_append_left hl]⟩
theorem Fl.src (k : ItK) (hp : Hp) : Fl hp (srcHp k hp) := by cases k <;> first | exact Fl.refl _ | exact Fl.new _ _
set_option tactic.hygienic true in
theorem Fl.set {hp hp' : Hp} {n : Nat} {o : MObj} (h : setObj n o hp = some hp') : Fl hp hp' := by
 unfold setObj at h
 split at h
 ·cases h
  rename_i hle
  exact ⟨rfl, by simp, fun m hm z_ => by
   have : n ≠ m := fun q => by subst q; exact absurd hm (Nat.not_lt.mpr hle)
   simp [List.getElem?_set_ne this]⟩
 ·cases h
noncomputable def Fr {α : Type} (hp : Hp) : Res α → Prop
 | .ok _ hp' => Fl hp hp'
 | .exc _ hp' => Fl hp hp'
 | .bad => True
theorem Fr.bind {α β : Type} {hp : Hp} {r : Res α} {f : α → Hp → Res β} (h : Fr hp r) (hf : ∀ a hp1, r = .ok a hp1 → Fr hp1 (f a hp1)) : Fr hp (r.bind f) := by
 cases r with
 | ok a hp1 =>
  have := hf a hp1 rfl
  rw [Res.bind_ok]
  cases hr : f a hp1 with
  | ok b hp2 => rw [hr] at this; exact Fl.trans h this
  | exc c hp2 => rw [hr] at this; exact Fl.trans h this
  | bad => trivial
 | exc c hp1 => exact h
 | bad => trivial
theorem Fr.bindB {α β : Type} {hp : Hp} {r : Res α} {f : α → Hp → Res β} (h : Fr hp r) (hf : ∀ a hp1, r = .ok a hp1 → Fr hp1 (f a hp1)) : Fr hp (r.bindB f) := by
 cases r with
 | ok a hp1 => exact h.bind hf
 | _ => trivial
theorem Fr.opt {α : Type} (o : Option α) (hp : Hp) : Fr hp (ofOpt o hp) := by cases o with | none => trivial | some a => exact Fl.refl hp
theorem Fr.list (l : List PV) (hp : Hp) : Fr hp (newList l hp) := Fl.new hp _
theorem Fr.trans' {α : Type} {a b : Hp} (h : Fl a b) {r : Res α} (hr : Fr b r) : Fr a r := by cases r <;> first | exact Fl.trans h hr | trivial
noncomputable def FrS (hp : Hp) : SR → Prop
 | .nxt _ hp' => Fl hp hp'
 | .brk _ hp' => Fl hp hp'
 | .ret _ hp' => Fl hp hp'
 | .exc _ _ hp' => Fl hp hp'
 | .bad => True
theorem FrS.trans {a b : Hp} (h : Fl a b) {r : SR} (hr : FrS b r) : FrS a r := by cases r <;> first | exact Fl.trans h hr | trivial
theorem Fr.stm {α : Type} {hp : Hp} {r : Res α} {loc : Loc} {f : α → Hp → SR} (h : Fr hp r) (hf : ∀ a hp1, r = .ok a hp1 → FrS hp1 (f a hp1)) : FrS hp (r.stm loc f) := by
 cases r with
 | ok a hp1 => exact FrS.trans h (hf a hp1 rfl)
 | exc c hp1 => exact h
 | bad => trivial
theorem Fr.stmB {α : Type} {hp : Hp} {r : Res α} {f : α → Hp → SR} (h : Fr hp r) (hf : ∀ a hp1, r = .ok a hp1 → FrS hp1 (f a hp1)) : FrS hp (r.stmB f) := by
 cases r with
 | ok a hp1 => exact h.stm (loc := []) hf
 | _ => trivial
theorem FrS.seq {hp : Hp} {r : SR} {f : Loc → Hp → SR} (h : FrS hp r) (hf : ∀ loc1 hp1, FrS hp1 (f loc1 hp1)) : FrS hp (r.seq f) := by
 cases r with
 | nxt loc1 hp1 => exact FrS.trans h (hf loc1 hp1)
 | bad => trivial
 | brk _ _ => exact h
 | ret _ _ => exact h
 | exc _ _ _ => exact h
theorem Fr.ite {α : Type} {hp : Hp} {c : Prop} [Decidable c] {r q : Res α} (h1 : Fr hp r) (h2 : Fr hp q) : Fr hp (if c then r else q) := by
 by_cases h : c
 ·rw [if_pos h]; exact h1
 ·rw [if_neg h]; exact h2
theorem FrS.ite {hp : Hp} {c : Prop} [Decidable c] {r q : SR} (h1 : FrS hp r) (h2 : FrS hp q) : FrS hp (if c then r else q) := by
 by_cases h : c
 ·rw [if_pos h]; exact h1
 ·rw [if_neg h]; exact h2
theorem Fr.lst {α : Type} {hp : Hp} {n : Nat} {f : List PV → Res α} (h : ∀ l, Fr hp (f l)) : Fr hp (match lstAt hp n with | some l => f l | none => .bad) := by
 cases lstAt hp n with
 | none => trivial
 | some l => exact h l
theorem bAdd_fr (a b : PV) (hp : Hp) : Fr hp (bAdd a b hp) := by
 cases a with
 | int x => cases b with
  | int y => exact Fl.refl _
  | _ => trivial
 | tup l => cases b with
  | tup m => exact Fr.ite (Fl.refl _) trivial
  | _ => trivial
 | lst n => cases b with
  | lst m =>
   show Fr hp (match lstAt hp n, lstAt hp m with | some l, some m => if sizeOk (l.length + m.length) then newList (l ++ m) hp else .bad | _, _ => .bad)
   cases lstAt hp n with
   | none => trivial
   | some l => cases lstAt hp m with
    | none => trivial
    | some m => exact Fr.ite (Fl.new _ _) trivial
  | _ => trivial
 | _ => trivial
theorem bMul_fr (a b : PV) (hp : Hp) : Fr hp (bMul a b hp) := by
 unfold bMul
 cases asI b with
 | none => trivial
 | some y => cases a with
  | int x => exact Fr.ite (Fl.refl _) trivial
  | tup l => exact Fr.ite (Fl.refl _) trivial
  | lst n => exact Fr.lst fun l => Fr.ite (Fl.new _ _) trivial
  | _ => trivial
theorem binop_fr (op : Bop) (a b : PV) (hp : Hp) : Fr hp (binop op a b hp) := by
 have hI : ∀ f, Fr hp (bInt f a b hp) := fun f => by
  rcases bInt_inv (f := f) (p := a) (q := b) (hp := hp) with ⟨_, _, _, _, _, _, he⟩ | he <;> rw [he]
  ·exact Fl.refl _
  ·trivial
 cases op with
 | add => exact bAdd_fr a b hp
 | mul => exact bMul_fr a b hp
 | sub => exact hI fun a b => some (a - b)
 | div => exact hI fun a b => if b ≠ 0 ∧ intOk b then some (a.fdiv b) else none
 | mod => exact hI fun a b => if b ≠ 0 then some (a.fmod b) else none
 | pow => trivial
theorem sliceop_fr (a : PV) (x y : Option PV) (hp : Hp) : Fr hp (sliceop a x y hp) := by
 unfold sliceop
 cases asInt? x with
 | none => trivial
 | some x => cases asInt? y with
  | none => trivial
  | some y => cases a with
   | tup l => exact Fl.refl _
   | lst n => exact Fr.lst fun l => Fl.new _ _
   | _ => trivial
theorem onI_fr {f : List Int → Hp → Res PV} {vs : List PV} {hp : Hp} (h : ∀ l, Fr hp (f l hp)) : Fr hp (onI f vs hp) := by
 unfold onI
 cases intsOf vs with
 | none => trivial
 | some l => exact h l
theorem onL_fr {f : Nat → Hp → List PV → Res PV} {vs : List PV} {hp : Hp} (h : ∀ n l, Fr hp (f n hp l)) : Fr hp (onL f vs hp) := by
 unfold onL
 cases (one1 vs).bind asL with
 | none => trivial
 | some n => exact Fr.lst fun l => h n l
theorem on1_fr {f : PV → Hp → Res PV} {vs : List PV} {hp : Hp} (h : ∀ p, Fr hp (f p hp)) : Fr hp (match one1 vs with | some p => f p hp | none => .bad) := by
 cases one1 vs with
 | none => trivial
 | some p => exact h p
theorem bfun_fr (b : Bf) (vs : List PV) (hp : Hp) : Fr hp (bfun b vs hp) := by
 cases b with
 | len =>
   refine on1_fr fun p => ?_
   cases p with
   | tup l => exact Fl.refl _
   | frz l => exact Fl.refl _
   | lst n => exact Fr.lst fun l => Fl.refl _
   | _ => trivial
 | range1 =>
   refine onI_fr fun l => ?_
   rcases l with _ | ⟨b, _ | ⟨_, _⟩⟩
   ·trivial
   ·exact Fr.ite (Fl.refl _) trivial
   ·trivial
 | range2 =>
   refine onI_fr fun l => ?_
   rcases l with _ | ⟨a, _ | ⟨b, _ | ⟨_, _⟩⟩⟩
   ·trivial
   ·trivial
   ·exact Fr.ite (Fl.refl _) trivial
   ·trivial
 | range3 =>
   refine onI_fr fun l => ?_
   rcases l with _ | ⟨a, _ | ⟨b, _ | ⟨c, _ | ⟨_, _⟩⟩⟩⟩
   ·trivial
   ·trivial
   ·trivial
   ·exact Fr.ite (Fl.refl _) trivial
   ·trivial
 | abs =>
   refine onI_fr fun l => ?_
   rcases l with _ | ⟨b, _ | ⟨_, _⟩⟩
   ·trivial
   ·exact Fl.refl _
   ·trivial
 | tuple => exact onL_fr (f := fun z_ hp l => .ok (.tup l) hp) fun n l => Fl.refl _
 | list =>
   refine on1_fr fun p => ?_
   cases p with
   | lst n => exact Fr.lst fun l => Fl.new _ _
   | tup l => exact Fl.new _ _
   | _ => trivial
 | all => exact onL_fr (f := fun z_ hp l => if l.all isB then .ok (.bool (l.all valB)) hp else .bad) fun n l => Fr.ite (Fl.refl _) trivial
 | int =>
   refine on1_fr fun p => ?_
   cases p with
   | bool b => exact Fl.refl _
   | _ => trivial
 | min =>
   refine onI_fr fun l => ?_
   rcases l with _ | ⟨a, _ | ⟨b, _ | ⟨_, _⟩⟩⟩
   ·trivial
   ·trivial
   ·exact Fl.refl _
   ·trivial
 | sorted =>
   refine onL_fr (f := fun z_ hp l => match sort2 l with
    | some l' => newList l' hp
    | none => .bad) fun n l => ?_
   cases sort2 l with
   | none => trivial
   | some l' => exact Fl.new _ _
theorem pop_fr (n : Nat) (l : List PV) (hp : Hp) : Fr hp (match l.getLast? with | some v => (match setObj n (.list l.dropLast) hp with | some hp' => Res.ok v hp' | none => .bad) | none => .bad) := by
 cases l.getLast? with
 | none => trivial
 | some v =>
  dsimp only
  cases h : setObj n (.list l.dropLast) hp with
  | none => trivial
  | some hp' => exact Fl.set h
theorem method_fr (m : Mf) (a : PV) (vs : List PV) (hp : Hp) : Fr hp (method m a vs hp) := by
 cases m with
 | append => cases a with
  | lst n => cases vs with
   | nil => trivial
   | cons v r => cases r with
    | cons _ _ => trivial
    | nil => exact Fr.lst fun l => Fr.ite (by cases h : setObj n (.list (l ++ [v])) hp with
     | none => trivial
     | some hp' => exact Fl.set h) trivial
  | _ => trivial
 | pop => cases a with
  | lst n => cases vs with
   | cons v r => trivial
   | nil => exact Fr.lst fun l => pop_fr n l hp
  | _ => trivial
theorem compLoop_fr {bind : PV → Option Loc} {test : Loc → Hp → Res Bool} {elt : Loc → Hp → Res PV} (ht : ∀ l h, Fr h (test l h)) (he : ∀ l h, Fr h (elt l h)) : ∀ (n : Nat) (src : Src) (acc : List PV) (hp : Hp), Fr hp (compLoop bind test elt n src acc hp)
 | 0, _, _, _ => trivial
 | n + 1, src, acc, hp => by
  show Fr hp (match src.next hp with | none => .bad | some none => .ok acc hp | some (some (v, src')) => match bind v with | none => .bad | some loc => (test loc hp).bindB fun b hp1 => if b then (elt loc hp1).bindB fun p hp2 => compLoop bind test elt n src' (acc ++ [p]) hp2 else compLoop bind test elt n src' acc hp1)
  cases src.next hp with
  | none => trivial
  | some o => cases o with
   | none => exact Fl.refl _
   | some p => cases h : bind p.1 with
    | none => show Fr hp (match bind p.1 with | none => .bad | some loc => _); rw [h]; trivial
    | some loc =>
     show Fr hp (match bind p.1 with | none => .bad | some loc => _)
     rw [h]
     exact (ht _ _).bindB fun b hp1 z_ => Fr.ite ((he _ _).bindB fun p hp2 z_ => compLoop_fr ht he n _ _ _) (compLoop_fr ht he n _ _ _)
noncomputable def SR.loop (r : SR) (f : Loc → Hp → SR) : SR := match r with
 | .nxt loc2 hp2 => f loc2 hp2
 | .brk loc2 hp2 => .nxt loc2 hp2
 | .ret v hp2 => .ret v hp2
 | _ => .bad
theorem FrS.loop {hp : Hp} {r : SR} {f : Loc → Hp → SR} (h : FrS hp r) (hf : ∀ l h, FrS h (f l h)) : FrS hp (r.loop f) := by
 cases r with
 | nxt l h' => exact FrS.trans h (hf l h')
 | _ => first | exact h | trivial
theorem forLoop_fr {t : Tgt} {body : Loc → Hp → SR} (hb : ∀ l h, FrS h (body l h)) : ∀ (n : Nat) (src : Src) (loc : Loc) (hp : Hp), FrS hp (forLoop t body n src loc hp)
 | 0, _, _, _ => trivial
 | n + 1, src, loc, hp => by
  show FrS hp (match src.next hp with | none => .bad | some none => .nxt loc hp | some (some (v, src')) => match bindT t v loc with | none => .bad | some loc1 => match body loc1 hp with | .nxt loc2 hp2 => forLoop t body n src' loc2 hp2 | .brk loc2 hp2 => .nxt loc2 hp2 | .ret v hp2 => .ret v hp2 | _ => .bad)
  cases src.next hp with
  | none => trivial
  | some o => cases o with
   | none => exact Fl.refl _
   | some p => cases h : bindT t p.1 loc with
    | none => show FrS hp (match bindT t p.1 loc with | none => .bad | some loc => _); rw [h]; trivial
    | some loc1 =>
     show FrS hp (match bindT t p.1 loc with | none => .bad | some loc => _)
     rw [h]
     exact FrS.loop (f := fun l h => forLoop t body n p.2 l h) (hb _ _) fun l h => forLoop_fr hb n _ _ _
theorem store_fr (a k v : PV) (hp : Hp) (loc : Loc) : FrS hp (match storeAt a k v hp with | some hp4 => .nxt loc hp4 | none => .bad) := by
 cases a with
 | lst n => cases k with
  | int k =>
   show FrS hp (match (match lstAt hp n with | some l => if 0 ≤ k ∧ k < l.length then setObj n (.list (l.set k.toNat v)) hp else none | none => none) with | some hp4 => .nxt loc hp4 | none => .bad)
   cases lstAt hp n with
   | none => trivial
   | some l =>
    show FrS hp (match (if 0 ≤ k ∧ k < l.length then setObj n (.list (l.set k.toNat v)) hp else none) with | some hp4 => .nxt loc hp4 | none => .bad)
    by_cases hc : 0 ≤ k ∧ k < l.length
    ·rw [if_pos hc]
     cases h : setObj n (.list (l.set k.toNat v)) hp with
     | none => trivial
     | some hp4 => exact Fl.set h
    ·rw [if_neg hc]; trivial
  | _ => trivial
 | _ => trivial
theorem putAttr_fr (a : PV) (k : Nat) (v : PV) (hp : Hp) (loc : Loc) : FrS hp (match putAttr a k v hp with | some hp3 => .nxt loc hp3 | none => .bad) := by
 cases h : putAttr a k v hp with
 | none => trivial
 | some hp3 =>
  refine x12 (Option.bind_eq_some_iff.mp h) fun dl z_ h => ?_
  exact Fl.set h
section
variable {P : MProg} {C : Caller} (hC : ∀ i ps hp, Fr hp (C i ps hp))
include hC
mutual
theorem evalE_fr : ∀ (e : ME) (loc : Loc) (hp : Hp), Fr hp (evalE P C e loc hp)
 | .lit p, loc, hp => Fl.refl _
 | .glob g p, loc, hp => Fl.refl _
 | .var x, loc, hp => Fr.opt _ _
 | .bin op l r, loc, hp => (evalE_fr l loc hp).bind fun a hp1 z_ => (evalE_fr r loc hp1).bind fun b hp2 z_ => binop_fr _ _ _ _
 | .neg e, loc, hp => (evalE_fr e loc hp).bind fun a hp1 z_ => by cases a <;> first | trivial | exact Fl.refl _
 | .notE e, loc, hp => (evalE_fr e loc hp).bind fun a hp1 z_ => (Fr.opt _ _).bind fun b hp2 z_ => Fl.refl _
 | .andE es, loc, hp => evalBool_fr true es loc hp
 | .orE es, loc, hp => evalBool_fr false es loc hp
 | .cmp l ops rs, loc, hp => (evalE_fr l loc hp).bind fun a hp1 z_ => (evalCmp_fr rs a ops loc hp1).bind fun b hp2 z_ => Fl.refl _
 | .call f args, loc, hp => (evalE_fr f loc hp).bind fun g hp1 z_ => by
  cases g with
  | fn i => exact (evalEs_fr args loc hp1).bind fun vs hp2 z_ => hC _ _ _
  | _ => trivial
 | .bcall b args, loc, hp => (evalEs_fr args loc hp).bind fun vs hp1 z_ => Fr.ite trivial (bfun_fr _ _ _)
 | .isi e t, loc, hp => (evalE_fr e loc hp).bind fun a hp1 z_ => (Fr.opt _ _).bind fun b hp2 z_ => Fl.refl _
 | .meth m o args, loc, hp => (evalE_fr o loc hp).bind fun a hp1 z_ => Fr.ite ((evalEs_fr args loc hp1).bind fun vs hp2 z_ => method_fr _ _ _ _) trivial
 | .sub o i, loc, hp => (evalE_fr o loc hp).bind fun a hp1 z_ => (evalE_fr i loc hp1).bind fun b hp2 z_ => Fr.opt _ _
 | .slice o lo hi, loc, hp => (evalE_fr o loc hp).bind fun a hp1 z_ => (evalO_fr lo loc hp1).bind fun x hp2 z_ => (evalO_fr hi loc hp2).bind fun y hp3 z_ => sliceop_fr _ _ _ _
 | .list es, loc, hp => (evalEs_fr es loc hp).bind fun vs hp1 z_ => Fl.new _ _
 | .tuple es, loc, hp => (evalEs_fr es loc hp).bind fun vs hp1 z_ => Fl.refl _
 | .attr o k, loc, hp => (evalE_fr o loc hp).bind fun a hp1 z_ => Fr.opt _ _
 | .mk i args, loc, hp => (evalEs_fr args loc hp).bind fun vs hp1 z_ => Fr.trans' (Fl.inst hp1) ((hC _ _ _).bind fun r hp2 z_ => Fr.ite (Fl.refl _) trivial)
 | .mcall i o args, loc, hp => (evalE_fr o loc hp).bind fun a hp1 z_ => Fr.ite ((evalEs_fr args loc hp1).bind fun vs hp2 z_ => hC _ _ _) trivial
 | .comp elt t k its ifs, loc, hp => Fr.ite trivial ((evalEs_fr its loc hp).bind fun vs hp1 z_ => by
  cases h : srcOf k vs hp1 with
  | none => exact trivial
  | some src => exact Fr.trans' (Fl.src k hp1) ((compLoop_fr (fun l h => evalIfs_fr ifs l h) (fun l h => evalE_fr elt l h) _ _ _ _).bind fun l hp2 z_ => Fl.new _ _))
theorem evalO_fr : ∀ (e : Option ME) (loc : Loc) (hp : Hp), Fr hp (evalO P C e loc hp)
 | none, loc, hp => Fl.refl _
 | some e, loc, hp => (evalE_fr e loc hp).bind fun v hp1 z_ => Fl.refl _
theorem evalEs_fr : ∀ (es : List ME) (loc : Loc) (hp : Hp), Fr hp (evalEs P C es loc hp)
 | [], loc, hp => Fl.refl _
 | e :: r, loc, hp => (evalE_fr e loc hp).bind fun v hp1 z_ => (evalEs_fr r loc hp1).bind fun vs hp2 z_ => Fl.refl _
theorem evalCmp_fr : ∀ (rs : List ME) (a : PV) (ops : List Cop) (loc : Loc) (hp : Hp), Fr hp (evalCmp P C a ops rs loc hp)
 | [], a, [], loc, hp => trivial
 | [], a, [_], loc, hp => trivial
 | [], a, _ :: _ :: _, loc, hp => trivial
 | _ :: _, a, [], loc, hp => trivial
 | [r], a, [o], loc, hp => (evalE_fr r _ _).bind fun b hp1 z_ => Fr.opt _ _
 | [r], a, _ :: o' :: os, loc, hp => (evalE_fr r _ _).bind fun b hp1 z_ => (Fr.opt _ _).bind fun t hp2 z_ => Fr.ite (evalCmp_fr [] _ (o' :: os) _ _) (Fl.refl _)
 | r :: r' :: rs, a, _ :: os, loc, hp => by
  have ih := fun b hp2 => evalCmp_fr (r' :: rs) b os loc hp2
  cases os with
  | nil => exact (evalE_fr r _ _).bind fun b hp1 z_ => (Fr.opt _ _).bind fun t hp2 z_ => Fr.ite (ih _ _) (Fl.refl _)
  | cons o' os => exact (evalE_fr r _ _).bind fun b hp1 z_ => (Fr.opt _ _).bind fun t hp2 z_ => Fr.ite (ih _ _) (Fl.refl _)
theorem evalBool_fr : ∀ (k : Bool) (es : List ME) (loc : Loc) (hp : Hp), Fr hp (evalBool P C k es loc hp)
 | _, [], loc, hp => trivial
 | _, [e], loc, hp => evalE_fr e loc hp
 | k, e :: e' :: r, loc, hp => (evalE_fr e loc hp).bind fun v hp1 z_ => (Fr.opt _ _).bind fun b hp2 z_ => Fr.ite (evalBool_fr k (e' :: r) loc hp2) (Fl.refl _)
theorem evalT_fr : ∀ (e : MT) (loc : Loc) (hp : Hp), Fr hp (evalT P C e loc hp)
 | .val e, loc, hp => (evalE_fr e loc hp).bind fun v hp1 z_ => Fr.opt _ _
 | .notT e, loc, hp => (evalT_fr e loc hp).bind fun b hp1 z_ => Fl.refl _
 | .andT es, loc, hp => evalTs_fr true es loc hp
 | .orT es, loc, hp => evalTs_fr false es loc hp
 | .cmp l ops rs, loc, hp => (evalE_fr l loc hp).bind fun a hp1 z_ => evalCmp_fr rs a ops loc hp1
theorem evalTs_fr : ∀ (k : Bool) (es : List MT) (loc : Loc) (hp : Hp), Fr hp (evalTs P C k es loc hp)
 | k, [], loc, hp => Fl.refl _
 | k, e :: r, loc, hp => (evalT_fr e loc hp).bind fun b hp1 z_ => Fr.ite (evalTs_fr k r loc hp1) (Fl.refl _)
theorem evalIfs_fr : ∀ (es : List MT) (loc : Loc) (hp : Hp), Fr hp (evalIfs P C es loc hp)
 | [], loc, hp => Fl.refl _
 | e :: r, loc, hp => (evalT_fr e loc hp).bind fun b hp1 z_ => Fr.ite (evalIfs_fr r loc hp1) (Fl.refl _)
end
variable {W : Caller} (hW : ∀ i ps hp, Fr hp (W i ps hp))
include hW
mutual
theorem exeS_fr : ∀ (st : MS) (loc : Loc) (hp : Hp), FrS hp (exeS P C W st loc hp)
 | .expr e, loc, hp => (evalE_fr hC e loc hp).stm fun v hp1 z_ => by cases v <;> first | trivial | exact Fl.refl _
 | .ret e, loc, hp => (evalE_fr hC e loc hp).stm fun v hp1 z_ => Fl.refl _
 | .asg x e, loc, hp => (evalE_fr hC e loc hp).stm fun v hp1 z_ => Fl.refl _
 | .asgT t e, loc, hp => by
  show FrS hp (if P.held then .bad else _)
  refine FrS.ite trivial ((evalE_fr hC e loc hp).stm fun v hp1 z_ => ?_)
  cases h : bindT t v loc with
  | none => exact trivial
  | some l => exact Fl.refl _
 | .store o i e, loc, hp => (evalE_fr hC e loc hp).stm fun v hp1 z_ => (evalE_fr hC o loc hp1).stm fun a hp2 z_ => (evalE_fr hC i loc hp2).stm fun k hp3 z_ => store_fr a k v hp3 loc
 | .ifS c a b, loc, hp => (evalT_fr hC c loc hp).stm fun t hp1 z_ => FrS.ite (exeB_fr a loc hp1) (exeB_fr b loc hp1)
 | .forS t k its body, loc, hp => FrS.ite trivial ((evalEs_fr hC its loc hp).stm fun vs hp1 z_ => by
  cases h : srcOf k vs hp1 with
  | none => exact trivial
  | some src => exact FrS.trans (Fl.src k hp1) (forLoop_fr (fun l h => exeB_fr body l h) _ _ _ _))
 | .setA o k e, loc, hp => (evalE_fr hC e loc hp).stm fun v hp1 z_ => (evalE_fr hC o loc hp1).stm fun a hp2 z_ => putAttr_fr a k v hp2 loc
 | .raise _, loc, hp => FrS.ite trivial (Fl.refl _)
 | .tryS body x h, loc, hp => FrS.ite trivial (by
  have hb := exeB_fr body loc hp
  cases hr : exeB P C W body loc hp with
  | exc c loc1 hp1 =>
   rw [hr] at hb
   exact FrS.trans hb ((evalE_fr (P := P.hold) hW h _ _).stmB fun v hp2 z_ => Fl.refl _)
  | _ => rw [hr] at hb; exact hb)
 | .brk, loc, hp => Fl.refl _
 | .bad, loc, hp => trivial
theorem exeB_fr : ∀ (b : List MS) (loc : Loc) (hp : Hp), FrS hp (exeB P C W b loc hp)
 | [], loc, hp => Fl.refl _
 | st :: r, loc, hp => (exeS_fr st loc hp).seq fun loc1 hp1 => exeB_fr r loc1 hp1
end
end
theorem FrS.fin {hp : Hp} {r : SR} (h : FrS hp r) : Fr hp r.fin := by cases r <;> first | exact h | trivial
set_option tactic.hygienic true in
theorem runF_fr {P : MProg} {C W : Caller} (hC : ∀ i ps hp, Fr hp (C i ps hp)) (hW : ∀ i ps hp, Fr hp (W i ps hp)) (i : Nat) (ps : List PV) (hp : Hp) : Fr hp (runF P C W i ps hp) := by
 unfold runF
 split
 ·trivial
 ·split
  ·trivial
  ·rename_i f _ _ loc _
   split
   ·have := FrS.fin (exeB_fr (P := P) hC hW f.body (loc ++ unb f.locs) { hp with lo := hp.os.length })
    cases hr : (exeB P C W f.body (loc ++ unb f.locs) { hp with lo := hp.os.length }).fin with
    | bad => trivial
    | exc c hp' => exact Fl.refl _
    | ok v hp' =>
     rw [hr] at this
     have key : Fl hp { hp' with lo := hp.lo } := ⟨rfl, this.2.1, fun m hm hl => this.2.2 m hl hl⟩
     simp only [swept]
     (repeat' split) <;> first | trivial | exact Fl.refl _ | exact Fl.new _ _ | exact key
   ·exact FrS.fin (exeB_fr hC hW f.body (loc ++ unb f.locs) hp)
theorem callW_fr (P : MProg) (i : Nat) (ps : List PV) (hp : Hp) : Fr hp (callW P i ps hp) := runF_fr (C := noCall) (W := noCall) (fun z_ z_ z_ => trivial) (fun z_ z_ z_ => trivial) i ps hp
theorem callN_fr (P : MProg) : ∀ (n : Nat) (i : Nat) (ps : List PV) (hp : Hp), Fr hp (callN P n i ps hp)
 | 0, _, _, _ => trivial
 | n + 1, i, ps, hp => runF_fr (callN_fr P n) (callW_fr P) i ps hp
end Mine
end
section
namespace Mine
open PySem PySem.Calls PyProof.Rows PySem.SeqAt
mutual
theorem VR.belowR {X : Cx} {ρ : List Addr} {h : Heap} {v : Value} {p : PV} (x : VR X ρ h v p) : below ρ.length p = true := by
 cases x with
 | tup t z r _ => unfold Mine.below; exact VRs.belowsR r
 | lst q => unfold Mine.below; exact decide_eq_true (List.getElem?_eq_some_iff.mp q).1
 | _ => unfold Mine.below; rfl
theorem VRs.belowsR {X : Cx} {ρ : List Addr} {h : Heap} {vs : List Value} {ps : List PV} (x : VRs X ρ h vs ps) : belows ρ.length ps = true := by
 cases x with
 | nil => unfold Mine.belows; rfl
 | cons a r => unfold Mine.belows; exact Bool.and_eq_true_iff.mpr ⟨VR.belowR a, VRs.belowsR r⟩
end
mutual
theorem VR.cutR {X : Cx} {ρ e : List Addr} {h : Heap} {v : Value} {p : PV} (x : VR X (ρ ++ e) h v p) (hb : below ρ.length p = true) : VR X ρ h v p := by
 cases x with
 | none => exact .none
 | bool b => exact .bool b
 | int i t => exact .int i t
 | str s t => exact .str s t
 | tup t z r hn => exact .tup t z (VRs.cutR r (by unfold Mine.below at hb; exact hb)) (fun q => hn (List.mem_append_left _ q))
 | lst q =>
  unfold Mine.below at hb
  rw [List.getElem?_append_left (of_decide_eq_true hb)] at q
  exact .lst q
 | frz a z b => exact .frz a z b
 | rng q hn => exact .rng q (fun z => hn (List.mem_append_left _ z))
 | fn i => exact .fn i
 | exc h1 h2 h3 h4 h5 hn => exact .exc h1 h2 h3 h4 h5 (fun z => hn (List.mem_append_left _ z))
theorem VRs.cutR {X : Cx} {ρ e : List Addr} {h : Heap} {vs : List Value} {ps : List PV} (x : VRs X (ρ ++ e) h vs ps) (hb : belows ρ.length ps = true) : VRs X ρ h vs ps := by
 cases x with
 | nil => exact .nil
 | cons a r =>
  unfold Mine.belows at hb
  have := Bool.and_eq_true_iff.mp hb
  exact .cons (VR.cutR a this.1) (VRs.cutR r this.2)
end
theorem RepH.cut {X : Cx} {ρ e : List Addr} {hp hp' : Hp} {h h' : Heap} (R₀ : RepH X ρ hp h) (R : RepH X (ρ ++ e) hp' h') (hf : ∀ n, n < hp.os.length → hp'.os[n]? = hp.os[n]?) : RepH X ρ hp h' := by
 refine ⟨R₀.len, R₀.nodup, R₀.new, fun n a o ea eo => ?_⟩
 have hn : n < ρ.length := (List.getElem?_eq_some_iff.mp ea).1
 have h1 := R.obj n a o (by rw [List.getElem?_append_left hn]; exact ea) (by rw [hf n (R₀.len ▸ hn)]; exact eo)
 have h0 := R₀.obj n a o ea eo
 cases o with
 | inst d =>
  revert h1; refine y12 fun dx q r => ?_
  revert h0; refine y12 fun z_ q0 z_ => ?_
  exact ei12 dx ((List.getElem?_append_left (List.getElem?_eq_some_iff.mp q0).1).symm.trans q) r
 | attrs l =>
  revert h1; refine y14 fun mA a1 a2 a3 a4 => ?_
  revert h0; refine y14 fun z_ z_ z_ z_ b4 => ?_
  exact ei14 mA a1 a2 a3 (fun k p e => x12 (a4 k p e) fun v e1 e2 => x12 (b4 k p e) fun z_ z_ r0 => ei12 v e1 (e2.cutR r0.belowR))
 | own => exact h1
 | list l =>
  revert h1; refine y13 fun vs li hz rl => ?_
  revert h0; refine y13 fun z_ z_ z_ rl0 => ?_
  exact ei13 vs li hz (rl.cutR rl0.belowsR)
structure FnOk (X : Cx) (i : Nat) (f : MFun) : Prop where
 ex : ∃ (o : Obj) (fd : FuncData) (body : List Stmt), X.base.get? (X.fa i) = some o ∧ o.data = .func fd ∧ X.base.CodeRec fd.code fd.qualname ∧ fd.body = .stmts body ∧ fd.closure = [] ∧ fd.globals = mainGlobals ∧ fd.builtins = builtinsNs ∧
  (∀ vals : List Value, vals.length = f.params.length → bindArgs fd ⟨vals, []⟩ = pure ((f.params.map X.nm).zip vals)) ∧
  (∀ x ∈ f.params, fd.scope.names.lookup (X.nm x) = some .local ∨ fd.scope.names.lookup (X.nm x) = some .cell) ∧
  fd.scope.isCoroutine = false ∧ fd.scope.isGenerator = false ∧ fd.scope.kind = .function ∧
  (∀ MP k C W, CallOk X MP k C → CallOk X MP.hold 1 W → DoesS X fd.scope k (execs body) (exeB MP C W f.body))
 nodup : f.params.Nodup
structure CxOk (X : Cx) : Prop where
 lim : X.base.NoLimit
 inj : ∀ x y, X.nm x = X.nm y → x = y
 fns : ∀ i f, X.P.funs[i]? = some f → FnOk X i f
theorem zipArgs_cons {x : Nat} {xs : List Nat} {ps : List PV} {loc : Loc} (h : zipArgs (x :: xs) ps = some loc) {P : Prop} (k : ∀ q qs l, ps = q :: qs → zipArgs xs qs = some l → (x, some q) :: l = loc → P) : P := by
 cases ps with
 | nil => exact no h
 | cons q qs => exact x12 (Option.map_eq_some_iff.mp (show (zipArgs xs qs).map ((x, some q) :: ·) = some loc from h)) fun l h1 h2 => k q qs l rfl h1 h2
theorem zipArgs_len {xs : List Nat} : ∀ {ps : List PV} {loc : Loc}, zipArgs xs ps = some loc → ps.length = xs.length := by
 induction xs with
 | nil => intro ps loc h; cases ps with
  | nil => rfl
  | cons _ _ => exact no h
 | cons x xs ih =>
  intro ps loc h
  refine zipArgs_cons h fun q qs l e h1 z_ => ?_
  rw [e]; exact congrArg Nat.succ (ih h1)
theorem bindL_off {kd : Str → Option NameKind} {y : Str} : ∀ (binds : List (Str × Value)) (m : Str → Option Value), (∀ b ∈ binds, b.1 ≠ y) → bindL kd binds m y = m y
 | [], m, _ => rfl
 | (n, v) :: r, m, h => by
  unfold bindL
  rw [bindL_off r _ fun b hb => h b (.tail _ hb)]
  split
  ·exact if_neg (fun q => h (n, v) (.head _) q.symm)
  ·rfl
theorem bindC_off {kd : Str → Option NameKind} {y : Str} : ∀ (binds : List (Str × Value)) (m : Str → Option Value), (∀ b ∈ binds, b.1 ≠ y) → bindC kd binds m y = m y
 | [], m, _ => rfl
 | (n, v) :: r, m, h => by
  unfold bindC
  rw [bindC_off r _ fun b hb => h b (.tail _ hb)]
  split
  ·rfl
  ·exact if_neg (fun q => h (n, v) (.head _) q.symm)
theorem args_get {X : Cx} (hinj : ∀ x y, X.nm x = X.nm y → x = y) {kd : Str → Option NameKind} {ρ : List Addr} {h : Heap} {xs : List Nat} : ∀ {vs : List Value} {ps : List PV} {loc : Loc} (m cm : Str → Option Value), xs.Nodup → zipArgs xs ps = some loc → VRs X ρ h vs ps →
  ∀ x p, getv loc x = some p → (kd (X.nm x) = some .local → ∃ v, bindL kd ((xs.map X.nm).zip vs) m (X.nm x) = some v ∧ VR X ρ h v p) ∧ (kd (X.nm x) = some .cell → ∃ v, bindC kd ((xs.map X.nm).zip vs) cm (X.nm x) = some v ∧ VR X ρ h v p) := by
 induction xs with
 | nil => intro vs ps loc m cm _ hz _ x p hg; cases ps with
  | nil => cases hz; cases hg
  | cons _ _ => exact no hz
 | cons y xs ih =>
  intro vs ps loc m cm hnd hz hr x p hg
  refine zipArgs_cons hz fun q qs l e1 hzz e2 => ?_
  subst e1 e2
  refine x23 hr.cons_inv fun v ws e1 rv rr => ?_
  subst e1
  have hnd' := List.nodup_cons.mp hnd
  have hoff : ∀ b ∈ (xs.map X.nm).zip ws, b.1 ≠ X.nm y := fun b hb e => by
   refine x12 (List.mem_map.mp (List.of_mem_zip hb).1) fun z hz e' => ?_
   exact hnd'.1 (hinj z y (e'.trans e) ▸ hz)
  replace hg : (if y = x then some q else getv l x) = some p := hg
  show (_ → ∃ v', bindL kd ((X.nm y, v) :: (xs.map X.nm).zip ws) m (X.nm x) = some v' ∧ _) ∧ (_ → ∃ v', bindC kd ((X.nm y, v) :: (xs.map X.nm).zip ws) cm (X.nm x) = some v' ∧ _)
  by_cases e : y = x
  ·subst e
   obtain rfl := Option.some.inj ((if_pos rfl).symm.trans hg)
   refine ⟨fun hk => ei12 v ?_ rv, fun hk => ei12 v ?_ rv⟩
   ·unfold bindL
    rw [bindL_off _ _ hoff, if_pos hk]; exact if_pos rfl
   ·unfold bindC
    rw [bindC_off _ _ hoff, if_neg (by rw [hk]; decide)]; exact if_pos rfl
  ·unfold bindL bindC
   exact ih _ _ hnd'.2 hzz rr x p ((if_neg e).symm.trans hg)
set_option tactic.hygienic true in
theorem cells_has : ∀ (names : List (Str × NameKind)) (n : Nat) (acc : List (Str × Addr)) (x : Str), ((x, NameKind.cell) ∈ names ∨ (acc.lookup x).isSome = true) → ((cellsFrom n names acc).lookup x).isSome = true
 | [], n, acc, x, h => by
  rcases h with h | h
  ·cases h
  ·exact h
 | (y, kd) :: r, n, acc, x, h => by
  unfold cellsFrom
  split
  ·rename_i hk
   refine cells_has r _ _ x ?_
   rcases h with h | h
   ·rcases List.mem_cons.mp h with q | q
    ·right; cases q; simp [List.lookup]
    ·exact .inl q
   ·right
    simp only [List.lookup]
    cases x == y <;> simp [h]
  ·rename_i hk
   refine cells_has r _ _ x ?_
   rcases h with h | h
   ·rcases List.mem_cons.mp h with q | q
    ·cases q; exact absurd rfl hk
    ·exact .inl q
   ·exact .inr h
theorem mem_of_look {α β : Type} [BEq α] [LawfulBEq α] {l : List (α × β)} {x : α} {b : β} (h : l.lookup x = some b) : (x, b) ∈ l := by
 induction l with
 | nil => cases h
 | cons a r ih =>
  obtain ⟨y, c⟩ := a
  simp only [List.lookup] at h
  cases hb : x == y with
  | true => rw [hb] at h; cases h; rw [eq_of_beq hb]; exact .head _
  | false => rw [hb] at h; exact .tail _ (ih h)
end Mine
end
section
namespace Mine
open PySem PySem.Calls PyProof.Rows PySem.SeqAt
theorem RepH.anyLo {X : Cx} {ρ : List Addr} {hp : Hp} {h : Heap} (R : RepH X ρ hp h) (n : Nat) : RepH X ρ { hp with lo := n } h := ⟨R.len, R.nodup, R.new, R.obj⟩
set_option tactic.hygienic true in
theorem swept_ok {X : Cx} {ρ ρ' : List Addr} {hp hp' : Hp} {s : Shared} {h' : Heap} {tk : Nat} {v : Value} {p : PV} {Q : Value → Shared → Prop} {E : Value → Shared → Prop} (R₀ : RepH X ρ hp s.heap) (hf : ∀ n, n < hp.os.length → hp'.os[n]? = hp.os[n]?)
  (g : Grow ρ ρ' s.heap) (k : Keep X ρ s.heap h') (R : RepH X ρ' hp' h') (rv : VR X ρ' h' v p) (P : Post X (RV X) ρ s (swept hp (.ok p hp')) Q E) : Q v { s with heap := h', toks := tk } := by
 simp only [swept] at P
 have g0 := g
 revert g; refine y12 fun e zq5 hx => ?_
 subst zq5
 split at P
 ·rename_i hb
  rw [← R₀.len] at hb
  exact P v h' tk ρ (Grow.refl _ _) k (R₀.cut R hf) (rv.cutR hb)
 ·rename_i hnb
  cases rv with
  | lst hn =>
   rename_i a n
   dsimp only at P
   split at P
   ·rename_i l hl
    split at P
    ·rename_i hbl
     have hnl : ρ.length ≤ n := by
      rw [R₀.len]
      apply Nat.le_of_not_lt
      intro q
      apply hnb
      unfold Mine.below
      exact decide_eq_true q
     have hae : a ∈ e := by
      rw [List.getElem?_append_right hnl] at hn
      exact List.mem_of_getElem? hn
     have hnd := List.nodup_append.mp R.nodup
     have haρ : a ∉ ρ := fun q => hnd.2.2 a q a hae rfl
     refine x13 (R.lst hn hl) fun vs li hz rl => ?_
     have R₁ := R₀.cut R hf
     refine P (.ref a) h' tk (ρ ++ [a]) ⟨[a], rfl, fun x hx' => by rw [List.mem_singleton.mp hx']; exact hx a hae⟩ k (R₁.newList haρ (R.new a (List.mem_append_right _ hae)) li hz (rl.cutR (by rw [R₀.len]; exact hbl))) (.lst ?_)
     rw [← R₀.len, List.getElem?_append_right (Nat.le_refl _), Nat.sub_self]; rfl
    ·exact P (.ref a) h' tk _ g0 k (R.anyLo _) (.lst hn)
   ·exact P (.ref a) h' tk _ g0 k (R.anyLo _) (.lst hn)
  | tup h1 h2 h3 hnr => exact P _ h' tk _ g0 k (R.anyLo _) (.tup h1 h2 h3 hnr)
  | none => exact P _ h' tk _ g0 k (R.anyLo _) .none
  | bool b => exact P _ h' tk _ g0 k (R.anyLo _) (.bool b)
  | int i t => exact P _ h' tk _ g0 k (R.anyLo _) (.int i t)
  | str x t => exact P _ h' tk _ g0 k (R.anyLo _) (.str x t)
  | frz h1 h2 h3 => exact P _ h' tk _ g0 k (R.anyLo _) (.frz h1 h2 h3)
  | rng h1 hnr => exact P _ h' tk _ g0 k (R.anyLo _) (.rng h1 hnr)
  | fn i => exact P _ h' tk _ g0 k (R.anyLo _) (.fn i)
  | exc h1 h2 h3 h4 h5 h6 => exact P _ h' tk _ g0 k (R.anyLo _) (.exc h1 h2 h3 h4 h5 h6)
theorem call_code {X : Cx} (XO : CxOk X) {MP : MProg} {C W : Caller} {n : Nat} (hMP : MP.funs = X.P.funs) (ih : CallOk X MP n C) (iw : CallOk X MP.hold 1 W) (hfC : ∀ i ps hp, Fr hp (C i ps hp)) (hfW : ∀ i ps hp, Fr hp (W i ps hp)) (A₀ A : Around) (s : Shared) (ρ : List Addr) (hp : Hp) (i : Nat) (vs : List Value) (ps : List PV) (Q : Value → Shared → Prop) (E : Value → Shared → Prop)
  (B : BK X s.heap) (R : RepH X ρ hp s.heap) (rs : VRs X ρ s.heap vs ps)
  (N : Nigh A₀ A) (Rm : Room X A₀ (n + 1) ρ s)
  (P : Post X (RV X) ρ s (runF MP C W i ps hp) Q E) :
  codeAny X.M A (.call (.ref (X.fa i)) ⟨vs, []⟩) (fun r s' => match r with | .ok (.ret v) => Q v s' | .ok _ => False | .error e => E e s') s := by
 unfold runF at P
 rw [hMP] at P
 cases hf : X.P.funs[i]? with
 | none => rw [hf] at P; exact P.elim
 | some f =>
  rw [hf] at P
  dsimp only at P
  cases hz : zipArgs f.params ps with
  | none => rw [hz] at P; exact P.elim
  | some loc =>
   rw [hz] at P
   dsimp only at P
   have FO := XO.fns i f hf
   obtain ⟨o, fd, body, ho, hd, hcd, hbody, hclo, hglo, hblt, hbind, hkinds, hco, hgen, hk, hruns⟩ := FO.ex
   have hlen : vs.length = f.params.length := (VRs.length rs).trans (zipArgs_len hz)
   have hlim : s.heap.NoLimit := by
    refine x12 XO.lim fun mc hns hm => ?_
    exact ei12 mc (hns.keeps fun b o e => B b o e) hm
   refine codeAny_call_function (by have := Rm.depth; have := N.dep; omega) (B _ _ ho) hd hco hgen hbody (hcd.keeps fun b o e => B b o e) ?_
   rw [hbind vs hlen, hclo]
   refine wpAny_pure (wpAny_pos Rm.pos (wpAny_newFunctionEnv_cells hk ?_ fun env₀ he₀ s₁ hx hpos => ?_))
   ·rintro ⟨x, v⟩ hm
    have := (List.of_mem_zip hm).1
    refine x12 (List.mem_map.mp this) fun y hy zq4 => ?_
    subst zq4
    rcases hkinds y hy with q | q
    ·exact .inl q
    ·exact .inr ⟨q, cells_has _ _ _ _ (.inl (mem_of_look q))⟩
   ·subst he₀
    refine ⟨hlim.keeps hx.toInCall.keep, codeAny_func ?_⟩
    change InCallC s (callEnvC fd s.heap.objs.size (X.fa i)).locals (bindL (callEnvC fd s.heap.objs.size (X.fa i)).kindOf _ fun z_ => none) (callEnvC fd s.heap.objs.size (X.fa i)).cells (bindC (callEnvC fd s.heap.objs.size (X.fa i)).kindOf _ fun z_ => none) s₁ at hx
    change wpAny (model X.prog X.w) (A.deeper (callEnvC fd s.heap.objs.size (X.fa i))) (execs body (callEnvC fd s.heap.objs.size (X.fa i))) _ (fun e s' => wpAny _ (A.deeper (callEnvC fd s.heap.objs.size (X.fa i))) (leaving (callEnvC fd s.heap.objs.size (X.fa i)) e) _ _ s') s₁
    refine x21 hx.toInCall.same fun h₁ tk₁ zq3 => ?_
    subst zq3
    generalize hen : callEnvC fd s.heap.objs.size (X.fa i) = env at hx ⊢
    have hs : env.scope = fd.scope := by rw [← hen]; rfl
    have hL : env.locals = s.heap.objs.size := by rw [← hen]; rfl
    have kp : ∀ b o, s.heap.get? b = some o → h₁.get? b = some o := hx.toInCall.keep
    have hkd : ∀ x, env.kindOf x = fd.scope.names.lookup x := fun x => by unfold Env.kindOf; rw [hs]
    have hcn : ∀ x c, env.cells.lookup x = some c → s.heap.get? c = none := fun x c hc => by
     have := hx.above x c (mem_of_look hc)
     rw [hL] at this
     cases q : s.heap.get? c with
     | none => rfl
     | some o => exact absurd (Heap.lt_size q) (Nat.not_lt.mpr (Nat.le_of_lt this))
    have hLn : s.heap.get? env.locals = none := by rw [hL]; exact free_size _
    have I : ∀ m, Inv X fd.scope env ρ (loc ++ unb f.locs) { hp with lo := m } h₁ := fun m => by
     refine ⟨fun b o e => kp _ _ (B b o e), (R.keep kp).anyLo m, ⟨_, hx.toInCall.ns, fun x p q => ?_⟩, hs, hk, by rw [← hen]; exact hglo, by rw [← hen]; exact hblt, ?_, ?_, ?_, ?_, ?_, XO.inj, ?_⟩
     ·rw [getv_app] at q
      have := args_get XO.inj (kd := env.kindOf) (fun z_ => none) (fun z_ => none) FO.nodup hz (rs.keepF (KeepF.of_all kp)) x p q
      refine ⟨this.1, fun hc => ?_⟩
      refine x12 (this.2 hc) fun v hv rv => ?_
      have hcs : ((cellsFrom (s.heap.objs.size + 1) fd.scope.names []).lookup (X.nm x)).isSome = true := cells_has _ _ _ _ (.inl (mem_of_look (by rw [hkd] at hc; exact hc)))
      refine x11 (Option.isSome_iff_exists.mp hcs) fun c hcc => ?_
      have hcc' : env.cells.lookup (X.nm x) = some c := by rw [← hen]; exact hcc
      exact ei23 c v hcc' (hv ▸ hx.cell _ _ hcc') rv
     ·intro q
      exact nsS hLn (R.isSome _ q)
     ·intro x c hc q
      exact nsS (hcn x c hc) (R.isSome _ q)
     ·exact B.free hLn
     ·intro x c hc
      refine ⟨B.free (hcn x c hc), ?_, _, hx.cell _ _ hc⟩
      exact Nat.ne_of_gt (hx.above x c (mem_of_look hc))
     ·intro x y c h1 h2
      exact name_of_addr hx.apart (mem_of_look h1) (mem_of_look h2)
     ·intro x hxc
      have hcs : ((cellsFrom (s.heap.objs.size + 1) fd.scope.names []).lookup x).isSome = true := cells_has _ _ _ _ (.inl (mem_of_look hxc))
      refine x11 (Option.isSome_iff_exists.mp hcs) fun c hcc => ?_
      have hcc' : env.cells.lookup x = some c := by rw [← hen]; exact hcc
      exact ei22 c _ hcc' (hx.cell _ _ hcc')
    refine x12 Rm.frs fun l hl hF => ?_
    rw [← N.frs] at hl
    have hFl : (A.deeper env).frames = some (env :: l) := by show A.frames.map (env :: ·) = _; rw [hl]; rfl
    have hfr : env.frame = some env.locals := by rw [← hen]; rfl
    have hFn : Frs X ρ h₁ (env :: l) := by
     refine x33 hx.toInCall.ns fun oL es ep eL hdL z_ => ?_
     intro e he
     rcases List.mem_cons.mp he with q | q
     ·rw [q]; exact ⟨by rw [hs, hk]; decide, env.locals, oL, es, ep, hfr, B.free hLn, eL, hdL, R.free hLn⟩
     ·exact hF.keep (Grow.refl _ _) (fun b o es ep eb hdb z_ => ⟨o, es, ep, kp b o eb, hdb⟩) e q
    have Rm' : Room X (A.deeper env) n ρ { s with heap := h₁, toks := tk₁ } :=
     ⟨fun q => N.hnd.trans (Rm.hnd (by omega)), Rm.calm.imp (fun q => N.hnd.trans q) (y22 fun a c e r => ei22 a c (N.hnd.trans e) (r.keepF (KeepF.of_all kp))), by have := Rm.depth; have := N.dep; show A.depth + 1 + 2 * n < _; omega, by have := Rm.units; have := N.uni; show A.units + 3 + 10 * n + 80 < _; omega, hpos, env :: l, hFl, hFn⟩
    have gS : ∀ {ρ' : List Addr}, Grow ρ ρ' h₁ → Grow ρ ρ' s.heap := fun g => by
     revert g; refine y12 fun e zq2 hx' => ?_
     subst zq2
     refine ei12 e rfl (fun a ha => ?_)
     cases q : s.heap.get? a with
     | none => rfl
     | some o => have := hx' a ha; rw [kp _ _ q] at this; cases this
    have kS : ∀ {h' : Heap}, KeepS X env ρ h₁ h' → Keep X ρ s.heap h' := fun k b o e hb => k b o (kp b o e) hb (fun q => by rw [q, hLn] at e; cases e) (fun x c hc q => by rw [q, hcn x c hc] at e; cases e)
    by_cases hp0 : f.pure = true
    ·rw [if_pos hp0] at P
     refine hruns MP n C W ih iw (A.deeper env) env _ ρ (loc ++ unb f.locs) { hp with lo := hp.os.length } _ _ ⟨l, hFl, hfr⟩ (I _) Rm' ?_
     have hfr' := exeB_fr (P := MP) hfC hfW f.body (loc ++ unb f.locs) { hp with lo := hp.os.length }
     cases hr : exeB MP C W f.body (loc ++ unb f.locs) { hp with lo := hp.os.length } with
     | nxt loc' hp' =>
      rw [hr] at P hfr'
      exact fun h' tk ρ' g k I' => swept_ok (s := s) (hp := hp) (hp' := hp') (E := E) R (fun m hm => hfr'.2.2 m hm hm) (gS g) (kS k) I'.rep .none P
     | ret p hp' =>
      rw [hr] at P hfr'
      exact fun v h' tk ρ' g k b' r' rv => swept_ok (s := s) (hp := hp) (hp' := hp') (E := E) R (fun m hm => hfr'.2.2 m hm hm) (gS g) (kS k) r' rv P
     | brk loc' hp' => rw [hr] at P; exact P.elim
     | bad => rw [hr] at P; exact P.elim
     | exc c loc' hp' =>
      rw [hr] at P hfr'
      intro e hr₂ h₂ tk₂ ρ₂ g₂ k₂ I₂ fl
      refine fly_leaving (s := { s with heap := h₂, toks := tk₂ }) hFl (hFn.afterS (I 0) I₂ g₂ k₂) hfr fl fun hr₃ h₃ w₃ fl₃ => ?_
      have g₂' := g₂
      revert g₂'; refine y12 fun ex zq1 z_ => ?_
      subst zq1
      exact P e hr₃ h₃ tk₂ ρ (Grow.refl _ _) ((kS k₂).trans (gS g₂) w₃.keep) (R.cut (w₃.rep I₂.rep) fun m hm => hfr'.2.2 m hm hm) fl₃
    ·rw [if_neg hp0] at P
     refine hruns MP n C W ih iw (A.deeper env) env _ ρ (loc ++ unb f.locs) hp _ _ ⟨l, hFl, hfr⟩ (I hp.lo) Rm' ?_
     cases hr : exeB MP C W f.body (loc ++ unb f.locs) hp with
     | nxt loc' hp' =>
      rw [hr] at P
      exact fun h' tk ρ' g k I' => P .none h' tk ρ' (gS g) (kS k) I'.rep .none
     | ret p hp' =>
      rw [hr] at P
      exact fun v h' tk ρ' g k b' r' rv => P v h' tk ρ' (gS g) (kS k) r' rv
     | brk loc' hp' => rw [hr] at P; exact P.elim
     | bad => rw [hr] at P; exact P.elim
     | exc c loc' hp' =>
      rw [hr] at P
      intro e hr₂ h₂ tk₂ ρ₂ g₂ k₂ I₂ fl
      refine fly_leaving (s := { s with heap := h₂, toks := tk₂ }) hFl (hFn.afterS (I 0) I₂ g₂ k₂) hfr fl fun hr₃ h₃ w₃ fl₃ => ?_
      exact P e hr₃ h₃ tk₂ ρ₂ (gS g₂) ((kS k₂).trans (gS g₂) w₃.keep) (w₃.rep I₂.rep) fl₃
theorem call_step {X : Cx} (XO : CxOk X) {MP : MProg} {C W : Caller} {n : Nat} (hMP : MP.funs = X.P.funs) (ih : CallOk X MP n C) (iw : CallOk X MP.hold 1 W) (hfC : ∀ i ps hp, Fr hp (C i ps hp)) (hfW : ∀ i ps hp, Fr hp (W i ps hp)) : CallOk X MP (n + 1) (runF MP C W) where
 held := fun q => Nat.le_succ_of_le (ih.held q)
 fn := fun i ps hp hb => by
  unfold runF at hb
  rw [hMP] at hb
  cases hf : X.P.funs[i]? with
  | none => rw [hf] at hb; exact absurd rfl hb
  | some f =>
   refine x33 ((XO.fns i f hf).ex) fun o fd body h1 h2 z_ => ?_
   exact ei22 o fd h1 h2
 run := fun A A' s ρ hp i vs ps Q E B R rs N Rm P => wpAny_call (call_code XO hMP ih iw hfC hfW A A' s ρ hp i vs ps Q E B R rs N Rm P)
theorem noCall_ok {X : Cx} {MP : MProg} {k : Nat} (hk : MP.held = false → 2 ≤ k) : CallOk X MP k noCall := ⟨hk, fun i ps hp hb => absurd rfl hb, fun A A' s ρ hp i vs ps Q E B R rs N Rm P => P.elim⟩
theorem callW_ok {X : Cx} (XO : CxOk X) : CallOk X X.P.hold 1 (callW X.P) :=
 call_step (n := 0) XO rfl (noCall_ok fun q => nomatch q) (noCall_ok fun q => nomatch q) (fun z_ z_ z_ => trivial) (fun z_ z_ z_ => trivial)
theorem callN_ok {X : Cx} (XO : CxOk X) : ∀ n, CallOk X X.P (n + 2) (callN X.P n)
 | 0 => noCall_ok fun z_ => Nat.le_refl _
 | n + 1 => call_step XO rfl (callN_ok XO n) (callW_ok XO) (callN_fr X.P n) (callW_fr X.P)
end Mine
end
section
namespace Mine
open PySem PySem.Calls PyProof.Rows PySem.SeqAt
section
variable {prog : Program} {w : World} {A : Around} {E : Value → Shared → Prop} {s : Shared}
end
theorem RepH.newOwn {X : Cx} {ρ : List Addr} {hp : Hp} {h h' : Heap} {a : Addr} {x y : Value} (R : RepH X ρ hp h) (hf : h.get? a = none) (hb : X.base.get? a = none) (kp : ∀ b o, h.get? b = some o → h'.get? b = some o)
  (hl : h'.get? a = some { cls := .type "tuple", data := .seq #[x, y] }) : RepH X (ρ ++ [a]) { hp with os := hp.os ++ [.own] } h' := by
 have hn : a ∉ ρ := R.free hf
 have hfr : Frees [a] h := Frees.of_none fun b hb => by rw [List.mem_singleton.mp hb]; exact hf
 refine ⟨by simp [R.len], ?_, ?_, ?_⟩
 ·rw [List.nodup_append]; exact ⟨R.nodup, by simp, fun x hx y hy => by rw [List.mem_singleton.mp hy]; intro q; exact hn (q ▸ hx)⟩
 ·intro b hb'
  rcases List.mem_append.mp hb' with q | q
  ·exact R.new b q
  ·rw [List.mem_singleton.mp q]; exact hb
 ·intro n b o e1 e2
  by_cases hlt : n < ρ.length
  ·rw [List.getElem?_append_left hlt] at e1
   rw [List.getElem?_append_left (by rw [← R.len]; exact hlt)] at e2
   exact ObjR.mono (R.obj n b o e1 e2) (KeepF.of_all kp) [a] hfr fun z_ e => kp _ _ e
  ·have hle : ρ.length ≤ n := Nat.le_of_not_lt hlt
   rw [List.getElem?_append_right hle] at e1
   rw [List.getElem?_append_right (by rw [← R.len]; exact hle)] at e2
   have h0 : n - ρ.length = 0 := by
    have := (List.getElem?_eq_some_iff.mp e1).1; simp at this; omega
   rw [h0] at e1
   rw [← R.len, h0] at e2
   simp at e1 e2
   subst e1; subst e2
   exact ei21 x y hl
section
variable {X : Cx} {sc : Scope} {k : Nat}
set_option tactic.hygienic true in
theorem it_enum {f : Str} {p pos : Pos} {e : Expr} {g : Loc → Hp → Res PV} (hf : Names X sc f (.type "enumerate")) (he : SE X sc k e g) (hs : ∀ env, starEach [e] env = [(false, eval e env)]) :
  DoesIt X sc k (.Call (.Name f p) [e] [] pos) (fun loc hp => (runEs [g] loc hp).bind fun vs hp1 => ofOpt (srcOf .enum vs hp1) (srcHp .enum hp1)) := fun A env s ρ loc hp Q E I Rm P => by
 rw [call_name]
 refine wpAny_bind (hf A env s p _ E I.scope I.kind I.glo I.blt I.bk ?_)
 refine callWith_machine rfl (by rw [hs env]; rfl) ?_
 rw [hs env]
 refine evalArgs_plain (spliced_cons ?_)
 refine he A env s ρ loc hp _ E I Rm ?_
 dsimp only at P
 cases hr : g loc hp with
 | bad => simp only [runEs, hr, Res.bind_bad] at P; exact P.elim
 | exc c hp₁ => simp only [runEs, hr, Res.bind_exc] at P; exact P
 | ok p hp₁ =>
  simp only [runEs, hr, Res.bind_ok] at P
  intro v h₁ tk ρ₁ g₁ k₁ r₁ rv
  refine spliced_nil ?_
  cases rv with
  | lst hn =>
   rename_i a n
   cases hl : lstAt hp₁ n with
   | none => simp only [srcOf, srcE, hl] at P; exact P.elim
   | some l =>
    simp only [srcOf, srcE, hl] at P
    refine x13 (r₁.lst hn hl) fun vs il hz rl => ?_
    refine call_enumerate_list (s := { s with heap := h₁, toks := tk }) il.list fun h' he' hit hsz kp => ?_
    refine wpAny_pyIter_enum (s := { s with heap := h', toks := tk }) he' ?_
    have fr0 : ∀ j, h₁.get? (h₁.objs.size + j) = none := fun j => by
     cases q : h₁.get? (h₁.objs.size + j) with
     | none => rfl
     | some o => exact absurd (Heap.lt_size q) (Nat.not_lt.mpr (Nat.le_add_right _ _))
    have fr : ∀ b ∈ [h₁.objs.size + 1, h₁.objs.size], h₁.get? b = none := fun b hb => by
     rcases List.mem_cons.mp hb with rfl | hb
     ·exact fr0 1
     ·rw [List.mem_singleton.mp hb]; exact fr0 0
    refine P _ [h₁.objs.size + 1, h₁.objs.size] h' tk ρ₁ g₁ (k₁.trans g₁ (Keep.of_all kp)) (r₁.keep kp) (fun b hb => ?_) (fun b hb hm => ?_) (.enum (i := 0) hn he' hit (Nat.succ_ne_self _))
    ·by_cases hm : b ∈ ρ
     ·exact nsS (fr b hb) (r₁.old g₁ _ hm)
     ·exact k₁.free hm (fr b hb)
    ·exact nsS (fr b hb) (r₁.isSome _ hm)
  | _ => exact P.elim
theorem sideL_inv {p : PV} {hp : Hp} {a : Src} (h : sideL p hp = some a) : ∃ n l, p = .lst n ∧ lstAt hp n = some l ∧ a = .at n 0 := by
 cases p with
 | lst n =>
  replace h : (match lstAt hp n with | some _ => some (Src.at n 0) | none => none) = some a := h
  cases hl : lstAt hp n with
  | none => rw [hl] at h; exact no h
  | some l => rw [hl] at h; cases h; exact ei23 n l rfl hl rfl
 | _ => exact no h
theorem srcZ_inv {vs : List PV} {hp : Hp} {src : Src} (h : srcOf .zip vs hp = some src) : ∃ p q a b, vs = [p, q] ∧ sideZ p hp = some a ∧ sideL q hp = some b ∧ src = .zip hp.os.length a b := by
 cases vs with
 | nil => exact no h
 | cons p r =>
  cases r with
  | nil => exact no h
  | cons q r =>
   cases r with
   | cons _ _ => exact no h
   | nil =>
    refine x12 (Option.bind_eq_some_iff.mp (show ((sideZ p hp).bind fun a => (sideL q hp).bind fun b => some (Src.zip hp.os.length a b)) = some src from h)) fun a h1 h => ?_
    refine x12 (Option.bind_eq_some_iff.mp h) fun b h2 h => ?_
    cases h
    exact ei44 p q a b rfl h1 h2 rfl
theorem it_zip {f : Str} {p pos : Pos} {e e' : Expr} {g g' : Loc → Hp → Res PV} (hf : Names X sc f (.type "zip")) (he : SE X sc k e g) (he' : SE X sc k e' g') (hs : ∀ env, starEach [e, e'] env = [(false, eval e env), (false, eval e' env)]) :
  DoesIt X sc k (.Call (.Name f p) [e, e'] [] pos) (fun loc hp => (runEs [g, g'] loc hp).bind fun vs hp1 => ofOpt (srcOf .zip vs hp1) (srcHp .zip hp1)) := fun A env s ρ loc hp Q E I Rm P => by
 rw [call_name]
 refine wpAny_bind (hf A env s p _ E I.scope I.kind I.glo I.blt I.bk ?_)
 refine callWith_machine rfl (by rw [hs env]; rfl) ?_
 rw [hs env]
 refine evalArgs_plain (spliced_cons ?_)
 refine wpAny_pos Rm.pos (he A env s ρ loc hp _ _ I Rm ?_)
 dsimp only at P
 cases hr : g loc hp with
 | bad => simp only [runEs, hr, Res.bind_bad] at P; exact P.elim
 | exc c hp₁ => simp only [runEs, hr, Res.bind_exc] at P; exact fun e hr' h' tk' ρ' gr kk rr fl z_ => P e hr' h' tk' ρ' gr kk rr fl
 | ok p hp₁ =>
  simp only [runEs, hr, Res.bind_ok] at P
  intro v h₁ tk ρ₁ g₁ k₁ r₁ rv hpos₁
  have I₁ := I.after g₁ k₁ r₁
  refine spliced_cons ?_
  refine he' A env { s with heap := h₁, toks := tk } ρ₁ loc hp₁ _ E I₁ (Rm.after g₁ k₁ hpos₁) ?_
  cases hr' : g' loc hp₁ with
  | bad => simp only [hr', Res.bind_bad] at P; exact P.elim
  | exc c hp₂ =>
   simp only [hr', Res.bind_exc] at P
   exact fun e hr' h' tk' ρ' gr kk rr fl => P e hr' h' tk' ρ' (Grow.trans k₁ (r₁.old g₁) g₁ gr) (k₁.trans g₁ kk) rr fl
  | ok q hp₂ =>
   simp only [hr', Res.bind_ok] at P
   intro v' h₂ tk₂ ρ₂ g₂ k₂ r₂ rv'
   refine spliced_nil ?_
   have rv₂ := rv.grow (r₁.keepF k₂) g₂
   have gr : Grow ρ ρ₂ s.heap := Grow.trans k₁ (r₁.old g₁) g₁ g₂
   have kk : Keep X ρ s.heap h₂ := k₁.trans g₁ k₂
   have fr : ∀ j, h₂.get? (h₂.objs.size + j) = none := fun j => by
    cases q : h₂.get? (h₂.objs.size + j) with
    | none => rfl
    | some o => exact absurd (Heap.lt_size q) (Nat.not_lt.mpr (Nat.le_add_right _ _))
   have frs : ∀ j, s.heap.get? (h₂.objs.size + j) = none := fun j => by
    by_cases hm : (h₂.objs.size + j) ∈ ρ
    ·exact nsS (fr j) (r₂.old gr _ hm)
    ·exact kk.free hm (fr j)
   cases hZ : srcOf .zip [p, q] hp₂ with
   | none => rw [hZ] at P; exact P.elim
   | some sz =>
   rw [hZ] at P
   refine x44 (srcZ_inv hZ) fun z_ z_ sa sb hpq ha hb zq6 => ?_
   subst zq6
   cases hpq
   have fin : ∀ h' : Heap, IsZip h' (h₂.objs.size + 4) (h₂.objs.size + 2) (h₂.objs.size + 3) .none → IsPair h' (h₂.objs.size + 2) (.ref h₂.objs.size) (.ref (h₂.objs.size + 1)) →
     IsPair h' (h₂.objs.size + 3) .none .none → (∀ c o, h₂.get? c = some o → h'.get? c = some o) → In X (ρ₂ ++ [h₂.objs.size + 3]) h' h₂.objs.size sa → In X (ρ₂ ++ [h₂.objs.size + 3]) h' (h₂.objs.size + 1) sb →
     wpAny X.M A (pyIter (.ref (h₂.objs.size + 4))) Q E { s with heap := h', toks := tk₂ } := by
    intro h' hz hTI hTO kp xa xb
    refine wpAny_pyIter_zip (s := { s with heap := h', toks := tk₂ }) hz ?_
    have nin : ∀ j, j ≠ 3 → (h₂.objs.size + j) ∉ ρ₂ ++ [h₂.objs.size + 3] := fun j hj hm => by
     rcases List.mem_append.mp hm with q | q
     ·exact r₂.free (fr j) q
     ·exact hj (Nat.add_left_cancel (List.mem_singleton.mp q))
    have hw : ∀ b ∈ [h₂.objs.size + 4, h₂.objs.size + 2, h₂.objs.size, h₂.objs.size + 1], ∃ j, j ≠ 3 ∧ b = h₂.objs.size + j := fun b hb => by
     simp only [List.mem_cons, List.not_mem_nil, or_false] at hb
     rcases hb with rfl | rfl | rfl | rfl
     ·exact ei12 4 (by decide) rfl
     ·exact ei12 2 (by decide) rfl
     ·exact ei12 0 (by decide) rfl
     ·exact ei12 1 (by decide) rfl
    have gr' : Grow ρ (ρ₂ ++ [h₂.objs.size + 3]) s.heap := by
     revert gr; refine y12 fun ex zq5 hx => ?_
     subst zq5
     exact ei12 (ex ++ [h₂.objs.size + 3]) (by rw [List.append_assoc]) (fun a ha => by
      rcases List.mem_append.mp ha with q | q
      ·exact hx a q
      ·rw [List.mem_singleton.mp q]; exact frs 3)
    refine P _ [h₂.objs.size + 4, h₂.objs.size + 2, h₂.objs.size, h₂.objs.size + 1] h' tk₂ (ρ₂ ++ [h₂.objs.size + 3]) gr' (kk.trans gr (Keep.of_all kp)) (r₂.newOwn (fr 3) ((I₁.after g₂ k₂ r₂).bk.free (fr 3)) kp hTO)
     (fun b hb => by refine x12 (hw b hb) fun j z_ zq4 => ?_; subst zq4; exact frs j) (fun b hb => by refine x12 (hw b hb) fun j hj zq3 => ?_; subst zq3; exact nin j hj)
     (.zip ⟨hz, hTI, ?_, xa, xb, nin 4 (by decide), nin 2 (by decide), nin 0 (by decide), nin 1 (by decide), (Nat.succ_ne_self _).symm⟩)
    rw [← r₂.len, List.getElem?_append_right (Nat.le_refl _), Nat.sub_self]; rfl
   have hap : ∀ {n : Nat} {a : Addr}, ρ₂[n]? = some a → (ρ₂ ++ [h₂.objs.size + 3])[n]? = some a := fun hn => by
    rw [List.getElem?_append_left (List.getElem?_eq_some_iff.mp hn).1]; exact hn
   have hfr3 : Frees [h₂.objs.size + 3] h₂ := Frees.of_none fun b hb => by rw [List.mem_singleton.mp hb]; exact fr 3
   clear P hZ
   refine x23 (sideL_inv hb) fun n' l' zq1 hl' zq2 => ?_
   subst zq1
   subst zq2
   cases rv' with
   | lst hn' =>
    refine x13 (r₂.lst hn' hl') fun vs' il' hz' rl' => ?_
    obtain ⟨n, l, rfl, hl, rfl⟩ := sideL_inv ha
    cases rv₂ with
    | lst hn =>
     obtain ⟨vs, il, hz, rl⟩ := r₂.lst hn hl
     refine call_zip_2 (s := { s with heap := h₂, toks := tk₂ }) il.list il'.list fun h' c1 c2 c3 c4 c5 c6 kp => ?_
     exact fin h' c1 c2 c3 kp (.at (hap hn) c4) (.at (hap hn') c5)
end
end Mine
end
section
namespace Mine
open PySem PySem.Calls PyProof.Rows PySem.SeqAt
section
variable {prog : Program} {w : World} {A : Around} {E : Value → Shared → Prop} {s : Shared}
theorem setItem_at {l : Addr} {items : Array Value} {n : Nat} {k : Int} {t : Tok} {v : Value} {Q : Unit → Shared → Prop} (ho : s.heap.get? l = some { cls := .type "list", dict := none, data := .seq items n, slots := #[] })
  (h0 : 0 ≤ k) (hfit : k < 2 ^ 63) (hn : k < items.size) (hQ : Q () { s with heap := s.heap.update l (Obj.mapSeq (·.setIfInBounds k.toNat v)) }) : wpAny (model prog w) A (setItem (.ref l) (.int k t) v) Q E s := by
 have hl : s.heap.IsList l items := ⟨_, ho, rfl, n, rfl⟩
 unfold setItem
 try with_reducible refine wpAny_holding ?_
 first | refine wpAny_bind (wpAny_pure ?_) | skip
 refine wpAny_bind (wpAny_sequenceKey hl.typeIs (by decide) ?_)
 refine wpAny_bind (wpAny_callSpecial?_slot (name := Str.ofString "__setitem__") hl.typeIs slot_list_setitem
  (wpAny_call_entry slot_list_setitem hl.typeIs entry_list_setitem ?_ (args_list_setitem _ _ _)))
 show wpAny _ _ (Builtin.List.listSubscript? (.int k t) >>= _) _ _ s
 refine wpAny_bind (wpAny_listSubscript_int (fitsIndex_of h0 hfit) ?_)
 clear hfit
 refine x11 (Int.eq_ofNat_of_zero_le h0) fun j zq3 => ?_
 subst zq3
 have hj : j < items.size := by omega
 have hx' : items[j]? = some items[j] := Array.getElem?_eq_getElem hj
 show wpAny _ _ ((seqItemAt l j >>= fun r => pure (r.map (j, ·))) >>= _) _ _ s
 refine wpAny_bind (wpAny_bind (wpAny_seqItemAt ho rfl (wpAny_pure ?_)))
 rw [hx']
 show wpAny _ _ (setSeqItemAt l j v >>= _) _ _ s
 refine wpAny_bind (wpAny_setSeqItemAt ho rfl ?_)
 first
  | exact wpAny_bind (wpAny_pure (wpAny_pure ⟨.none, rfl, wpAny_pure hQ⟩))
  | exact wpAny_pure ⟨.none, rfl, wpAny_pure hQ⟩
end
section
variable {X : Cx} {sc : Scope} {k : Nat}
set_option tactic.hygienic true in
theorem sx_store {o i e : Expr} {p' pos : Pos} {f g h : Loc → Hp → Res PV} (he : SE X sc k e f) (hc : isComp e = false) (ho : SE X sc k o g) (hi : SE X sc k i h) :
  DoesS X sc k (exec (.Assign [.Subscript o i p'] e pos)) (fun loc hp => (f loc hp).stm loc fun v hp1 => (g loc hp1).stm loc fun a hp2 => (h loc hp2).stm loc fun kk hp3 => match storeAt a kk v hp3 with
   | some hp4 => .nxt loc hp4
   | none => .bad) := fun A env s ρ loc hp Q E Ft I Rm P => by
 refine wpAny_Assign_Subscript (wp_stm he I Rm P fun v pv s₁ ρ₁ hp₁ I₁ g₁ k₁ rv e₁ P₁ Rm => wp_stm ho I₁ Rm P₁ fun a pa s₂ ρ₂ hp₂ I₂ g₂ k₂ ra e₂ P₂ Rm => wp_stm hi I₂ Rm P₂ fun x px s₃ ρ₃ hp₃ I₃ g₃ k₃ rx e₃ P₃ Rm => ?_) (swaps_no hc)
 have rv₃ := (rv.grow (I₁.rep.keepF k₂) g₂).grow (I₂.rep.keepF k₃) g₃
 have ra₃ := ra.grow (I₂.rep.keepF k₃) g₃
 unfold storeAt at P₃
 cases ra₃ with
 | lst hn =>
  rename_i t n
  cases rx with
  | int j tok =>
   dsimp only at P₃
   cases hl : lstAt hp₃ n with
   | none => rw [hl] at P₃; exact P₃.elim
   | some l =>
    rw [hl] at P₃
    dsimp only at P₃
    by_cases hj : 0 ≤ j ∧ j < l.length
    ·rw [if_pos hj] at P₃
     refine x13 (I₃.rep.lst hn hl) fun vs zq2 hz rl => ?_
     obtain ⟨ne, hob⟩ := zq2
     have hlen := VRs.length rl
     refine x11 (Int.eq_ofNat_of_zero_le hj.1) fun m zq1 => ?_
     subst zq1
     have hm : m < vs.length := by omega
     have hz' := hz
     rw [sizeLine_eq] at hz'
     refine setItem_at hob hj.1 (by omega) (by rw [List.size_toArray]; exact (Int.ofNat_lt.mpr hm)) ?_
     cases hs : setObj n (.list (l.set (m : Int).toNat pv)) hp₃ with
     | none => rw [hs] at P₃; exact P₃.elim
     | some hp₄ =>
      rw [hs] at P₃
      unfold setObj at hs
      split at hs
      ·cases hs
       have hk : ∀ b o, s₃.heap.get? b = some o → b ≠ t → (s₃.heap.update t (Obj.mapSeq (·.setIfInBounds (m : Int).toNat v))).get? b = some o := fun b o eb hb => by
        rw [Heap.get?_update_other _ _ (Ne.symm hb)]; exact eb
       have kf : KeepF ρ₃ s₃.heap (s₃.heap.update t (Obj.mapSeq (·.setIfInBounds (m : Int).toNat v))) := fun b o eb z_ hf => hk b o eb fun q => by
        subst q; obtain rfl := Option.some.inj (hob.symm.trans eb); exact Fixed.not rfl (by decide) (by decide) hf
       have hnew : LI (s₃.heap.update t (Obj.mapSeq (·.setIfInBounds (m : Int).toNat v))) t (vs.set (m : Int).toNat v).toArray := by
        have hg := Heap.get?_update_self (fun o => Obj.mapSeq (·.setIfInBounds (m : Int).toNat v) o) hob rfl
        have he : (vs.set (m : Int).toNat v).toArray = vs.toArray.setIfInBounds (m : Int).toNat v := by simp
        rw [he]
        exact ei11 _ hg
       have kp : Keep X ρ₃ s₃.heap (s₃.heap.update t (Obj.mapSeq (·.setIfInBounds (m : Int).toNat v))) := .of_off fun b o eb hb => hk b o eb fun q => hb (q ▸ List.mem_of_getElem? hn)
       have R' := I₃.rep.set hn kf hk hnew (by rw [List.length_set]; exact hz) ((rl.set (m : Int).toNat rv₃).keepF kf)
       exact P₃ _ s₃.toks ρ₃ (Grow.refl _ _) kp.s (I₃.after (Grow.refl _ _) kp R')
      ·cases hs
    ·rw [if_neg hj] at P₃; exact P₃.elim
  | _ => exact P₃.elim
 | _ => exact P₃.elim
end
end Mine
end
section
namespace Mine
open PySem PySem.Calls PyProof.Rows PySem.SeqAt
structure RackOk (X : Cx) (ms : List (Str × Nat)) : Prop where
 cls : ∃ N mN, PyProof.Rows.ClsAt X.base (X.ca 9) N mN ∧ mN "__setattr__" = none ∧ mN "__getattribute__" = none ∧ mN "__getattr__" = none ∧ (∀ s ∈ attNames, mN s = none) ∧
  ∀ s i, ms.lookup s = some i → mN s = some (.ref (X.fa i)) ∧ ∃ o fd, X.base.get? (X.fa i) = some o ∧ o.cls = .type "function" ∧ o.data = .func fd
theorem att_plain : ∀ s ∈ attNames, typeLookup (.type "object") s = pure none :=
 List.forall_mem_cons.mpr ⟨by rw [typeLookup_type, builtinLookup_eq_fast]; kernel_rfl, List.forall_mem_cons.mpr ⟨by rw [typeLookup_type, builtinLookup_eq_fast]; kernel_rfl, List.forall_mem_cons.mpr ⟨by rw [typeLookup_type, builtinLookup_eq_fast]; kernel_rfl, List.forall_mem_nil _⟩⟩⟩
theorem tabOf_inv {p : PV} {hp : Hp} {d : Nat} {l : Loc} (h : tabOf p hp = some (d, l)) : ∃ n, p = .lst n ∧ hp.os[n]? = some (.inst d) ∧ hp.os[d]? = some (.attrs l) := by
 refine x12 (Option.bind_eq_some_iff.mp h) fun n h1 h => ?_
 refine x12 (Option.bind_eq_some_iff.mp h) fun d' h2 h => ?_
 refine x12 (Option.bind_eq_some_iff.mp h) fun l' h3 h => ?_
 cases h
 refine ei13 n (asL_inv h1) ?_ ?_
 ·unfold instAt at h2
  split at h2
  ·cases h2; assumption
  ·cases h2
 ·unfold attrsAt at h3
  split at h3
  ·cases h3; assumption
  ·cases h3
theorem VR.handed {X : Cx} {ρ : List Addr} {h : Heap} {v : Value} {p : PV} (r : VR X ρ h v p) : handedOut v = pure v := by cases r <;> rfl
theorem InstR.inst {X : Cx} {h : Heap} {x dx : Addr} {mA : Str → Option Value} (r : InstR X h x dx) (h1 : h.Ns1 dx mA) (h2 : h.ExactDictFk dx) : h.InstFk x (X.ca 9) mA := by
 obtain ⟨hne, o, e, hc, hd, hn⟩ := r
 exact ei14 o e hc hn (.inr ⟨dx, hd, hne, h1, h2⟩)
section
variable {X : Cx} {sc : Scope} {k : Nat} {ms : List (Str × Nat)}
theorem tab_ok1 {ρ : List Addr} {hp : Hp} {h : Heap} {v : Value} {p : PV} {d : Nat} {l : Loc} (R : RepH X ρ hp h) (r : VR X ρ h v p) (ht : tabOf p hp = some (d, l)) :
  ∃ x dx, v = .ref x ∧ x ∈ ρ ∧ ρ[d]? = some dx ∧ InstR X h x dx ∧ AttR X ρ h dx l := by
 refine x13 (tabOf_inv ht) fun n zq6 h1 h2 => ?_
 subst zq6
 refine x12 r.lst_inv fun x zq5 hn => ?_
 subst zq5
 refine x12 (R.obj n x _ hn h1) fun dx hd hI => ?_
 exact ei25 x dx rfl (List.mem_of_getElem? hn) hd hI (R.obj d dx _ hd h2)
theorem se_attr {o : Expr} {pos : Pos} {kk : Nat} {f : Loc → Hp → Res PV} (RO : RackOk X ms) (hn : X.nm kk ∈ attNames) (h1 : plainBase o = true) (ho : SE X sc k o f) :
  SE X sc k (.Attribute o (X.nm kk) pos) (fun loc hp => (f loc hp).bind fun a hp1 => ofOpt (attrOf a kk hp1) hp1) := fun A env s ρ loc hp Q E I Rm P => by
 rw [arm_eval_Attribute, attributeBase_plain h1]
 refine wpAny_bind (wp_seq ho I Rm P fun va a s₁ ρ₁ hp₁ I₁ g₁ k₁ ra e₁ P₁ Rm => wpAny_bind (wpAny_standAt (wpAny_bind (wpAny_holding ?_))))
 refine x12 (Post.opt P₁) fun p hp' P₂ => ?_
 refine x12 (Option.bind_eq_some_iff.mp hp') fun zq4 ht hg => ?_
 obtain ⟨d, l⟩ := zq4
 obtain ⟨x, dx, rfl, _, _, hI, mA, a1, a2, a3, a4⟩ := tab_ok1 I₁.rep ra ht
 refine x12 (a4 kk p hg) fun v e1 rv => ?_
 refine x26 RO.cls fun N mN CA z_ q2 z_ q4 z_ => ?_
 obtain ⟨nm, q, bs, sn, sub, col, dd, k0, k1, k2, k3, k5, hC⟩ := (CA.keeps I₁.bk).obj
 exact load_attrFk hC (CA.keeps I₁.bk).ns q2 (q4 _ hn) (att_plain _ hn) (hI.inst a1 a2) e1 rv.handed (wpAny_bind (wpAny_letTemporaryGo (wpAny_pure (Post.same I₁.rep P₂ v (s₁.toks + 1) rv))))
theorem swaps_att {value o : Expr} {a : Str} {p : Pos} {n : Nat} {env : Env} : swapsWith value (some (.Attribute o a p)) n env = pure false := by cases value <;> rfl
theorem obj_ext {a b : Obj} (c : a.cls = b.cls) (d : a.data = b.data) (s : a.slots = b.slots) (e : a.dict = b.dict) : a = b := by
 cases a; cases b; cases c; cases d; cases s; cases e; rfl
theorem sx_setA {o e : Expr} {p' pos : Pos} {kk : Nat} {f g : Loc → Hp → Res PV} (RO : RackOk X ms) (hn : X.nm kk ∈ attNames) (he : SE X sc k e f) (ho : SE X sc k o g) :
  DoesS X sc k (exec (.Assign [.Attribute o (X.nm kk) p'] e pos)) (fun loc hp => (f loc hp).stm loc fun v hp1 => (g loc hp1).stm loc fun a hp2 => match putAttr a kk v hp2 with
   | some hp3 => .nxt loc hp3
   | none => .bad) := fun A env s ρ loc hp Q E Ft I Rm P => by
 refine plainObj_wpAny_Assign_Attribute (wp_stm he I Rm P fun v pv s₁ ρ₁ hp₁ I₁ g₁ k₁ rv e₁ P₁ Rm => wp_stm ho I₁ Rm P₁ fun a pa s₂ ρ₂ hp₂ I₂ g₂ k₂ ra e₂ P₂ Rm => ?_) swaps_att
 have rv₂ := rv.grow (I₁.rep.keepF k₂) g₂
 cases hs : putAttr pa kk pv hp₂ with
 | none => rw [hs] at P₂; exact P₂.elim
 | some hp₃ =>
  rw [hs] at P₂
  dsimp only at P₂
  refine x12 (Option.bind_eq_some_iff.mp hs) fun zq3 ht hs => ?_
  obtain ⟨d, l⟩ := zq3
  obtain ⟨x, dx, rfl, hxρ, hd, hI, mA, a1, a2, a3, a4⟩ := tab_ok1 I₂.rep ra ht
  refine x26 RO.cls fun N mN CA q1 z_ z_ q4 z_ => ?_
  obtain ⟨nm, q, bs, sn, sub, col, dd, k0, k1, k2', k3, k5, hC⟩ := (CA.keeps I₂.bk).obj
  have hdρ : dx ∈ ρ₂ := List.mem_of_getElem? hd
  have hxC : x ≠ X.ca 9 := fun q => by
   obtain ⟨_, _, _, _, _, _, _, _, _, _, _, _, hb⟩ := CA.obj
   rw [← q, I₂.rep.new x hxρ] at hb; cases hb
  refine store_attrFk (ns := attNames) PySem.F.store_object hC (CA.keeps I₂.bk).ns q1 (q4 _ hn) (att_plain _ hn) hxC (hI.inst a1 a2) (fun h' tk' I' hk hsame => ?_) a3 (by rw [sizeLine_eq]; decide)
  obtain ⟨hne, ox, hx, hc, hdict, hnc⟩ := hI
  have hx' : h'.get? x = some ox := by
   refine x15 (hsame ox hx) fun o₁ e1 c1 d1 s1 dk => ?_
   rw [e1, obj_ext c1 d1 s1 ((dk dx hdict).trans hdict.symm)]
  have kk' : ∀ b o, s₂.heap.get? b = some o → b ≠ dx → h'.get? b = some o := fun b o e hb => by
   by_cases hbx : b = x
   ·subst hbx; obtain rfl := Option.some.inj ((show s₂.heap.get? b = some ox from hx).symm.trans e); exact hx'
   ·exact hk b o hbx (fun o₀ d' e₀ ed => by
     obtain rfl := Option.some.inj ((show s₂.heap.get? x = some ox from hx).symm.trans e₀)
     obtain rfl := Option.some.inj (hdict.symm.trans ed); exact hb) e
  have kf : KeepF ρ₂ s₂.heap h' := fun b o e hb z_ => kk' b o e fun q => hb (q ▸ hdρ)
  revert I'; refine y14 fun oI eI z_ z_ hdI => ?_
  obtain rfl := Option.some.inj (hx'.symm.trans eI)
  rcases hdI with ⟨hn0, _⟩ | ⟨d', hd', _, hns', hex'⟩
  ·rw [hdict] at hn0; cases hn0
  ·obtain rfl := Option.some.inj (hdict.symm.trans hd')
   unfold setObj at hs
   split at hs
   ·cases hs
    have hO : ObjR X ρ₂ h' dx (.attrs (putv l kk pv)) := by
     refine ei14 _ hns' hex' (fun y hy => ?_) (fun j p hj => ?_)
     ·by_cases q : y = X.nm kk
      ·rw [q]; exact hn
      ·exact a3 y (by rw [if_neg q] at hy; exact hy)
     ·rw [getv_putv] at hj
      by_cases q : j = kk
      ·obtain rfl := Option.some.inj ((if_pos q).symm.trans hj)
       exact ei12 v (if_pos (by rw [q])) (rv₂.keepF kf)
      ·rw [if_neg q] at hj
       refine x12 (a4 j p hj) fun w w1 w2 => ?_
       exact ei12 w ((if_neg fun z => q (I.inj _ _ z)).trans w1) (w2.keepF kf)
    have R' := I₂.rep.setObj hd kf kk' hO
    have hK : Keep X ρ₂ s₂.heap h' := .of_off fun b o e hb => kk' b o e fun q => hb (q ▸ hdρ)
    exact P₂ h' tk' ρ₂ (Grow.refl _ _) hK.s (I₂.after (Grow.refl _ _) hK R')
   ·cases hs
theorem se_mk {MP : MProg} {C : Caller} {i : Nat} {x : Str} {p pos : Pos} {es : List Expr} {fs : List (Loc → Hp → Res PV)} (HC : CallOk X MP k C) (RO : RackOk X ms) (hi : ms.lookup ("__init__" : Str) = some i) (hx : Names X sc x (.ref (X.ca 9))) (h : SEs X sc k es fs) (hne : es ≠ []) :
  SE X sc k (.Call (.Name x p) es [] pos) (fun loc hp => (runEs fs loc hp).bind fun vs hp1 => (C i (.lst hp1.os.length :: vs) (newInst hp1)).bind fun r hp2 => if isNone r then .ok (.lst hp1.os.length) hp2 else .bad) := fun A env s ρ loc hp Q E I Rm P => by
 rw [call_name]
 refine wpAny_bind (hx A env s p _ E I.scope I.kind I.glo I.blt I.bk ?_)
 refine x26 RO.cls fun N mN CA z_ z_ z_ z_ q5 => ?_
 obtain ⟨hmi, oI, fd, hoI, hcI, _⟩ := q5 _ _ hi
 cases h with
 | nil => exact absurd rfl hne
 | cons he hs r =>
  refine callWith_cls CA (wp_seq (do_spliced (pos := pos) (SEs.cons he hs r)) I Rm P fun vs ps s₁ ρ₁ hp₁ I₁ g₁ k₁ rs e₁ P₁ Rm => ⟨I₁.bk, ?_⟩) (hs env) (SEs.plain r pos env)
  obtain ⟨nm, q, bs, sn, sub, col, dd, k0, k1, k2', k3, k5, hC⟩ := (CA.keeps I₁.bk).obj
  refine wpAny_call_obj_initFk PySem.F.objNew hC (CA.keeps I₁.bk).ns hmi (I₁.bk _ _ hoI) hcI fun h' x' dx Mk => ?_
  refine x14 Mk.inst fun ox hox hcx hncx hdx => ?_
  have hdd := Mk.dict ox hox
  refine x03 (by
   rcases hdx with ⟨hn0, _⟩ | ⟨d', hd', a1, a2, a3⟩
   ·exact no (hn0.symm.trans hdd)
   ·obtain rfl := Option.some.inj (hd'.symm.trans hdd); exact ⟨a1, a2, a3⟩ : dx ≠ x' ∧ h'.Ns1 dx (fun z_ => none) ∧ h'.ExactDictFk dx) fun hne' hns hex => ?_
  have hl0 : (ρ₁ ++ [x', dx])[hp₁.os.length]? = some x' := by rw [← I₁.rep.len, List.getElem?_append_right (Nat.le_refl _), Nat.sub_self]; rfl
  have hl1 : (ρ₁ ++ [x', dx])[hp₁.os.length + 1]? = some dx := by rw [← I₁.rep.len, List.getElem?_append_right (Nat.le_add_right _ 1), Nat.add_sub_cancel_left]; rfl
  have R₂ : RepH X (ρ₁ ++ [x', dx]) (newInst hp₁) h' := I₁.rep.new2 I₁.bk Mk.keeps Mk.newX Mk.newD (Ne.symm hne') ⟨dx, hl1, hne', ox, hox, hcx, hdd, hncx⟩ ⟨_, hns, hex, fun y hy => absurd rfl hy, fun j p e => by cases e⟩
  have g₂ : Grow ρ₁ (ρ₁ ++ [x', dx]) s₁.heap := ⟨[x', dx], rfl, fun z hz => by
   rcases List.mem_cons.mp hz with q | q
   ·rw [q]; exact Mk.newX
   ·rw [List.mem_singleton.mp q]; exact Mk.newD⟩
  have kA : Keep X ρ₁ s₁.heap h' := Keep.of_all Mk.keeps
  have P₂ := Post.later (tk := s₁.toks) I₁.rep R₂ g₂ kA (R₂.old g₂) P₁
  refine HC.run A _ { s₁ with heap := h' } (ρ₁ ++ [x', dx]) (newInst hp₁) i (.ref x' :: vs) (.lst hp₁.os.length :: ps) _ E (I₁.bk.keep I₁.rep kA) R₂ (.cons (.lst hl0) (VRs.grow rs (KeepF.of_all Mk.keeps) g₂)) ⟨rfl, rfl, Nat.le_refl _, by show A.units + 1 ≤ _; omega⟩ (Rm.after g₂ kA Rm.pos) ?_
  cases hr : C i (.lst hp₁.os.length :: ps) (newInst hp₁) with
  | bad => rw [hr] at P₂; exact P₂.elim
  | exc c hp₂ => rw [hr] at P₂; exact P₂
  | ok r hp₂ =>
   rw [hr, Res.bind_ok] at P₂
   intro v h₃ tk₃ ρ₃ g₃ k₃ R₃ rv
   cases rv with
   | none =>
    refine ⟨rfl, P₂ (.ref x') h₃ tk₃ ρ₃ g₃ k₃ R₃ (.lst ?_)⟩
    revert g₃; refine y12 fun ex zq2 z_ => ?_
    subst zq2
    exact (List.getElem?_append_left (List.getElem?_eq_some_iff.mp hl0).1).trans hl0
   | _ => exact P₂.elim
set_option tactic.hygienic true in
theorem se_mcall {MP : MProg} {C : Caller} {i : Nat} {o : Expr} {name : Str} {apos pos : Pos} {es : List Expr} {f : Loc → Hp → Res PV} {fs : List (Loc → Hp → Res PV)} (HC : CallOk X MP k C) (RO : RackOk X ms) (hm : ms.lookup name = some i) (hna : name ∉ attNames)
  (h1 : plainBase o = true) (h2 : (apos.endLine == pos.line) = true) (h3 : es.length < 30) (ho : SE X sc k o f) (h : SEs X sc k es fs) :
  SE X sc k (.Call (.Attribute o name apos) es [] pos) (fun loc hp => (f loc hp).bind fun a hp1 => if (tabOf a hp1).isSome then (runEs fs loc hp1).bind fun vs hp2 => C i (a :: vs) hp2 else .bad) := fun A env s ρ loc hp Q E I Rm P => by
 rw [eval_method h1 h2 (h.form pos env h3)]
 refine wpAny_bind (wp_seq ho I Rm P fun va a s₁ ρ₁ hp₁ I₁ g₁ k₁ ra e₁ P₁ Rm => wpAny_bind (wpAny_standAt (wpAny_bind (wpAny_holding ?_))))
 split at P₁
 ·rename_i hr
  refine x11 (Option.isSome_iff_exists.mp hr) fun zq1 ht => ?_
  obtain ⟨d, l⟩ := zq1
  obtain ⟨x, dx, rfl, _, _, hI, mA, a1, a2, a3, a4⟩ := tab_ok1 I₁.rep ra ht
  refine x26 RO.cls fun N mN CA z_ q2 q3 z_ q5 => ?_
  obtain ⟨hmi, oI, fd, hoI, hcI, hdI⟩ := q5 _ _ hm
  obtain ⟨nm, q, bs, sn, sub, col, dd, k0, k1, k2', k3, k5, hC⟩ := (CA.keeps I₁.bk).obj
  refine method_ofFk hC (CA.keeps I₁.bk).ns q2 q3 hmi (I₁.bk _ _ hoI) hcI (typeLookup_type _ _) (hI.inst a1 a2) ?_ ?_
  ·cases q : mA name with
   | none => rfl
   | some v => exact absurd (a3 name (by rw [q]; exact fun z => by cases z)) hna
  ·refine callWith_function (o := oI) (fd := fd) (args_ok h I₁ Rm P₁ fun vs ps s₂ ρ₂ hp₂ I₂ g₂ k₂ rs e₂ P₂ Rm => ⟨⟨I₂.bk _ _ hoI, hdI⟩, ?_⟩)
   exact HC.run A A s₂ ρ₂ hp₂ i (.ref x :: vs) (a :: ps) Q E I₂.bk I₂.rep (.cons (ra.grow (I₁.rep.keepF k₂) g₂) rs) (.refl A) Rm P₂
 ·exact P₁.elim
end
end Mine
end
section
namespace Mine
open PySem PySem.Calls PyProof.Rows PySem.SeqAt
structure Tab where
 names : List Str
 globs : List (Str × PV)
 meths : List (Str × Nat)
noncomputable def numFrom (s : Str) : List Str → Nat → Option Nat
 | [], _ => none
 | x :: r, i => if x = s then some i else numFrom s r (i + 1)
noncomputable def Tab.num (t : Tab) (s : Str) : Option Nat := numFrom s t.names 0
noncomputable def isLoc (sc : Scope) (s : Str) : Bool := match sc.names.lookup s with
 | some .local => true
 | some .cell => true
 | _ => false
theorem isLoc_iff {sc : Scope} {s : Str} (h : isLoc sc s = true) : sc.names.lookup s = some .local ∨ sc.names.lookup s = some .cell := by
 unfold isLoc at h
 split at h
 ·exact .inl ‹_›
 ·exact .inr ‹_›
 ·cases h
noncomputable def isGlob (sc : Scope) (s : Str) : Bool := match sc.names.lookup s with
 | some .globalImplicit => true
 | _ => false
theorem isGlob_iff {sc : Scope} {s : Str} (h : isGlob sc s = true) : sc.names.lookup s = some .globalImplicit := by
 unfold isGlob at h
 split at h
 ·assumption
 ·cases h
noncomputable def bvals : List (Str × Value) := [("len", .builtin "len"), ("range", .type "range"), ("tuple", .type "tuple"), ("list", .type "list"), ("all", .builtin "all"), ("abs", .builtin "abs"), ("int", .type "int"), ("sorted", .builtin "sorted"), ("min", .builtin "min"),
 ("max", .builtin "max"), ("str", .type "str"), ("bool", .type "bool"), ("isinstance", .builtin "isinstance"), ("reversed", .type "reversed"), ("enumerate", .type "enumerate"), ("zip", .type "zip")
 ,
 ("ValueError", .type "ValueError")
 ]
noncomputable def bfTab : List (Str × Nat × Bf) := [("len", 0, .len), ("range", 1, .range1), ("range", 2, .range2), ("range", 3, .range3), ("tuple", 0, .tuple), ("list", 0, .list), ("all", 0, .all), ("abs", 0, .abs), ("int", 0, .int), ("sorted", 0, .sorted), ("min", 0, .min)]
noncomputable def bfOf (s : Str) (n : Nat) : Option Bf := (bfTab.find? fun q => q.1 == s && (q.2.1 == 0 || q.2.1 == n)).map (·.2.2)
theorem bfOf_val {s : Str} {n : Nat} {b : Bf} (h : bfOf s n = some b) : bvals.lookup s = some (bfVal b) := by
 unfold bfOf at h
 refine x12 (Option.map_eq_some_iff.mp h) fun q hq zq5 => ?_
 subst zq5
 have h1 := List.find?_some hq
 have h2 := List.mem_of_find?_eq_some hq
 have e : q.1 = s := by
  have := (Bool.and_eq_true_iff.mp h1).1
  exact eq_of_beq this
 rw [← e]
 have key : ∀ q ∈ bfTab, bvals.lookup q.1 = some (bfVal q.2.2) := List.forall_mem_cons.mpr ⟨by kernel_rfl, List.forall_mem_cons.mpr ⟨by kernel_rfl, List.forall_mem_cons.mpr ⟨by kernel_rfl, List.forall_mem_cons.mpr ⟨by kernel_rfl, List.forall_mem_cons.mpr ⟨by kernel_rfl, List.forall_mem_cons.mpr ⟨by kernel_rfl, List.forall_mem_cons.mpr ⟨by kernel_rfl, List.forall_mem_cons.mpr ⟨by kernel_rfl, List.forall_mem_cons.mpr ⟨by kernel_rfl, List.forall_mem_cons.mpr ⟨by kernel_rfl, List.forall_mem_cons.mpr ⟨by kernel_rfl, List.forall_mem_nil _⟩⟩⟩⟩⟩⟩⟩⟩⟩⟩⟩
 exact key q h2
noncomputable def tyTab : List (Str × Ty) := [("int", .int), ("bool", .bool), ("tuple", .tuple), ("list", .list)]
noncomputable def tyOf (s : Str) : Option Ty := (tyTab.find? fun q => q.1 == s).map (·.2)
theorem tyOf_B {s : Str} {t : Ty} (h : tyOf s = some t) : tyIsB t = true := by
 unfold tyOf at h
 refine x12 (Option.map_eq_some_iff.mp h) fun q hq zq4 => ?_
 subst zq4
 have key : ∀ q ∈ tyTab, tyIsB q.2 = true := by decide +kernel
 exact key q (List.mem_of_find?_eq_some hq)
theorem tyOf_val {s : Str} {t : Ty} (h : tyOf s = some t) : bvals.lookup s = some (.type (tyNm t)) := by
 unfold tyOf at h
 refine x12 (Option.map_eq_some_iff.mp h) fun q hq zq3 => ?_
 subst zq3
 have h1 := List.find?_some hq
 have h2 := List.mem_of_find?_eq_some hq
 have e : q.1 = s := eq_of_beq h1
 rw [← e]
 have key : ∀ q ∈ tyTab, bvals.lookup q.1 = some (.type (tyNm q.2)) := List.forall_mem_cons.mpr ⟨by kernel_rfl, List.forall_mem_cons.mpr ⟨by kernel_rfl, List.forall_mem_cons.mpr ⟨by kernel_rfl, List.forall_mem_cons.mpr ⟨by kernel_rfl, List.forall_mem_nil _⟩⟩⟩⟩
 exact key q h2
noncomputable def mfTab : List (Str × Mf) := [("append", .append), ("pop", .pop)]
noncomputable def mfOf (s : Str) : Option Mf := (mfTab.find? fun q => q.1 == s).map (·.2)
theorem mfOf_val {s : Str} {m : Mf} (h : mfOf s = some m) : mfName m = s := by
 unfold mfOf at h
 refine x12 (Option.map_eq_some_iff.mp h) fun q hq zq2 => ?_
 subst zq2
 have h1 := List.find?_some hq
 have h2 := List.mem_of_find?_eq_some hq
 have e : q.1 = s := eq_of_beq h1
 rw [← e]
 have key : ∀ q ∈ mfTab, mfName q.2 = q.1 := List.forall_mem_cons.mpr ⟨rfl, List.forall_mem_cons.mpr ⟨rfl, List.forall_mem_nil _⟩⟩
 exact key q h2
noncomputable def clsOf (s : Str) : Option Ty := if s = "ValueError" then some .verr else (numFrom s clsNames 0).map .own
structure TabOk (X : Cx) (t : Tab) : Prop where
 clss : ClssOk X
 cls : ∀ s c, numFrom s clsNames 0 = some c → c < 9 ∧ ∃ mg, X.base.Ns mainGlobals mg ∧ mg s = some (.ref (X.ca c))
 rack : RackOk X t.meths
 rackN : ∃ mg, X.base.Ns mainGlobals mg ∧ mg "Rack" = some (.ref (X.ca 9))
 nm : ∀ s i, t.num s = some i → X.nm i = s
 inj : ∀ x y, X.nm x = X.nm y → x = y
 dot : ∀ x, X.nm x ≠ (".0" : Str)
 glob : ∀ s p, t.globs.lookup s = some p → ∃ v mg, (∀ ρ h, BK X h → VR X ρ h v p) ∧ X.base.Ns mainGlobals mg ∧ mg s = some v
 blt : ∀ s v, bvals.lookup s = some v → ∃ mg mb, X.base.Ns mainGlobals mg ∧ mg s = none ∧ X.base.Ns builtinsNs mb ∧ mb s = some v
noncomputable def notDebug (s : Str) : Bool := !(s == ("__debug__" : Str))
section
variable {X : Cx} {sc : Scope} {k : Nat} {t : Tab}
theorem names_glob {s : Str} {v : Value} {mg : Str → Option Value} (hg : isGlob sc s = true) (hd : notDebug s = true) (hn : X.base.Ns mainGlobals mg) (hv : mg s = some v) : Names X sc s v := fun A env st pos Q E h1 h2 h3 h4 B q => by
 refine Name_function_global (by rw [h1]; exact h2) (by unfold Env.kindOf; rw [h1]; exact isGlob_iff hg) (loadGlobal_global (mg := mg) (by rw [h3]; exact hn.keeps fun b o e => B b o e) hv q) (by unfold notDebug at hd; simpa using hd)
theorem names_blt {s : Str} {v : Value} (TO : TabOk X t) (hg : isGlob sc s = true) (hd : notDebug s = true) (hv : bvals.lookup s = some v) : Names X sc s v := fun A env st pos Q E h1 h2 h3 h4 B q => by
 refine x24 (TO.blt s v hv) fun mg mb hn hm hb hv' => ?_
 refine Name_function_global (by rw [h1]; exact h2) (by unfold Env.kindOf; rw [h1]; exact isGlob_iff hg)
  (loadGlobal_builtin (mg := mg) (mb := mb) (by rw [h3]; exact hn.keeps fun b o e => B b o e) hm (by rw [h4]; exact hb.keeps fun b o e => B b o e) hv' q) (by unfold notDebug at hd; simpa using hd)
theorem names_cls {s : Str} {c : Nat} (TO : TabOk X t) (hg : isGlob sc s = true) (hd : notDebug s = true) (hc : numFrom s clsNames 0 = some c) : Names X sc s (.ref (X.ca c)) :=
 x02 (TO.cls s c hc) fun z_ h => x12 h fun mg hn hm => names_glob hg hd hn hm
theorem names_clsV {s : Str} {ty : Ty} (TO : TabOk X t) (hg : isGlob sc s = true) (hd : notDebug s = true) (hc : clsOf s = some ty) : ∃ v, ClsV X ty v ∧ Names X sc s v := by
 unfold clsOf at hc
 by_cases hv : s = "ValueError"
 ·obtain rfl := Option.some.inj ((if_pos hv).symm.trans hc)
  exact ei12 _ .verr (names_blt TO hg hd (by rw [hv]; kernel_rfl))
 ·rw [if_neg hv] at hc
  refine x12 (Option.map_eq_some_iff.mp hc) fun c h zq1 => ?_
  subst zq1
  exact ei12 _ (.own c (TO.cls s c h).1) (names_cls TO hg hd h)
theorem se_glob {s : Str} {p : PV} {pos : Pos} (TO : TabOk X t) (hg : isGlob sc s = true) (hd : notDebug s = true) (hp : t.globs.lookup s = some p) : SE X sc k (.Name s pos) (fun z_ hp => .ok p hp) := fun A env st ρ loc hp' Q E I Rm P => by
 refine x23 (TO.glob s p hp) fun v mg hv hn hm => ?_
 exact names_glob hg hd hn hm A env st pos Q E I.scope I.kind I.glo I.blt I.bk (Post.same I.rep P v st.toks (hv _ _ I.bk))
end
noncomputable def notStar : Expr → Bool
 | .Starred .. => false
 | _ => true
theorem star_plain {e : Expr} (h : notStar e = true) (es : List Expr) (env : Env) : starEach (e :: es) env = (false, eval e env) :: starEach es env := by
 cases e <;> first | rfl | cases h
noncomputable def valTest : Expr → Bool
 | .UnaryOp .Not _ _ => false
 | .BoolOp .. => false
 | .IfExp .. => false
 | .Compare .. => false
 | _ => true
theorem isTrue_val {e : Expr} (h : valTest e = true) (env : Env) (whole : Sem Value) : isTrue e env whole = (do let v ← whole; standAt e.pos; holding [v] (truthy v)) := by
 cases e with
 | UnaryOp op x p => cases op <;> first | rfl | cases h
 | _ => first | rfl | cases h
noncomputable def notSlice : Expr → Bool
 | .Slice .. => false
 | _ => true
theorem sub_plain {i : Expr} (h : notSlice i = true) (o' i' : Value) : subscripted i false o' i' = operate [o', i'] (getItem o' i') := by
 cases i <;> first | rfl | cases h
noncomputable def notSet : Expr → Bool
 | .Set .. => false
 | _ => true
theorem set_plain {i : Expr} (h : notSet i = true) (env : Env) (x : Value) : foldedSetIterable i env x = pure x := by
 cases i <;> first | rfl | cases h
end Mine
end
section
namespace Mine
open PySem PySem.Calls PyProof.Rows PySem.SeqAt
noncomputable def cConst : Const → Option ME
 | .none => some (.lit .none)
 | .bool b => some (.lit (.bool b))
 | .int i => some (.lit (.int i))
 | .str s => some (.lit (.str s))
 | _ => none
noncomputable def cName (t : Tab) (sc : Scope) (s : Str) : Option ME :=
 if notDebug s then
  if isLoc sc s then (t.num s).map .var
  else if isGlob sc s then (t.globs.lookup s).map (.glob 0)
  else none
 else none
noncomputable def cUn : UnaryOp → Option ME → Option ME
 | .USub, some e => some (.neg e)
 | .Not, some e => some (.notE e)
 | _, _ => none
noncomputable def cBool : BoolOp → List ME → ME
 | .And, l => .andE l
 | .Or, l => .orE l
noncomputable def cBoolT : BoolOp → List MT → MT
 | .And, l => .andT l
 | .Or, l => .orT l
noncomputable def asName : Expr → Option Str
 | .Name s _ => some s
 | _ => none
theorem asName_inv {e : Expr} {s : Str} (h : asName e = some s) : ∃ p, e = .Name s p := by
 cases e with
 | Name s' p => cases h; exact ei11 p rfl
 | _ => exact no h
noncomputable def asTup : Expr → Option (List Expr)
 | .Tuple es _ _ => some es
 | _ => none
theorem asTup_inv {e : Expr} {es : List Expr} (h : asTup e = some es) : ∃ k p, e = .Tuple es k p := by
 cases e with
 | Tuple es' k p => cases h; exact ei21 k p rfl
 | _ => exact no h
noncomputable def nameNum (t : Tab) (e : Expr) : Option Nat := (asName e).bind t.num
noncomputable def cTgts (t : Tab) : List Expr → Option Tgt
 | [a, b] => (nameNum t a).bind fun x => (nameNum t b).bind fun y => some (.two x y)
 | [a, b, c] => (nameNum t a).bind fun x => (nameNum t b).bind fun y => (nameNum t c).bind fun z => some (.three x y z)
 | _ => none
noncomputable def cTgt (t : Tab) (e : Expr) : Option Tgt := match asTup e with
 | some es => cTgts t es
 | none => (nameNum t e).bind fun x => some (.one x)
noncomputable def nameOf (e : Expr) : Str := (asName e).getD ""
noncomputable def tgtStrs (e : Expr) : List Str := match asTup e with
 | some es => es.map nameOf
 | none => [nameOf e]
noncomputable def tgtLoc (sc : Scope) (tg : Expr) : Bool := (tgtStrs tg).all (isLoc sc)
noncomputable def isTupE (e : Expr) : Bool := (asTup e).isSome
noncomputable def letOk : ItK → Expr → Bool
 | .plain, _ => true
 | .rev, _ => true
 | _, tg => isTupE tg
noncomputable def chkScope (sc scope : Scope) (ts : List Str) : Bool :=
 scope.names.all (fun y => !(y.2 == .cell)) && (scope.kind == .function) && scope.names.all (fun y => !(y.2 == .free) || (sc.names.lookup y.1 == some .cell)) &&
 scope.names.all (fun y => !(y.2 == .local) || (y.1 == (".0" : Str) || ts.contains y.1)) && scope.names.all (fun y => !(y.2 == .local) || (scope.names.lookup y.1 == some .local)) &&
 ts.all (fun s => (relab scope sc).names.lookup s == some .local)
theorem bndR {α β : Type} {P : Prop} {o : Option α} {f : α → Option β} {b : β} (k : ∀ a, o = some a → f a = some b → P) : o.bind f = some b → P := fun h => x12 (Option.bind_eq_some_iff.mp h) k
theorem iftR {β : Type} {P c : Prop} [Decidable c] {x : Option β} {b : β} (k : c → x = some b → P) : (if c then x else none) = some b → P := fun h =>
 if hc : c then k hc ((if_pos hc).symm.trans h) else no ((if_neg hc).symm.trans h)
noncomputable def callName : Expr → Option (Str × List Expr)
 | .Call f es [] _ => (asName f).bind fun s => some (s, es)
 | _ => none
theorem callName_inv {e : Expr} {s : Str} {es : List Expr} (h : callName e = some (s, es)) : ∃ p pos, e = .Call (.Name s p) es [] pos := by
 cases e with
 | Call f es' kws pos =>
  cases kws with
  | nil =>
   replace h : ((asName f).bind fun s => some (s, es')) = some (s, es) := h
   refine x12 (Option.bind_eq_some_iff.mp h) fun s' h1 h => ?_
   refine x11 (asName_inv h1) fun p zq4 => ?_
   subst zq4
   cases h; exact ei21 p pos rfl
  | cons a r => exact no h
 | _ => exact no h
noncomputable def itN (sc : Scope) (t : Tab) (s : Str) (es : List Expr) : Bool := isGlob sc s && (notDebug s && ((t.globs.lookup s).isNone && es.all notStar))
noncomputable def itCall (sc : Scope) (t : Tab) (e : Expr) (s : Str) (es : List Expr) : Option (ItK × List Expr) :=
 if s = "reversed" ∧ es.length = 1 then (if itN sc t s es then some (.rev, es) else none) else
 if s = "enumerate" ∧ es.length = 1 then (if itN sc t s es then some (.enum, es) else none)
 else if s = "zip" ∧ es.length = 2 then (if itN sc t s es then some (.zip, es) else none)
 else some (.plain, [e])
noncomputable def itOf (sc : Scope) (t : Tab) (e : Expr) : Option (ItK × List Expr) := match callName e with
 | some p => itCall sc t e p.1 p.2
 | none => if notSet e then some (.plain, [e]) else none
noncomputable def tyAny (s : Str) : Option Ty := match tyOf s with
 | some t => some t
 | none => clsOf s
noncomputable def asRet : Stmt → Option Expr
 | .Return (some e) _ => some e
 | _ => none
theorem asRet_inv {s : Stmt} {e : Expr} (h : asRet s = some e) : ∃ p, s = .Return (some e) p := by
 cases s with
 | Return o p => cases o with
  | none => exact no h
  | some e' => cases h; exact ei11 p rfl
 | _ => exact no h
noncomputable def asHand : ExceptHandler → Option (Str × Str × Expr)
 | .ExceptHandler (some c) (some x) [st] _ => (asName c).bind fun r => (asRet st).bind fun e => some (r, x, e)
 | _ => none
noncomputable def asTry : List ExceptHandler → List Stmt → List Stmt → Option (Str × Str × Expr)
 | [h], [], [] => asHand h
 | _, _, _ => none
theorem asHand_inv {h : ExceptHandler} {q : Str × Str × Expr} (e : asHand h = some q) : ∃ p1 p2 p3, h = .ExceptHandler (some (.Name q.1 p1)) (some q.2.1) [.Return (some q.2.2) p2] p3 := by
 obtain ⟨c, x, b, p⟩ := h
 cases c with
 | none => exact no e
 | some c => cases x with
  | none => exact no e
  | some x => cases b with
   | nil => exact no e
   | cons st r => cases r with
    | cons _ _ => exact no e
    | nil =>
     replace e : ((asName c).bind fun r => (asRet st).bind fun e => some (r, x, e)) = some q := e
     refine x12 (Option.bind_eq_some_iff.mp e) fun r hr e => ?_
     refine x12 (Option.bind_eq_some_iff.mp e) fun ex he e => ?_
     cases e
     refine x11 (asName_inv hr) fun p1 zq3 => ?_
     subst zq3
     refine x11 (asRet_inv he) fun p2 zq2 => ?_
     subst zq2
     exact ei31 p1 p2 p rfl
theorem asTry_inv {hs : List ExceptHandler} {o f : List Stmt} {q : Str × Str × Expr} (h : asTry hs o f = some q) : ∃ p1 p2 p3, hs = [.ExceptHandler (some (.Name q.1 p1)) (some q.2.1) [.Return (some q.2.2) p2] p3] ∧ o = [] ∧ f = [] := by
 cases hs with
 | nil => exact no h
 | cons a r => cases r with
  | cons _ _ => exact no h
  | nil => cases o with
   | cons _ _ => exact no h
   | nil => cases f with
    | cons _ _ => exact no h
    | nil =>
     refine x31 (asHand_inv (show asHand a = some q from h)) fun p1 p2 p3 e => ?_
     exact ei33 p1 p2 p3 (by rw [e]) rfl rfl
noncomputable def tryOk (sc : Scope) (q : Str × Str × Expr) : Bool := isGlob sc q.1 && notDebug q.1 && decide (numFrom q.1 clsNames 0 = some 0) && decide (sc.names.lookup q.2.1 = some .local)
noncomputable def isStr : Expr → Bool
 | .Constant (.str _) _ _ => true
 | _ => false
theorem isStr_inv {e : Expr} (h : isStr e = true) : ∃ m k p, e = .Constant (.str m) k p := by
 cases e with
 | Constant c k p => cases c with
  | str m => exact ei31 m k p rfl
  | _ => exact nf h
 | _ => exact nf h
noncomputable def oneStr : List Expr → Bool
 | [e] => isStr e
 | _ => false
theorem oneStr_inv {es : List Expr} (h : oneStr es = true) : ∃ m k p, es = [.Constant (.str m) k p] := by
 cases es with
 | nil => cases h
 | cons a r => cases r with
  | cons _ _ => cases h
  | nil => refine x31 (isStr_inv (show isStr a = true from h)) fun m k p zq1 => ?_; subst zq1; exact ei31 m k p rfl
noncomputable def cRaise (sc : Scope) : Option Expr → Option Expr → Option MS
 | some e, none => (callName e).bind fun q => if isGlob sc q.1 && notDebug q.1 && oneStr q.2 then (numFrom q.1 clsNames 0).map .raise else none
 | _, _ => none
noncomputable def attNum (t : Tab) (s : Str) : Option Nat := if attNames.contains s then t.num s else none
mutual
noncomputable def cE : Nat → Tab → Scope → Expr → Option ME
 | 0, _, _, _ => none
 | n + 1, t, sc, e => match e with
  | .Constant c _ _ => cConst c
  | .Name s _ => cName t sc s
  | .BinOp l op r _ => (bopOf op).bind fun o => (cE n t sc l).bind fun a => (cE n t sc r).bind fun b => some (.bin o a b)
  | .UnaryOp op x _ => cUn op (cE n t sc x)
  | .BoolOp op es _ => (cEs n t sc es).bind fun l => some (cBool op l)
  | .Compare l ops rs _ => if lastMarks ops rs = false ∧ ops.length = rs.length then (cE n t sc l).bind fun a => (cEs n t sc rs).bind fun bs => some (.cmp a (ops.map copOf) bs) else none
  | .Call f es kws pos => if kws.isEmpty then cCall n t sc f es pos else none
  | .Attribute o name _ => (attNum t name).bind fun i => if plainBase o then (cE n t sc o).bind fun a => some (.attr a i) else none
  | .Subscript o i _ => (cE n t sc o).bind fun a => cSub n t sc i a
  | .List es _ => if es.length ≤ 1000 then (cEs n t sc es).bind fun l => some (.list l) else none
  | .Tuple es _ _ => if es.length ≤ 1000 then (cEs n t sc es).bind fun l => some (.tuple l) else none
  | .ListComp elt gens scope _ => cComp n t sc elt scope gens
  | _ => none
noncomputable def cCall : Nat → Tab → Scope → Expr → List Expr → Pos → Option ME
 | 0, _, _, _, _, _ => none
 | n + 1, t, sc, f, es, pos => match f with
  | .Name s _ =>
   if notDebug s then
    if isLoc sc s then (t.num s).bind fun i => (cEs n t sc es).bind fun l => some (.call (.var i) l)
    else if isGlob sc s then
     match t.globs.lookup s with
     | some p => (cEs n t sc es).bind fun l => some (.call (.glob 0 p) l)
     | none => if s = "isinstance" then cIsi n t sc es else if s = "Rack" then (t.meths.lookup ("__init__" : Str)).bind fun i => if es.isEmpty then none else (cEs n t sc es).bind fun l => some (.mk i l) else (bfOf s es.length).bind fun b => (cEs n t sc es).bind fun l => some (.bcall b l)
    else none
   else none
  | .Attribute o name apos => if plainBase o && (apos.endLine == pos.line) && decide (es.length < 30) then (cE n t sc o).bind fun a => (cEs n t sc es).bind fun l => match t.meths.lookup name with
   | some i => if attNames.contains name then none else some (.mcall i a l)
   | none => (mfOf name).bind fun m => some (.meth m a l) else none
  | _ => none
noncomputable def cIsi : Nat → Tab → Scope → List Expr → Option ME
 | 0, _, _, _ => none
 | n + 1, t, sc, es => match es with
  | [e, e2] => (asName e2).bind fun x => if isGlob sc x && notDebug x && (t.globs.lookup x).isNone && notStar e then (tyAny x).bind fun ty => (cE n t sc e).bind fun a => some (.isi a ty) else none
  | _ => none
noncomputable def cSub : Nat → Tab → Scope → Expr → ME → Option ME
 | 0, _, _, _, _ => none
 | n + 1, t, sc, i, a => match i with
  | .Slice lo hi none _ => (cO n t sc lo).bind fun x => (cO n t sc hi).bind fun y => some (.slice a x y)
  | i => if notSlice i then (cE n t sc i).bind fun b => some (.sub a b) else none
noncomputable def cO : Nat → Tab → Scope → Option Expr → Option (Option ME)
 | 0, _, _, _ => none
 | n + 1, t, sc, o => match o with
  | none => some none
  | some e => (cE n t sc e).map some
noncomputable def cEs : Nat → Tab → Scope → List Expr → Option (List ME)
 | 0, _, _, _ => none
 | n + 1, t, sc, es => match es with
  | [] => some []
  | e :: r => if notStar e then (cE n t sc e).bind fun a => (cEs n t sc r).bind fun l => some (a :: l) else none
noncomputable def cT : Nat → Tab → Scope → Expr → Option MT
 | 0, _, _, _ => none
 | n + 1, t, sc, e => match e with
  | .UnaryOp .Not x _ => (cT n t sc x).map .notT
  | .BoolOp op es _ => (cTs n t sc es).map (cBoolT op)
  | .Compare l ops rs _ => if lastMarks ops rs = false ∧ ops.length = rs.length then (cE n t sc l).bind fun a => (cEs n t sc rs).bind fun bs => some (.cmp a (ops.map copOf) bs) else none
  | e => if valTest e then (cE n t sc e).map .val else none
noncomputable def cTs : Nat → Tab → Scope → List Expr → Option (List MT)
 | 0, _, _, _ => none
 | n + 1, t, sc, es => match es with
  | [] => some []
  | e :: r => (cT n t sc e).bind fun a => (cTs n t sc r).bind fun l => some (a :: l)
noncomputable def cComp : Nat → Tab → Scope → Expr → Scope → List Comprehension → Option ME
 | 0, _, _, _, _, _ => none
 | n + 1, t, sc, elt, scope, gens => match gens with
  | [⟨tg, it, ifs, a⟩] => if a = 0 ∧ chkScope sc scope (tgtStrs tg) = true ∧ notSet it = true then
    (cTgt t tg).bind fun tt => (itOf sc t it).bind fun ki => if letOk ki.1 tg = false then none else (cEs n t sc ki.2).bind fun its => (cTs n t (relab scope sc) ifs).bind fun fs => (cE n t (relab scope sc) elt).bind fun el => some (.comp el tt ki.1 its fs)
   else none
  | _ => none
end
noncomputable def asAtt : Expr → Option (Expr × Str)
 | .Attribute o s _ => some (o, s)
 | _ => none
theorem asAtt_inv {e o : Expr} {s : Str} (h : asAtt e = some (o, s)) : ∃ p, e = .Attribute o s p := by
 cases e with
 | Attribute o s p => cases h; exact ei11 p rfl
 | _ => exact no h
noncomputable def asSub : Expr → Option (Expr × Expr)
 | .Subscript o i _ => some (o, i)
 | _ => none
theorem asSub_inv {e o i : Expr} (h : asSub e = some (o, i)) : ∃ p, e = .Subscript o i p := by
 cases e with
 | Subscript o i p => cases h; exact ei11 p rfl
 | _ => exact no h
noncomputable def cAsg (n : Nat) (t : Tab) (sc : Scope) (tg e : Expr) : Option MS := match asName tg with
 | some s => if isLoc sc s then (t.num s).bind fun x => (cE n t sc e).bind fun a => some (.asg x a) else none
 | none =>
  if isTupE tg then (if isComp e || isTupE e || !tgtLoc sc tg then none else (cTgt t tg).bind fun tt => (cE n t sc e).bind fun a => some (.asgT tt a)) else
  match asAtt tg with
  | some os => (attNum t os.2).bind fun i => (cE n t sc e).bind fun a => (cE n t sc os.1).bind fun b => some (.setA b i a)
  | none => (asSub tg).bind fun oi => if isComp e then none else (cE n t sc e).bind fun a => (cE n t sc oi.1).bind fun b => (cE n t sc oi.2).bind fun c => some (.store b c a)
mutual
noncomputable def cS : Nat → Tab → Scope → Stmt → Option MS
 | 0, _, _, _ => none
 | n + 1, t, sc, st => match st with
  | .Expr e _ => if isComp e then none else (cE n t sc e).map .expr
  | .Return (some e) _ => (cE n t sc e).map .ret
  | .Assign [tg] e _ => cAsg n t sc tg e
  | .If c a b _ => (cT n t sc c).bind fun x => (cB n t sc a).bind fun y => (cB n t sc b).bind fun z => some (.ifS x y z)
  | .For tg it body orelse _ => if orelse.isEmpty && tgtLoc sc tg && notSet it then (cTgt t tg).bind fun tt => (itOf sc t it).bind fun ki => if letOk ki.1 tg = false then none else (cEs n t sc ki.2).bind fun its => (cB n t sc body).bind fun b => some (.forS tt ki.1 its b) else none
  | .Raise a b _ => cRaise sc a b
  | .Try body hs orelse final _ => (asTry hs orelse final).bind fun q => if tryOk sc q then (t.num q.2.1).bind fun i => (cB n t sc body).bind fun b => (cE n t sc q.2.2).bind fun a => some (.tryS b i a) else none
  | .Break _ => some .brk
  | _ => none
noncomputable def cB : Nat → Tab → Scope → List Stmt → Option (List MS)
 | 0, _, _, _ => none
 | n + 1, t, sc, b => match b with
  | [] => some []
  | st :: r => match cS n t sc st with
   | some a => (cB n t sc r).bind fun l => some (a :: l)
   | none => some [.bad]
end
end Mine
end
section
namespace Mine
open PySem PySem.Calls PyProof.Rows PySem.SeqAt
theorem bind_congr {α β : Type} {r : Res α} {f g : α → Hp → Res β} (h : ∀ a hp, f a hp = g a hp) : r.bind f = r.bind g := congrArg (Res.bind r) (funext fun a => funext fun hp => h a hp)
theorem runEs_map (P : MProg) (C : Caller) : ∀ (ms : List ME) (loc : Loc) (hp : Hp), runEs (ms.map (evalE P C)) loc hp = evalEs P C ms loc hp
 | [], loc, hp => rfl
 | m :: r, loc, hp => bind_congr fun v hp1 => congrArg (fun q => Res.bind q _) (runEs_map P C r loc hp1)
theorem runBool_map (P : MProg) (C : Caller) (k : Bool) : ∀ (ms : List ME) (loc : Loc) (hp : Hp), runBool k (ms.map (evalE P C)) loc hp = evalBool P C k ms loc hp
 | [], loc, hp => rfl
 | [m], loc, hp => rfl
 | m :: m' :: r, loc, hp => bind_congr fun v hp1 => bind_congr fun b hp2 => congrArg (fun q => if b = k then q else _) (runBool_map P C k (m' :: r) loc hp2)
theorem runTs_map (P : MProg) (C : Caller) (k : Bool) : ∀ (ms : List MT) (loc : Loc) (hp : Hp), runTs k (ms.map (evalT P C)) loc hp = evalTs P C k ms loc hp
 | [], loc, hp => rfl
 | m :: r, loc, hp => bind_congr fun v hp1 => congrArg (fun q => if v = k then q else _) (runTs_map P C k r loc hp1)
theorem runIfs_map (P : MProg) (C : Caller) : ∀ (ms : List MT) (loc : Loc) (hp : Hp), runIfs (ms.map (evalT P C)) loc hp = evalIfs P C ms loc hp
 | [], loc, hp => rfl
 | m :: r, loc, hp => bind_congr fun v hp1 => congrArg (fun q => if v = true then q else _) (runIfs_map P C r loc hp1)
theorem runCmp_map (P : MProg) (C : Caller) : ∀ (ms : List ME) (a : PV) (ops : List Cop) (loc : Loc) (hp : Hp), runCmp a ops (ms.map (evalE P C)) loc hp = evalCmp P C a ops ms loc hp
 | [], a, [], loc, hp => rfl
 | [], a, [_], loc, hp => rfl
 | [], a, _ :: _ :: _, loc, hp => rfl
 | _ :: _, a, [], loc, hp => rfl
 | [m], a, [o], loc, hp => rfl
 | m :: m' :: r, a, [o], loc, hp => bind_congr fun b hp1 => bind_congr fun t hp2 => congrArg (fun q => if t = true then q else _) (runCmp_map P C (m' :: r) b [] loc hp2)
 | m :: r, a, o :: o' :: os, loc, hp => by
  have ih := fun b hp2 => runCmp_map P C r b (o' :: os) loc hp2
  cases r with
  | nil => exact bind_congr fun b hp1 => bind_congr fun t hp2 => congrArg (fun q => if t = true then q else _) (ih b hp2)
  | cons m' r => exact bind_congr fun b hp1 => bind_congr fun t hp2 => congrArg (fun q => if t = true then q else _) (ih b hp2)
theorem runO_map (P : MProg) (C : Caller) (m : Option ME) (loc : Loc) (hp : Hp) : runO (m.map (evalE P C)) loc hp = evalO P C m loc hp := by
 cases m with
 | none => rfl
 | some m => rfl
structure Snd (X : Cx) (MP : MProg) (k : Nat) (C : Caller) (t : Tab) (n : Nat) : Prop where
 e : ∀ sc e m, cE n t sc e = some m → SE X sc k e (evalE MP C m)
 es : ∀ sc es ms, cEs n t sc es = some ms → SEs X sc k es (ms.map (evalE MP C))
 tt : ∀ sc e m, cT n t sc e = some m → ST X sc k e (evalT MP C m)
 ts : ∀ sc es ms, cTs n t sc es = some ms → STs X sc k es (ms.map (evalT MP C))
 o : ∀ sc o m, cO n t sc o = some m → SO X sc k o (m.map (evalE MP C))
 call : ∀ sc f es pos m, cCall n t sc f es pos = some m → SE X sc k (.Call f es [] pos) (evalE MP C m)
 isi : ∀ sc s es p pos m, isGlob sc s = true → notDebug s = true → s = "isinstance" → cIsi n t sc es = some m → SE X sc k (.Call (.Name s p) es [] pos) (evalE MP C m)
 sub : ∀ sc o i a pos m, SE X sc k o (evalE MP C a) → cSub n t sc i a = some m → SE X sc k (.Subscript o i pos) (evalE MP C m)
theorem DoesIt.congr {X : Cx} {sc : Scope} {k : Nat} {it : Expr} {f g : Loc → Hp → Res Src} (D : DoesIt X sc k it f) (h : ∀ loc hp, g loc hp = f loc hp) : DoesIt X sc k it g :=
 fun A env s ρ loc hp Q E I Rm P => D A env s ρ loc hp Q E I Rm (by rw [h] at P; exact P)
theorem DoesS.congr {X : Cx} {sc : Scope} {k : Nat} {st : Env → Sem Flow} {f g : Loc → Hp → SR} (D : DoesS X sc k st f) (h : ∀ loc hp, g loc hp = f loc hp) : DoesS X sc k st g :=
 fun A env s ρ loc hp Q E Ft I Rm P => D A env s ρ loc hp Q E Ft I Rm (by rw [h] at P; exact P)
theorem STs.ifs {X : Cx} {sc : Scope} {k : Nat} : ∀ {es : List Expr} {fs : List (Loc → Hp → Res Bool)}, STs X sc k es fs → SIfs X sc k es fs
 | _, _, .nil => .nil
 | _, _, .cons h r => .cons h (STs.ifs r)
section
variable {X : Cx} {MP : MProg} {k : Nat} {C : Caller} {t : Tab}
theorem s_name (TO : TabOk X t) {sc : Scope} {s : Str} {pos : Pos} {m : ME} (h : cName t sc s = some m) : SE X sc k (.Name s pos) (evalE MP C m) := by
 unfold cName at h
 by_cases hd : notDebug s = true
 ·rw [if_pos hd] at h
  by_cases hl : isLoc sc s = true
  ·rw [if_pos hl] at h
   refine x12 (Option.map_eq_some_iff.mp h) fun i hi zq13 => ?_
   subst zq13
   have e := TO.nm s i hi
   subst e
   exact se_var (X := X) (sc := sc) (k := k) (x := i) (pos := pos) (by unfold notDebug at hd; simpa using hd) (isLoc_iff hl)
  ·rw [if_neg hl] at h
   by_cases hg : isGlob sc s = true
   ·rw [if_pos hg] at h
    refine x12 (Option.map_eq_some_iff.mp h) fun p hp zq12 => ?_
    subst zq12
    exact se_glob TO hg hd hp
   ·rw [if_neg hg] at h; exact no h
 ·rw [if_neg hd] at h; exact no h
theorem Snd.one {n : Nat} (S : Snd X MP k C t n) {sc : Scope} {e : Expr} {its : List ME} (h : cEs n t sc [e] = some its) : ∃ a, its = [a] ∧ SE X sc k e (evalE MP C a) := by
 have hs := S.es _ _ _ h
 cases its with
 | nil => cases hs
 | cons a r =>
  cases hs with
  | cons he _ q =>
   cases r with
   | nil => exact ei12 a rfl he
   | cons b r => cases q
theorem Snd.two {n : Nat} (S : Snd X MP k C t n) {sc : Scope} {e e' : Expr} {its : List ME} (h : cEs n t sc [e, e'] = some its) : ∃ a b, its = [a, b] ∧ SE X sc k e (evalE MP C a) ∧ SE X sc k e' (evalE MP C b) := by
 have hs := S.es _ _ _ h
 cases its with
 | nil => cases hs
 | cons a r =>
  cases hs with
  | cons he _ q =>
   cases r with
   | nil => cases q
   | cons b r =>
    cases q with
    | cons he' _ q =>
     cases r with
     | nil => exact ei23 a b rfl he he'
     | cons c r => cases q
theorem itN_inv {sc : Scope} {s : Str} {es : List Expr} (h : itN sc t s es = true) : isGlob sc s = true ∧ notDebug s = true ∧ ∀ e ∈ es, notStar e = true :=
 let h1 := Bool.and_eq_true_iff.mp h
 let h2 := Bool.and_eq_true_iff.mp h1.2
 ⟨h1.1, h2.1, List.all_eq_true.mp (Bool.and_eq_true_iff.mp h2.2).2⟩
theorem len_one {α : Type} {l : List α} (h : l.length = 1) : ∃ a, l = [a] := by
 cases l with
 | nil => cases h
 | cons a r => cases r with
  | nil => exact ei11 a rfl
  | cons b r => cases h
theorem s_it (TO : TabOk X t) {n : Nat} (S : Snd X MP k C t n) {sc : Scope} {it : Expr} {ki : ItK × List Expr} {its : List ME} (h : itOf sc t it = some ki) (hc : cEs n t sc ki.2 = some its) (hk2 : ki.1.calm = false → 2 ≤ k) :
  DoesIt X sc k it (fun loc hp => (evalEs MP C its loc hp).bind fun vs hp1 => ofOpt (srcOf ki.1 vs hp1) (srcHp ki.1 hp1)) := by
 have plain : some (ItK.plain, [it]) = some ki → DoesIt X sc k it (fun loc hp => (evalEs MP C its loc hp).bind fun vs hp1 => ofOpt (srcOf ki.1 vs hp1) (srcHp ki.1 hp1)) := by
  intro q; cases q
  refine x12 (S.one hc) fun a zq11 he => ?_
  subst zq11
  exact it_plain he
 unfold itOf at h
 cases hcn : callName it with
 | none =>
  rw [hcn] at h
  by_cases hs : notSet it = true
  ·exact plain (by rw [← h]; exact (if_pos hs).symm)
  ·exact absurd (h.symm.trans (if_neg hs)) (by intro q; cases q)
 | some p =>
  obtain ⟨s, es⟩ := p
  refine x21 (callName_inv hcn) fun p pos zq10 => ?_
  subst zq10
  rw [hcn] at h
  replace h : itCall sc t (.Call (.Name s p) es [] pos) s es = some ki := h
  unfold itCall at h
  by_cases h1 : s = "reversed" ∧ es.length = 1
  ·rw [if_pos h1] at h
   by_cases hg : itN sc t s es = true
   ·obtain rfl := Option.some.inj ((if_pos hg).symm.trans h)
    refine x03 (itN_inv hg) fun g1 g2 g3 => ?_
    revert h1; refine y02 fun zq9 h1 => ?_
    subst zq9
    refine x11 (len_one h1) fun e zq8 => ?_
    subst zq8
    refine x12 (S.one hc) fun a zq7 he => ?_
    subst zq7
    exact it_rev (names_blt TO g1 g2 (by kernel_rfl)) he (fun env => star_plain (g3 e (.head _)) [] env) (hk2 rfl)
   ·rw [if_neg hg] at h; exact no h
  rw [if_neg h1] at h
  by_cases h2 : s = "enumerate" ∧ es.length = 1
  ·clear h1
   rw [if_pos h2] at h
   by_cases hg : itN sc t s es = true
   ·obtain rfl := Option.some.inj ((if_pos hg).symm.trans h)
    refine x03 (itN_inv hg) fun g1 g2 g3 => ?_
    revert h2; refine y02 fun zq6 h2 => ?_
    subst zq6
    refine x11 (len_one h2) fun e zq5 => ?_
    subst zq5
    refine x12 (S.one hc) fun a zq4 he => ?_
    subst zq4
    exact it_enum (names_blt TO g1 g2 (by kernel_rfl)) he (fun env => star_plain (g3 e (.head _)) [] env)
   ·rw [if_neg hg] at h; exact no h
  rw [if_neg h2] at h
  by_cases h3 : s = "zip" ∧ es.length = 2
  ·clear h1 h2
   rw [if_pos h3] at h
   by_cases hg : itN sc t s es = true
   ·obtain rfl := Option.some.inj ((if_pos hg).symm.trans h)
    refine x03 (itN_inv hg) fun g1 g2 g3 => ?_
    revert h3; refine y02 fun zq3 h3 => ?_
    subst zq3
    cases es with
    | nil => cases h3
    | cons e r =>
     refine x11 (len_one (l := r) (Nat.succ.inj h3)) fun e' zq2 => ?_
     subst zq2
     refine x23 (S.two hc) fun a b zq1 he he' => ?_
     subst zq1
     exact it_zip (names_blt TO g1 g2 (by kernel_rfl)) he he' (fun env => by rw [star_plain (g3 e (.head _)), star_plain (g3 e' (.tail _ (.head _)))]; rfl)
   ·rw [if_neg hg] at h; exact no h
  rw [if_neg h3] at h
  exact plain h
end
end Mine
end
section
namespace Mine
open PySem PySem.Calls PyProof.Rows PySem.SeqAt
theorem relab_local {scope sc : Scope} {x : Str} (h : (relab scope sc).names.lookup x = some .local) : (x, NameKind.local) ∈ scope.names := by
 have hm := mem_of_look h
 unfold relab at hm
 refine x12 (List.mem_map.mp hm) fun zq18 hy e => ?_
 obtain ⟨n, kd⟩ := zq18
 dsimp only at e
 split at e
 ·cases e
 ·cases e; exact hy
section
variable {X : Cx} {MP : MProg} {k : Nat} {C : Caller} {t : Tab}
theorem attNum_inv (TO : TabOk X t) {s : Str} {i : Nat} (h : attNum t s = some i) : X.nm i = s ∧ X.nm i ∈ attNames := by
 unfold attNum at h
 revert h; refine iftR fun hc h => ?_
 have := TO.nm s i h
 exact ⟨this, by rw [this]; exact List.contains_iff_mem.mp hc⟩
theorem num_inv (TO : TabOk X t) {e : Expr} {x : Nat} (h : nameNum t e = some x) : ∃ p, e = .Name (X.nm x) p := by
 refine x12 (Option.bind_eq_some_iff.mp h) fun s h1 h2 => ?_
 refine x11 (asName_inv h1) fun p zq17 => ?_
 subst zq17
 exact ei11 p (by rw [TO.nm s x h2])
noncomputable def TupTgt (X : Cx) (es : List Expr) (tt : Tgt) : Prop := ∃ xs : List (Nat × Pos), es = xs.map (fun x => Expr.Name (X.nm x.1) x.2) ∧ tt.names = xs.map (·.1) ∧ ∀ v loc loc1, bindT tt v loc = some loc1 → ∃ ps, v = .tup ps ∧ ps.length = xs.length ∧ loc1 = putvs loc xs ps
theorem tgts_inv (TO : TabOk X t) {es : List Expr} {tt : Tgt} (h : cTgts t es = some tt) : TupTgt X es tt := by
 cases es with
 | nil => exact no h
 | cons a r =>
  cases r with
  | nil => exact no h
  | cons b r =>
   cases r with
   | nil =>
    replace h : ((nameNum t a).bind fun x => (nameNum t b).bind fun y => some (Tgt.two x y)) = some tt := h
    revert h; refine bndR fun x hx h => ?_
    revert h; refine bndR fun y hy h => ?_
    obtain rfl := Option.some.inj h
    refine x11 (num_inv TO hx) fun pa zq16 => ?_
    subst zq16
    refine x11 (num_inv TO hy) fun pb zq15 => ?_
    subst zq15
    exact ei13 ([(x, pa), (y, pb)]) rfl rfl (bind2 (x, pa) (y, pb))
   | cons c r =>
    cases r with
    | cons d r => exact no h
    | nil =>
     replace h : ((nameNum t a).bind fun x => (nameNum t b).bind fun y => (nameNum t c).bind fun z => some (Tgt.three x y z)) = some tt := h
     revert h; refine bndR fun x hx h => ?_
     revert h; refine bndR fun y hy h => ?_
     revert h; refine bndR fun z hz h => ?_
     obtain rfl := Option.some.inj h
     refine x11 (num_inv TO hx) fun pa zq14 => ?_
     subst zq14
     refine x11 (num_inv TO hy) fun pb zq13 => ?_
     subst zq13
     refine x11 (num_inv TO hz) fun pc zq12 => ?_
     subst zq12
     exact ei13 ([(x, pa), (y, pb), (z, pc)]) rfl rfl (bind3 (x, pa) (y, pb) (z, pc))
theorem tgt_inv (TO : TabOk X t) {tg : Expr} {tt : Tgt} (h : cTgt t tg = some tt) : (∃ x p, tg = .Name (X.nm x) p ∧ tt = .one x) ∨ (∃ es kk pos, tg = .Tuple es kk pos ∧ TupTgt X es tt) := by
 unfold cTgt at h
 cases hq : asTup tg with
 | some es =>
  rw [hq] at h
  refine x21 (asTup_inv hq) fun kk pos zq11 => ?_
  subst zq11
  exact .inr ⟨es, kk, pos, rfl, tgts_inv TO h⟩
 | none =>
  rw [hq] at h
  revert h; refine bndR fun x hx h => ?_
  obtain rfl := Option.some.inj h
  refine x11 (num_inv TO hx) fun p zq10 => ?_
  subst zq10
  exact .inl ⟨x, p, rfl, rfl⟩
theorem tgt_strs (TO : TabOk X t) {tg : Expr} {tt : Tgt} (h : cTgt t tg = some tt) : tgtStrs tg = tt.names.map X.nm := by
 rcases tgt_inv TO h with ⟨x, p, rfl, rfl⟩ | ⟨es, kk, pos, rfl, xs, rfl, hn, _⟩
 ·rfl
 ·rw [hn]
  show (xs.map fun x => Expr.Name (X.nm x.1) x.2).map nameOf = _
  rw [List.map_map, List.map_map]; rfl
theorem src_own {kk : ItK} {vs : List PV} {hp : Hp} {src : Src} (hs : srcOf kk vs hp = some src) (hk : kk = .plain ∨ kk = .rev) : src.own = false := by
 cases vs with
 | nil => rcases hk with rfl | rfl <;> exact no hs
 | cons p r =>
  cases r with
  | cons q r =>
   rcases hk with rfl | rfl
   ·exact no hs
   ·cases p <;> exact no hs
  | nil =>
   rcases hk with rfl | rfl
   ·cases p with
    | rng a b c =>
     replace hs : (if (rngOk a && rngOk b && (c == 1 || c == -1)) = true then some (Src.items (rngItems a c (rngLen a b c))) else none) = some src := hs
     split at hs <;> cases hs; rfl
    | tup l => cases hs; rfl
    | lst n =>
     replace hs : (match lstAt hp n with | some _ => some (Src.at n 0) | none => none) = some src := hs
     cases hl : lstAt hp n <;> rw [hl] at hs <;> cases hs; rfl
    | _ => exact no hs
   ·cases p with
    | rng a b c =>
     replace hs : (if (a == 0 && rngOk b && c == 1) = true then some (Src.items (rngItems 0 1 b.toNat).reverse) else none) = some src := hs
     split at hs <;> cases hs; rfl
    | _ => exact no hs
theorem lets_of (TO : TabOk X t) {kk : ItK} {tg : Expr} {tt : Tgt} {vs : List PV} {hp : Hp} {src : Src} (hl : letOk kk tg = true) (ht : cTgt t tg = some tt) (hs : srcOf kk vs hp = some src) : Lets tg src := by
 rcases tgt_inv TO ht with ⟨x, p, rfl, rfl⟩ | ⟨es, kk', pos, rfl, _⟩
 ·right
  refine ⟨fun it v => rfl, src_own hs ?_⟩
  cases kk with
  | plain => exact .inl rfl
  | rev => exact .inr rfl
  | enum => cases hl
  | zip => cases hl
 ·exact .inl ⟨_, _, _, rfl⟩
theorem lets_it (TO : TabOk X t) {kk : ItK} {tg : Expr} {tt : Tgt} {its : List ME} (hl : letOk kk tg = true) (ht : cTgt t tg = some tt) : ∀ loc hp src hp',
  ((fun loc hp => (evalEs MP C its loc hp).bind fun vs hp1 => ofOpt (srcOf kk vs hp1) (srcHp kk hp1)) : Loc → Hp → Res Src) loc hp = .ok src hp' → Lets tg src := fun loc hp src hp' e => by
 dsimp only at e
 cases hr : evalEs MP C its loc hp with
 | bad => rw [hr] at e; cases e
 | exc c hp1 => rw [hr] at e; cases e
 | ok vs hp1 =>
  rw [hr, Res.bind_ok] at e
  cases hs : srcOf kk vs hp1 with
  | none => rw [hs] at e; cases e
  | some s' => rw [hs] at e; cases e; exact lets_of TO hl ht hs
theorem scope_ok (TO : TabOk X t) {sc scope : Scope} {tg : Expr} {tt : Tgt} (h : chkScope sc scope (tgtStrs tg) = true) (ht : cTgt t tg = some tt) : CompScope X sc scope tt ∧ BindL X (relab scope sc) tg tt := by
 have hst := tgt_strs TO ht
 simp only [chkScope, Bool.and_eq_true, List.all_eq_true, Bool.or_eq_true, Bool.not_eq_true', beq_iff_eq, beq_eq_false_iff_ne] at h
 revert h; refine y02 fun zq9 h6 => ?_
 obtain ⟨⟨⟨⟨h1, h2⟩, h3⟩, h4⟩, h5⟩ := zq9
 have tl : ∀ x ∈ tt.names, (relab scope sc).names.lookup (X.nm x) = some .local := fun x hx => h6 _ (by rw [hst]; exact List.mem_map.mpr ⟨x, hx, rfl⟩)
 refine ⟨⟨fun y hy => h1 y hy, h2, fun y hy hf => ?_, fun x hx => ?_, fun y hy hl => ?_, tl⟩, ?_⟩
 ·rcases h3 y hy with q | q
  ·exact absurd hf q
  ·exact q
 ·rcases h4 _ (relab_local hx) with q | q | q
  ·exact absurd rfl q
  ·exact absurd q (TO.dot x)
  ·rw [hst, List.contains_iff_mem] at q
   refine x12 (List.mem_map.mp q) fun y hy e => ?_
   rw [TO.inj x y e.symm]; exact hy
 ·rcases h5 y hy with q | q
  ·exact absurd hl q
  ·exact q
 ·rcases tgt_inv TO ht with ⟨x, p, rfl, rfl⟩ | ⟨es, kk, pos, rfl, xs, rfl, hn, hb⟩
  ·exact bindL_name (tl x (.head _))
  ·exact bindL_tuple (fun x hx => tl x.1 (by rw [hn]; exact List.mem_map.mpr ⟨x, hx, rfl⟩)) hb
theorem comp_def (P : MProg) (C : Caller) (elt : ME) (t : Tgt) (k : ItK) (its : List ME) (ifs : List MT) (loc : Loc) (hp : Hp) : evalE P C (.comp elt t k its ifs) loc hp = if (P.held && !k.calm) = true then .bad else ((evalEs P C its loc hp).bind fun vs hp1 => ofOpt (srcOf k vs hp1) (srcHp k hp1)).bind fun src hp1 =>
  (compLoop (fun v => bindT t v loc) (fun l h => evalIfs P C ifs l h) (evalE P C elt) loops src [] hp1).bind fun l hp2 => newList l hp2 := by
 refine (show evalE P C (.comp elt t k its ifs) loc hp = if (P.held && !k.calm) = true then .bad else (evalEs P C its loc hp).bind fun vs hp1 => match srcOf k vs hp1 with
  | none => .bad
  | some src => (compLoop (fun v => bindT t v loc) (fun l h => evalIfs P C ifs l h) (fun l h => evalE P C elt l h) loops src [] (srcHp k hp1)).bind fun l hp2 => newList l hp2 from rfl).trans ?_
 congr 1
 cases evalEs P C its loc hp with
 | bad => rfl
 | exc c hp1 => rfl
 | ok vs hp1 =>
  rw [Res.bind_ok, Res.bind_ok]
  cases srcOf k vs hp1 with
  | none => rfl
  | some src => rfl
theorem src_isZ {k : ItK} {vs : List PV} {hp : Hp} {src : Src} (hk : k.calm = true) (h : srcOf k vs hp = some src) : src.isZ = true := by
 cases k with
 | zip =>
  refine x44 (srcZ_inv h) fun z_ z_ z_ z_ z_ z_ z_ zq8 => ?_
  subst zq8; rfl
 | _ => cases hk
theorem s_comp (hld : MP.held = false → 2 ≤ k) (TO : TabOk X t) {n : Nat} (S : Snd X MP k C t n) {sc scope : Scope} {elt : Expr} {gens : List Comprehension} {m : ME} (h : cComp (n + 1) t sc elt scope gens = some m) :
  ∃ tg it ifs tt f g fs hd, gens = [⟨tg, it, ifs, 0⟩] ∧ DoesIt X sc k it f ∧ CompScope X sc scope tt ∧ BindL X (relab scope sc) tg tt ∧ SIfs X (relab scope sc) k ifs fs ∧ SE X (relab scope sc) k elt g ∧ (∀ loc hp src hp', f loc hp = .ok src hp' → Lets tg src) ∧
   (∀ env x, foldedSetIterable it env x = pure x) ∧ (hd = false → 2 ≤ k ∨ ∀ loc hp src hp', f loc hp = .ok src hp' → src.isZ = true) ∧ ∀ loc hp, evalE MP C m loc hp = if hd = true then .bad else (f loc hp).bind fun src hp1 => (compLoop (fun v => bindT tt v loc) (runIfs fs) g loops src [] hp1).bind fun l hp2 => newList l hp2 := by
 cases gens with
 | nil => exact no h
 | cons g0 r =>
  cases r with
  | cons g1 r => cases g0; exact no h
  | nil =>
   obtain ⟨tg, it, ifs, a⟩ := g0
   replace h : (if a = 0 ∧ chkScope sc scope (tgtStrs tg) = true ∧ notSet it = true then
    (cTgt t tg).bind fun tt => (itOf sc t it).bind fun ki => if letOk ki.1 tg = false then none else (cEs n t sc ki.2).bind fun its => (cTs n t (relab scope sc) ifs).bind fun fs => (cE n t (relab scope sc) elt).bind fun el => some (ME.comp el tt ki.1 its fs)
    else none) = some m := h
   revert h; refine iftR fun hc h => ?_
   revert hc; refine y03 fun zq7 hs hset => ?_
   subst zq7
   revert h; refine bndR fun tt ht h => ?_
   revert h; refine bndR fun ki hk h => ?_
   by_cases hlk : letOk ki.1 tg = false
   ·rw [if_pos hlk] at h; exact no h
   rw [if_neg hlk] at h
   revert h; refine bndR fun its hi h => ?_
   revert h; refine bndR fun fs hf h => ?_
   revert h; refine bndR fun el he h => ?_
   obtain rfl := Option.some.inj h
   refine x02 (scope_ok TO hs ht) fun c1 c2 => ?_
   cases hq : (MP.held && !ki.1.calm) with
   | true =>
    refine ⟨tg, it, ifs, tt, fun z_ z_ => .bad, _, _, true, rfl, fun A env s ρ loc hp Q E I Rm P => P.elim, c1, c2, (S.ts _ _ _ hf).ifs, S.e _ _ _ he, ?_, set_plain hset, ?_, fun loc hp => ?_⟩
    ·intro _ _ _ _ q; cases q
    ·intro q; cases q
    ·exact (comp_def _ _ _ _ _ _ _ _ _).trans (if_pos hq)
   | false =>
   have hk2 : ki.1.calm = false → 2 ≤ k := fun q => hld (by rw [q] at hq; simpa using hq)
   refine ⟨tg, it, ifs, tt, _, _, _, false, rfl, s_it TO S hk hi hk2, c1, c2, (S.ts _ _ _ hf).ifs, S.e _ _ _ he, lets_it TO (by simpa using hlk) ht, set_plain hset, fun z_ => ?_, fun loc hp => ?_⟩
   ·cases hc : ki.1.calm with
    | false => exact .inl (hk2 hc)
    | true =>
     right
     intro loc hp src hp' e
     cases hr : evalEs MP C its loc hp with
     | bad => rw [hr] at e; cases e
     | exc c hp1 => rw [hr] at e; cases e
     | ok vs hp1 =>
      rw [hr, Res.bind_ok] at e
      cases hs : srcOf ki.1 vs hp1 with
      | none => rw [hs] at e; cases e
      | some s' => rw [hs] at e; cases e; exact src_isZ hc hs
   ·have : (fun l h => evalIfs MP C fs l h) = runIfs (fs.map (evalT MP C)) := by funext l h; exact (runIfs_map MP C fs l h).symm
    rw [← this]
    exact (comp_def _ _ _ _ _ _ _ _ _).trans (by rw [hq])
theorem snd (HC : CallOk X MP k C) (TO : TabOk X t) : ∀ n, Snd X MP k C t n
 | 0 => ⟨fun z_ z_ z_ h => no h, fun z_ z_ z_ h => no h, fun z_ z_ z_ h => no h, fun z_ z_ z_ h => no h, fun z_ z_ z_ h => no h, fun z_ z_ z_ z_ z_ h => no h, fun z_ z_ z_ z_ z_ z_ z_ z_ z_ h => no h, fun z_ z_ z_ z_ z_ z_ z_ h => no h⟩
 | n + 1 => by
  have S := snd HC TO n
  refine ⟨fun sc e m h => ?_, fun sc es ms h => ?_, fun sc e m h => ?_, fun sc es ms h => ?_, fun sc o m h => ?_, fun sc f es pos m h => ?_, fun sc s es p pos m hg hd hs h => ?_, fun sc o i a pos m ho h => ?_⟩
  ·cases e with
   | Constant c kk pos =>
    cases c with
    | none => cases h; exact se_none
    | bool b => cases h; exact se_bool
    | int i => cases h; exact se_int
    | str s => cases h; exact se_str
    | _ => exact no h
   | Name s pos => exact s_name TO h
   | BinOp l op r pos =>
    replace h : ((bopOf op).bind fun o => (cE n t sc l).bind fun a => (cE n t sc r).bind fun b => some (ME.bin o a b)) = some m := h
    revert h; refine bndR fun o ho h => ?_
    revert h; refine bndR fun a ha h => ?_
    revert h; refine bndR fun b hb h => ?_
    obtain rfl := Option.some.inj h
    exact se_bin ho (S.e _ _ _ ha) (S.e _ _ _ hb)
   | UnaryOp op x pos =>
    replace h : cUn op (cE n t sc x) = some m := h
    cases hx : cE n t sc x with
    | none => rw [hx] at h; cases op <;> exact no h
    | some a =>
     rw [hx] at h
     cases op with
     | Not => cases h; exact se_not (S.e _ _ _ hx)
     | USub => cases h; exact se_neg (S.e _ _ _ hx)
     | _ => exact no h
   | BoolOp op es pos =>
    replace h : ((cEs n t sc es).bind fun l => some (cBool op l)) = some m := h
    revert h; refine bndR fun l hl h => ?_
    obtain rfl := Option.some.inj h
    refine (se_boolOp (S.es _ _ _ hl)).congr fun loc hp => ?_
    cases op
    ·exact (runBool_map MP C true l loc hp).symm
    ·exact (runBool_map MP C false l loc hp).symm
   | Compare l ops rs pos =>
    replace h : (if lastMarks ops rs = false ∧ ops.length = rs.length then (cE n t sc l).bind fun a => (cEs n t sc rs).bind fun bs => some (ME.cmp a (ops.map copOf) bs) else none) = some m := h
    revert h; refine iftR fun hc h => ?_
    revert h; refine bndR fun a ha h => ?_
    revert h; refine bndR fun bs hb h => ?_
    obtain rfl := Option.some.inj h
    exact (se_cmp (S.e _ _ _ ha) (S.es _ _ _ hb) hc.1 hc.2).congr fun loc hp => bind_congr fun v hp1 => congrArg (fun q => Res.bind q _) (runCmp_map MP C bs v _ loc hp1).symm
   | Call f es kws pos =>
    cases kws with
    | nil => exact S.call _ _ _ _ _ h
    | cons a r => exact no h
   | Attribute o name pos =>
    replace h : ((attNum t name).bind fun i => if plainBase o = true then (cE n t sc o).bind fun a => some (ME.attr a i) else none) = some m := h
    replace h := Option.bind_eq_some_iff.mp h
    revert h; refine y12 fun i hi h => ?_
    refine x02 (attNum_inv TO hi) fun zq6 hn => ?_
    subst zq6
    revert h; refine iftR fun hc h => ?_
    revert h; refine bndR fun a ha h => ?_
    obtain rfl := Option.some.inj h
    exact se_attr TO.rack hn hc (S.e _ _ _ ha)
   | Subscript o i pos =>
    replace h : ((cE n t sc o).bind fun a => cSub n t sc i a) = some m := h
    revert h; refine bndR fun a ha h => ?_
    exact S.sub _ _ _ _ _ _ (S.e _ _ _ ha) h
   | List es pos =>
    replace h : (if es.length ≤ 1000 then (cEs n t sc es).bind fun l => some (ME.list l) else none) = some m := h
    revert h; refine iftR fun hz h => ?_
    revert h; refine bndR fun l hl h => ?_
    obtain rfl := Option.some.inj h
    exact (se_list (S.es _ _ _ hl) hz).congr fun loc hp => congrArg (fun q => Res.bind q _) (runEs_map MP C l loc hp).symm
   | Tuple es kk pos =>
    replace h : (if es.length ≤ 1000 then (cEs n t sc es).bind fun l => some (ME.tuple l) else none) = some m := h
    revert h; refine iftR fun hz h => ?_
    revert h; refine bndR fun l hl h => ?_
    obtain rfl := Option.some.inj h
    exact (se_tuple (S.es _ _ _ hl) hz).congr fun loc hp => congrArg (fun q => Res.bind q _) (runEs_map MP C l loc hp).symm
   | ListComp elt gens scope pos =>
    replace h : cComp n t sc elt scope gens = some m := h
    cases n with
    | zero => cases h
    | succ n' =>
     obtain ⟨tg, it, ifs, tt, f, g, fs, hd, rfl, d1, d2, d3, d4, d5, d6, d7, d9, d8⟩ := s_comp HC.held TO (snd HC TO n') h
     exact (se_comp d1 d2 d3 d4 d5 d6 d7 hd d9).congr d8
   | _ => exact no h
  ·cases es with
   | nil => cases h; exact .nil
   | cons e r =>
    replace h : (if notStar e = true then (cE n t sc e).bind fun a => (cEs n t sc r).bind fun l => some (a :: l) else none) = some ms := h
    revert h; refine iftR fun hs h => ?_
    revert h; refine bndR fun a ha h => ?_
    revert h; refine bndR fun l hl h => ?_
    obtain rfl := Option.some.inj h
    exact .cons (S.e _ _ _ ha) (star_plain hs _) (S.es _ _ _ hl)
  ·have val : ∀ e, (if valTest e = true then (cE n t sc e).map MT.val else none) = some m → ST X sc k e (evalT MP C m) := fun e h => by
    revert h; refine iftR fun hv h => ?_
    refine x12 (Option.map_eq_some_iff.mp h) fun a ha zq5 => ?_
    subst zq5
    exact st_val (S.e _ _ _ ha) (isTrue_val hv)
   cases e with
   | UnaryOp op x pos =>
    cases op with
    | Not =>
     replace h : (cT n t sc x).map MT.notT = some m := h
     refine x12 (Option.map_eq_some_iff.mp h) fun a ha zq4 => ?_
     subst zq4
     exact st_not (S.tt _ _ _ ha)
    | _ => exact val _ h
   | BoolOp op es pos =>
    replace h : (cTs n t sc es).map (cBoolT op) = some m := h
    refine x12 (Option.map_eq_some_iff.mp h) fun a ha zq3 => ?_
    subst zq3
    refine (st_boolOp (S.ts _ _ _ ha)).congr fun loc hp => ?_
    cases op
    ·exact (runTs_map MP C true a loc hp).symm
    ·exact (runTs_map MP C false a loc hp).symm
   | Compare l ops rs pos =>
    replace h : (if lastMarks ops rs = false ∧ ops.length = rs.length then (cE n t sc l).bind fun a => (cEs n t sc rs).bind fun bs => some (MT.cmp a (ops.map copOf) bs) else none) = some m := h
    revert h; refine iftR fun hc h => ?_
    revert h; refine bndR fun a ha h => ?_
    revert h; refine bndR fun bs hb h => ?_
    obtain rfl := Option.some.inj h
    exact (st_cmp (S.e _ _ _ ha) (S.es _ _ _ hb) hc.1 hc.2).congr fun loc hp => bind_congr fun v hp1 => (runCmp_map MP C bs v _ loc hp1).symm
   | _ => exact val _ h
  ·cases es with
   | nil => cases h; exact .nil
   | cons e r =>
    replace h : ((cT n t sc e).bind fun a => (cTs n t sc r).bind fun l => some (a :: l)) = some ms := h
    revert h; refine bndR fun a ha h => ?_
    revert h; refine bndR fun l hl h => ?_
    obtain rfl := Option.some.inj h
    exact .cons (S.tt _ _ _ ha) (S.ts _ _ _ hl)
  ·cases o with
   | none => cases h; exact .none
   | some e =>
    replace h : (cE n t sc e).map some = some m := h
    refine x12 (Option.map_eq_some_iff.mp h) fun a ha zq2 => ?_
    subst zq2
    exact .some (S.e _ _ _ ha)
  ·cases f with
   | Name s p =>
    replace h : (if notDebug s = true then (if isLoc sc s = true then (t.num s).bind fun i => (cEs n t sc es).bind fun l => some (ME.call (.var i) l) else if isGlob sc s = true then
     (match t.globs.lookup s with
     | some p => (cEs n t sc es).bind fun l => some (ME.call (.glob 0 p) l)
     | none => if s = "isinstance" then cIsi n t sc es else if s = "Rack" then (t.meths.lookup ("__init__" : Str)).bind fun i => if es.isEmpty = true then none else (cEs n t sc es).bind fun l => some (ME.mk i l) else (bfOf s es.length).bind fun b => (cEs n t sc es).bind fun l => some (ME.bcall b l)) else none) else none) = some m := h
    have call : ∀ {c : ME} {l : List ME}, SE X sc k (.Name s p) (evalE MP C c) → cEs n t sc es = some l → SE X sc k (.Call (.Name s p) es [] pos) (evalE MP C (.call c l)) := fun {c l} hv hl => by
     refine (se_call HC hv (S.es _ _ _ hl) (fun env => rfl)).congr fun loc hp => bind_congr fun v hp1 => ?_
     cases v with
     | fn i => exact congrArg (fun q => Res.bind q _) (runEs_map MP C l loc hp1).symm
     | _ => rfl
    revert h; refine iftR fun hd h => ?_
    by_cases hl : isLoc sc s = true
    ·rw [if_pos hl] at h
     revert h; refine bndR fun i hi h => ?_
     refine x12 (Option.bind_eq_some_iff.mp h) fun l hl' h => ?_
     obtain rfl := Option.some.inj h
     exact call (s_name TO (by unfold cName; rw [if_pos hd, if_pos hl, hi]; rfl)) hl'
    ·rw [if_neg hl] at h
     revert h; refine iftR fun hg h => ?_
     cases hp' : t.globs.lookup s with
     | some p' =>
      rw [hp'] at h
      refine x12 (Option.bind_eq_some_iff.mp h) fun l hl' h => ?_
      obtain rfl := Option.some.inj h
      exact call (c := .glob 0 p') (se_glob TO hg hd hp') hl'
     | none =>
      rw [hp'] at h
      replace h : (if s = "isinstance" then cIsi n t sc es else if s = "Rack" then (t.meths.lookup ("__init__" : Str)).bind fun i => if es.isEmpty = true then none else (cEs n t sc es).bind fun l => some (ME.mk i l) else (bfOf s es.length).bind fun b => (cEs n t sc es).bind fun l => some (ME.bcall b l)) = some m := h
      by_cases hs : s = "isinstance"
      ·rw [if_pos hs] at h
       exact S.isi _ _ _ _ _ _ hg hd hs h
      ·rw [if_neg hs] at h
       by_cases hs2 : s = "Rack"
       ·rw [if_pos hs2] at h
        revert h; refine bndR fun i hi h => ?_
        by_cases he : es.isEmpty = true
        ·rw [if_pos he] at h; exact no h
        rw [if_neg he] at h
        refine x12 (Option.bind_eq_some_iff.mp h) fun l hl' h => ?_
        obtain rfl := Option.some.inj h
        refine x12 TO.rackN fun mg hn hm => ?_
        exact (se_mk HC TO.rack hi (names_glob hg hd hn (by rw [hs2]; exact hm)) (S.es _ _ _ hl') (fun q => he (by rw [q]; rfl))).congr fun loc hp => congrArg (fun q => Res.bind q _) (runEs_map MP C l loc hp).symm
       rw [if_neg hs2] at h
       revert h; refine bndR fun b hb h => ?_
       refine x12 (Option.bind_eq_some_iff.mp h) fun l hl' h => ?_
       obtain rfl := Option.some.inj h
       exact (se_bcall (names_blt TO hg hd (bfOf_val hb)) (S.es _ _ _ hl') MP.held HC.held).congr fun loc hp => congrArg (fun q => Res.bind q _) (runEs_map MP C l loc hp).symm
   | Attribute o name apos =>
    replace h : (if (plainBase o && (apos.endLine == pos.line) && decide (es.length < 30)) = true then (cE n t sc o).bind fun a => (cEs n t sc es).bind fun l => (match t.meths.lookup name with
     | some i => if attNames.contains name = true then none else some (ME.mcall i a l)
     | none => (mfOf name).bind fun m => some (ME.meth m a l)) else none) = some m := h
    revert h; refine iftR fun hc h => ?_
    revert h; refine bndR fun a ha h => ?_
    refine x12 (Option.bind_eq_some_iff.mp h) fun l hl' h => ?_
    have hc2 := Bool.and_eq_true_iff.mp hc
    have hc1 := Bool.and_eq_true_iff.mp hc2.1
    cases hq : t.meths.lookup name with
    | some i =>
     rw [hq] at h
     replace h : (if attNames.contains name = true then none else some (ME.mcall i a l)) = some m := h
     by_cases hn : attNames.contains name = true
     ·rw [if_pos hn] at h; exact no h
     rw [if_neg hn] at h
     obtain rfl := Option.some.inj h
     exact (se_mcall HC TO.rack hq (fun z => hn (List.contains_iff_mem.mpr z)) hc1.1 hc1.2 (of_decide_eq_true hc2.2) (S.e _ _ _ ha) (S.es _ _ _ hl')).congr fun loc hp => bind_congr fun v hp1 => congrArg (fun q => if (tabOf v hp1).isSome = true then Res.bind q _ else _) (runEs_map MP C l loc hp1).symm
    | none =>
     rw [hq] at h
     revert h; refine bndR fun mm hm h => ?_
     obtain rfl := Option.some.inj h
     exact (se_meth (mfOf_val hm) hc1.1 hc1.2 (of_decide_eq_true hc2.2) (S.e _ _ _ ha) (S.es _ _ _ hl')).congr fun loc hp => bind_congr fun v hp1 => congrArg (fun q => if recv mm v hp1 = true then Res.bind q _ else _) (runEs_map MP C l loc hp1).symm
   | _ => exact no h
  ·cases es with
   | nil => exact no h
   | cons e r =>
    cases r with
    | nil => exact no h
    | cons e2 r2 =>
     cases r2 with
     | cons e3 r3 => exact no h
     | nil =>
      replace h := Option.bind_eq_some_iff.mp (show ((asName e2).bind fun x => if (isGlob sc x && notDebug x && (t.globs.lookup x).isNone && notStar e) = true then (tyAny x).bind fun ty => (cE n t sc e).bind fun a => some (ME.isi a ty) else none) = some m from h)
      revert h; refine y12 fun x hx h => ?_
      refine x11 (asName_inv hx) fun p' zq1 => ?_
      subst zq1
      revert h; refine iftR fun hc h => ?_
      revert h; refine bndR fun ty ht h => ?_
      revert h; refine bndR fun a ha h => ?_
      obtain rfl := Option.some.inj h
      have hc3 := Bool.and_eq_true_iff.mp hc
      have hc2 := Bool.and_eq_true_iff.mp (Bool.and_eq_true_iff.mp hc3.1).1
      have hst : ∀ env, starEach [e, .Name x p'] env = [(false, eval e env), (false, eval (.Name x p') env)] := fun env => by rw [star_plain hc3.2]; rfl
      have hib : Names X sc s (.builtin "isinstance") := names_blt TO hg hd (by rw [hs]; kernel_rfl)
      unfold tyAny at ht
      cases hq : tyOf x with
      | none =>
       rw [hq] at ht
       refine x12 (names_clsV TO hc2.1 hc2.2 ht) fun v hv hn => ?_
       exact se_isiX TO.clss hv hib hn (S.e _ _ _ ha) hst
      | some ty' =>
       rw [hq] at ht; cases ht
       exact se_isi (tyOf_B hq) (T := s) hib (names_blt TO hc2.1 hc2.2 (tyOf_val hq)) (S.e _ _ _ ha) hst
  ·have sub : ∀ i, (if notSlice i = true then (cE n t sc i).bind fun b => some (ME.sub a b) else none) = some m → SE X sc k (.Subscript o i pos) (evalE MP C m) := fun i h => by
    revert h; refine iftR fun hs h => ?_
    revert h; refine bndR fun b hb h => ?_
    obtain rfl := Option.some.inj h
    exact se_sub ho (S.e _ _ _ hb) (sub_plain hs)
   cases i with
   | Slice lo hi st pos' =>
    cases st with
    | some _ => exact sub _ h
    | none =>
     replace h : ((cO n t sc lo).bind fun x => (cO n t sc hi).bind fun y => some (ME.slice a x y)) = some m := h
     revert h; refine bndR fun x hx h => ?_
     revert h; refine bndR fun y hy h => ?_
     obtain rfl := Option.some.inj h
     exact (se_slice ho (S.o _ _ _ hx) (S.o _ _ _ hy)).congr fun loc hp => bind_congr fun v hp1 => by
      rw [runO_map]
      exact bind_congr fun x' hp2 => by rw [runO_map]
   | _ => exact sub _ h
termination_by n => n
decreasing_by all_goals omega
end
end Mine
end
section
namespace Mine
open PySem PySem.Calls PyProof.Rows PySem.SeqAt
section
variable {X : Cx} {MP : MProg} {k : Nat} {C W : Caller} {t : Tab}
theorem tgt_ok (TO : TabOk X t) {sc : Scope} {tg : Expr} {tt : Tgt} (h : tgtLoc sc tg = true) (ht : cTgt t tg = some tt) : BindOk X sc tg tt := by
 have hst := tgt_strs TO ht
 unfold tgtLoc at h
 rw [hst, List.all_eq_true] at h
 have hx : ∀ x ∈ tt.names, sc.names.lookup (X.nm x) = some .local ∨ sc.names.lookup (X.nm x) = some .cell := fun x hx => isLoc_iff (h _ (List.mem_map.mpr ⟨x, hx, rfl⟩))
 rcases tgt_inv TO ht with ⟨x, p, rfl, rfl⟩ | ⟨es, kk, pos, rfl, xs, rfl, hn, hb⟩
 ·exact bind_name (hx x (.head _))
 ·exact bind_tuple (fun x hx' => hx x.1 (by rw [hn]; exact List.mem_map.mpr ⟨x, hx', rfl⟩)) hb
theorem exeS_try (P : MProg) (C W : Caller) (body : List MS) (x : Nat) (h : ME) (loc : Loc) (hp : Hp) : exeS P C W (.tryS body x h) loc hp = if P.held = true then .bad else match exeB P C W body loc hp with
  | .exc c loc1 hp1 => (evalE P.hold W h (putv loc1 x (.exc c)) hp1).stmB fun v hp2 => .ret v hp2
  | r => r := by
 show (if P.held = true then SR.bad else match exeB P C W body loc hp with | .exc c loc1 hp1 => (evalE P.hold W h (putv loc1 x (.exc c)) hp1).stmB fun v hp2 => .ret v hp2 | r => r) = _
 rfl
theorem s_raise (hld : MP.held = false → 2 ≤ k) (TO : TabOk X t) {sc : Scope} {a b : Option Expr} {pos : Pos} {m : MS} (h : cRaise sc a b = some m) : DoesS X sc k (exec (.Raise a b pos)) (exeS MP C W m) := by
 cases a with
 | none => exact no h
 | some e => cases b with
  | some _ => exact no h
  | none =>
   replace h : ((callName e).bind fun q => if (isGlob sc q.1 && notDebug q.1 && oneStr q.2) = true then (numFrom q.1 clsNames 0).map MS.raise else none) = some m := h
   replace h := Option.bind_eq_some_iff.mp h
   revert h; refine y12 fun zq17 hq h => ?_
   obtain ⟨x, es⟩ := zq17
   refine x21 (callName_inv hq) fun np cpos zq16 => ?_
   subst zq16
   revert h; refine iftR fun hc h => ?_
   refine x12 (Option.map_eq_some_iff.mp h) fun c hcc zq15 => ?_
   subst zq15
   have hc' := Bool.and_eq_true_iff.mp hc
   have hc2 := Bool.and_eq_true_iff.mp hc'.1
   refine x31 (oneStr_inv hc'.2) fun m' kk p0 zq14 => ?_
   subst zq14
   exact sx_raise TO.clss (TO.cls _ _ hcc).1 (names_cls TO hc2.1 hc2.2 hcc) MP.held hld
theorem swapped_no {es : List Expr} {kk : Nat} {p : Pos} {e : Expr} {env : Env} (h : isTupE e = false) : swappedStores [.Tuple es kk p] e env = pure none := by
 cases e <;> first | rfl | exact Bool.noConfusion (show true = false from h)
theorem s_asgT {sc : Scope} {tg e : Expr} {pos : Pos} {tt : Tgt} {a : ME} (ha : SE X sc k e (evalE MP C a)) (ht : tgtLoc sc tg = true → cTgt t tg = some tt → BindOk X sc tg tt) (hp : isTupE tg = true) (hc : ¬ (isComp e || isTupE e || !tgtLoc sc tg) = true) (hq : cTgt t tg = some tt) (hd : Bool) (hh : MP.held = hd) (hk : MP.held = false → 2 ≤ k) :
  DoesS X sc k (exec (.Assign [tg] e pos)) (exeS MP C W (.asgT tt a)) := by
 have h1 : isComp e = false ∧ isTupE e = false ∧ tgtLoc sc tg = true := by
  cases h1 : isComp e <;> cases h2 : isTupE e <;> cases h3 : tgtLoc sc tg <;> rw [h1, h2, h3] at hc <;> first | exact ⟨rfl, rfl, rfl⟩ | exact absurd rfl hc
 refine x11 (Option.isSome_iff_exists.mp hp) fun es he => ?_
 refine x21 (asTup_inv he) fun kk p zq13 => ?_
 subst zq13
 cases hd with
 | true =>
  intro A env s ρ loc hp Q E Ft I Rm P
  have e1 : exeS MP C W (.asgT tt a) loc hp = if MP.held = true then SR.bad else (evalE MP C a loc hp).stm loc fun v hp1 => match bindT tt v loc with | some loc1 => .nxt loc1 hp1 | none => .bad := rfl
  rw [e1, if_pos hh] at P; exact P.elim
 | false =>
  refine (sx_asgT ha (ht h1.2.2 hq) h1.1 (fun env => swapped_no h1.2.1) (fun env => rfl) (hk hh)).congr fun loc hp => ?_
  have e1 : exeS MP C W (.asgT tt a) loc hp = if MP.held = true then SR.bad else (evalE MP C a loc hp).stm loc fun v hp1 => match bindT tt v loc with | some loc1 => .nxt loc1 hp1 | none => .bad := rfl
  rw [e1, hh]; rfl
theorem sndS (HC : CallOk X MP k C) (HW : CallOk X MP.hold 1 W) (TO : TabOk X t) : ∀ n, (∀ sc st m, cS n t sc st = some m → DoesS X sc k (exec st) (exeS MP C W m)) ∧ (∀ sc b ms, cB n t sc b = some ms → DoesS X sc k (execs b) (exeB MP C W ms))
 | 0 => ⟨fun sc st m h => no h, fun sc b ms h => no h⟩
 | n + 1 => by
  refine x02 (sndS HC HW TO n) fun ihS ihB => ?_
  have S := snd HC TO n
  refine ⟨fun sc st m h => ?_, fun sc b ms h => ?_⟩
  ·cases st with
   | Expr e pos =>
    replace h : (if isComp e = true then none else (cE n t sc e).map MS.expr) = some m := h
    by_cases hc : isComp e = true
    ·rw [if_pos hc] at h; exact no h
    ·rw [if_neg hc] at h
     refine x12 (Option.map_eq_some_iff.mp h) fun a ha zq12 => ?_
     subst zq12
     exact sx_expr (S.e _ _ _ ha) (by simpa using hc)
   | Return e pos =>
    cases e with
    | none => exact no h
    | some e =>
     refine x12 (Option.map_eq_some_iff.mp (show (cE n t sc e).map MS.ret = some m from h)) fun a ha zq11 => ?_
     subst zq11
     exact sx_ret (S.e _ _ _ ha)
   | Assign tgs e pos =>
    cases tgs with
    | nil => exact no h
    | cons tg r =>
     cases r with
     | cons tg' r => exact no h
     | nil =>
      replace h : cAsg n t sc tg e = some m := h
      unfold cAsg at h
      cases hq : asName tg with
      | some s =>
       rw [hq] at h
       refine x11 (asName_inv hq) fun p zq10 => ?_
       subst zq10
       replace h : (if isLoc sc s = true then (t.num s).bind fun x => (cE n t sc e).bind fun a => some (MS.asg x a) else none) = some m := h
       revert h; refine iftR fun hl h => ?_
       revert h; refine bndR fun x hx h => ?_
       revert h; refine bndR fun a ha h => ?_
       obtain rfl := Option.some.inj h
       have e' := TO.nm s x hx
       subst e'
       by_cases hc : isComp e = false
       ·exact sx_asg (S.e _ _ _ ha) hc (isLoc_iff hl)
       ·cases e with
        | ListComp elt gens scope pos' =>
         cases n with
         | zero => exact no ha
         | succ n₁ =>
          cases n₁ with
          | zero => exact no ha
          | succ n₂ =>
           obtain ⟨tg, it, ifs, tt, f, g, fs, hd, rfl, d1, d2, d3, d4, d5, d6, d7, d9, d8⟩ := s_comp HC.held TO (snd HC TO n₂) ha
           exact (sx_asg_comp d1 d2 d3 d4 d5 d6 d7 (isLoc_iff hl) hd d9).congr fun loc hp => congrArg (fun q => Res.stm q loc fun v hp1 => SR.nxt (putv loc x v) hp1) (d8 loc hp)
        | SetComp _ _ _ _ => cases n <;> exact no ha
        | DictComp _ _ _ _ _ => cases n <;> exact no ha
        | _ => exact absurd rfl hc
      | none =>
       rw [hq] at h
       by_cases hp : isTupE tg = true
       ·replace h : (if isTupE tg = true then (if (isComp e || isTupE e || !tgtLoc sc tg) = true then none else (cTgt t tg).bind fun tt => (cE n t sc e).bind fun a => some (MS.asgT tt a)) else _) = some m := h
        rw [if_pos hp] at h
        by_cases hc : (isComp e || isTupE e || !tgtLoc sc tg) = true
        ·rw [if_pos hc] at h; exact no h
        ·rw [if_neg hc] at h
         revert h; refine bndR fun tt ht h => ?_
         revert h; refine bndR fun a ha h => ?_
         obtain rfl := Option.some.inj h
         exact s_asgT (S.e _ _ _ ha) (tgt_ok TO) hp hc ht MP.held rfl HC.held
       replace h : (if isTupE tg = true then _ else _) = some m := h
       rw [if_neg hp] at h
       cases hat : asAtt tg with
       | some os =>
        obtain ⟨o, a'⟩ := os
        rw [hat] at h
        refine x11 (asAtt_inv hat) fun p zq9 => ?_
        subst zq9
        replace h := Option.bind_eq_some_iff.mp h
        revert h; refine y12 fun i hi h => ?_
        refine x02 (attNum_inv TO hi) fun zq8 hn => ?_
        subst zq8
        revert h; refine bndR fun a ha h => ?_
        revert h; refine bndR fun b hb h => ?_
        obtain rfl := Option.some.inj h
        exact (sx_setA TO.rack hn (S.e _ _ _ ha) (S.e _ _ _ hb)).congr fun loc hp =>
         congrArg (fun f => Res.stm _ loc f) (funext fun v => funext fun hp1 => congrArg (fun f => Res.stm _ loc f) (funext fun a' => funext fun hp2 => by cases putAttr a' i v hp2 <;> rfl))
       | none =>
       rw [hat] at h
       replace h : ((asSub tg).bind fun oi => if isComp e = true then none else (cE n t sc e).bind fun a => (cE n t sc oi.1).bind fun b => (cE n t sc oi.2).bind fun c => some (MS.store b c a)) = some m := h
       replace h := Option.bind_eq_some_iff.mp h
       revert h; refine y12 fun zq7 hoi h => ?_
       obtain ⟨o, i⟩ := zq7
       refine x11 (asSub_inv hoi) fun p zq6 => ?_
       subst zq6
       by_cases hc : isComp e = true
       ·rw [if_pos hc] at h; exact no h
       ·rw [if_neg hc] at h
        revert h; refine bndR fun a ha h => ?_
        revert h; refine bndR fun b hb h => ?_
        refine x12 (Option.bind_eq_some_iff.mp h) fun c hc' h => ?_
        obtain rfl := Option.some.inj h
        exact (sx_store (S.e _ _ _ ha) (by simpa using hc) (S.e _ _ _ hb) (S.e _ _ _ hc')).congr fun loc hp =>
         congrArg (fun f => Res.stm _ loc f) (funext fun v => funext fun hp1 => congrArg (fun f => Res.stm _ loc f) (funext fun a' => funext fun hp2 => congrArg (fun f => Res.stm _ loc f) (funext fun kk => funext fun hp3 => by cases storeAt a' kk v hp3 <;> rfl)))
   | If c a b pos =>
    replace h : ((cT n t sc c).bind fun x => (cB n t sc a).bind fun y => (cB n t sc b).bind fun z => some (MS.ifS x y z)) = some m := h
    revert h; refine bndR fun x hx h => ?_
    revert h; refine bndR fun y hy h => ?_
    revert h; refine bndR fun z hz h => ?_
    obtain rfl := Option.some.inj h
    exact sx_if (S.tt _ _ _ hx) (ihB _ _ _ hy) (ihB _ _ _ hz)
   | For tg it body orelse pos =>
    replace h : (if (orelse.isEmpty && tgtLoc sc tg && notSet it) = true then (cTgt t tg).bind fun tt => (itOf sc t it).bind fun ki => if letOk ki.1 tg = false then none else (cEs n t sc ki.2).bind fun its => (cB n t sc body).bind fun b => some (MS.forS tt ki.1 its b) else none) = some m := h
    revert h; refine iftR fun hc h => ?_
    have hc2 := Bool.and_eq_true_iff.mp hc
    have hc1 := Bool.and_eq_true_iff.mp hc2.1
    cases orelse with
    | cons a r => cases hc1.1
    | nil =>
     revert h; refine bndR fun tt ht h => ?_
     revert h; refine bndR fun ki hk h => ?_
     by_cases hlk : letOk ki.1 tg = false
     ·rw [if_pos hlk] at h; exact no h
     rw [if_neg hlk] at h
     revert h; refine bndR fun its hi h => ?_
     revert h; refine bndR fun b hb h => ?_
     obtain rfl := Option.some.inj h
     cases hq : MP.held with
     | true => exact fun A env s ρ loc hp Q E Ft I Rm P => by rw [exeS_for, hq] at P; exact P.elim
     | false =>
      exact (sx_for (s_it TO S hk hi fun z_ => HC.held hq) (tgt_ok TO hc1.2 ht) (ihB _ _ _ hb) (lets_it TO (by simpa using hlk) ht) (set_plain hc2.2) loops false fun z_ => HC.held hq).congr fun loc hp => (exeS_for _ _ _ _ _ _ _ _ _).trans (by rw [hq])
   | Raise a b pos => exact s_raise HC.held TO h
   | Try body hs orelse final pos =>
    replace h : ((asTry hs orelse final).bind fun q => if tryOk sc q = true then (t.num q.2.1).bind fun i => (cB n t sc body).bind fun b => (cE n t sc q.2.2).bind fun a => some (MS.tryS b i a) else none) = some m := h
    replace h := Option.bind_eq_some_iff.mp h
    revert h; refine y12 fun zq5 hq h => ?_
    obtain ⟨r, x, e⟩ := zq5
    refine x33 (asTry_inv hq) fun p1 p2 p3 zq2 zq3 zq4 => ?_
    subst zq2
    subst zq3
    subst zq4
    revert h; refine iftR fun hc h => ?_
    revert h; refine bndR fun i hi h => ?_
    revert h; refine bndR fun b hb h => ?_
    revert h; refine bndR fun a ha h => ?_
    obtain rfl := Option.some.inj h
    have e' := TO.nm _ i hi
    dsimp only at e' ⊢
    subst e'
    simp only [tryOk, Bool.and_eq_true, decide_eq_true_eq] at hc
    revert hc; refine y02 fun zq1 h4 => ?_
    obtain ⟨⟨h1, h2⟩, h3⟩ := zq1
    exact (sx_try TO.clss (names_cls TO h1 h2 h3) (ihB _ _ _ hb) ((snd HW TO n).e _ _ _ ha) h4 MP.held HC.held).congr fun loc hp => exeS_try _ _ _ _ _ _ _ _
   | Break pos =>
    obtain rfl := Option.some.inj h
    exact sx_brk
   | _ => exact no h
  ·cases b with
   | nil =>
    obtain rfl := Option.some.inj h
    exact sx_nil
   | cons st r =>
    replace h : (match cS n t sc st with | some a => (cB n t sc r).bind fun l => some (a :: l) | none => some [MS.bad]) = some ms := h
    cases ha : cS n t sc st with
    | none => rw [ha] at h; cases h; exact fun A env s ρ loc hp Q E Ft I Rm P => P.elim
    | some a =>
     rw [ha] at h
     revert h; refine bndR fun l hl h => ?_
     obtain rfl := Option.some.inj h
     exact sx_cons (ihS _ _ _ ha) (ihB _ _ _ hl)
end
end Mine
end
section
namespace Mine
open PySem PySem.Calls PyProof.Rows PySem.SeqAt
theorem fm_congr {α β : Type} {f g : α → Option β} : ∀ {l : List α}, (∀ m ∈ l, f m = g m) → l.filterMap f = l.filterMap g
 | [], _ => rfl
 | a :: r, h => by
  rw [List.filterMap_cons, List.filterMap_cons, h a (.head _), fm_congr fun m hm => h m (.tail _ hm)]
theorem zip_look : ∀ {names : List Str} {vals : List Value}, names.Nodup → vals.length = names.length → names.filterMap (fun n => ((names.zip vals).lookup n).map (n, ·)) = names.zip vals
 | [], vals, _, _ => by cases vals <;> rfl
 | n :: r, [], _, h => by cases h
 | n :: r, v :: vs, hn, h => by
  have hn' := List.nodup_cons.mp hn
  have ih := zip_look hn'.2 (vals := vs) (by simpa using h)
  rw [List.zip_cons_cons]
  have h1 : (((n, v) :: r.zip vs).lookup n) = some v := by simp [List.lookup]
  rw [List.filterMap_cons_some (b := (n, v)) (by rw [h1]; rfl)]
  congr 1
  have : r.filterMap (fun m => (((n, v) :: r.zip vs).lookup m).map (m, ·)) = r.filterMap (fun m => ((r.zip vs).lookup m).map (m, ·)) := by
   apply fm_congr
   intro m hm
   have hb : (m == n) = false := beq_eq_false_iff_ne.mpr fun q => hn'.1 (q ▸ hm)
   simp only [List.lookup, hb]
  rw [this]; exact ih
theorem zip_some : ∀ {names : List Str} {vals : List Value} {n : Str}, vals.length = names.length → n ∈ names → ((names.zip vals).lookup n).isNone = false
 | [], _, n, _, h => by cases h
 | _ :: _, [], n, h, _ => by cases h
 | m :: r, v :: vs, n, h, hm => by
  rw [List.zip_cons_cons]
  simp only [List.lookup]
  cases hb : n == m with
  | true => rfl
  | false =>
   refine zip_some (by simpa using h) ?_
   rcases List.mem_cons.mp hm with q | q
   ·subst q; simp at hb
   ·exact q
theorem bind_plain {name qual : Str} {params : Arguments} {body : List Stmt} {scope : Scope} {pm code doc : Value} {vals : List Value} (h1 : params.posonlyargs = []) (h2 : params.vararg = none) (h3 : params.kwonlyargs = []) (h4 : params.kwarg = none)
  (hn : (params.args.map (·.arg)).Nodup) (hl : vals.length = params.args.length) : bindArgs (methDef name qual params body scope pm code doc) ⟨vals, []⟩ = pure ((params.args.map (·.arg)).zip vals) := by
 have hl' : vals.length = (params.args.map (·.arg)).length := by rw [List.length_map]; exact hl
 obtain ⟨po, ar, va, ko, kd, kw, df⟩ := params
 dsimp only at h1 h2 h3 h4 hn hl hl'
 subst h1 h2 h3 h4
 have h0 : ¬ ((decide (vals.length > (ar.map (·.arg)).length) && true) = true) := by rw [Bool.and_true, decide_eq_true_eq]; omega
 refine (if_neg h0).trans ?_
 have hd : ∀ k, List.drop k (Option.getD none #[] : Array Value).toList = [] := fun k => List.drop_nil
 rw [hd]
 have hm : ¬ ((!((((ar.map (·.arg)).take (ar.map (·.arg)).length).filter fun n => (((ar.map (·.arg)).zip vals).lookup n).isNone).isEmpty)) = true) := by
  rw [List.filter_eq_nil_iff.mpr fun n hn' => by rw [zip_some hl' (List.mem_of_mem_take hn')]; exact Bool.false_ne_true]
  exact Bool.false_ne_true
 refine (if_neg hm).trans ?_
 have hz : ∀ l : List Str, l.zip ([] : List Value) = [] := fun l => List.zip_nil_right
 dsimp only
 rw [hz]
 have e : ((ar.map (fun x : Arg => x.arg)) ++ []).filterMap (fun n => (((ar.map (fun x : Arg => x.arg)).zip vals).lookup n).map (n, ·)) = (ar.map (fun x : Arg => x.arg)).zip vals := by rw [List.append_nil, zip_look hn hl']
 rw [← e]
 rfl
end Mine
end
section
namespace Mine
open PySem PySem.Calls PyProof.Rows PySem.SeqAt
noncomputable def nmOf (names : List Str) (x : Nat) : Str := match names[x]? with
 | some s => s
 | none => ⟨Array.replicate (x + 1000) 0⟩
theorem nmOf_inj {names : List Str} (hn : names.Nodup) (hs : ∀ s ∈ names, s.cps.size < 1000) : ∀ x y, nmOf names x = nmOf names y → x = y := by
 intro x y h
 unfold nmOf at h
 cases hx : names[x]? with
 | some a =>
  cases hy : names[y]? with
  | some b =>
   rw [hx, hy] at h
   dsimp only at h
   subst h
   obtain ⟨h1, e1⟩ := List.getElem?_eq_some_iff.mp hx
   exact (List.getElem?_inj h1 hn).mp (hx.trans hy.symm)
  | none =>
   rw [hx, hy] at h
   dsimp only at h
   have := hs a (List.mem_of_getElem? hx)
   rw [h] at this
   simp at this
   omega
 | none =>
  cases hy : names[y]? with
  | some b =>
   rw [hx, hy] at h
   dsimp only at h
   have := hs b (List.mem_of_getElem? hy)
   rw [← h] at this
   simp at this
   omega
  | none =>
   rw [hx, hy] at h
   dsimp only at h
   have := congrArg (fun s : Str => s.cps.size) h
   simp at this
   omega
theorem nmOf_dot {names : List Str} (h : (".0" : Str) ∉ names) : ∀ x, nmOf names x ≠ (".0" : Str) := by
 intro x e
 unfold nmOf at e
 cases hx : names[x]? with
 | some a => rw [hx] at e; exact h (e ▸ List.mem_of_getElem? hx)
 | none =>
  rw [hx] at e
  have := congrArg (fun s : Str => s.cps.size) e
  have h2 : (".0" : Str).cps.size = 2 := by decide +kernel
  simp [h2] at this
theorem numFrom_get {s : Str} {l : List Str} : ∀ {i j : Nat}, numFrom s l i = some j → ∃ m, j = i + m ∧ l[m]? = some s := by
 induction l with
 | nil => exact fun h => no h
 | cons x r ih =>
  intro i j h
  replace h : (if x = s then some i else numFrom s r (i + 1)) = some j := h
  by_cases e : x = s
  ·rw [e]; exact ei12 0 (Option.some.inj ((if_pos e).symm.trans h)).symm rfl
  ·refine x12 (ih ((if_neg e).symm.trans h)) fun m h1 h2 => ei12 (m + 1) (h1.trans (by rw [Nat.add_right_comm]; rfl)) h2
noncomputable def rackOf (p : Program) (loose : List Str) : Option ClsRec := (plainsOf p loose).find? fun c => c.name == ("Rack" : Str)
noncomputable def methsOf (p : Program) (loose : List Str) : List MethRec := match rackOf p loose with
 | some c => c.meths
 | none => []
noncomputable def asDef (m : MethRec) : DefRec := ⟨m.name, m.params, m.body, m.scope, ⟨0, 0, 0, 0⟩⟩
noncomputable def allDefs (p : Program) (loose : List Str) : List DefRec := recsOf p ++ (methsOf p loose).map asDef
noncomputable def tabFrom : List MethRec → Nat → List (Str × Nat)
 | [], _ => []
 | m :: r, i => (m.name, i) :: tabFrom r (i + 1)
theorem tabFrom_mem {s : Str} {j : Nat} : ∀ {l : List MethRec} {i : Nat}, (s, j) ∈ tabFrom l i → ∃ k m, l[k]? = some m ∧ m.name = s ∧ j = i + k
 | [], i, h => by cases h
 | d :: r, i, h => by
  rcases List.mem_cons.mp h with e | e
  ·cases e; exact ei23 0 d rfl rfl rfl
  ·refine x23 (tabFrom_mem e) fun k m h1 h2 h3 => ?_
   exact ei23 (k + 1) m h1 h2 (by rw [h3]; omega)
noncomputable def methTab (p : Program) (loose : List Str) : List (Str × Nat) := tabFrom (methsOf p loose) (recsOf p).length
noncomputable def addrOf : Option Value → Addr
 | some (.ref a) => a
 | _ => 0
noncomputable def faOf (p : Program) (loose : List Str) (mg mN : Str → Option Value) (i : Nat) : Addr := match (recsOf p)[i]? with
 | some d => addrOf (mg d.name)
 | none => match (methsOf p loose)[i - (recsOf p).length]? with
  | some m => addrOf (mN m.name)
  | none => 0
noncomputable def fnGlobs : List DefRec → Nat → List (Str × PV)
 | [], _ => []
 | d :: r, i => (d.name, .fn i) :: fnGlobs r (i + 1)
theorem fnGlobs_mem {s : Str} {q : PV} : ∀ {l : List DefRec} {i : Nat}, (s, q) ∈ fnGlobs l i → ∃ m d, l[m]? = some d ∧ d.name = s ∧ q = .fn (i + m)
 | [], i, h => by cases h
 | d :: r, i, h => by
  rcases List.mem_cons.mp h with e | e
  ·cases e; exact ei23 0 d rfl rfl rfl
  ·refine x23 (fnGlobs_mem e) fun m d' h1 h2 h3 => ?_
   exact ei23 (m + 1) d' h1 h2 (by rw [h3]; congr 1; omega)
noncomputable def constGlobs (p : Program) (cs : List Str) : List (Str × PV) := cs.filterMap fun x => match valOf p x with
 | some (.int n) => some (x, .int n)
 | _ => none
noncomputable def globsOf (p : Program) (cs : List Str) : List (Str × PV) := fnGlobs (recsOf p) 0 ++ constGlobs p cs
noncomputable def cParams (t : Tab) : List Arg → Option (List Nat)
 | [] => some []
 | a :: r => (t.num a.arg).bind fun i => (cParams t r).map (i :: ·)
noncomputable def cDef (fuel : Nat) (t : Tab) (pl : Bool × Bool × List Nat) (d : DefRec) : Option MFun :=
 if d.params.posonlyargs.isEmpty && d.params.vararg.isNone && d.params.kwonlyargs.isEmpty && d.params.kwarg.isNone && d.params.args.all (fun a => isLoc d.scope a.arg) && (d.scope.kind == .function) && !d.scope.isCoroutine && !d.scope.isGenerator && decide ((d.params.args.map (·.arg)).Nodup) then
  (cParams t d.params.args).bind fun ps => (if pl.1 then some [.bad] else cB fuel t d.scope d.body).bind fun b => some ⟨pl.2.1, ps, pl.2.2, b⟩
 else none
noncomputable def cDefs (fuel : Nat) (t : Tab) : List (Bool × Bool × List Nat) → List DefRec → Option (List MFun)
 | [], [] => some []
 | p :: ps, d :: ds => (cDef fuel t p d).bind fun f => (cDefs fuel t ps ds).bind fun l => some (f :: l)
 | _, _ => none
theorem cDefs_get {fuel : Nat} {t : Tab} {ps : List (Bool × Bool × List Nat)} : ∀ {ds : List DefRec} {l : List MFun}, cDefs fuel t ps ds = some l → ∀ {i : Nat} {f : MFun}, l[i]? = some f → ∃ d p, ds[i]? = some d ∧ cDef fuel t p d = some f := by
 induction ps with
 | nil => intro ds l h i f hi; cases ds with
  | nil => cases h; cases hi
  | cons _ _ => exact no h
 | cons p ps ih => intro ds l h i f hi; cases ds with
  | nil => exact no h
  | cons d ds =>
   refine x12 (Option.bind_eq_some_iff.mp (show ((cDef fuel t p d).bind fun f => (cDefs fuel t ps ds).bind fun l => some (f :: l)) = some l from h)) fun a ha h => x12 (Option.bind_eq_some_iff.mp h) fun b hb h => ?_
   obtain rfl := Option.some.inj h
   cases i with
   | zero => exact ei22 d p rfl (ha.trans hi)
   | succ i => exact ih hb hi
theorem cParams_map {t : Tab} {nm : Nat → Str} (hnm : ∀ s i, t.num s = some i → nm i = s) {as : List Arg} : ∀ {ps : List Nat}, cParams t as = some ps → ps.map nm = as.map (·.arg) := by
 induction as with
 | nil => intro ps h; cases h; rfl
 | cons a r ih =>
  intro ps h
  refine x12 (Option.bind_eq_some_iff.mp (show ((t.num a.arg).bind fun i => (cParams t r).map (i :: ·)) = some ps from h)) fun i hi h => x12 (Option.map_eq_some_iff.mp h) fun l hl zq5 => ?_
  subst zq5
  rw [List.map_cons, List.map_cons, hnm _ _ hi, ih hl]
structure TextOk (p : Program) (loose : List Str) (names consts : List Str) (pures : List (Bool × Bool × List Nat)) (fuel : Nat) (P : MProg) : Prop where
 nodup : names.Nodup
 dot : (".0" : Str) ∉ names
 short : ∀ s ∈ names, s.cps.size < 1000
 free : ∀ s ∈ bvals.map (·.1), s ∉ startupNames ∧ s ∉ loose ∧ s ∉ (recsOf p).map (·.name) ∧ s ∉ (litsOf p).map (·.1) ∧ s ∉ (clssOf p loose).map (·.name)
 comp : cDefs fuel ⟨names, globsOf p consts, methTab p loose⟩ pures (allDefs p loose) = some P.funs
 rack : (match rackOf p loose with | some c => attNames.all fun s => c.statics.contains s | none => false) = true
noncomputable def caOf (mg : Str → Option Value) (c : Nat) : Addr := match clsNames[c]? with
 | some s => addrOf (mg s)
 | none => addrOf (mg "Rack")
noncomputable def mkCx (prog : Program) (w : World) (h : Heap) (P : MProg) (names : List Str) (p : Program) (loose : List Str) (mg mN : Str → Option Value) : Cx := ⟨prog, w, h, P, nmOf names, fun z_ => "", faOf p loose mg mN, caOf mg, 0⟩
structure ExcXP (mg : Str → Option Value) (h : Heap) : Prop where
 all : ∀ s ∈ clsNames, ∃ C N mN o, mg s = some (.ref C) ∧ h.get? C = some o ∧ ExcCls C N (((chainOf s).map fun n => (mg n).getD .none) ++ bmV) o ∧ h.Ns N mN ∧ (∀ n ∈ quietNames, mN n = none) ∧ mN "__class__" = none
 nodup : (clsNames.map mg).Nodup
theorem ExcXP.keeps (mg : Str → Option Value) (h h' : Heap) (x : ExcXP mg h) (hk : ∀ b o, h.get? b = some o → h'.get? b = some o) : ExcXP mg h' := by
 refine ⟨fun s hs => ?_, x.nodup⟩
 refine x45 (x.all s hs) fun C N mN o h1 h2 h3 h4 h5 => ?_
 exact ei45 C N mN o h1 (hk _ _ h2) h3 (h4.keeps hk) h5
theorem cls_quiet {h : Heap} {s : Str} {C N : Addr} {tl : List Value} {o : Obj} (h1 : h.nsMap mainGlobals s = some (.ref C)) (h2 : h.get? C = some o) (hx : ExcCls C N tl o) (y : (match h.clsAt mainGlobals s with | some (_, _, cd) => (h.nsMap cd.ns "__class__").isNone | none => false) = true) : h.nsMap N "__class__" = none := by
 cases hf : h.clsAt mainGlobals s with
 | none => rw [hf] at y; cases y
 | some z =>
  obtain ⟨C', o', cd'⟩ := z
  rw [hf] at y
  refine x03 (Heap.clsAt_spec hf) fun hn' ho' hd' => ?_
  rw [h1] at hn'
  obtain rfl : C = C' := by injection hn' with q1; injection q1
  rw [h2] at ho'
  obtain rfl := Option.some.inj ho'
  have hns : cd'.ns = N := by
   obtain ⟨nm, q, bs, hdct, sn, sub, ab, col, dd, k0, k1, k2, k3, k5, rfl⟩ := hx
   injection hd' with q
   rw [← q]
  rw [← hns]
  exact Option.isNone_iff_eq_none.mp y
theorem excXP_of {h : Heap} (x : excOk h = true) : ExcXP (h.nsMap mainGlobals) h := by
 have x' := Bool.and_eq_true_iff.mp x
 refine ⟨fun s hs => ?_, of_decide_eq_true x'.2⟩
 have y := List.all_eq_true.mp x'.1 s hs
 have y1 := Bool.and_eq_true_iff.mp y
 have y2 := Bool.and_eq_true_iff.mp y1.1
 obtain ⟨C, N, nm, q, bs, hdct, sn, sub, ab, col, dd, k0, k1, k2, k3, k5, h1, h2, h3, h4⟩ := Heap.ownExcQ_of_ok y2.1 y2.2
 have hx : ExcCls C N (((chainOf s).map fun n => (h.nsMap mainGlobals n).getD .none) ++ bmV) (excClassObj nm q C N bs (((chainOf s).map fun n => (h.nsMap mainGlobals n).getD .none) ++ bmV) hdct sn sub ab col dd k0 k1 k2 k3 k5 "ValueError.__new__") := ⟨nm, q, bs, hdct, sn, sub, ab, col, dd, k0, k1, k2, k3, k5, rfl⟩
 exact ei46 C N _ _ h1 h2 hx h3 h4 (cls_quiet h1 h2 hx y1.2)
section
variable {prog : Program} {w : World} {h : Heap} {P : MProg} {names consts loose : List Str} {p : Program} {mg mb mN : Str → Option Value} {mean : ExcName → Option Value} {pures : List (Bool × Bool × List Nat)} {fuel : Nat} {C N : Addr}
theorem bvals_boot : ∀ q ∈ bvals, bootBuiltins q.1 = some q.2 ∧ q.1 ≠ "__name__" := by
 repeat' first | exact List.forall_mem_nil _ | refine List.forall_mem_cons.mpr ⟨⟨by kernel_rfl, by decide +kernel⟩, ?_⟩
theorem fa_of {i : Nat} {d : DefRec} {a : Addr} (hd : (recsOf p)[i]? = some d) (hm : mg d.name = some (.ref a)) : faOf p loose mg mN i = a := by
 unfold faOf; rw [hd]; dsimp only; rw [hm]; rfl
theorem fa_meth {k : Nat} {m : MethRec} {a : Addr} (hd : (methsOf p loose)[k]? = some m) (hm : mN m.name = some (.ref a)) : faOf p loose mg mN ((recsOf p).length + k) = a := by
 unfold faOf
 rw [List.getElem?_eq_none (Nat.le_add_right _ _), Nat.add_sub_cancel_left, hd]; dsimp only; rw [hm]; rfl
structure RkAt (p : Program) (loose : List Str) (mg mN : Str → Option Value) (h : Heap) (C N : Addr) : Prop where
 ex : ∃ rc, rackOf p loose = some rc ∧ PlainAt h rc C N mN
 mg : mg "Rack" = some (.ref C)
theorem rk_of {p : Program} {loose : List Str} {mg : Str → Option Value} {h : Heap} (T : TopC p loose mg h) (O : (match rackOf p loose with | some c => attNames.all fun s => c.statics.contains s | none => false) = true) : ∃ C N mN, RkAt p loose mg mN h C N := by
 cases hr : rackOf p loose with
 | none => rw [hr] at O; cases O
 | some rc =>
  have hn : rc.name = "Rack" := beq_iff_eq.mp (List.find?_some (p := fun c : ClsRec => c.name == ("Rack" : Str)) hr)
  refine x32 (T rc (List.mem_of_find?_eq_some hr)) fun C N mN h1 PA => ?_
  exact ⟨C, N, mN, ⟨rc, hr, PA⟩, hn ▸ h1⟩
theorem rack_ok (K : RkAt p loose mg mN h C N) (O : TextOk p loose names consts pures fuel P) : RackOk (mkCx prog w h P names p loose mg mN) (methTab p loose) := by
 refine x12 K.ex fun rc hr PA => ?_
 have hst := O.rack
 rw [hr] at hst
 have hms : methsOf p loose = rc.meths := by unfold methsOf; rw [hr]
 refine ⟨N, mN, ?_, PA.quiet _ (List.mem_append_left _ (.head _)), PA.quiet _ (List.mem_append_left _ (.tail _ (.head _))), PA.quiet _ (List.mem_append_left _ (.tail _ (.tail _ (.head _)))),
  fun s hs => PA.quiet _ (List.mem_append_right _ (List.contains_iff_mem.mp (List.all_eq_true.mp hst s hs))), fun s i hi => ?_⟩
 ·have : (mkCx prog w h P names p loose mg mN).ca 9 = C := by show addrOf (mg "Rack") = C; rw [K.mg]; rfl
  rw [this]; exact PA.cls
 ·refine x23 (tabFrom_mem (mem_of_look hi)) fun k m h1 zq3 zq4 => ?_
  subst zq3
  subst zq4
  refine x55 (PA.meths m (hms ▸ List.mem_of_getElem? h1)) fun f o pm cd doc g1 g2 g3 g4 z_ => ?_
  have hfa : (mkCx prog w h P names p loose mg mN).fa ((recsOf p).length + k) = f := fa_meth h1 g1
  exact ⟨by rw [hfa]; exact g1, o, _, by rw [hfa]; exact g2, g3, g4⟩
theorem def_at (K : RkAt p loose mg mN h C N) (T : Top p loose mean mg mb h) {i : Nat} {d : DefRec} (hd : (allDefs p loose)[i]? = some d) :
  ∃ o qual pm code doc, h.get? (faOf p loose mg mN i) = some o ∧ o.data = .func (methDef d.name qual d.params d.body d.scope pm code doc) ∧ h.CodeRec code qual := by
 by_cases hl : i < (recsOf p).length
 ·unfold allDefs at hd
  rw [List.getElem?_append_left hl] at hd
  refine x54 (T.fn d (List.mem_of_getElem? hd)) fun a o pm code doc g1 g2 g3 g4 => ?_
  exact ei53 o d.name pm code doc (by rw [fa_of hd g1]; exact g2) g3 g4
 ·have hle := Nat.le_of_not_lt hl
  unfold allDefs at hd
  rw [List.getElem?_append_right hle, List.getElem?_map] at hd
  refine x12 (Option.map_eq_some_iff.mp hd) fun m hm zq2 => ?_
  subst zq2
  refine x12 K.ex fun rc hr PA => ?_
  have hms : methsOf p loose = rc.meths := by unfold methsOf; rw [hr]
  refine x55 (PA.meths m (hms ▸ List.mem_of_getElem? hm)) fun f o pm cd doc g1 g2 g3 g4 g5 => ?_
  have hfa := fa_meth (mg := mg) (mN := mN) hm g1
  rw [Nat.add_sub_cancel' hle] at hfa
  exact ei53 o _ pm cd doc (by rw [hfa]; exact g2) g4 g5
theorem caOf_eq {c : Nat} {s : Str} {a : Addr} (hs : clsNames[c]? = some s) (hm : mg s = some (.ref a)) : caOf mg c = a := by
 unfold caOf; rw [hs]; dsimp only; rw [hm]; rfl
theorem clss_ok (XP : ExcXP mg h) : ClssOk (mkCx prog w h P names p loose mg mN) := by
 have get : ∀ c, c < 9 → ∃ s, clsNames[c]? = some s ∧ mg s = some (.ref (caOf mg c)) := fun c hc => by
  have hl : c < clsNames.length := hc
  refine ei12 (clsNames[c]) (List.getElem?_eq_getElem hl) ?_
  refine x42 (XP.all clsNames[c] (List.getElem_mem hl)) fun C N mN o h1 z_ => ?_
  rw [h1, caOf_eq (List.getElem?_eq_getElem hl) h1]
 refine ⟨fun c hc => ?_, fun c d hc hd e => ?_⟩
 ·refine x12 (get c hc) fun s hs hm => ?_
  refine x12 (get 0 (by decide)) fun s0 hs0 hm0 => ?_
  have e0 : s0 = "RingError" := (Option.some.inj hs0).symm
  refine x46 (XP.all s (List.mem_of_getElem? hs)) fun C N mN o h1 h2 hx h3 h4 h5 => ?_
  rw [h1] at hm
  obtain rfl : C = caOf mg c := by injection hm with z; injection z
  refine ei35 N mN o h2 ?_ h3 h4 h5
  have : ((chainOf s).map fun n => (mg n).getD .none) ++ bmV = tailOf (mkCx prog w h P names p loose mg mN) c := by
   unfold tailOf chainOf
   by_cases h0 : c = 0
   ·subst h0
    rw [hs0] at hs
    rw [if_pos (by rw [← Option.some.inj hs, e0]), if_pos rfl]; rfl
   ·have hne : s ≠ "RingError" := fun q => h0 (by
     have hnd : clsNames.Nodup := by decide +kernel
     have := (List.getElem?_inj (by decide : 0 < clsNames.length) hnd).mp (show clsNames[0]? = clsNames[c]? by rw [hs, q]; rfl)
     exact this.symm)
    rw [if_neg hne, if_neg h0]
    rw [e0] at hm0
    show (mg "RingError").getD .none :: ([] ++ bmV) = _
    rw [hm0]; rfl
  rw [this] at hx
  exact hx
 ·refine x12 (get c hc) fun s hs hm => ?_
  refine x12 (get d hd) fun s' hs' hm' => ?_
  have e' : caOf mg c = caOf mg d := e
  have h1 : (clsNames.map mg)[c]? = some (mg s) := by rw [List.getElem?_map, hs]; rfl
  have h2 : (clsNames.map mg)[d]? = some (mg s') := by rw [List.getElem?_map, hs']; rfl
  refine (List.getElem?_inj (by rw [List.length_map]; exact hc) XP.nodup).mp ?_
  rw [h1, h2, hm, hm', e']
set_option tactic.hygienic true in
theorem tab_ok
  (XP : ExcXP mg h) (K : RkAt p loose mg mN h C N)
  (T : Top p loose mean mg mb h) (O : TextOk p loose names consts pures fuel P) : TabOk (mkCx prog w h P names p loose mg mN) ⟨names, globsOf p consts, methTab p loose⟩ := by
 have hnm : ∀ s i, (Tab.mk names (globsOf p consts) (methTab p loose)).num s = some i → nmOf names i = s := fun s i hi => by
  refine x12 (numFrom_get hi) fun m e hm => ?_
  have : i = m := by omega
  subst this
  unfold nmOf; rw [hm]
 refine ⟨
  clss_ok XP, fun s c hc => (by
   refine x12 (numFrom_get hc) fun m e hm => ?_
   obtain rfl : c = m := by omega
   have hl : c < 9 := (List.getElem?_eq_some_iff.mp hm).1
   refine x42 (XP.all s (List.mem_of_getElem? hm)) fun C N mN o h1 z_ => ?_
   exact ⟨hl, mg, T.g, by rw [h1]; congr 2; exact (caOf_eq hm h1).symm⟩),
  rack_ok K O, ⟨mg, T.g, by rw [K.mg]; congr 2; show C = addrOf (mg "Rack"); rw [K.mg]; rfl⟩, hnm, nmOf_inj O.nodup O.short, nmOf_dot O.dot, fun s q hq => ?_, fun s v hv => ?_⟩
 ·have hm := mem_of_look hq
  rcases List.mem_append.mp hm with e | e
  ·refine x23 (fnGlobs_mem e) fun m d h1 h2 h3 => ?_
   refine x52 (T.fn d (List.mem_of_getElem? h1)) fun a o pm code doc g1 z_ => ?_
   refine ei23 (.ref a) mg (fun ρ h' z_ => ?_) T.g (h2 ▸ g1)
   rw [h3, Nat.zero_add]
   have := VR.fn (X := mkCx prog w h P names p loose mg mN) (ρ := ρ) (h := h') m
   rwa [show (mkCx prog w h P names p loose mg mN).fa m = a from fa_of h1 g1] at this
  ·unfold constGlobs at e
   refine x12 (List.mem_filterMap.mp e) fun x hx e => ?_
   split at e
   ·rename_i n hn
    cases e
    refine x12 (T.const _ _ hn) fun v g1 g2 => ?_
    refine ei23 v mg (fun ρ h' z_ => ?_) T.g g1
    have := g2 h'
    cases this
    exact .int _ _
   ·cases e
 ·have hm := mem_of_look hv
  refine x02 (bvals_boot _ hm) fun b1 b2 => ?_
  refine x05 (O.free s (List.mem_map.mpr ⟨_, hm, rfl⟩)) fun f1 f2 f3 f4 f5 => ?_
  exact ei24 mg mb T.g (T.free s f1 f2 f3 f4 f5) T.b ((T.builtins s b2).trans b1)
set_option tactic.hygienic true in
theorem cx_ok
  (XP : ExcXP mg h) (K : RkAt p loose mg mN h C N)
  (T : Top p loose mean mg mb h) (O : TextOk p loose names consts pures fuel P) : CxOk (mkCx prog w h P names p loose mg mN) := by
 have TO := tab_ok (prog := prog) (w := w) XP K T O
 refine ⟨T.nolimit, nmOf_inj O.nodup O.short, fun i f hi => ?_⟩
 refine x22 (cDefs_get O.comp hi) fun d b hd hc => ?_
 refine x53 (def_at K T hd) fun o qual pm code doc g2 g3 g4 => ?_
 unfold cDef at hc
 split at hc
 ·rename_i hk
  simp only [Bool.and_eq_true, List.isEmpty_iff, Option.isNone_iff_eq_none, List.all_eq_true, beq_iff_eq, Bool.not_eq_true', decide_eq_true_eq] at hk
  revert hk; refine y02 fun zq1 k9 => ?_
  obtain ⟨⟨⟨⟨⟨⟨⟨k1, k2⟩, k3⟩, k4⟩, k5⟩, k6⟩, k7⟩, k8⟩ := zq1
  refine x12 (Option.bind_eq_some_iff.mp hc) fun ps hps hc => ?_
  refine x12 (Option.bind_eq_some_iff.mp hc) fun bd hbd hc => ?_
  cases hc
  have hmap := cParams_map (nm := (mkCx prog w h P names p loose mg mN).nm) TO.nm hps
  have hlen : ps.length = d.params.args.length := by have := congrArg List.length hmap; simpa using this
  refine ⟨⟨o, _, d.body, g2, g3, g4, rfl, rfl, rfl, rfl, fun vals hv => ?_, fun x hx => ?_, k7, k8, k6, fun MP k C W HC HW => ?_⟩, ?_⟩
  ·dsimp only at hv ⊢
   rw [hmap]
   exact bind_plain k1 k2 k3 k4 k9 (hv.trans hlen)
  ·dsimp only at hx ⊢
   have hm : (mkCx prog w h P names p loose mg mN).nm x ∈ d.params.args.map (·.arg) := hmap ▸ List.mem_map.mpr ⟨x, hx, rfl⟩
   refine x12 (List.mem_map.mp hm) fun ar har e => ?_
   have := isLoc_iff (k5 ar har)
   rw [e] at this
   exact this
  ·cases hs : b.1 with
   | true => rw [hs, if_pos rfl] at hbd; cases hbd; exact fun A env s ρ loc hp Q E Ft I Rm P => P.elim
   | false => rw [hs, if_neg Bool.false_ne_true] at hbd; exact (sndS HC HW TO fuel).2 _ _ _ hbd
  ·dsimp only
   rw [← hmap] at k9
   exact List.Pairwise.of_map _ (fun a b h q => h (by rw [q])) k9
 ·cases hc
end
end Mine
end
section
namespace Mine
open PySem PySem.Calls PyProof.Rows PySem.SeqAt PySem.W
theorem RepH.empty {X : Cx} (h : Heap) : RepH X [] ⟨0, []⟩ h := ⟨rfl, List.nodup_nil, fun a ha => (by cases ha), fun n a o e z_ => (by cases e)⟩
theorem join_law {prog : Program} {w : World} {P : MProg} {names consts loose : List Str} {p : Program} {mg mb : Str → Option Value} {mean : ExcName → Option Value} {pures : List (Bool × Bool × List Nat)} {fuel : Nat} {A : Around} {s₁ : Shared} {i n : Nat} {d : DefRec} {fa l : Addr} {vs : List Value} {ns : List Int} {hp' : Hp}
  {c : ClaimW} {cl : Str → Option Addr} {mean' : ExcName → Option Value} {args : List WData}
  (XP : ExcXP mg s₁.heap) (TC : TopC p loose mg s₁.heap)
  (T : Top p loose mean mg mb s₁.heap) (O : TextOk p loose names consts pures fuel P) (hi : (recsOf p)[i]? = some d) (hmg : mg d.name = some (.ref fa)) (hl : s₁.heap.IsList l vs.toArray) (hI : IntsAre vs ns) (hlen : ns.length ≤ 63)
  (hnd : A.handled = none) (hdp : A.depth + 2 * (n + 3) < recursionLimit) (hun : A.units + 10 * (n + 3) + 80 < cLine) (hfs : A.frames = some []) (hlaw : callN P (n + 1) i [.frz ns] ⟨0, []⟩ = .ok (.bool true) hp') (hg : s₁.gens = #[]) (hn : ∀ cls, c.raises args cls = false) (hpost : c.post args (.bool true) args = true) :
  codeAny (model prog w) A (.call (.ref fa) ⟨[.ref l], []⟩) (GoodW c cl mean' args s₁) s₁ := by
 refine x31 (rk_of TC O.rack) fun C N mN K => ?_
 have XO := cx_ok (prog := prog) (w := w) XP K T O
 have hfa : (mkCx prog w s₁.heap P names p loose mg mN).fa i = fa := fa_of hi hmg
 have hvs : vs.length ≤ sizeLine := by rw [hI.length, sizeLine_eq]; omega
 have key := call_code XO rfl (callN_ok XO n) (callW_ok XO) (callN_fr _ n) (callW_fr _) A A s₁ [] ⟨0, []⟩ i [.ref l] [.frz ns] (fun v s' => GoodW c cl mean' args s₁ (.ok (.ret v)) s') (fun z_ z_ => False) (fun b o e => e) (RepH.empty _) (.cons (.frz hl hvs hI) .nil) (.refl A) ⟨fun z_ => hnd, .inl hnd, hdp, hun, Nat.le_add_left _ _, [], hfs, fun e he => by cases he⟩
  (by
  show Post _ _ _ _ (callN P (n + 1) i [.frz ns] ⟨0, []⟩) _ _
  rw [hlaw]
  intro a h' tk ρ' g k r rv
  cases rv
  have key : ∀ b o, s₁.heap.get? b = some o → h'.get? b = some o := fun b o e => by
   refine x12 (k b o e (fun q => nomatch q)) fun o' e' l => ?_
   rcases l with rfl | ⟨q, _⟩
   ·exact e'
   ·rw [show (mkCx prog w s₁.heap P names p loose mg mN).base.get? b = some o from e] at q; cases q
  exact ⟨.inl ⟨_, .bool true, [], rfl, hn, .bool true, hpost, unshared_nil⟩, key, rfl, hg⟩)
 rw [hfa] at key
 refine codeAny_mono key fun r s' hr => ?_
 cases r with
 | ok f =>
  cases f with
  | ret v => exact hr
  | _ => exact hr.elim
 | error e => exact hr.elim
end Mine
end
section
namespace Mine
open PySem
end Mine
namespace Mine.L13
open PySem
noncomputable def f_wall : MFun := ⟨true, [74], [], [.bad]⟩
noncomputable def f_is_among : MFun := ⟨true, [6, 4, 5], [], [(.ret (.andE [(.isi (.var 6) .int), (.notE (.isi (.var 6) .bool)), (.cmp (.var 4) [.le, .le] [(.var 6), (.var 5)])]))]⟩
noncomputable def f_need_counts : MFun := ⟨true, [19], [], [(.ifS (.orT [(.notT (.val (.isi (.var 19) .list))), (.notT (.cmp (.lit (.int 1)) [.le, .le] [(.bcall .len [(.var 19)]), (.glob 0 (.int 12))]))]) [(.raise 3)] []), (.ifS (.notT (.val (.bcall .all [(.comp (.call (.glob 0 (.fn 1)) [(.var 18), (.lit (.int 2)), (.glob 0 (.int 9))]) (.one 18) .plain [(.var 19)] [])]))) [(.raise 3)] [])]⟩
noncomputable def f_product_b1 : List MS := [(.asg 7 (.bin .mul (.var 7) (.var 18)))]
noncomputable def f_product : MFun := ⟨true, [19], [7, 18], [(.asg 7 (.lit (.int 1))), (.forS (.one 18) .plain [(.var 19)] f_product_b1), (.ret (.var 7))]⟩
noncomputable def f_counted_in_b1 : List MS := [(.asg 20 (.sub (.var 22) (.var 37))), (.ifS (.cmp (.bin .mod (.var 7) (.lit (.int 2))) [.eq] [(.lit (.int 1))]) [(.asg 20 (.bin .sub (.bin .sub (.sub (.var 19) (.var 37)) (.lit (.int 1))) (.var 20)))] []), (.asg 7 (.bin .add (.bin .mul (.var 7) (.sub (.var 19) (.var 37))) (.var 20)))]
noncomputable def f_counted_in : MFun := ⟨true, [19, 22], [7, 20, 37], [(.asg 7 (.lit (.int 0))), (.forS (.one 37) .plain [(.bcall .range3 [(.bin .sub (.bcall .len [(.var 19)]) (.lit (.int 1))), (.neg (.lit (.int 1))), (.neg (.lit (.int 1)))])] f_counted_in_b1), (.ret (.var 7))]⟩
noncomputable def f_row_of_b1 : List MS := [(.asg 20 (.bin .mod (.var 8) (.var 18))), (.asg 8 (.bin .div (.var 8) (.var 18))), (.ifS (.cmp (.bin .mod (.var 8) (.lit (.int 2))) [.eq] [(.lit (.int 1))]) [(.asg 20 (.bin .sub (.bin .sub (.var 18) (.lit (.int 1))) (.var 20)))] []), (.expr (.meth .append (.var 7) [(.var 20)]))]
noncomputable def f_row_of : MFun := ⟨true, [19, 8], [7, 18, 20], [(.asg 7 (.list [])), (.forS (.one 18) .plain [(.var 19)] f_row_of_b1), (.ret (.bcall .tuple [(.var 7)]))]⟩
noncomputable def f_move_between_b1 : List MS := [(.ifS (.cmp (.sub (.var 38) (.var 37)) [.ne] [(.sub (.var 39) (.var 37))]) [(.ret (.tuple [(.var 37), (.bin .sub (.sub (.var 39) (.var 37)) (.sub (.var 38) (.var 37)))]))] [])]
noncomputable def f_move_between : MFun := ⟨true, [38, 39], [37], [(.forS (.one 37) .plain [(.bcall .range1 [(.bcall .len [(.var 38)])])] f_move_between_b1), (.ret (.lit .none))]⟩
noncomputable def f_moves_of_b1 : List MS := [(.ifS (.cmp (.lit (.int 0)) [.le, .lt] [(.var 39), (.call (.glob 0 (.fn 3)) [(.var 19)])]) [(.expr (.meth .append (.var 7) [(.call (.glob 0 (.fn 6)) [(.var 22), (.call (.glob 0 (.fn 5)) [(.var 19), (.var 39)])])]))] [])]
noncomputable def f_moves_of : MFun := ⟨true, [19, 22], [7, 8, 39], [(.asg 8 (.call (.glob 0 (.fn 4)) [(.var 19), (.var 22)])), (.asg 7 (.list [])), (.forS (.one 39) .plain [(.tuple [(.bin .sub (.var 8) (.lit (.int 1))), (.bin .add (.var 8) (.lit (.int 1)))])] f_moves_of_b1), (.ret (.bcall .sorted [(.var 7)]))]⟩
noncomputable def f_is_move : MFun := ⟨true, [19, 22, 59], [], [(.ifS (.orT [(.notT (.val (.isi (.var 59) .tuple))), (.cmp (.bcall .len [(.var 59)]) [.ne] [(.lit (.int 2))])]) [(.ret (.lit (.bool false)))] []), (.ifS (.orT [(.notT (.val (.call (.glob 0 (.fn 1)) [(.sub (.var 59) (.lit (.int 0))), (.lit (.int 0)), (.bin .sub (.bcall .len [(.var 19)]) (.lit (.int 1)))]))), (.notT (.val (.call (.glob 0 (.fn 1)) [(.sub (.var 59) (.lit (.int 1))), (.neg (.lit (.int 1))), (.lit (.int 1))])))]) [(.ret (.lit (.bool false)))] []), (.ret (.cmp (.var 59) [.isin] [(.call (.glob 0 (.fn 7)) [(.var 19), (.var 22)])]))]⟩
noncomputable def f_with_move : MFun := ⟨true, [22, 59], [], [(.ret (.bin .add (.bin .add (.slice (.var 22) none (some (.sub (.var 59) (.lit (.int 0))))) (.tuple [(.bin .add (.sub (.var 22) (.sub (.var 59) (.lit (.int 0)))) (.sub (.var 59) (.lit (.int 1))))])) (.slice (.var 22) (some (.bin .add (.sub (.var 59) (.lit (.int 0))) (.lit (.int 1)))) none)))]⟩
noncomputable def f_law_cell_at : MFun := ⟨true, [2, 1], [], [(.ifS (.cmp (.var 1) [.lt] [(.bcall .len [(.var 2)])]) [(.ret (.sub (.var 2) (.var 1)))] []), (.ret (.lit (.int 0)))]⟩
noncomputable def f_law_mixed : MFun := ⟨true, [2, 1], [], [(.ret (.bin .mod (.bin .mul (.bin .add (.bin .add (.call (.glob 0 (.fn 10)) [(.var 2), (.var 1)]) (.bin .mul (.lit (.int 7919)) (.var 1))) (.lit (.int 1))) (.lit (.int 48271))) (.lit (.int 2147483647))))]⟩
noncomputable def f_law_whole : MFun := ⟨true, [3], [], [(.ret (.andE [(.isi (.var 3) .int), (.notE (.isi (.var 3) .bool))]))]⟩
noncomputable def f_law_counts_b1 : List MS := [(.asg 13 (.bin .div (.call (.glob 0 (.fn 11)) [(.var 2), (.bin .add (.bin .add (.var 1) (.lit (.int 1))) (.bin .mod (.var 14) (.lit (.int 3))))]) (.bin .add (.lit (.int 1)) (.bin .mul (.lit (.int 7)) (.var 14))))), (.expr (.meth .append (.var 26) [(.sub (.list [(.bin .add (.lit (.int 2)) (.bin .mod (.var 13) (.lit (.int 8)))), (.bin .add (.lit (.int 2)) (.bin .mod (.var 13) (.lit (.int 3)))), (.bin .add (.lit (.int 2)) (.bin .mod (.bin .div (.var 13) (.lit (.int 8))) (.lit (.int 2))))]) (.var 29))]))]
noncomputable def f_law_counts : MFun := ⟨true, [2, 1, 11], [13, 14, 26, 29, 31], [(.asg 31 (.bin .add (.lit (.int 1)) (.bin .mod (.call (.glob 0 (.fn 11)) [(.var 2), (.var 1)]) (.var 11)))), (.asg 29 (.bin .mod (.bin .div (.call (.glob 0 (.fn 11)) [(.var 2), (.var 1)]) (.var 11)) (.lit (.int 3)))), (.asg 26 (.list [])), (.forS (.one 14) .plain [(.bcall .range1 [(.var 31)])] f_law_counts_b1), (.ret (.var 26))]⟩
noncomputable def f_law_product : MFun := ⟨true, [26], [], [.bad]⟩
noncomputable def f_law_row : MFun := ⟨true, [2, 1, 26], [], [.bad]⟩
noncomputable def f_law_number_b1 : List MS := [(.asg 24 (.var 12)), (.asg 12 (.bin .mul (.var 12) (.sub (.var 26) (.var 14)))), (.ifS (.cmp (.bin .mod (.var 24) (.lit (.int 2))) [.eq] [(.lit (.int 0))]) [(.asg 12 (.bin .add (.var 12) (.sub (.var 36) (.var 14))))] [(.asg 12 (.bin .sub (.bin .sub (.bin .add (.var 12) (.sub (.var 26) (.var 14))) (.lit (.int 1))) (.sub (.var 36) (.var 14))))])]
noncomputable def f_law_number : MFun := ⟨true, [26, 36], [12, 14, 24], [(.asg 12 (.lit (.int 0))), (.forS (.one 14) .rev [(.bcall .range1 [(.bcall .len [(.var 26)])])] f_law_number_b1), (.ret (.var 12))]⟩
noncomputable def f_law_is_row : MFun := ⟨true, [0, 26], [], [.bad]⟩
noncomputable def f_law_word : MFun := ⟨true, [27], [30, 33], [(.asg 30 (.list [(.isi (.var 27) (.own 1)), (.isi (.var 27) (.own 2)), (.isi (.var 27) (.own 3)), (.isi (.var 27) (.own 4))])), (.asg 30 (.bin .add (.var 30) (.list [(.isi (.var 27) (.own 5)), (.isi (.var 27) (.own 6)), (.isi (.var 27) (.own 7)), (.isi (.var 27) (.own 8))]))), (.asg 33 (.list [(.lit (.str ⟨#[98, 97, 114]⟩)), (.lit (.str ⟨#[115, 101, 116, 116, 105, 110, 103]⟩)), (.lit (.str ⟨#[99, 104, 101, 115, 116]⟩)), (.lit (.str ⟨#[114, 111, 119]⟩)), (.lit (.str ⟨#[110, 117, 109, 98, 101, 114]⟩)), (.lit (.str ⟨#[109, 111, 118, 101]⟩)), (.lit (.str ⟨#[109, 97, 110, 121]⟩)), (.lit (.str ⟨#[110, 111, 116, 101]⟩))])), (.ret (.bin .add (.bin .mul (.list [(.lit (.str ⟨#[110, 111, 32, 118, 97, 108, 117, 101, 32, 101, 114, 114, 111, 114]⟩))]) (.bcall .int [(.notE (.isi (.var 27) .verr))])) (.comp (.var 32) (.two 32 28) .zip [(.var 33), (.var 30)] [(.val (.var 28))])))]⟩
noncomputable def f_law_turned : MFun := ⟨true, [36, 14, 51], [], [(.ret (.bin .add (.bin .add (.slice (.var 36) none (some (.var 14))) (.tuple [(.bin .add (.sub (.var 36) (.var 14)) (.var 51))])) (.slice (.var 36) (some (.bin .add (.var 14) (.lit (.int 1)))) none)))]⟩
noncomputable def f_law_moves_b2 : List MS := [(.ifS (.cmp (.lit (.int 0)) [.le, .lt] [(.bin .add (.sub (.var 36) (.var 14)) (.var 51)), (.var 25)]) [(.ifS (.cmp (.bcall .abs [(.bin .sub (.call (.glob 0 (.fn 16)) [(.var 26), (.call (.glob 0 (.fn 19)) [(.var 36), (.var 14), (.var 51)])]) (.var 12))]) [.eq] [(.lit (.int 1))]) [(.expr (.meth .append (.var 0) [(.tuple [(.var 14), (.var 51)])]))] [])] [])]
noncomputable def f_law_moves_b1 : List MS := [(.forS (.one 51) .plain [(.tuple [(.neg (.lit (.int 1))), (.lit (.int 1))])] f_law_moves_b2)]
noncomputable def f_law_moves : MFun := ⟨true, [26, 36], [0, 12, 14, 25, 51], [(.asg 0 (.list [])), (.asg 12 (.call (.glob 0 (.fn 16)) [(.var 26), (.var 36)])), (.forS (.two 14 25) .enum [(.var 26)] f_law_moves_b1), (.ret (.var 0))]⟩
noncomputable def f_law_asked_b1 : List MS := [(.ifS (.cmp (.bin .mod (.bin .add (.var 87) (.var 1)) (.lit (.int 3))) [.eq] [(.lit (.int 0))]) [(.store (.var 101) (.lit (.int 0)) (.mcall 29 (.var 67) []))] [(.ifS (.cmp (.bin .mod (.bin .add (.var 87) (.var 1)) (.lit (.int 3))) [.eq] [(.lit (.int 1))]) [(.store (.var 101) (.lit (.int 1)) (.mcall 30 (.var 67) []))] [(.store (.var 101) (.lit (.int 2)) (.mcall 31 (.var 67) []))])])]
noncomputable def f_law_asked : MFun := ⟨true, [67, 87], [1, 101], [(.asg 101 (.list [(.lit .none), (.lit .none), (.lit .none)])), (.forS (.one 1) .plain [(.bcall .range1 [(.lit (.int 3))])] f_law_asked_b1), (.ret (.var 101))]⟩
noncomputable def f_law_all_whole_b1 : List MS := [(.ifS (.orT [(.notT (.val (.isi (.var 36) .tuple))), (.cmp (.comp (.var 9) (.one 9) .plain [(.var 36)] [(.notT (.val (.call (.glob 0 (.fn 12)) [(.var 9)])))]) [.ne] [(.list [])])]) [(.ret (.lit (.bool false)))] [])]
noncomputable def f_law_all_whole : MFun := ⟨true, [102], [36], [(.forS (.one 36) .plain [(.var 102)] f_law_all_whole_b1), (.ret (.lit (.bool true)))]⟩
noncomputable def f_law_right_b1 : List MS := [(.ifS (.orT [(.notT (.val (.isi (.var 0) .list))), (.cmp (.var 0) [.ne] [(.var 52)])]) [(.ret (.lit (.bool false)))] []), (.expr (.meth .append (.var 0) [(.lit .none)])), (.expr (.meth .append (.var 42) [(.tuple [(.var 0), (.bcall .list [(.var 0)])])]))]
noncomputable def f_law_right : MFun := ⟨false, [67, 61, 94, 85, 42, 87], [0, 52, 92, 101], [(.asg 101 (.call (.glob 0 (.fn 21)) [(.var 67), (.var 87)])), (.asg 92 (.comp (.call (.glob 0 (.fn 16)) [(.var 26), (.var 36)]) (.two 26 36) .zip [(.var 61), (.var 94)] [])), (.forS (.two 0 52) .zip [(.var 101), (.list [(.var 94), (.var 92), (.var 85)])] f_law_right_b1), (.ifS (.cmp (.comp (.var 12) (.one 12) .plain [(.slice (.sub (.var 101) (.lit (.int 1))) none (some (.neg (.lit (.int 1)))))] [(.notT (.val (.call (.glob 0 (.fn 12)) [(.var 12)])))]) [.ne] [(.list [])]) [(.ret (.lit (.bool false)))] []), (.ret (.andE [(.call (.glob 0 (.fn 22)) [(.slice (.sub (.var 101) (.lit (.int 0))) none (some (.neg (.lit (.int 1)))))]), (.call (.glob 0 (.fn 22)) [(.slice (.sub (.var 101) (.lit (.int 2))) none (some (.neg (.lit (.int 1)))))])]))]⟩
noncomputable def f_law_refused : MFun := ⟨true, [67, 83], [27], [(.tryS [(.ifS (.cmp (.var 83) [.eq] [(.lit (.str ⟨#[98, 97, 99, 107]⟩))]) [(.expr (.mcall 33 (.var 67) []))] [(.expr (.mcall 32 (.var 67) [(.var 83)]))])] 27 (.cmp (.call (.glob 0 (.fn 18)) [(.var 27)]) [.eq] [(.list [(.lit (.str ⟨#[109, 111, 118, 101]⟩))])])), (.ret (.lit (.bool false)))]⟩
noncomputable def f_law_bad : MFun := ⟨true, [13, 83, 61], [14, 40, 51, 81], [(.asgT (.three 81 14 51) (.var 83)), (.asg 40 (.list [(.tuple [(.var 81), (.var 14), (.bin .mul (.lit (.int 2)) (.var 51))]), (.tuple [(.var 81), (.bcall .len [(.sub (.var 61) (.var 81))]), (.var 51)]), (.tuple [(.bcall .len [(.var 61)]), (.var 14), (.var 51)]), (.tuple [(.neg (.lit (.int 1))), (.var 14), (.var 51)])])), (.asg 40 (.bin .add (.var 40) (.list [(.bcall .list [(.var 83)]), (.slice (.var 83) (some (.lit (.int 1))) none), (.bin .add (.var 83) (.tuple [(.lit (.int 0))])), (.lit .none), (.tuple [(.var 81), (.var 14), (.lit (.int 0))]), (.tuple [(.var 81), (.neg (.lit (.int 1))), (.var 51)]), (.tuple [(.var 81), (.lit (.bool true)), (.var 51)])]))), (.asg 40 (.bin .add (.var 40) (.list [(.tuple [(.var 81), (.var 14), (.lit (.bool true))]), (.lit (.str ⟨#[98, 97, 99, 107, 32]⟩)), (.tuple [(.lit .none), (.var 14), (.var 51)]), (.tuple [(.cmp (.var 81) [.eq] [(.lit (.int 1))]), (.var 14), (.var 51)]), (.tuple [(.lit (.bool false)), (.var 14), (.var 51)])]))), (.ret (.sub (.var 40) (.bin .mod (.var 13) (.lit (.int 16)))))]⟩
noncomputable def f_law_deed_done_b1 : List MS := [(.ifS (.cmp (.mcall 32 (.var 67) [(.var 9)]) [.isNot] [(.lit .none)]) [(.ret (.lit (.bool false)))] []), (.expr (.meth .append (.var 85) [(.var 9)])), (.store (.var 94) (.var 81) (.call (.glob 0 (.fn 19)) [(.sub (.var 94) (.var 81)), (.sub (.var 9) (.lit (.int 1))), (.sub (.var 9) (.lit (.int 2)))]))]
noncomputable def f_law_deed_done : MFun := ⟨false, [67, 61, 94, 85, 83, 103], [9, 40, 81, 84, 90], [(.asg 81 (.sub (.var 83) (.lit (.int 0)))), (.asg 40 (.call (.glob 0 (.fn 20)) [(.sub (.var 61) (.var 81)), (.sub (.var 94) (.var 81))])), (.asg 90 (.call (.glob 0 (.fn 20)) [(.sub (.var 61) (.var 81)), (.call (.glob 0 (.fn 19)) [(.sub (.var 94) (.var 81)), (.sub (.var 83) (.lit (.int 1))), (.sub (.var 83) (.lit (.int 2)))])])), (.asg 84 (.bin .add (.list [(.var 83)]) (.slice (.comp (.bin .add (.tuple [(.var 81)]) (.var 56)) (.one 56) .plain [(.var 90)] [(.cmp (.var 56) [.notin] [(.var 40)])]) none (some (.bcall .int [(.var 103)]))))), (.ifS (.andT [(.cmp (.bcall .len [(.var 84)]) [.gt] [(.lit (.int 1))]), (.notT (.val (.call (.glob 0 (.fn 24)) [(.var 67), (.sub (.var 84) (.lit (.int 1)))])))]) [(.ret (.lit (.bool false)))] []), (.forS (.one 9) .plain [(.var 84)] f_law_deed_done_b1), (.ret (.lit (.bool true)))]⟩
noncomputable def f_law_b1 : List MS := [(.asg 13 (.call (.glob 0 (.fn 11)) [(.var 2), (.var 1)])), (.asg 81 (.bin .mod (.bin .div (.var 13) (.lit (.int 5))) (.bcall .len [(.var 61)]))), (.asg 40 (.call (.glob 0 (.fn 20)) [(.sub (.var 61) (.var 81)), (.sub (.var 94) (.var 81))])), (.asg 83 (.bin .add (.tuple [(.var 81)]) (.sub (.var 40) (.bin .mod (.bin .div (.var 13) (.lit (.int 35))) (.bcall .len [(.var 40)]))))), (.ifS (.notT (.val (.call (.glob 0 (.fn 23)) [(.var 67), (.var 61), (.var 94), (.var 85), (.var 42), (.bin .div (.var 13) (.lit (.int 3)))]))) [(.ret (.lit (.bool false)))] []), (.ifS (.andT [(.cmp (.bin .mod (.var 13) (.lit (.int 5))) [.eq] [(.lit (.int 0))]), (.cmp (.bcall .len [(.var 85)]) [.eq] [(.lit (.int 0))])]) [(.ifS (.notT (.val (.call (.glob 0 (.fn 24)) [(.var 67), (.lit (.str ⟨#[98, 97, 99, 107]⟩))]))) [(.ret (.lit (.bool false)))] [])] [(.ifS (.cmp (.bin .mod (.var 13) (.lit (.int 5))) [.eq] [(.lit (.int 0))]) [(.ifS (.cmp (.mcall 33 (.var 67) []) [.isNot] [(.lit .none)]) [(.ret (.lit (.bool false)))] []), (.asg 65 (.meth .pop (.var 85) [])), (.store (.var 94) (.sub (.var 65) (.lit (.int 0))) (.call (.glob 0 (.fn 19)) [(.sub (.var 94) (.sub (.var 65) (.lit (.int 0)))), (.sub (.var 65) (.lit (.int 1))), (.bin .sub (.lit (.int 0)) (.sub (.var 65) (.lit (.int 2))))]))] [(.ifS (.cmp (.bin .mod (.var 13) (.lit (.int 5))) [.eq] [(.lit (.int 1))]) [(.ifS (.notT (.val (.call (.glob 0 (.fn 24)) [(.var 67), (.call (.glob 0 (.fn 25)) [(.bin .div (.var 13) (.lit (.int 70))), (.var 83), (.var 61)])]))) [(.ret (.lit (.bool false)))] [])] [(.ifS (.notT (.val (.call (.glob 0 (.fn 26)) [(.var 67), (.var 61), (.var 94), (.var 85), (.var 83), (.cmp (.bin .mod (.var 13) (.lit (.int 5))) [.eq] [(.lit (.int 2))])]))) [(.ret (.lit (.bool false)))] [])])])])]
noncomputable def f_law_t14 : List MS := (.ret (.cmp (.comp (.var 54) (.one 54) .plain [(.var 42)] [(.cmp (.sub (.var 54) (.lit (.int 0))) [.ne] [(.sub (.var 54) (.lit (.int 1)))])]) [.eq] [(.list [])])) :: []
noncomputable def f_law_t13 : List MS := (.ifS (.notT (.val (.call (.glob 0 (.fn 23)) [(.var 34), (.list [(.list [(.lit (.int 3)), (.lit (.int 2))])]), (.list [(.tuple [(.lit (.int 1)), (.lit (.int 0))])]), (.list [(.tuple [(.lit (.int 0)), (.lit (.int 0)), (.lit (.int 1))])]), (.var 42), (.lit (.int 1))]))) [(.ret (.lit (.bool false)))] []) :: f_law_t14
noncomputable def f_law_t12 : List MS := (.ifS (.notT (.val (.call (.glob 0 (.fn 23)) [(.var 67), (.var 61), (.var 94), (.var 85), (.var 42), (.bcall .len [(.var 2)])]))) [(.ret (.lit (.bool false)))] []) :: f_law_t13
noncomputable def f_law_t11 : List MS := (.forS (.one 1) .plain [(.bcall .range2 [(.lit (.int 5)), (.bcall .min [(.bcall .len [(.var 2)]), (.lit (.int 35))])])] f_law_b1) :: f_law_t12
noncomputable def f_law_t10 : List MS := (.asg 42 (.list [])) :: f_law_t11
noncomputable def f_law_t9 : List MS := (.asg 85 (.list [])) :: f_law_t10
noncomputable def f_law_t8 : List MS := (.asg 94 (.comp (.bin .mul (.tuple [(.lit (.int 0))]) (.bcall .len [(.var 26)])) (.one 26) .plain [(.var 61)] [])) :: f_law_t9
noncomputable def f_law_t7 : List MS := (.expr (.meth .append (.var 55) [(.lit .none)])) :: f_law_t8
noncomputable def f_law_t6 : List MS := (.store (.sub (.var 55) (.lit (.int 0))) (.lit (.int 0)) (.lit (.int 11))) :: f_law_t7
noncomputable def f_law_t5 : List MS := (.ifS (.cmp (.var 55) [.ne] [(.var 61)]) [(.ret (.lit (.bool false)))] []) :: f_law_t6
noncomputable def f_law_t4 : List MS := (.expr (.mcall 32 (.var 34) [(.tuple [(.lit (.int 0)), (.lit (.int 0)), (.lit (.int 1))])])) :: f_law_t5
noncomputable def f_law_t3 : List MS := (.asg 34 (.mk 28 [(.list [(.list [(.lit (.int 3)), (.lit (.int 2))])])])) :: f_law_t4
noncomputable def f_law_t2 : List MS := (.asg 67 (.mk 28 [(.var 55)])) :: f_law_t3
noncomputable def f_law_t1 : List MS := (.asg 55 (.comp (.bcall .list [(.var 26)]) (.one 26) .plain [(.var 61)] [])) :: f_law_t2
noncomputable def f_law : MFun := ⟨true, [2], [1, 13, 34, 40, 42, 55, 61, 65, 67, 81, 83, 85, 94], (.asg 61 (.comp (.call (.glob 0 (.fn 13)) [(.var 2), (.bin .add (.lit (.int 2)) (.bin .mul (.lit (.int 5)) (.var 1))), (.lit (.int 5))]) (.one 1) .plain [(.bcall .range1 [(.bin .add (.lit (.int 1)) (.bin .mod (.call (.glob 0 (.fn 11)) [(.var 2), (.lit (.int 0))]) (.lit (.int 5))))])] [])) :: f_law_t1⟩
noncomputable def f_Rack___init___b1 : List MS := [(.expr (.call (.glob 0 (.fn 2)) [(.var 19)]))]
noncomputable def f_Rack___init__ : MFun := ⟨false, [76, 72], [19], [(.ifS (.orT [(.notT (.val (.isi (.var 72) .list))), (.notT (.cmp (.lit (.int 1)) [.le, .le] [(.bcall .len [(.var 72)]), (.glob 0 (.int 5))]))]) [(.raise 3)] []), (.forS (.one 19) .plain [(.var 72)] f_Rack___init___b1), (.setA (.var 76) 72 (.comp (.bcall .list [(.var 19)]) (.one 19) .plain [(.var 72)] [])), (.setA (.var 76) 109 (.comp (.bin .mul (.tuple [(.lit (.int 0))]) (.bcall .len [(.var 19)])) (.one 19) .plain [(.var 72)] [])), (.setA (.var 76) 110 (.list []))]⟩
noncomputable def f_Rack_rows : MFun := ⟨true, [76], [], [(.ret (.bcall .list [(.attr (.var 76) 109)]))]⟩
noncomputable def f_Rack_numbers : MFun := ⟨true, [76], [], [(.ret (.comp (.call (.glob 0 (.fn 4)) [(.var 19), (.var 22)]) (.two 19 22) .zip [(.attr (.var 76) 72), (.attr (.var 76) 109)] []))]⟩
noncomputable def f_Rack_deeds : MFun := ⟨true, [76], [], [(.ret (.bcall .list [(.attr (.var 76) 110)]))]⟩
noncomputable def f_Rack_do : MFun := ⟨false, [76, 73], [], [(.ifS (.orT [(.notT (.val (.isi (.var 73) .tuple))), (.cmp (.bcall .len [(.var 73)]) [.ne] [(.lit (.int 3))]), (.notT (.val (.call (.glob 0 (.fn 1)) [(.sub (.var 73) (.lit (.int 0))), (.lit (.int 0)), (.bin .sub (.bcall .len [(.attr (.var 76) 72)]) (.lit (.int 1)))])))]) [(.raise 6)] []), (.ifS (.notT (.val (.call (.glob 0 (.fn 8)) [(.sub (.attr (.var 76) 72) (.sub (.var 73) (.lit (.int 0)))), (.sub (.attr (.var 76) 109) (.sub (.var 73) (.lit (.int 0)))), (.slice (.var 73) (some (.lit (.int 1))) none)]))) [(.raise 6)] []), (.store (.attr (.var 76) 109) (.sub (.var 73) (.lit (.int 0))) (.call (.glob 0 (.fn 9)) [(.sub (.attr (.var 76) 109) (.sub (.var 73) (.lit (.int 0)))), (.slice (.var 73) (some (.lit (.int 1))) none)])), (.expr (.meth .append (.attr (.var 76) 110) [(.var 73)]))]⟩
noncomputable def f_Rack_back : MFun := ⟨false, [76], [37, 70, 71], [(.ifS (.cmp (.bcall .len [(.attr (.var 76) 110)]) [.eq] [(.lit (.int 0))]) [(.raise 6)] []), (.asgT (.three 71 37 70) (.meth .pop (.attr (.var 76) 110) [])), (.store (.attr (.var 76) 109) (.var 71) (.call (.glob 0 (.fn 9)) [(.sub (.attr (.var 76) 109) (.var 71)), (.tuple [(.var 37), (.neg (.var 70))])]))]⟩
noncomputable def f_Rack_way_to : MFun := ⟨true, [76, 75, 5], [], [.bad]⟩
noncomputable def prog : MProg := ⟨[f_wall, f_is_among, f_need_counts, f_product, f_counted_in, f_row_of, f_move_between, f_moves_of, f_is_move, f_with_move, f_law_cell_at, f_law_mixed, f_law_whole, f_law_counts, f_law_product, f_law_row, f_law_number, f_law_is_row, f_law_word, f_law_turned, f_law_moves, f_law_asked, f_law_all_whole, f_law_right, f_law_refused, f_law_bad, f_law_deed_done, f_law, f_Rack___init__, f_Rack_rows, f_Rack_numbers, f_Rack_deeds, f_Rack_do, f_Rack_back, f_Rack_way_to], false⟩
noncomputable def names : List Str := List.map Str.ofString ["_law_found", "_law_k", "_law_script", "_law_thing", "least", "most", "thing", "found", "number", "_law_one", "_law_turn", "_law_most", "_law_number_here", "_law_cell", "_law_drawer", "_law_many_times", "_law_ring", "_law_size", "count", "counts", "place", "ring", "row", "setting", "_law_ahead", "_law_count", "_law_counts_here", "_law_e", "_law_fits", "_law_kind", "_law_kinds", "_law_many_here", "_law_name", "_law_names", "_law_other", "_law_position", "_law_row_here", "drawer", "one", "other", "_law_some", "bit", "_law_kept", "_law_number", "_law_setting_here", "behind", "fresh", "goal", "rings", "step", "_law_at", "_law_by", "_law_due", "_law_far", "_law_pair", "_law_handed", "_law_move", "_law_setting", "_law_unlike", "move", "_law_bad", "_law_chests", "_law_goal", "_law_good", "_law_here", "_law_last", "_law_met", "_law_rack", "_law_rings", "_law_which", "by", "chest", "chests", "deed", "k", "rows", "self", "sign", "text", "_law_again", "_law_apart_here", "_law_chest", "_law_counts", "_law_deed", "_law_deeds_here", "_law_done", "_law_due_here", "_law_first", "_law_goals", "_law_held_now", "_law_later", "_law_layers_here", "_law_numbers", "_law_sign", "_law_stands", "_law_start", "_law_step", "_law_steps", "_law_text", "_law_text_row", "_law_there", "_law_told", "_law_tuples", "_law_twice", "_law_waiting", "_law_way_of", "_law_worse", "turn", "ways", "places", "done"]
noncomputable def consts : List Str := List.map Str.ofString ["MOST_DRAWERS", "MOST_COUNT", "MOST_CHESTS"]
noncomputable def pures : List (Bool × Bool × List Nat) := [(true, true, []), (false, true, []), (false, true, []), (false, true, [7, 18]), (false, true, [7, 20, 37]), (false, true, [7, 18, 20]), (false, true, [37]), (false, true, [7, 8, 39]), (false, true, []), (false, true, []), (false, true, []), (false, true, []), (false, true, []), (false, true, [13, 14, 26, 29, 31]), (true, true, []), (true, true, []), (false, true, [12, 14, 24]), (true, true, []), (false, true, [30, 33]), (false, true, []), (false, true, [0, 12, 14, 25, 51]), (false, true, [1, 101]), (false, true, [36]), (false, false, [0, 52, 92, 101]), (false, true, [27]), (false, true, [14, 40, 51, 81]), (false, false, [9, 40, 81, 84, 90]), (false, true, [1, 13, 34, 40, 42, 55, 61, 65, 67, 81, 83, 85, 94]), (false, false, [19]), (false, true, []), (false, true, []), (false, true, []), (false, false, []), (false, false, [37, 70, 71]), (true, true, [])]
end Mine.L13
end
section
namespace Mine.L13
open PySem PySem.W PyProof.Rows
theorem text : TextOk view13 (looseW view13 []) names consts pures 300 prog where
 nodup := by decide +kernel
 dot := by decide +kernel
 short := by decide +kernel
 free := by decide +kernel
 comp := by kernel_rfl
 rack := by kernel_rfl
end Mine.L13
end
section
namespace Mine
open PySem PySem.W PyProof.Rows
set_option tactic.hygienic true in
theorem go13 (hlaw : ∀ ns : List Int, ns.length ≤ 63 → ∃ hp', callN L13.prog 20 27 [.frz ns] ⟨0, []⟩ = .ok (.bool true) hp') : PySem.Challenge.rw_uf030010_13.Holds := by
 refine holds_law said13 fun said => ?_
 refine holds_open (r := PySem.Challenge.rw_uf030010_13.row) (q := view13) (loose := []) (Xt := fun s => (xlAt view13 [] s && excOk s.heap) && recOk (RowW.records PySem.Challenge.rw_uf030010_13.row.toRowW) s) (XP := fun mg h => XL view13 [] mg h ∧ ExcXP mg h) (Yf := Hook.obs Hook.none) (Ya := Hook.val Hook.none) (YP := Hook.says Hook.none) (N := 12000) left13 (Hook.of Hook.none) (Hook.keeps Hook.none) (fun s e => ⟨xl_of s (Bool.and_eq_true_iff.mp (Bool.and_eq_true_iff.mp e).1).1, excXP_of (Bool.and_eq_true_iff.mp (Bool.and_eq_true_iff.mp e).1).2⟩) (fun mg h h' x k => ⟨XL.keeps mg h h' x.1 k, ExcXP.keeps mg h h' x.2 k⟩) (by rfl) (by rfl) (by rfl) (fun s e => recFacts_of (Bool.and_eq_true_iff.mp e).2) (by rfl) (by first | assumption | decide +kernel) (by decide +kernel) ⟨rfl, rfl, rfl, rfl, rfl, by decide +kernel⟩ ?hw ?hc
 case hw => w_witness2
 case hc =>
  intro w s₀ s₁ mg mb G Y fa o pm cd doc dV kV ho hd hcd hD hmg hg args vals as hpre hlay hrd hwl hlo
  have X := (Ground.X G).1.1
  have V := (Ground.X G).1.2
  have XP := (Ground.X G).2
  refine Ground.open G ?_
  intro T B D TE TW
  wrow_args hpre hlay hrd hwl hlo
  refine enter_call ?_
  w_top on
  try refine codeAny_mono ?_ (fun z_ z_ g => GoodW.toG g)
  rename_i ns _ _ _ _ _ _ _ l vs _ hL _ _ _ hI _ hlen _
  have hlen' : ns.length ≤ 63 := by omega
  obtain ⟨hp', hl⟩ := hlaw ns hlen'
  exact Mine.join_law (i := 27) XP TE.topC T Mine.L13.text (by kernel_rfl) hmg hL hI hlen'
   rfl (by decide) (by decide) rfl hl hg (fun cls => rfl) (by first | wrow_post | kernel_rfl)
end Mine
end
section
namespace Mine
open PySem
theorem lv {k j n : Nat} (hm : j ≤ n + 1) (h : (k + 1).ble j = true := by rfl) : k ≤ n := Nat.le_of_succ_le_succ (Nat.le_trans (Nat.le_of_ble_eq_true h) hm)
theorem lw {k j n : Nat} (hn : j ≤ n) (h : k.ble j = true := by rfl) : k ≤ n := Nat.le_trans (Nat.le_of_ble_eq_true h) hn
section
variable {P : MProg} {C W : Caller} {loc : Loc} {hp : Hp}
theorem e_lit {p : PV} : evalE P C (.lit p) loc hp = .ok p hp := rfl
theorem e_glob {g : Nat} {p : PV} : evalE P C (.glob g p) loc hp = .ok p hp := rfl
theorem e_var {x : Nat} {v : PV} (h : getv loc x = some v) : evalE P C (.var x) loc hp = .ok v hp := congrArg (fun o => ofOpt o hp) h
theorem bind_eq {α β : Type} {r : Res α} {a : α} {hp : Hp} {f : α → Hp → Res β} {q : Res β} (h : r = .ok a hp) (h2 : f a hp = q) : r.bind f = q := by rw [h]; exact h2
theorem e_bin {op : Bop} {l r : ME} {a b v : PV} {hp1 hp2 hp3 : Hp} (h1 : evalE P C l loc hp = .ok a hp1) (h2 : evalE P C r loc hp1 = .ok b hp2) (h3 : binop op a b hp2 = .ok v hp3) :
  evalE P C (.bin op l r) loc hp = .ok v hp3 := bind_eq h1 (bind_eq h2 h3)
theorem e_neg {e : ME} {i : Int} {hp1 : Hp} (h : evalE P C e loc hp = .ok (.int i) hp1) : evalE P C (.neg e) loc hp = .ok (.int (-i)) hp1 := bind_eq h rfl
theorem opt_eq {α β : Type} {o : Option α} {a : α} {hp : Hp} {f : α → Hp → Res β} {q : Res β} (h : o = some a) (h2 : f a hp = q) : (ofOpt o hp).bind f = q := by rw [h]; exact h2
theorem opt_eq' {α : Type} {o : Option α} {a : α} {hp : Hp} (h : o = some a) : ofOpt o hp = .ok a hp := by rw [h]; rfl
theorem e_not {e : ME} {a : PV} {b : Bool} {hp1 : Hp} (h : evalE P C e loc hp = .ok a hp1) (ht : truth a hp1 = some b) : evalE P C (.notE e) loc hp = .ok (.bool (!b)) hp1 := bind_eq h (opt_eq ht rfl)
theorem e_and {es : List ME} {q : Res PV} (h : evalBool P C true es loc hp = q) : evalE P C (.andE es) loc hp = q := h
theorem b_last {k : Bool} {e : ME} {q : Res PV} (h : evalE P C e loc hp = q) : evalBool P C k [e] loc hp = q := h
theorem b_go {k : Bool} {e e' : ME} {r : List ME} {v : PV} {hp1 : Hp} {q : Res PV} (h : evalE P C e loc hp = .ok v hp1) (ht : truth v hp1 = some k) (h2 : evalBool P C k (e' :: r) loc hp1 = q) : evalBool P C k (e :: e' :: r) loc hp = q :=
 bind_eq h (opt_eq ht (by rw [if_pos rfl]; exact h2))
theorem b_stop {k : Bool} {e e' : ME} {r : List ME} {v : PV} {hp1 : Hp} (h : evalE P C e loc hp = .ok v hp1) (ht : truth v hp1 = some (!k)) : evalBool P C k (e :: e' :: r) loc hp = .ok v hp1 :=
 bind_eq h (opt_eq ht (by rw [if_neg (by cases k <;> decide)]))
theorem c_one {op : Cop} {a b : PV} {r : ME} {t : Bool} {hp1 : Hp} (h : evalE P C r loc hp = .ok b hp1) (ht : cmpop op a b hp1 = some t) : evalCmp P C a [op] [r] loc hp = .ok t hp1 := bind_eq h (opt_eq' ht)
theorem c_go {op op' : Cop} {ops : List Cop} {a b : PV} {r r' : ME} {rs : List ME} {hp1 : Hp} {q : Res Bool} (h : evalE P C r loc hp = .ok b hp1) (ht : cmpop op a b hp1 = some true) (h2 : evalCmp P C b (op' :: ops) (r' :: rs) loc hp1 = q) :
  evalCmp P C a (op :: op' :: ops) (r :: r' :: rs) loc hp = q := bind_eq h (opt_eq ht h2)
theorem c_stop {op op' : Cop} {ops : List Cop} {a b : PV} {r r' : ME} {rs : List ME} {hp1 : Hp} (h : evalE P C r loc hp = .ok b hp1) (ht : cmpop op a b hp1 = some false) :
  evalCmp P C a (op :: op' :: ops) (r :: r' :: rs) loc hp = .ok false hp1 := bind_eq h (opt_eq ht rfl)
theorem e_cmp {l : ME} {ops : List Cop} {rs : List ME} {a : PV} {t : Bool} {hp1 hp2 : Hp} (h : evalE P C l loc hp = .ok a hp1) (h2 : evalCmp P C a ops rs loc hp1 = .ok t hp2) : evalE P C (.cmp l ops rs) loc hp = .ok (.bool t) hp2 := bind_eq h (bind_eq h2 rfl)
theorem t_cmp {l : ME} {ops : List Cop} {rs : List ME} {a : PV} {hp1 : Hp} {q : Res Bool} (h : evalE P C l loc hp = .ok a hp1) (h2 : evalCmp P C a ops rs loc hp1 = q) : evalT P C (.cmp l ops rs) loc hp = q := bind_eq h h2
theorem t_val {e : ME} {v : PV} {t : Bool} {hp1 : Hp} (h : evalE P C e loc hp = .ok v hp1) (ht : truth v hp1 = some t) : evalT P C (.val e) loc hp = .ok t hp1 := bind_eq h (opt_eq' ht)
theorem t_not_f {e : MT} {hp1 : Hp} (h : evalT P C e loc hp = .ok true hp1) : evalT P C (.notT e) loc hp = .ok false hp1 := bind_eq h rfl
theorem t_not_t {e : MT} {hp1 : Hp} (h : evalT P C e loc hp = .ok false hp1) : evalT P C (.notT e) loc hp = .ok true hp1 := bind_eq h rfl
theorem t_and {es : List MT} {q : Res Bool} (h : evalTs P C true es loc hp = q) : evalT P C (.andT es) loc hp = q := h
theorem t_or {es : List MT} {q : Res Bool} (h : evalTs P C false es loc hp = q) : evalT P C (.orT es) loc hp = q := h
theorem ts_nil {k : Bool} : evalTs P C k [] loc hp = .ok k hp := rfl
theorem ts_go {k : Bool} {e : MT} {r : List MT} {hp1 : Hp} {q : Res Bool} (h : evalT P C e loc hp = .ok k hp1) (h2 : evalTs P C k r loc hp1 = q) : evalTs P C k (e :: r) loc hp = q := bind_eq h (by rw [if_pos rfl]; exact h2)
theorem ts_stop {k : Bool} {e : MT} {r : List MT} {hp1 : Hp} (h : evalT P C e loc hp = .ok (!k) hp1) : evalTs P C k (e :: r) loc hp = .ok (!k) hp1 := bind_eq h (by rw [if_neg (by cases k <;> decide)])
theorem es_nil : evalEs P C [] loc hp = .ok [] hp := rfl
theorem es_cons {e : ME} {r : List ME} {v : PV} {vs : List PV} {hp1 hp2 : Hp} (h : evalE P C e loc hp = .ok v hp1) (h2 : evalEs P C r loc hp1 = .ok vs hp2) : evalEs P C (e :: r) loc hp = .ok (v :: vs) hp2 := bind_eq h (bind_eq h2 rfl)
theorem e_call {g i : Nat} {es : List ME} {vs : List PV} {hp1 : Hp} {q : Res PV} (h : evalEs P C es loc hp = .ok vs hp1) (h2 : C i vs hp1 = q) : evalE P C (.call (.glob g (.fn i)) es) loc hp = q := bind_eq (f := fun vs hp2 => C i vs hp2) h h2
theorem e_bcall {b : Bf} {es : List ME} {vs : List PV} {hp1 : Hp} {q : Res PV} (h : evalEs P C es loc hp = .ok vs hp1) (h2 : bfun b vs hp1 = q) (hP : (P.held && !b.calm) = false := by rfl) : evalE P C (.bcall b es) loc hp = q := bind_eq h (by rw [hP]; exact h2)
theorem e_isi {e : ME} {t : Ty} {v : PV} {b : Bool} {hp1 : Hp} (h : evalE P C e loc hp = .ok v hp1) (h2 : isity v t hp1 = some b) : evalE P C (.isi e t) loc hp = .ok (.bool b) hp1 := bind_eq h (opt_eq h2 rfl)
theorem e_meth {m : Mf} {o : ME} {es : List ME} {a : PV} {vs : List PV} {hp1 hp2 : Hp} {q : Res PV} (h : evalE P C o loc hp = .ok a hp1) (hr : recv m a hp1 = true) (h2 : evalEs P C es loc hp1 = .ok vs hp2) (h3 : method m a vs hp2 = q) :
  evalE P C (.meth m o es) loc hp = q := bind_eq h (by rw [if_pos hr]; exact bind_eq h2 h3)
theorem e_sub {o i : ME} {a b v : PV} {hp1 hp2 : Hp} (h : evalE P C o loc hp = .ok a hp1) (h2 : evalE P C i loc hp1 = .ok b hp2) (h3 : subop a b hp2 = some v) : evalE P C (.sub o i) loc hp = .ok v hp2 := bind_eq h (bind_eq h2 (opt_eq' h3))
theorem e_attr {o : ME} {k : Nat} {a v : PV} {hp1 : Hp} (h : evalE P C o loc hp = .ok a hp1) (h2 : attrOf a k hp1 = some v) : evalE P C (.attr o k) loc hp = .ok v hp1 := bind_eq h (opt_eq' h2)
theorem e_mcall {i : Nat} {o : ME} {es : List ME} {a : PV} {vs : List PV} {hp1 hp2 : Hp} {q : Res PV} (h : evalE P C o loc hp = .ok a hp1) (ht : (tabOf a hp1).isSome = true) (h2 : evalEs P C es loc hp1 = .ok vs hp2) (h3 : C i (a :: vs) hp2 = q) : evalE P C (.mcall i o es) loc hp = q :=
 bind_eq h (by rw [if_pos ht]; exact bind_eq h2 h3)
theorem e_mk {i : Nat} {es : List ME} {vs : List PV} {hp1 hp2 : Hp} (h : evalEs P C es loc hp = .ok vs hp1) (h2 : C i (.lst hp1.os.length :: vs) (newInst hp1) = .ok .none hp2) : evalE P C (.mk i es) loc hp = .ok (.lst hp1.os.length) hp2 := bind_eq h (bind_eq h2 rfl)
theorem o_none : evalO P C none loc hp = .ok none hp := rfl
theorem o_some {e : ME} {v : PV} {hp1 : Hp} (h : evalE P C e loc hp = .ok v hp1) : evalO P C (some e) loc hp = .ok (some v) hp1 := bind_eq h rfl
theorem e_slice {o : ME} {lo hi : Option ME} {a : PV} {x y : Option PV} {hp1 hp2 hp3 : Hp} {q : Res PV} (h : evalE P C o loc hp = .ok a hp1) (h2 : evalO P C lo loc hp1 = .ok x hp2) (h3 : evalO P C hi loc hp2 = .ok y hp3) (h4 : sliceop a x y hp3 = q) :
  evalE P C (.slice o lo hi) loc hp = q := bind_eq h (bind_eq h2 (bind_eq h3 h4))
noncomputable def Hp.add (hp : Hp) (o : MObj) : Hp := ⟨hp.lo, hp.os ++ [o]⟩
noncomputable def Hp.new (hp : Hp) : Nat := hp.os.length
theorem e_list {es : List ME} {vs : List PV} {hp1 : Hp} (h : evalEs P C es loc hp = .ok vs hp1) : evalE P C (.list es) loc hp = .ok (.lst hp1.new) (hp1.add (.list vs)) := bind_eq h rfl
theorem e_tuple {es : List ME} {vs : List PV} {hp1 : Hp} (h : evalEs P C es loc hp = .ok vs hp1) : evalE P C (.tuple es) loc hp = .ok (.tup vs) hp1 := bind_eq h rfl
theorem stm_eq {α : Type} {r : Res α} {a : α} {hp : Hp} {loc : Loc} {f : α → Hp → SR} {q : SR} (h : r = .ok a hp) (h2 : f a hp = q) : r.stm loc f = q := by rw [h]; exact h2
theorem s_nil : exeB P C W [] loc hp = .nxt loc hp := rfl
theorem s_asg {x : Nat} {e : ME} {r : List MS} {v : PV} {hp1 : Hp} {q : SR} (h : evalE P C e loc hp = .ok v hp1) (h2 : exeB P C W r (putv loc x v) hp1 = q) : exeB P C W (.asg x e :: r) loc hp = q := by
 have : exeS P C W (.asg x e) loc hp = .nxt (putv loc x v) hp1 := stm_eq h rfl
 show (exeS P C W (.asg x e) loc hp).seq _ = q
 rw [this]; exact h2
theorem s_expr {e : ME} {r : List MS} {hp1 : Hp} {q : SR} (h : evalE P C e loc hp = .ok .none hp1) (h2 : exeB P C W r loc hp1 = q) : exeB P C W (.expr e :: r) loc hp = q := by
 have : exeS P C W (.expr e) loc hp = .nxt loc hp1 := stm_eq h rfl
 show (exeS P C W (.expr e) loc hp).seq _ = q
 rw [this]; exact h2
theorem s_ret {e : ME} {r : List MS} {v : PV} {hp1 : Hp} (h : evalE P C e loc hp = .ok v hp1) : exeB P C W (.ret e :: r) loc hp = .ret v hp1 := by
 have : exeS P C W (.ret e) loc hp = .ret v hp1 := stm_eq h rfl
 show (exeS P C W (.ret e) loc hp).seq _ = _
 rw [this]; rfl
theorem s_cons {st : MS} {r : List MS} {loc1 : Loc} {hp1 : Hp} {q : SR} (h : exeS P C W st loc hp = .nxt loc1 hp1) (h2 : exeB P C W r loc1 hp1 = q) : exeB P C W (st :: r) loc hp = q := by
 show (exeS P C W st loc hp).seq _ = q
 rw [h]; exact h2
theorem s_end {st : MS} {r : List MS} {v : PV} {hp1 : Hp} (h : exeS P C W st loc hp = .ret v hp1) : exeB P C W (st :: r) loc hp = .ret v hp1 := by
 show (exeS P C W st loc hp).seq _ = _
 rw [h]; rfl
theorem i_t {c : MT} {a b : List MS} {hp1 : Hp} {q : SR} (h : evalT P C c loc hp = .ok true hp1) (h2 : exeB P C W a loc hp1 = q) : exeS P C W (.ifS c a b) loc hp = q := stm_eq h h2
theorem i_f {c : MT} {a b : List MS} {hp1 : Hp} {q : SR} (h : evalT P C c loc hp = .ok false hp1) (h2 : exeB P C W b loc hp1 = q) : exeS P C W (.ifS c a b) loc hp = q := stm_eq h h2
theorem s_if0 {c : MT} {a r : List MS} {hp1 : Hp} {q : SR} (h : evalT P C c loc hp = .ok false hp1) (h2 : exeB P C W r loc hp1 = q) : exeB P C W (.ifS c a [] :: r) loc hp = q := s_cons (i_f h rfl) h2
theorem s_store {o i e : ME} {r : List MS} {v a k : PV} {hp1 hp2 hp3 hp4 : Hp} {q : SR} (he : evalE P C e loc hp = .ok v hp1) (ho : evalE P C o loc hp1 = .ok a hp2) (hi : evalE P C i loc hp2 = .ok k hp3) (hs : storeAt a k v hp3 = some hp4)
  (h2 : exeB P C W r loc hp4 = q) : exeB P C W (.store o i e :: r) loc hp = q := by
 refine s_cons (stm_eq he (stm_eq ho (stm_eq hi ?_))) h2
 rw [hs]
end
section
variable {hp : Hp}
theorem intOk_of {i : Int} (h1 : -9223372036854775808 < i) (h2 : i < 9223372036854775808) : intOk i = true := by
 unfold intOk; rw [decide_eq_true h1, decide_eq_true h2]; rfl
theorem o_add {a b : Int} : binop .add (.int a) (.int b) hp = .ok (.int (a + b)) hp := rfl
theorem o_sub {a b : Int} : binop .sub (.int a) (.int b) hp = .ok (.int (a - b)) hp := rfl
theorem o_mul {a b : Int} (h : (intOk a || intOk b) = true) : binop .mul (.int a) (.int b) hp = .ok (.int (a * b)) hp := by show (if _ then _ else _) = _; rw [if_pos h]
theorem small {i : Int} (h1 : -1000000000 ≤ i) (h2 : i ≤ 1000000000) : intOk i = true := intOk_of (by exact (Int.lt_of_lt_of_le ilt h1)) (by exact (Int.lt_of_le_of_lt h2 ilt))
theorem o_mulL {a b : Int} (h1 : -1000000000 ≤ a) (h2 : a ≤ 1000000000) : binop .mul (.int a) (.int b) hp = .ok (.int (a * b)) hp := o_mul (by rw [small h1 h2]; rfl)
theorem o_mulR {a b : Int} (h1 : -1000000000 ≤ b) (h2 : b ≤ 1000000000) : binop .mul (.int a) (.int b) hp = .ok (.int (a * b)) hp := o_mul (by rw [small h1 h2, Bool.or_true])
theorem o_mod {a b : Int} (h : 0 < b) : binop .mod (.int a) (.int b) hp = .ok (.int (a % b)) hp := by
 have : (if b ≠ 0 then some (a.fmod b) else none) = some (a % b) := by rw [if_pos (by omega), Int.fmod_eq_emod_of_nonneg a (by exact (Int.le_of_lt h))]
 show (match (if b ≠ 0 then some (a.fmod b) else none) with | some c => Res.ok (PV.int c) hp | none => .bad) = _
 rw [this]
theorem o_div {a b : Int} (h : 0 < b) (h2 : b ≤ 1000000000) : binop .div (.int a) (.int b) hp = .ok (.int (a / b)) hp := by
 have : (if b ≠ 0 ∧ intOk b then some (a.fdiv b) else none) = some (a / b) := by rw [if_pos ⟨by omega, small (by exact (Int.le_of_lt (Int.lt_trans ilt h))) h2⟩, Int.fdiv_eq_ediv_of_nonneg a (by exact (Int.le_of_lt h))]
 show (match (if b ≠ 0 ∧ intOk b then some (a.fdiv b) else none) with | some c => Res.ok (PV.int c) hp | none => .bad) = _
 rw [this]
theorem q_lt_t {a b : Int} (h : a < b) : cmpop .lt (.int a) (.int b) hp = some true := congrArg some (decide_eq_true h)
theorem q_lt_f {a b : Int} (h : ¬ a < b) : cmpop .lt (.int a) (.int b) hp = some false := congrArg some (decide_eq_false h)
theorem q_le_t {a b : Int} (h : a ≤ b) : cmpop .le (.int a) (.int b) hp = some true := congrArg some (decide_eq_true h)
theorem q_le_f {a b : Int} (h : ¬ a ≤ b) : cmpop .le (.int a) (.int b) hp = some false := congrArg some (decide_eq_false h)
theorem q_gt_t {a b : Int} (h : b < a) : cmpop .gt (.int a) (.int b) hp = some true := congrArg some (decide_eq_true h)
theorem q_gt_f {a b : Int} (h : ¬ b < a) : cmpop .gt (.int a) (.int b) hp = some false := congrArg some (decide_eq_false h)
theorem peq_int {a b : Int} : peq (.int a) (.int b) hp = some (decide (a = b)) := by
 have : PyData.eqv (.int a) (.int b) = decide (a = b) := rfl
 exact congrArg some this
theorem q_eq_t {a b : Int} (h : a = b) : cmpop .eq (.int a) (.int b) hp = some true := by show peq (.int a) (.int b) hp = _; rw [peq_int, decide_eq_true h]
theorem q_eq_f {a b : Int} (h : ¬ a = b) : cmpop .eq (.int a) (.int b) hp = some false := by show peq (.int a) (.int b) hp = _; rw [peq_int, decide_eq_false h]
theorem q_ne_t {a b : Int} (h : ¬ a = b) : cmpop .ne (.int a) (.int b) hp = some true := by show (peq (.int a) (.int b) hp).map (! ·) = _; rw [peq_int, decide_eq_false h]; rfl
theorem q_ne_f {a b : Int} (h : a = b) : cmpop .ne (.int a) (.int b) hp = some false := by show (peq (.int a) (.int b) hp).map (! ·) = _; rw [peq_int, decide_eq_true h]; rfl
theorem Hp.add_new {o : MObj} : (hp.add o).os[hp.new]? = some o := by unfold Hp.add Hp.new; simp
theorem Hp.add_old {o : MObj} {n : Nat} {x : MObj} (h : hp.os[n]? = some x) : (hp.add o).os[n]? = some x := by
 have : n < hp.os.length := (List.getElem?_eq_some_iff.mp h).1
 show (hp.os ++ [o])[n]? = _
 rw [List.getElem?_append_left this]; exact h
theorem lst_of {n : Nat} {l : List PV} (h : hp.os[n]? = some (.list l)) : lstAt hp n = some l := by unfold lstAt; rw [h]
theorem g_tup {l : List PV} {k : Int} {v : PV} (h0 : 0 ≤ k) (h : l[k.toNat]? = some v) : subop (.tup l) (.int k) hp = some v := (if_pos h0).trans h
theorem g_lst {n : Nat} {l : List PV} {k : Int} {v : PV} (hl : hp.os[n]? = some (.list l)) (h0 : 0 ≤ k) (h : l[k.toNat]? = some v) : subop (.lst n) (.int k) hp = some v :=
 (if_pos h0).trans (by rw [show subIt (.lst n) hp = some l from lst_of hl]; exact h)
theorem n_tup {l : List PV} : bfun .len [.tup l] hp = .ok (.int l.length) hp := rfl
theorem n_lst {n : Nat} {l : List PV} (hl : hp.os[n]? = some (.list l)) : bfun .len [.lst n] hp = .ok (.int l.length) hp := by
 show (match lstAt hp n with | some l => _ | none => _) = _
 rw [lst_of hl]
theorem n_frz {l : List Int} : bfun .len [.frz l] hp = .ok (.int l.length) hp := rfl
theorem y_lst {n : Nat} {l : List PV} (hl : hp.os[n]? = some (.list l)) : isity (.lst n) .list hp = some true := by
 have ht : tagOf (.lst n) hp = some 5 := by unfold tagOf; dsimp only; rw [hl]
 show (tagOf (.lst n) hp).map (tyB .list) = _; rw [ht]; rfl
theorem y_tup {l : List PV} : isity (.tup l) .tuple hp = some true := rfl
theorem y_int {i : Int} : isity (.int i) .int hp = some true := rfl
theorem y_ib {i : Int} : isity (.int i) .bool hp = some false := rfl
theorem v_bool {b : Bool} : truth (.bool b) hp = some b := rfl
theorem u_lst {n : Nat} {l : List PV} (hl : hp.os[n]? = some (.list l)) : bfun .tuple [.lst n] hp = .ok (.tup l) hp := by
 show (match lstAt hp n with | some l => _ | none => _) = _
 rw [lst_of hl]
theorem r_lst {n : Nat} {l : List PV} (hl : hp.os[n]? = some (.list l)) : recv .append (.lst n) hp = true := by show (lstAt hp n).isSome = true; rw [lst_of hl]; rfl
noncomputable def Hp.turn (hp : Hp) (n : Nat) (o : MObj) : Hp := ⟨hp.lo, hp.os.set n o⟩
theorem p_app {n : Nat} {l : List PV} {v : PV} (hl : hp.os[n]? = some (.list l)) (hlo : hp.lo ≤ n) (hz : l.length ≤ 1000000) : method .append (.lst n) [v] hp = .ok .none (hp.turn n (.list (l ++ [v]))) := by
 show (match lstAt hp n with | some l => _ | none => _) = _
 rw [lst_of hl]
 show (if sizeOk l.length then _ else _) = _
 rw [if_pos (show sizeOk l.length = true from decide_eq_true hz)]
 unfold setObj
 rw [if_pos hlo]; rfl
theorem Hp.turn_at {n : Nat} {o x : MObj} (h : hp.os[n]? = some x) : (hp.turn n o).os[n]? = some o := by
 show (hp.os.set n o)[n]? = _
 rw [List.getElem?_set_self (List.getElem?_eq_some_iff.mp h).1]
theorem Hp.turn_ne {n k : Nat} {o : MObj} (h : n ≠ k) : (hp.turn n o).os[k]? = hp.os[k]? := List.getElem?_set_ne h
theorem p_new {l : List PV} {v : PV} (hlo : hp.lo ≤ hp.new) (hz : l.length ≤ 1000000) : method .append (.lst hp.new) [v] (hp.add (.list l)) = .ok .none (hp.add (.list (l ++ [v]))) := by
 rw [p_app (hp := hp.add (.list l)) Hp.add_new hlo hz]
 exact congrArg _ (by unfold Hp.turn Hp.add Hp.new; simp)
end
end Mine
end
section
namespace Mine
open PySem
inductive Yields (K : Hp → Prop) : Src → List PV → Prop
 | nil {src : Src} : (∀ hp, K hp → src.next hp = some none) → Yields K src []
 | cons {src src' : Src} {v : PV} {l : List PV} : (∀ hp, K hp → src.next hp = some (some (v, src'))) → Yields K src' l → Yields K src (v :: l)
theorem y_items {K : Hp → Prop} : ∀ l : List PV, Yields K (.items l) l
 | [] => .nil fun z_ z_ => rfl
 | _ :: l => .cons (fun z_ z_ => rfl) (y_items l)
theorem y_at {K : Hp → Prop} {n : Nat} {l : List PV} (h : ∀ hp, K hp → hp.os[n]? = some (.list l)) : ∀ (r : List PV) (i : Nat), l.drop i = r → Yields K (.at n i) r
 | [], i, e => .nil fun hp k => by
  show (match lstAt hp n with | some l => some (l[i]?.map fun v => (v, Src.at n (i + 1))) | none => none) = _
  rw [lst_of (h hp k)]
  have : l[i]? = none := by rw [List.getElem?_eq_none_iff]; exact List.drop_eq_nil_iff.mp e
  dsimp only; rw [this]; rfl
 | v :: r, i, e => .cons (fun hp k => by
   show (match lstAt hp n with | some l => some (l[i]?.map fun v => (v, Src.at n (i + 1))) | none => none) = _
   rw [lst_of (h hp k)]
   have : l[i]? = some v := by have := congrArg (fun l => l[0]?) e; simpa using this
   dsimp only; rw [this]; rfl) (y_at h r (i + 1) (by rw [List.drop_add_one_eq_tail_drop, e]; rfl))
theorem y_all {K : Hp → Prop} {n : Nat} {l : List PV} (h : ∀ hp, K hp → hp.os[n]? = some (.list l)) : Yields K (.at n 0) l := y_at h l 0 rfl
theorem y_enum {K : Hp → Prop} {n : Nat} {l : List PV} (h : ∀ hp, K hp → hp.os[n]? = some (.list l)) : ∀ (r : List PV) (i : Nat), l.drop i = r → Yields K (.enum n i) ((r.zipIdx i).map fun p => .tup [.int p.2, p.1])
 | [], i, e => .nil fun hp k => by
  show (match lstAt hp n with | some l => some (l[i]?.map fun v => (PV.tup [.int i, v], Src.enum n (i + 1))) | none => none) = _
  rw [lst_of (h hp k)]
  have : l[i]? = none := by rw [List.getElem?_eq_none_iff]; exact List.drop_eq_nil_iff.mp e
  dsimp only; rw [this]; rfl
 | v :: r, i, e => .cons (fun hp k => by
   show (match lstAt hp n with | some l => some (l[i]?.map fun v => (PV.tup [.int i, v], Src.enum n (i + 1))) | none => none) = _
   rw [lst_of (h hp k)]
   have : l[i]? = some v := by have := congrArg (fun l => l[0]?) e; simpa using this
   dsimp only; rw [this]; rfl) (y_enum h r (i + 1) (by rw [List.drop_add_one_eq_tail_drop, e]; rfl))
noncomputable def pairs : List PV → List PV → List PV
 | a :: l, b :: m => .tup [a, b] :: pairs l m
 | _, _ => []
theorem y_zip {K : Hp → Prop} {m : Nat} (h : ∀ hp, K hp → hp.os[m]? = some .own) {a : Src} {l : List PV} (ya : Yields K a l) : ∀ {b : Src} {l' : List PV}, Yields K b l' → Yields K (.zip m a b) (pairs l l') := by
 induction ya with
 | nil ha =>
  intro b l' _
  refine .nil fun hp k => ?_
  simp only [Src.next, h hp k, ha hp k]
 | @cons src src' v l ha _ ih =>
  intro b l' yb
  cases yb with
  | nil hb => exact .nil fun hp k => by simp only [Src.next, h hp k, ha hp k, hb hp k]
  | cons hb yb => exact .cons (fun hp k => by simp only [Src.next, h hp k, ha hp k, hb hp k]) (ih yb)
theorem for_y {K : Hp → Prop} {t : Tgt} {body : Loc → Hp → SR} {σ : Type} {L : σ → Loc} {H : σ → Hp} {src : Src} {l : List PV} (hy : Yields K src l) : ∀ {G : Nat → σ → Prop}, (∀ i s, G i s → K (H s)) →
  (∀ i s v, l[i]? = some v → G i s → ∃ s' loc1, bindT t v (L s) = some loc1 ∧ body loc1 (H s) = .nxt (L s') (H s') ∧ G (i + 1) s') → ∀ {N : Nat} {s : σ}, l.length < N → G 0 s → ∃ s', forLoop t body N src (L s) (H s) = .nxt (L s') (H s') ∧ G l.length s' := by
 induction hy with
 | nil hn =>
  intro G hK step N s hN g
  cases N with
  | zero => cases hN
  | succ N =>
   refine ei12 s ?_ g
   unfold forLoop; rw [hn _ (hK 0 s g)]
 | @cons src src' v l hn _ ih =>
  intro G hK step N s hN g
  cases N with
  | zero => cases hN
  | succ N =>
   refine x23 (step 0 s v rfl g) fun s' loc1 e1 e2 g' => ?_
   refine x12 (ih (G := fun i => G (i + 1)) (fun i s => hK (i + 1) s) (fun i s w hw => step (i + 1) s w hw) (N := N) (s := s') (Nat.lt_of_succ_lt_succ hN) g') fun s'' e3 g'' => ?_
   refine ei12 s'' ?_ g''
   unfold forLoop; rw [hn _ (hK 0 s g)]
   dsimp only
   rw [e1]
   dsimp only
   rw [e2]; exact e3
section
variable {P : MProg} {C W : Caller} {loc : Loc} {hp : Hp}
theorem f_eq (N : Nat) (hN : loops = N) {t : Tgt} {k : ItK} {its : List ME} {body : List MS} {vs : List PV} {hp1 : Hp} {src : Src} (hi : evalEs P C its loc hp = .ok vs hp1) (hs : srcOf k vs hp1 = some src) (hP : P.held = false) :
  exeS P C W (.forS t k its body) loc hp = forLoop t (exeB P C W body) N src loc (srcHp k hp1) := by
 rw [exeS_for, hP, hi, Res.bind_ok, hs, hN]; rfl
theorem loops_ex : ∃ N, loops = N ∧ 1000000 ≤ N := ⟨loops, rfl, Nat.le_refl _⟩
theorem x_for {t : Tgt} {k : ItK} {its : List ME} {body : List MS} {vs : List PV} {hp1 : Hp} {src : Src} {l : List PV} (K : Hp → Prop) {σ : Type} (L : σ → Loc) (H : σ → Hp) (G : Nat → σ → Prop) (s₀ : σ)
  (hi : evalEs P C its (L s₀) hp = .ok vs hp1) (hs : srcOf k vs hp1 = some src) (hH : H s₀ = srcHp k hp1) (hy : Yields K src l) (hlen : l.length < 1000000) (hK : ∀ i s, G i s → K (H s)) (g : G 0 s₀)
  (step : ∀ i s v, l[i]? = some v → G i s → ∃ s' loc1, bindT t v (L s) = some loc1 ∧ exeB P C W body loc1 (H s) = .nxt (L s') (H s') ∧ G (i + 1) s') (hP : P.held = false := by rfl) : ∃ s, exeS P C W (.forS t k its body) (L s₀) hp = .nxt (L s) (H s) ∧ G l.length s := by
 refine x12 loops_ex fun N hN hle => ?_
 refine x12 (for_y hy hK step (N := N) (s := s₀) (Nat.lt_of_lt_of_le hlen hle) g) fun s' e g' => ?_
 rw [hH] at e
 exact ei12 s' ((f_eq N hN hi hs hP).trans e) g'
theorem s_for {t : Tgt} {k : ItK} {its : List ME} {body r : List MS} {vs : List PV} {hp1 : Hp} {src : Src} {l : List PV} {q : SR} (K : Hp → Prop) {σ : Type} (L : σ → Loc) (H : σ → Hp) (G : Nat → σ → Prop) (s₀ : σ)
  (hi : evalEs P C its (L s₀) hp = .ok vs hp1) (hs : srcOf k vs hp1 = some src) (hH : H s₀ = srcHp k hp1) (hy : Yields K src l) (hlen : l.length < 1000000) (hK : ∀ i s, G i s → K (H s)) (g : G 0 s₀)
  (step : ∀ i s v, l[i]? = some v → G i s → ∃ s' loc1, bindT t v (L s) = some loc1 ∧ exeB P C W body loc1 (H s) = .nxt (L s') (H s') ∧ G (i + 1) s')
  (fin : ∀ s, G l.length s → exeB P C W r (L s) (H s) = q) (hP : P.held = false := by rfl) : exeB P C W (.forS t k its body :: r) (L s₀) hp = q := by
 refine x12 (x_for K L H G s₀ hi hs hH hy hlen hK g step hP) fun s' e g' => ?_
 exact s_cons e (fin s' g')
theorem comp_y {K : Hp → Prop} {bind : PV → Option Loc} {test : Loc → Hp → Res Bool} {elt : Loc → Hp → Res PV} {b : PV → Bool} {e : PV → PV} {src : Src} {l : List PV} (hy : Yields K src l) (hk : K hp) : ∀ {N : Nat} {acc : List PV}, l.length < N →
  (∀ p ∈ l, ∃ loc, bind p = some loc ∧ test loc hp = .ok (b p) hp ∧ (b p = true → elt loc hp = .ok (e p) hp)) → compLoop bind test elt N src acc hp = .ok (acc ++ (l.filter b).map e) hp := by
 induction hy with
 | nil hn =>
  intro N acc hN _
  cases N with
  | zero => cases hN
  | succ N => unfold compLoop; rw [hn _ hk]; simp
 | @cons src src' v l hn _ ih =>
  intro N acc hN h
  cases N with
  | zero => cases hN
  | succ N =>
   refine x13 (h v (.head _)) fun loc h1 h2 h3 => ?_
   have ih' := fun acc' => ih (acc := acc') (Nat.lt_of_succ_lt_succ hN) fun q hq => h q (.tail _ hq)
   unfold compLoop; rw [hn _ hk]
   dsimp only
   rw [h1]
   dsimp only
   rw [h2, Res.bindB_ok]
   cases hb : b v with
   | true => rw [if_pos rfl, h3 hb, Res.bindB_ok, ih', List.filter_cons_of_pos hb, List.map_cons, List.append_assoc]; rfl
   | false => rw [if_neg Bool.false_ne_true, ih', List.filter_cons_of_neg (by rw [hb]; exact Bool.false_ne_true)]
theorem m_eq (N : Nat) (hN : loops = N) {elt : ME} {t : Tgt} {k : ItK} {its : List ME} {ifs : List MT} {vs : List PV} {hp1 hp2 : Hp} {src : Src} {l : List PV} (hi : evalEs P C its loc hp = .ok vs hp1) (hs : srcOf k vs hp1 = some src)
  (h : compLoop (fun v => bindT t v loc) (evalIfs P C ifs) (evalE P C elt) N src [] (srcHp k hp1) = .ok l hp2) (hP : (P.held && !k.calm) = false) : evalE P C (.comp elt t k its ifs) loc hp = .ok (.lst hp2.new) (hp2.add (.list l)) := by
 subst hN
 refine (show evalE P C (.comp elt t k its ifs) loc hp = if (P.held && !k.calm) = true then .bad else (evalEs P C its loc hp).bind fun vs hp1 => match srcOf k vs hp1 with
  | none => .bad
  | some src => (compLoop (fun v => bindT t v loc) (fun l h => evalIfs P C ifs l h) (fun l h => evalE P C elt l h) loops src [] (srcHp k hp1)).bind fun l hp2 => newList l hp2 from rfl).trans ?_
 rw [hP, hi, Res.bind_ok, hs]
 exact bind_eq h rfl
theorem e_comp {elt : ME} {t : Tgt} {k : ItK} {its : List ME} {ifs : List MT} {vs : List PV} {hp1 hp2 : Hp} {src : Src} {l : List PV} (K : Hp → Prop) (b : PV → Bool) (e : PV → PV) (hi : evalEs P C its loc hp = .ok vs hp1) (hs : srcOf k vs hp1 = some src) (h2 : srcHp k hp1 = hp2)
  (hy : Yields K src l) (hk : K hp2) (hlen : l.length < 1000000) (h : ∀ p ∈ l, ∃ loc1, bindT t p loc = some loc1 ∧ evalIfs P C ifs loc1 hp2 = .ok (b p) hp2 ∧ (b p = true → evalE P C elt loc1 hp2 = .ok (e p) hp2)) (hP : (P.held && !k.calm) = false := by rfl) :
  evalE P C (.comp elt t k its ifs) loc hp = .ok (.lst hp2.new) (hp2.add (.list ((l.filter b).map e))) := by
 refine x12 loops_ex fun N hN hle => ?_
 refine m_eq N hN hi hs ?_ hP
 rw [h2]
 exact comp_y hy hk (Nat.lt_of_lt_of_le hlen hle) h
end
theorem j_all {hp : Hp} {n : Nat} {l : List PV} (hl : hp.os[n]? = some (.list l)) (h : ∀ p ∈ l, p = .bool true) : bfun .all [.lst n] hp = .ok (.bool true) hp := by
 have h1 : l.all isB = true := List.all_eq_true.mpr fun p hp => by rw [h p hp]; rfl
 have h2 : l.all valB = true := List.all_eq_true.mpr fun p hp => by rw [h p hp]; rfl
 show (match lstAt hp n with | some l => if l.all isB then Res.ok (PV.bool (l.all valB)) hp else .bad | none => .bad) = _
 rw [lst_of hl]
 show (if l.all isB then _ else _) = _
 rw [if_pos h1, h2]
theorem e_all {P : MProg} {C : Caller} {loc : Loc} {hp : Hp} {elt : ME} {t : Tgt} {k : ItK} {its : List ME} {vs : List PV} {hp1 hp2 : Hp} {src : Src} {l : List PV} (K : Hp → Prop) (hi : evalEs P C its loc hp = .ok vs hp1) (hs : srcOf k vs hp1 = some src) (h2 : srcHp k hp1 = hp2)
  (hy : Yields K src l) (hk : K hp2) (hlen : l.length < 1000000) (h : ∀ p ∈ l, ∃ loc1, bindT t p loc = some loc1 ∧ evalE P C elt loc1 hp2 = .ok (.bool true) hp2) (hP : P.held = false := by rfl) :
  ∃ o, evalE P C (.bcall .all [.comp elt t k its []]) loc hp = .ok (.bool true) (hp2.add o) :=
 ⟨_, e_bcall (es_cons (e_comp K (fun z_ => true) (fun z_ => .bool true) hi hs h2 hy hk hlen (fun p hp => by refine x12 (h p hp) fun l1 a b => ?_; exact ei13 l1 a rfl (fun z_ => b)) (by rw [hP]; rfl)) es_nil)
  (j_all Hp.add_new fun p hp => by refine x12 (List.mem_map.mp hp) fun z_ z_ e => ?_; exact e.symm) (by rw [hP]; rfl)⟩
section
variable {hp : Hp}
theorem k_lst {n : Nat} {l : List PV} (hl : hp.os[n]? = some (.list l)) : srcOf .plain [.lst n] hp = some (.at n 0) := by
 show (match lstAt hp n with | some _ => some (Src.at n 0) | none => none) = _
 rw [lst_of hl]
theorem k_tup {l : List PV} : srcOf .plain [.tup l] hp = some (.items l) := rfl
theorem k_enum {n : Nat} {l : List PV} (hl : hp.os[n]? = some (.list l)) : srcOf .enum [.lst n] hp = some (.enum n 0) := by
 show (match lstAt hp n with | some _ => some (Src.enum n 0) | none => none) = _
 rw [lst_of hl]
noncomputable def rngL (a c : Int) (k : Nat) : List PV := (List.range k).map fun i : Nat => .int (a + c * i)
theorem rng_items (c : Int) : ∀ (k : Nat) (a : Int), rngItems a c k = rngL a c k
 | 0, _ => rfl
 | k + 1, a => by
  unfold rngL
  rw [rngItems, rng_items c k (a + c), List.range_succ_eq_map, List.map_cons, List.map_map]
  congr 1
  ·simp
  ·apply List.map_congr_left
   intro i _
   simp only [Function.comp]
   congr 1
   rw [Int.natCast_succ, Int.mul_add, Int.mul_one]
   omega
theorem rngL_at {a c : Int} {k i : Nat} {v : PV} (h : (rngL a c k)[i]? = some v) : i < k ∧ v = .int (a + c * i) := by
 unfold rngL at h
 rw [List.getElem?_map] at h
 refine x12 (Option.map_eq_some_iff.mp h) fun j h1 zq2 => ?_
 subst zq2
 obtain ⟨h2, h3⟩ := List.getElem?_eq_some_iff.mp h1
 rw [List.getElem_range] at h3
 rw [List.length_range] at h2
 subst h3
 exact ⟨h2, rfl⟩
theorem rng0_at {k i : Nat} {v : PV} (h : (rngL 0 1 k)[i]? = some v) : i < k ∧ v = .int i := by
 refine x02 (rngL_at h) fun h1 h2 => ?_
 exact ⟨h1, by rw [h2, Int.zero_add, Int.one_mul]⟩
theorem rngL_len {a c : Int} {k : Nat} : (rngL a c k).length = k := by unfold rngL; rw [List.length_map, List.length_range]
theorem rng_ok {a b : Int} (h1 : -1000000 ≤ a) (h2 : a ≤ 1000000) (h3 : -1000000 ≤ b) (h4 : b ≤ 1000000) : (rngOk a && rngOk b) = true := by
 unfold rngOk
 rw [decide_eq_true h1, decide_eq_true h2, decide_eq_true h3, decide_eq_true h4]; rfl
theorem k_up {a b : Int} (h1 : -1000000 ≤ a) (h2 : a ≤ 1000000) (h3 : -1000000 ≤ b) (h4 : b ≤ 1000000) : srcOf .plain [.rng a b 1] hp = some (.items (rngL a 1 (b - a).toNat)) := by
 show (if (rngOk a && rngOk b && _) = true then some (Src.items (rngItems a 1 (b - a).toNat)) else none) = _
 rw [if_pos (by rw [rng_ok h1 h2 h3 h4]; rfl), rng_items]
theorem k_down {a b : Int} (h1 : -1000000 ≤ a) (h2 : a ≤ 1000000) (h3 : -1000000 ≤ b) (h4 : b ≤ 1000000) : srcOf .plain [.rng a b (-1)] hp = some (.items (rngL a (-1) (a - b).toNat)) := by
 show (if (rngOk a && rngOk b && ((-1 : Int) == 1 || (-1 : Int) == -1)) = true then some (Src.items (rngItems a (-1) (a - b).toNat)) else none) = _
 rw [if_pos (by rw [rng_ok h1 h2 h3 h4]; rfl), rng_items]
theorem k_revr {n : Nat} (h : n ≤ 1000000) : srcOf .rev [.rng 0 (n : Int) 1] hp = some (.items (rngL 0 1 n).reverse) := by
 have hb : rngOk (n : Int) = true := by unfold rngOk; rw [decide_eq_true (show (-1000000 : Int) ≤ n by omega), decide_eq_true (show (n : Int) ≤ 1000000 by exact (Int.ofNat_le.mpr h))]; rfl
 show (if ((0 : Int) == 0 && rngOk (n : Int) && (1 : Int) == 1) = true then some (Src.items (rngItems 0 1 (n : Int).toNat).reverse) else none) = _
 rw [if_pos (by rw [hb]; rfl), rng_items, Int.toNat_natCast]
theorem j_r1 {b : Int} (h1 : -1000000000 ≤ b) (h2 : b ≤ 1000000000) : bfun .range1 [.int b] hp = .ok (.rng 0 b 1) hp := by
 show (if intOk b then _ else _) = _
 rw [if_pos (small h1 h2)]
theorem j_r3 {a : Int} (h1 : -1000000000 ≤ a) (h2 : a ≤ 1000000000) : bfun .range3 [.int a, .int (-1), .int (-1)] hp = .ok (.rng a (-1) (-1)) hp := by
 show (if (intOk a && intOk (-1) && (-1 : Int) == -1) = true then Res.ok (PV.rng a (-1) (-1)) hp else .bad) = _
 rw [if_pos (by rw [small h1 h2]; decide)]
end
theorem int_at {cs : List Int} {i : Nat} {v : PV} (h : (cs.map PV.int)[i]? = some v) : ∃ c, cs[i]? = some c ∧ .int c = v := by
 rw [List.getElem?_map] at h; exact Option.map_eq_some_iff.mp h
theorem take_at {α : Type} {l : List α} {i : Nat} {c : α} (h : l[i]? = some c) : l.take (i + 1) = l.take i ++ [c] := by
 obtain ⟨h1, h2⟩ := List.getElem?_eq_some_iff.mp h
 rw [← h2, List.take_append_getElem h1]
theorem enum_at {cs : List Int} {i : Nat} {v : PV} (h : (((cs.map PV.int).zipIdx 0).map fun p => PV.tup [.int p.2, p.1])[i]? = some v) : ∃ c, cs[i]? = some c ∧ v = .tup [.int i, .int c] := by
 rw [List.getElem?_map, List.getElem?_zipIdx, List.getElem?_map, Option.map_map, Option.map_map] at h
 refine x12 (Option.map_eq_some_iff.mp h) fun c h1 h2 => ?_
 exact ei12 c h1 (by rw [← h2]; show PV.tup [.int ((0 + i : Nat) : Int), _] = _; rw [Nat.zero_add])
theorem w_at {hp : Hp} {n : Nat} {l : List PV} {k : Int} {v : PV} (hl : hp.os[n]? = some (.list l)) (hlo : hp.lo ≤ n) (h0 : 0 ≤ k) (h1 : k < l.length) : storeAt (.lst n) (.int k) v hp = some (hp.turn n (.list (l.set k.toNat v))) := by
 show (match lstAt hp n with | some l => if 0 ≤ k ∧ k < l.length then setObj n (.list (l.set k.toNat v)) hp else none | none => none) = _
 rw [lst_of hl]
 show (if 0 ≤ k ∧ k < l.length then setObj n (.list (l.set k.toNat v)) hp else none) = _
 rw [if_pos ⟨h0, h1⟩]
 unfold setObj
 rw [if_pos hlo]; rfl
theorem pairs_len : ∀ l m : List PV, (pairs l m).length ≤ l.length
 | [], _ => Nat.zero_le _
 | _ :: _, [] => Nat.zero_le _
 | _ :: l, _ :: m => Nat.succ_le_succ (pairs_len l m)
theorem below_ints (n : Nat) : ∀ l : List Int, belows n (l.map .int) = true
 | [] => rfl
 | _ :: r => below_ints n r
theorem call_eq {P : MProg} {m n i : Nat} {ps ls : List Nat} {body : List MS} {vs : List PV} {hp : Hp} (loc : Loc) (hm : m = n + 1) (hf : P.funs[i]? = some ⟨true, ps, ls, body⟩) (hz : (zipArgs ps vs).map (· ++ unb ls) = some loc) :
  callN P m i vs hp = swept hp (exeB P (callN P n) (callW P) body loc ⟨hp.os.length, hp.os⟩).fin := by
 subst hm
 refine x12 (Option.map_eq_some_iff.mp hz) fun l0 h0 zq1 => ?_
 subst zq1
 show (match P.funs[i]? with | none => Res.bad | some f => _) = _
 rw [hf]
 show (match zipArgs ps vs with | none => Res.bad | some loc => _) = _
 rw [h0]; rfl
section
variable {P : MProg} {m n i : Nat} {ps ls : List Nat} {body : List MS} {vs : List PV} {hp hp' : Hp}
theorem call_ret {v : PV} (loc : Loc) (hm : m = n + 1) (hf : P.funs[i]? = some ⟨true, ps, ls, body⟩) (hz : (zipArgs ps vs).map (· ++ unb ls) = some loc) (hb : below hp.os.length v = true)
  (hr : exeB P (callN P n) (callW P) body loc ⟨hp.os.length, hp.os⟩ = .ret v hp') : callN P m i vs hp = .ok v hp := by
 rw [call_eq loc hm hf hz, hr]
 show (if below hp.os.length v then _ else _) = _
 rw [if_pos hb]
theorem call_non {loc' : Loc} (loc : Loc) (hm : m = n + 1) (hf : P.funs[i]? = some ⟨true, ps, ls, body⟩) (hz : (zipArgs ps vs).map (· ++ unb ls) = some loc)
  (hr : exeB P (callN P n) (callW P) body loc ⟨hp.os.length, hp.os⟩ = .nxt loc' hp') : callN P m i vs hp = .ok .none hp := by
 rw [call_eq loc hm hf hz, hr]; rfl
theorem call_list {l : List PV} {a : Nat} (loc : Loc) (hm : m = n + 1) (hf : P.funs[i]? = some ⟨true, ps, ls, body⟩) (hz : (zipArgs ps vs).map (· ++ unb ls) = some loc) (ha : hp.os.length ≤ a) (hb : belows hp.os.length l = true)
  (hr : exeB P (callN P n) (callW P) body loc ⟨hp.os.length, hp.os⟩ = .ret (.lst a) hp') (hl : hp'.os[a]? = some (.list l)) : callN P m i vs hp = .ok (.lst hp.new) (hp.add (.list l)) := by
 rw [call_eq loc hm hf hz, hr]
 show (if decide (a < hp.os.length) = true then _ else match lstAt hp' a with | some l => (if belows hp.os.length l then _ else _) | none => _) = _
 rw [if_neg (by rw [decide_eq_true_eq]; exact (Nat.not_lt.mpr ha)), lst_of hl]
 show (if belows hp.os.length l then _ else _) = _
 rw [if_pos hb]; rfl
end
end Mine
end
section
namespace Mine
open PySem
theorem snap_i (n : Nat) (hp : Hp) (i : Int) : snap n hp (.int i) = some (.int i) := by cases n <;> rfl
theorem snapAll_ints (hp : Hp) (n : Nat) : ∀ l : List Int, snapAll (snap n hp) (l.map .int) = some (l.map .int)
 | [] => rfl
 | a :: r => by
  show (match snap n hp (.int a), snapAll (snap n hp) (r.map .int) with | some d, some ds => some (d :: ds) | _, _ => none) = _
  rw [snap_i, snapAll_ints hp n r]; rfl
theorem eqvAll_ints : ∀ (l m : List Int), PyData.eqvAll (l.map .int) (m.map .int) = decide (l = m)
 | [], [] => rfl
 | [], _ :: _ => rfl
 | _ :: _, [] => rfl
 | a :: l, b :: m => by
  show (decide (a = b) && PyData.eqvAll (l.map .int) (m.map .int)) = _
  rw [eqvAll_ints l m]
  by_cases h : a = b
  ·by_cases h2 : l = m
   ·rw [decide_eq_true h, decide_eq_true h2, decide_eq_true (by rw [h, h2])]; rfl
   ·rw [decide_eq_false h2, decide_eq_false (fun q => h2 (List.cons.inj q).2), Bool.and_false]
  ·rw [decide_eq_false h, decide_eq_false (fun q => h (List.cons.inj q).1), Bool.false_and]
section
variable {hp : Hp}
noncomputable def Same (l : List PV) : Prop := ∃ ds, (∀ hp, snapAll (snap 7 hp) l = some ds) ∧ PyData.eqvAll ds ds = true
theorem Same.nil : Same [] := ⟨[], fun z_ => rfl, rfl⟩
theorem Same.cons {p : PV} {d : PyData} {l : List PV} (hp : ∀ h, snap 7 h p = some d) (hd : PyData.eqv d d = true) : Same l → Same (p :: l) := fun ⟨ds, h1, h2⟩ => ⟨d :: ds, fun h => by
 show (match snap 7 h p, snapAll (snap 7 h) l with | some d, some ds => some (d :: ds) | _, _ => none) = _
 rw [hp, h1], by show (PyData.eqv d d && PyData.eqvAll ds ds) = true; rw [hd, h2]; rfl⟩
theorem Same.int {l : List PV} (i : Int) (h : Same l) : Same (.int i :: l) := h.cons (d := .int i) (fun z_ => rfl) (decide_eq_true rfl)
theorem peq_same {a b : Nat} {l : List PV} (h : Same l) (ha : hp.os[a]? = some (.list l)) (hb : hp.os[b]? = some (.list l)) : peq (.lst a) (.lst b) hp = some true := by
 revert h; refine y12 fun ds h1 h2 => ?_
 have hs : ∀ {a : Nat}, hp.os[a]? = some (.list l) → snap snapD hp (.lst a) = some (.list ds) := fun {a} ha => by
  show (match lstAt hp a with | some l => (snapAll (snap 7 hp) l).map PyData.list | none => none) = _
  rw [lst_of ha]
  show (snapAll (snap 7 hp) l).map PyData.list = _
  rw [h1]; rfl
 unfold peq
 rw [hs ha, hs hb]
 exact congrArg some h2
theorem q_same_f {a b : Nat} {l : List PV} (h : Same l) (ha : hp.os[a]? = some (.list l)) (hb : hp.os[b]? = some (.list l)) : cmpop .ne (.lst a) (.lst b) hp = some false := by
 show (peq _ _ hp).map (! ·) = _; rw [peq_same h ha hb]; rfl
theorem q_same_t {a b : Nat} {l : List PV} (h : Same l) (ha : hp.os[a]? = some (.list l)) (hb : hp.os[b]? = some (.list l)) : cmpop .eq (.lst a) (.lst b) hp = some true := by
 show peq _ _ hp = _; rw [peq_same h ha hb]
theorem repl_one (v : PV) : ∀ k, repl [v] k = List.replicate k v
 | 0 => rfl
 | k + 1 => by show v :: repl [v] k = _; rw [repl_one v k]; rfl
theorem o_rep {a : Int} {k : Nat} (h0 : 0 < k) (h : k ≤ 1000000) : binop .mul (.tup [.int a]) (.int (k : Int)) hp = .ok (.tup ((List.replicate k a).map .int)) hp := by
 have h1 : (decide (0 < (k : Int)) && (intOk (k : Int) && sizeOk ([PV.int a].length * (k : Int).toNat))) = true := by
  rw [decide_eq_true (Int.natCast_pos.mpr h0), Bool.true_and, small (by omega) (by exact (Int.le_of_lt (Int.lt_of_le_of_lt (Int.ofNat_le.mpr h) ilt))), Int.toNat_natCast]
  exact decide_eq_true (by rw [List.length_singleton, Nat.one_mul]; exact h)
 show (if (decide (0 < (k : Int)) && (intOk (k : Int) && sizeOk ([PV.int a].length * (k : Int).toNat))) = true then Res.ok (PV.tup (repl [.int a] (k : Int).toNat)) hp else .bad) = _
 rw [if_pos h1, Int.toNat_natCast, repl_one, List.map_replicate]
theorem j_list {n : Nat} {l : List PV} (hl : hp.os[n]? = some (.list l)) : bfun .list [.lst n] hp = .ok (.lst hp.new) (hp.add (.list l)) := by
 show (match lstAt hp n with | some l => newList l hp | none => .bad) = _
 rw [lst_of hl]; rfl
theorem j_abs {a : Int} : bfun .abs [.int a] hp = .ok (.int (if a < 0 then -a else a)) hp := rfl
theorem j_min {a b : Int} : bfun .min [.int a, .int b] hp = .ok (.int (if b < a then b else a)) hp := rfl
end
end Mine
end
section
namespace Mine
open PySem
section
variable {hp : Hp}
theorem cut_nn {k : Int} {n : Nat} (h0 : 0 ≤ k) : cutHi (some k) n = min k.toNat n := by
 show (max 0 (min (if k < 0 then k + n else k) (n : Int))).toNat = _
 refine x11 (Int.eq_ofNat_of_zero_le h0) fun j zq3 => ?_
 subst zq3
 rw [if_neg (Int.not_lt.mpr h0), show min (j : Int) (n : Int) = ((min j n : Nat) : Int) by clear h0; omega, Int.max_eq_right (Int.natCast_nonneg _)]; rfl
theorem h_take {l : List PV} {k : Int} (h0 : 0 ≤ k) (h1 : k ≤ 1000000000) : sliceop (.tup l) none (some (.int k)) hp = .ok (.tup (l.take k.toNat)) hp := by
 have e : asInt? (some (.int k)) = some (some k) := by show (if intOk k then some (some k) else none) = _; rw [if_pos (small (by exact (Int.le_of_lt (Int.lt_of_lt_of_le ilt h0))) h1)]
 have c : cut l none (some k) = l.take k.toNat := by
  show (l.take (cutHi (some k) l.length)).drop 0 = _
  rw [cut_nn h0, List.drop_zero, ← List.take_eq_take_min]
 unfold sliceop
 rw [e]
 show Res.ok (PV.tup (cut l none (some k))) hp = _
 rw [c]
theorem h_drop {l : List PV} {k : Int} (h0 : 0 ≤ k) (h1 : k ≤ l.length) (h2 : k ≤ 1000000000) : sliceop (.tup l) (some (.int k)) none hp = .ok (.tup (l.drop k.toNat)) hp := by
 have e : asInt? (some (.int k)) = some (some k) := by show (if intOk k then some (some k) else none) = _; rw [if_pos (small (by exact (Int.le_of_lt (Int.lt_of_lt_of_le ilt h0))) h2)]
 have c : cut l (some k) none = l.drop k.toNat := by
  show (l.take l.length).drop (cutHi (some k) l.length) = _
  rw [cut_nn h0, List.take_length, Nat.min_eq_left (Int.toNat_le.mpr h1)]
 unfold sliceop
 rw [e]
 show Res.ok (PV.tup (cut l (some k) none)) hp = _
 rw [c]
theorem o_cat {l m : List PV} (h : l.length + m.length ≤ 1000000) : binop .add (.tup l) (.tup m) hp = .ok (.tup (l ++ m)) hp := by
 show (if sizeOk (l.length + m.length) then Res.ok (PV.tup (l ++ m)) hp else .bad) = _
 rw [if_pos (show sizeOk (l.length + m.length) = true from decide_eq_true h)]
end
section
variable {P : MProg} {C W : Caller} {loc : Loc} {hp : Hp}
theorem e_upd {o i : ME} {w : ME} {l : List PV} {k : Int} {v : PV} {hp1 hp2 hp3 : Hp} (ho : ∀ h, evalE P C o loc h = .ok (.tup l) h) (hi : ∀ h, evalE P C i loc h = .ok (.int k) h) (hw : evalE P C w loc hp = .ok v hp) (h0 : 0 ≤ k) (h1 : k < l.length) (h2 : l.length ≤ 1000) :
  evalE P C (.bin .add (.bin .add (.slice o none (some i)) (.tuple [w])) (.slice o (some (.bin .add i (.lit (.int 1)))) none)) loc hp = .ok (.tup (l.set k.toNat v)) hp := by
 have e : l.take k.toNat ++ [v] ++ l.drop (k + 1).toNat = l.set k.toNat v := by
  rw [List.set_eq_take_append_cons_drop, if_pos ((Int.toNat_lt h0).mpr h1), List.append_assoc, show (k + 1).toNat = k.toNat + 1 from Int.toNat_add h0 (by decide)]; rfl
 refine e_bin (e_bin (e_slice (ho _) o_none (o_some (hi _)) (h_take h0 (by exact (Int.le_of_lt (Int.lt_trans (Int.lt_of_lt_of_le h1 (Int.ofNat_le.mpr h2)) ilt))))) (e_tuple (es_cons hw es_nil)) (o_cat ?_)) (e_slice (ho _) (o_some (e_bin (hi _) e_lit o_add)) o_none (h_drop (Int.add_nonneg h0 (by decide)) h1 (Int.le_trans h1 (Int.le_trans (Int.ofNat_le.mpr h2) (by decide))))) ?_
 ·rw [List.length_take]; exact Nat.le_trans (Nat.succ_le_succ (Nat.le_trans (Nat.min_le_right _ _) h2)) lel
 ·rw [← e]; refine o_cat ?_
  rw [List.length_append, List.length_take, List.length_drop]; show _ + 1 + _ ≤ _
  rw [Int.toNat_add h0 (by decide)]
  exact Nat.le_trans (Nat.add_le_add (Nat.succ_le_succ (Nat.min_le_right _ _)) (Nat.sub_le _ _)) (Nat.le_trans (Nat.add_le_add (Nat.succ_le_succ h2) h2) (by decide))
theorem for_r {K : Hp → Prop} {t : Tgt} {body : Loc → Hp → SR} {σ : Type} {L : σ → Loc} {H : σ → Hp} {src : Src} {l : List PV} {W : PV → Hp → Prop} (hy : Yields K src l) : ∀ {G : Nat → σ → Prop} {j : Nat}, (∀ i s, G i s → K (H s)) → j < l.length →
  (∀ i s v, i < j → l[i]? = some v → G i s → ∃ s' loc1, bindT t v (L s) = some loc1 ∧ body loc1 (H s) = .nxt (L s') (H s') ∧ G (i + 1) s') →
  (∀ s v, l[j]? = some v → G j s → ∃ loc1 w h, bindT t v (L s) = some loc1 ∧ body loc1 (H s) = .ret w h ∧ W w h) → ∀ {N : Nat} {s : σ}, l.length < N → G 0 s → ∃ w h, forLoop t body N src (L s) (H s) = .ret w h ∧ W w h := by
 induction hy with
 | nil hn => intro G j hK hj; cases hj
 | @cons src src' v l hn _ ih =>
  intro G j hK hj step last N s hN g
  cases N with
  | zero => cases hN
  | succ N =>
   unfold forLoop; rw [hn _ (hK 0 s g)]
   dsimp only
   cases j with
   | zero =>
    refine x33 (last s v rfl g) fun loc1 w h e1 e2 hw => ?_
    refine ei22 w h ?_ hw
    rw [e1]
    dsimp only
    rw [e2]
   | succ j =>
    refine x23 (step 0 s v (Nat.zero_lt_succ _) rfl g) fun s' loc1 e1 e2 g' => ?_
    rw [e1]
    dsimp only
    rw [e2]
    exact ih (G := fun i => G (i + 1)) (fun i s => hK (i + 1) s) (Nat.lt_of_succ_lt_succ hj) (fun i s w hi hw => step (i + 1) s w (Nat.succ_lt_succ hi) hw) last (Nat.lt_of_succ_lt_succ hN) g'
theorem x_retW {t : Tgt} {k : ItK} {its : List ME} {body : List MS} {vs : List PV} {hp1 : Hp} {src : Src} {l : List PV} {R : PV → Hp → Prop} (K : Hp → Prop) {σ : Type} (L : σ → Loc) (H : σ → Hp) (G : Nat → σ → Prop) (s₀ : σ) (j : Nat)
  (hi : evalEs P C its (L s₀) hp = .ok vs hp1) (hs : srcOf k vs hp1 = some src) (hH : H s₀ = srcHp k hp1) (hy : Yields K src l) (hlen : l.length < 1000000) (hK : ∀ i s, G i s → K (H s)) (g : G 0 s₀) (hj : j < l.length)
  (step : ∀ i s v, i < j → l[i]? = some v → G i s → ∃ s' loc1, bindT t v (L s) = some loc1 ∧ exeB P C W body loc1 (H s) = .nxt (L s') (H s') ∧ G (i + 1) s')
  (last : ∀ s v, l[j]? = some v → G j s → ∃ loc1 w h, bindT t v (L s) = some loc1 ∧ exeB P C W body loc1 (H s) = .ret w h ∧ R w h) (hP : P.held = false := by rfl) : ∃ w h, exeS P C W (.forS t k its body) (L s₀) hp = .ret w h ∧ R w h := by
 refine x12 loops_ex fun N hN hle => ?_
 refine x22 (for_r hy hK hj step last (N := N) (s := s₀) (Nat.lt_of_lt_of_le hlen hle) g) fun w h e hw => ?_
 rw [hH] at e
 exact ei22 w h ((f_eq N hN hi hs hP).trans e) hw
theorem x_ret {t : Tgt} {k : ItK} {its : List ME} {body : List MS} {vs : List PV} {hp1 : Hp} {src : Src} {l : List PV} {w : PV} {hpw : Hp} (K : Hp → Prop) {σ : Type} (L : σ → Loc) (H : σ → Hp) (G : Nat → σ → Prop) (s₀ : σ) (j : Nat)
  (hi : evalEs P C its (L s₀) hp = .ok vs hp1) (hs : srcOf k vs hp1 = some src) (hH : H s₀ = srcHp k hp1) (hy : Yields K src l) (hlen : l.length < 1000000) (hK : ∀ i s, G i s → K (H s)) (g : G 0 s₀) (hj : j < l.length)
  (step : ∀ i s v, i < j → l[i]? = some v → G i s → ∃ s' loc1, bindT t v (L s) = some loc1 ∧ exeB P C W body loc1 (H s) = .nxt (L s') (H s') ∧ G (i + 1) s')
  (last : ∀ s v, l[j]? = some v → G j s → ∃ loc1, bindT t v (L s) = some loc1 ∧ exeB P C W body loc1 (H s) = .ret w hpw) (hP : P.held = false := by rfl) : exeS P C W (.forS t k its body) (L s₀) hp = .ret w hpw := by
 refine x23 (x_retW (R := fun x y => x = w ∧ y = hpw) K L H G s₀ j hi hs hH hy hlen hK g hj step (fun s v hv hg => x12 (last s v hv hg) fun l1 a b => ei34 l1 w hpw a b rfl rfl) hP) fun z_ z_ e zq1 zq2 => ?_
 subst zq1
 subst zq2
 exact e
end
end Mine
end
section
set_option linter.unusedSimpArgs false
namespace Mine
open PySem
theorem of2 {b : Int} (h0 : 0 ≤ b) (h1 : b < 2) : b = 0 ∨ b = 1 := by omega
theorem of3 {b : Int} (h0 : 0 ≤ b) (h1 : b < 3) : b = 0 ∨ b = 1 ∨ b = 2 := by omega
noncomputable def numC : List Int → List Int → Int
 | c :: cs, p :: ps => numC cs ps * c + (if numC cs ps % 2 = 1 then c - 1 - p else p)
 | _, _ => 0
noncomputable def rowC : List Int → Int → List Int
 | [], _ => []
 | c :: cs, n => (if n / c % 2 = 1 then c - 1 - n % c else n % c) :: rowC cs (n / c)
noncomputable def prodC : List Int → Int
 | [] => 1
 | c :: cs => c * prodC cs
noncomputable def cntsOk (cs : List Int) : Prop := ∀ c ∈ cs, 2 ≤ c ∧ c ≤ 9
inductive IsRow : List Int → List Int → Prop
 | nil : IsRow [] []
 | cons {c p : Int} {cs ps : List Int} : 0 ≤ p → p < c → IsRow cs ps → IsRow (c :: cs) (p :: ps)
theorem IsRow.len {cs ps : List Int} (h : IsRow cs ps) : ps.length = cs.length := by
 induction h with
 | nil => rfl
 | cons _ _ _ ih => simp [ih]
theorem IsRow.app {cs ps : List Int} {c p : Int} (h : IsRow cs ps) (h0 : 0 ≤ p) (h1 : p < c) : IsRow (cs ++ [c]) (ps ++ [p]) := by
 induction h with
 | nil => exact .cons h0 h1 .nil
 | cons a b _ ih => exact .cons a b ih
theorem IsRow.upd {cs ps : List Int} (h : IsRow cs ps) : ∀ {d : Nat} {c v : Int}, cs[d]? = some c → 0 ≤ v → v < c → IsRow cs (ps.set d v) := by
 induction h with
 | nil => intro d c v hc; cases hc
 | cons a b hr ih =>
  intro d c v hc h0 h1
  cases d with
  | zero => cases hc; exact .cons h0 h1 hr
  | succ d => exact .cons a b (ih hc h0 h1)
theorem prodC_pos : ∀ {cs : List Int}, cntsOk cs → 0 < prodC cs
 | [], _ => by decide
 | c :: cs, h => by
  have h1 := h c (.head _)
  have h2 := prodC_pos (cs := cs) fun x hx => h x (.tail _ hx)
  exact Int.mul_pos (by exact (Int.lt_of_lt_of_le ilt h1.1)) h2
theorem rowC_row : ∀ {cs : List Int}, cntsOk cs → ∀ n : Int, IsRow cs (rowC cs n)
 | [], _, _ => .nil
 | c :: cs, h, n => by
  have h1 := h c (.head _)
  have e1 := Int.emod_nonneg n (show c ≠ 0 by omega)
  have e2 := Int.emod_lt_of_pos n (show 0 < c by exact (Int.lt_of_lt_of_le ilt h1.1))
  refine .cons ?_ ?_ (rowC_row (fun x hx => h x (.tail _ hx)) _)
  ·split <;> (first | exact e1 | omega)
  ·split <;> (first | exact e2 | omega)
theorem par_up {x : Int} (h : ¬ x % 2 = 1) : (x + 1) % 2 = 1 := by omega
theorem par_dn {x : Int} (h : x % 2 = 1) : ¬ (x + 1) % 2 = 1 := by omega
theorem divmod (n c : Int) : n / c * c + n % c = n := by rw [Int.mul_comm]; exact Int.mul_ediv_add_emod n c
theorem div_lt {n c m : Int} (hc : 0 < c) (h : n < c * m) : n / c < m := Int.ediv_lt_of_lt_mul hc (by rw [Int.mul_comm]; exact h)
set_option tactic.hygienic true in
theorem num_row : ∀ {cs : List Int}, cntsOk cs → ∀ n : Int, 0 ≤ n → n < prodC cs → numC cs (rowC cs n) = n
 | [], _, n, h0, h1 => by simp only [prodC] at h1; simp only [rowC, numC]; omega
 | c :: cs, h, n, h0, h1 => by
  have hc := h c (.head _)
  have h1' : n < c * prodC cs := h1
  have q0 : 0 ≤ n / c := Int.ediv_nonneg h0 (by exact (Int.le_of_lt (Int.lt_of_lt_of_le ilt hc.1)))
  have ih := num_row (cs := cs) (fun x hx => h x (.tail _ hx)) (n / c) q0 (div_lt (by exact (Int.lt_of_lt_of_le ilt hc.1)) h1')
  have e := divmod n c
  simp only [rowC, numC]
  rw [ih]
  split
  ·rename_i hq; omega
  ·omega
theorem num_range : ∀ {cs ps : List Int}, IsRow cs ps → 0 ≤ numC cs ps ∧ numC cs ps < prodC cs
 | _, _, .nil => by decide
 | _, _, .cons (c := c) (p := p) (cs := cs) (ps := ps) h0 h1 hr => by
  refine x02 (num_range hr) fun i1 i2 => ?_
  simp only [numC, prodC]
  generalize numC cs ps = f at *
  generalize prodC cs = m at *
  have k1 : 0 ≤ f * c := Int.mul_nonneg i1 (by exact (Int.le_of_lt (Int.lt_of_le_of_lt h0 h1)))
  have k2 : f * c + c ≤ c * m := by
   have : (f + 1) * c ≤ m * c := Int.mul_le_mul_of_nonneg_right (by omega) (by exact (Int.le_of_lt (Int.lt_of_le_of_lt h0 h1)))
   rw [Int.add_mul, Int.one_mul, Int.mul_comm m c] at this
   exact this
  constructor
  ·split <;> omega
  ·split <;> omega
theorem row_num : ∀ {cs ps : List Int}, IsRow cs ps → rowC cs (numC cs ps) = ps
 | _, _, .nil => rfl
 | _, _, .cons (c := c) (p := p) (cs := cs) (ps := ps) h0 h1 hr => by
  have ih := row_num hr
  have i1 := (num_range hr).1
  have hd : ∀ r : Int, 0 ≤ r → r < c → (numC cs ps * c + r) / c = numC cs ps ∧ (numC cs ps * c + r) % c = r := by
   intro r r0 r1
   constructor
   ·rw [Int.add_comm, Int.add_mul_ediv_right r _ (by omega), Int.ediv_eq_zero_of_lt r0 r1, Int.zero_add]
   ·rw [Int.add_comm, Int.add_mul_emod_self_right, Int.emod_eq_of_lt r0 r1]
  by_cases hq : numC cs ps % 2 = 1
  ·refine x02 (hd (c - 1 - p) (by omega) (by omega)) fun d1 d2 => ?_
   have hv : numC (c :: cs) (p :: ps) = numC cs ps * c + (c - 1 - p) := by rw [numC, if_pos hq]
   rw [hv, rowC, d1, d2, if_pos hq, ih]
   congr 1; omega
  ·refine x02 (hd p h0 h1) fun d1 d2 => ?_
   have hv : numC (c :: cs) (p :: ps) = numC cs ps * c + p := by rw [numC, if_neg hq]
   rw [hv, rowC, d1, d2, if_neg hq, ih]
end Mine
end
section
namespace Mine
open PySem
noncomputable def dif : List Int → List Int → Nat → Nat × Int
 | x :: l, y :: m, i => if x = y then dif l m (i + 1) else (i, y - x)
 | _, _, i => (i, 0)
theorem dif_eq {x y : Int} {l m : List Int} {i : Nat} (h : x = y) : dif (x :: l) (y :: m) i = dif l m (i + 1) := by rw [dif, if_pos h]
theorem dif_ne {x y : Int} {l m : List Int} {i : Nat} (h : ¬ x = y) : dif (x :: l) (y :: m) i = (i, y - x) := by rw [dif, if_neg h]
structure Near (l m : List Int) (r : Nat) (d : Int) : Prop where
 one : d = 1 ∨ d = -1
 fwd : ∀ i, dif l m i = (i + r, d)
 bwd : ∀ i, dif m l i = (i + r, -d)
 ex : ∃ x, l[r]? = some x ∧ m = l.set r (x + d)
theorem Near.cons {l m : List Int} {r : Nat} {d : Int} (h : Near l m r d) (z : Int) : Near (z :: l) (z :: m) (r + 1) d := by
 refine x12 h.ex fun x h1 h2 => ?_
 refine ⟨h.one, fun i => ?_, fun i => ?_, x, h1, by rw [h2]; rfl⟩
 ·rw [dif_eq rfl, h.fwd, Nat.add_assoc, Nat.add_comm 1 r]
 ·rw [dif_eq rfl, h.bwd, Nat.add_assoc, Nat.add_comm 1 r]
theorem Near.head {x d : Int} (l : List Int) (h : d = 1 ∨ d = -1) : Near (x :: l) ((x + d) :: l) 0 d := by
 refine ⟨h, fun i => ?_, fun i => ?_, x, rfl, rfl⟩
 ·rw [dif_ne (by omega)]; exact Prod.ext rfl (by show x + d - x = d; omega)
 ·rw [dif_ne (by omega)]; exact Prod.ext rfl (by show x - (x + d) = -d; omega)
theorem near_step : ∀ {cs : List Int}, cntsOk cs → ∀ n : Int, 0 ≤ n → n + 1 < prodC cs → ∃ r d, Near (rowC cs n) (rowC cs (n + 1)) r d
 | [], _, n, h0, h1 => by rw [prodC] at h1; omega
 | c :: cs, h, n, h0, h1 => by
  have hc := h c (.head _)
  have h1' : n + 1 < c * prodC cs := h1
  have e1 := Int.emod_nonneg n (show c ≠ 0 by omega)
  have e2 := Int.emod_lt_of_pos n (show 0 < c by exact (Int.lt_of_lt_of_le ilt hc.1))
  have e := divmod n c
  by_cases hlast : n % c + 1 < c
  ·have q : n + 1 = (n % c + 1) + n / c * c := by omega
   have d1 : (n + 1) / c = n / c := by
    rw [q, Int.add_mul_ediv_right _ _ (by omega), Int.ediv_eq_zero_of_lt (by omega) hlast, Int.zero_add]
   have d2 : (n + 1) % c = n % c + 1 := by rw [q, Int.add_mul_emod_self_right, Int.emod_eq_of_lt (by omega) hlast]
   rw [rowC, rowC, d1, d2]
   by_cases hq : n / c % 2 = 1
   ·rw [if_pos hq, if_pos hq, show c - 1 - (n % c + 1) = c - 1 - n % c + -1 by omega]
    exact ei21 0 (-1) (Near.head _ (.inr rfl))
   ·rw [if_neg hq, if_neg hq]
    exact ei21 0 1 (Near.head _ (.inl rfl))
  ·have hl : n % c = c - 1 := by omega
   have q : n + 1 = 0 + (n / c + 1) * c := by rw [Int.add_mul]; omega
   have d1 : (n + 1) / c = n / c + 1 := by rw [q, Int.add_mul_ediv_right _ _ (by (clear h0 h1 h1' e1 e2 e hlast hl q; omega)), Int.zero_ediv, Int.zero_add]
   have d2 : (n + 1) % c = 0 := by rw [q, Int.add_mul_emod_self_right, Int.zero_emod]
   have q0 : 0 ≤ n / c := Int.ediv_nonneg h0 (by exact (Int.le_of_lt (Int.lt_of_le_of_lt e1 e2)))
   have q1 : n / c + 1 < prodC cs := by rw [← d1]; exact div_lt (by exact (Int.lt_of_le_of_lt e1 e2)) h1'
   refine x21 (near_step (cs := cs) (fun z hz => h z (.tail _ hz)) (n / c) q0 q1) fun r d hn => ?_
   rw [rowC, rowC, d1, d2, hl]
   have heq : (if (n / c + 1) % 2 = 1 then c - 1 - 0 else (0 : Int)) = (if n / c % 2 = 1 then c - 1 - (c - 1) else c - 1) := by
    by_cases hq : n / c % 2 = 1
    ·rw [if_pos hq, if_neg (par_dn hq)]; omega
    ·rw [if_neg hq, if_pos (par_up hq)]; omega
   rw [heq]
   exact ei21 (r + 1) d (hn.cons _)
noncomputable def mvC (cs : List Int) (a b : Int) : Nat × Int := dif (rowC cs a) (rowC cs b) 0
theorem Near.flip {l m : List Int} {r : Nat} {d : Int} (h : Near l m r d) : Near m l r (-d) := by
 refine x12 h.ex fun x h1 h2 => ?_
 refine ⟨by have := h.one; omega, h.bwd, fun i => by rw [Int.neg_neg]; exact h.fwd i, x + d, ?_, ?_⟩
 ·rw [h2, List.getElem?_set_self (List.getElem?_eq_some_iff.mp h1).1]
 ·rw [h2, List.set_set, Int.add_neg_cancel_right]
  obtain ⟨q1, q2⟩ := List.getElem?_eq_some_iff.mp h1
  rw [← q2, List.set_getElem_self]
theorem near_of {cs : List Int} (hc : cntsOk cs) {a b : Int} (ha : 0 ≤ a) (ha' : a < prodC cs) (hb : 0 ≤ b) (hb' : b < prodC cs) (h : b = a + 1 ∨ b = a + -1) : Near (rowC cs a) (rowC cs b) (mvC cs a b).1 (mvC cs a b).2 := by
 have key : ∃ r d, Near (rowC cs a) (rowC cs b) r d := by
  rcases h with rfl | rfl
  ·exact near_step hc a ha hb'
  ·refine x21 (near_step hc (a + -1) hb (by omega)) fun r d hn => ?_
   rw [show a + -1 + 1 = a by omega] at hn
   exact ei21 r (-d) hn.flip
 revert key; refine y21 fun r d hn => ?_
 have := hn.fwd 0
 rw [Nat.zero_add] at this
 unfold mvC; rw [this]; exact hn
noncomputable def mvV (p : Nat × Int) : PV := .tup [.int p.1, .int p.2]
theorem int_row {l : List Int} {i : Nat} {x : Int} {hp : Hp} (h : l[i]? = some x) : subop (.tup (l.map .int)) (.int (i : Int)) hp = some (.int x) := g_tup (Int.natCast_nonneg _) (by rw [Int.toNat_natCast, List.getElem?_map, h]; rfl)
theorem below_mvs (n : Nat) : ∀ l : List (Nat × Int), belows n (l.map mvV) = true
 | [] => rfl
 | _ :: r => below_mvs n r
end Mine
end
section
namespace Mine
open PySem
section
variable {hp : Hp}
end
end Mine
end
section
namespace Mine
open PySem
theorem Hp.new_add {hp : Hp} {o : MObj} : (hp.add o).new = hp.os.length + 1 := by unfold Hp.add Hp.new; simp
end Mine
end
section
namespace Mine
open PySem
section
variable {P : MProg} {C W : Caller} {loc loc1 : Loc} {hp hp1 : Hp}
theorem s_exc {st : MS} {r : List MS} {c : Nat} (h : exeS P C W st loc hp = .exc c loc1 hp1) : exeB P C W (st :: r) loc hp = .exc c loc1 hp1 := by
 show (exeS P C W st loc hp).seq _ = _
 rw [h]; rfl
theorem x_exc {e : ME} {r : List MS} {c : Nat} (h : evalE P C e loc hp = .exc c hp1) : exeB P C W (.expr e :: r) loc hp = .exc c loc hp1 := by
 refine s_exc ?_
 show (evalE P C e loc hp).stm loc _ = _
 rw [h]; rfl
theorem x_raise {c : Nat} {r : List MS} (hP : P.held = false := by rfl) : exeB P C W (.raise c :: r) loc hp = .exc c loc hp := by
 refine s_exc ?_
 show (if P.held = true then SR.bad else .exc c loc hp) = _
 rw [hP]; rfl
theorem x_try {body r : List MS} {x c : Nat} {h : ME} {v : PV} {hp2 : Hp} (hb : exeB P C W body loc hp = .exc c loc1 hp1) (hv : evalE P.hold W h (putv loc1 x (.exc c)) hp1 = .ok v hp2) (hP : P.held = false := by rfl) :
  exeB P C W (.tryS body x h :: r) loc hp = .ret v hp2 := by
 refine s_end ?_
 show (if P.held = true then SR.bad else match exeB P C W body loc hp with | .exc c loc1 hp1 => (evalE P.hold W h (putv loc1 x (.exc c)) hp1).stmB fun v hp2 => .ret v hp2 | r => r) = _
 rw [hP, hb]
 show (evalE P.hold W h (putv loc1 x (.exc c)) hp1).stmB _ = _
 rw [hv]; rfl
end
section
variable {P : MProg} {m n i : Nat} {ps ls : List Nat} {body : List MS} {vs : List PV} {hp hp' : Hp}
theorem callW_list {l : List PV} {a : Nat} (loc : Loc) (hf : P.funs[i]? = some ⟨true, ps, ls, body⟩) (hz : (zipArgs ps vs).map (· ++ unb ls) = some loc) (ha : hp.os.length ≤ a) (hb : belows hp.os.length l = true)
  (hr : exeB P.hold noCall noCall body loc ⟨hp.os.length, hp.os⟩ = .ret (.lst a) hp') (hl : hp'.os[a]? = some (.list l)) : callW P i vs hp = .ok (.lst hp.new) (hp.add (.list l)) := by
 have e : callW P i vs hp = swept hp (exeB P.hold noCall noCall body loc ⟨hp.os.length, hp.os⟩).fin := by
  refine x12 (Option.map_eq_some_iff.mp hz) fun l0 h0 zq3 => ?_
  subst zq3
  show (match P.funs[i]? with | none => Res.bad | some f => _) = _
  rw [hf]
  show (match zipArgs ps vs with | none => Res.bad | some loc => _) = _
  rw [h0]; rfl
 rw [e, hr]
 show (if decide (a < hp.os.length) = true then _ else match lstAt hp' a with | some l => (if belows hp.os.length l then _ else _) | none => _) = _
 rw [if_neg (by rw [decide_eq_true_eq]; exact (Nat.not_lt.mpr ha)), lst_of hl]
 show (if belows hp.os.length l then _ else _) = _
 rw [if_pos hb]; rfl
end
section
variable {hp : Hp}
theorem o_ladd {a b : Nat} {l m : List PV} (ha : hp.os[a]? = some (.list l)) (hb : hp.os[b]? = some (.list m)) (hz : l.length + m.length ≤ 1000000) : binop .add (.lst a) (.lst b) hp = .ok (.lst hp.new) (hp.add (.list (l ++ m))) := by
 show (match lstAt hp a, lstAt hp b with | some l, some m => if sizeOk (l.length + m.length) then Mine.newList (l ++ m) hp else Res.bad | _, _ => Res.bad) = _
 rw [lst_of ha, lst_of hb]
 show (if sizeOk (l.length + m.length) = true then _ else _) = _
 rw [if_pos (show sizeOk _ = true from decide_eq_true hz)]; rfl
theorem o_lmul0 {a : Nat} {l : List PV} (ha : hp.os[a]? = some (.list l)) : binop .mul (.lst a) (.int 0) hp = .ok (.lst hp.new) (hp.add (.list [])) := by
 show (match lstAt hp a with | some l => if (intOk 0 && sizeOk (l.length * (0 : Int).toNat)) = true then Mine.newList (repl l (0 : Int).toNat) hp else Res.bad | none => Res.bad) = _
 rw [lst_of ha]
 show (if (intOk 0 && sizeOk (l.length * 0)) = true then _ else _) = _
 rw [Nat.mul_zero]; rfl
theorem k_zipl {a b : Nat} {l m : List PV} (ha : hp.os[a]? = some (.list l)) (hb : hp.os[b]? = some (.list m)) : srcOf .zip [.lst a, .lst b] hp = some (.zip hp.new (.at a 0) (.at b 0)) := by
 show ((match lstAt hp a with | some _ => some (Src.at a 0) | none => none).bind fun x => (match lstAt hp b with | some _ => some (Src.at b 0) | none => none).bind fun y => some (Src.zip hp.os.length x y)) = _
 rw [lst_of ha, lst_of hb]; rfl
theorem pairs_mem : ∀ {l m : List PV} {p : PV}, p ∈ pairs l m → ∃ a ∈ l, ∃ b ∈ m, p = .tup [a, b]
 | [], _, _, h => by cases h
 | _ :: _, [], _, h => by cases h
 | a :: l, b :: m, p, h => by
  rcases List.mem_cons.mp h with q | q
  ·exact ⟨a, .head _, b, .head _, q⟩
  ·obtain ⟨x, hx, y, hy, e⟩ := pairs_mem q
   exact ⟨x, .tail _ hx, y, .tail _ hy, e⟩
end
section
variable {hp : Hp}
end
section
variable {hp : Hp}
end
noncomputable def fstV : PV → PV
 | .tup [a, _] => a
 | p => p
noncomputable def wordNames : List PV := [.str ⟨#[98, 97, 114]⟩, .str ⟨#[115, 101, 116, 116, 105, 110, 103]⟩, .str ⟨#[99, 104, 101, 115, 116]⟩, .str ⟨#[114, 111, 119]⟩, .str ⟨#[110, 117, 109, 98, 101, 114]⟩, .str ⟨#[109, 111, 118, 101]⟩, .str ⟨#[109, 97, 110, 121]⟩, .str ⟨#[110, 111, 116, 101]⟩]
noncomputable def wordKinds (c : Nat) : List PV := [.bool (under c 1), .bool (under c 2), .bool (under c 3), .bool (under c 4), .bool (under c 5), .bool (under c 6), .bool (under c 7), .bool (under c 8)]
noncomputable def sndB : PV → Bool
 | .tup [_, .bool b] => b
 | _ => false
noncomputable def wordF : MFun := ⟨true, [27], [30, 33], [(.asg 30 (.list [(.isi (.var 27) (.own 1)), (.isi (.var 27) (.own 2)), (.isi (.var 27) (.own 3)), (.isi (.var 27) (.own 4))])), (.asg 30 (.bin .add (.var 30) (.list [(.isi (.var 27) (.own 5)), (.isi (.var 27) (.own 6)), (.isi (.var 27) (.own 7)), (.isi (.var 27) (.own 8))]))), (.asg 33 (.list [(.lit (.str ⟨#[98, 97, 114]⟩)), (.lit (.str ⟨#[115, 101, 116, 116, 105, 110, 103]⟩)), (.lit (.str ⟨#[99, 104, 101, 115, 116]⟩)), (.lit (.str ⟨#[114, 111, 119]⟩)), (.lit (.str ⟨#[110, 117, 109, 98, 101, 114]⟩)), (.lit (.str ⟨#[109, 111, 118, 101]⟩)), (.lit (.str ⟨#[109, 97, 110, 121]⟩)), (.lit (.str ⟨#[110, 111, 116, 101]⟩))])), (.ret (.bin .add (.bin .mul (.list [(.lit (.str ⟨#[110, 111, 32, 118, 97, 108, 117, 101, 32, 101, 114, 114, 111, 114]⟩))]) (.bcall .int [(.notE (.isi (.var 27) .verr))])) (.comp (.var 32) (.two 32 28) .zip [(.var 33), (.var 30)] [(.val (.var 28))])))]⟩
theorem word_all {P : MProg} {i c : Nat} {hp : Hp} {w : PV} (hf : P.funs[i]? = some wordF) (hw : (((pairs wordNames (wordKinds c)).filter sndB).map fstV) = [w]) (hb : below hp.os.length w = true) : callW P i [.exc c] hp = .ok (.lst hp.new) (hp.add (.list [w])) := by
 generalize h0 : (⟨hp.os.length, hp.os⟩ : Hp) = hp0
 have l0 : hp0.os.length = hp.os.length := by rw [← h0]
 generalize h1 : hp0.add (.list [.bool (under c 1), .bool (under c 2), .bool (under c 3), .bool (under c 4)]) = hp1
 have g1 : hp1.os[hp0.new]? = some (.list [.bool (under c 1), .bool (under c 2), .bool (under c 3), .bool (under c 4)]) := by rw [← h1]; exact Hp.add_new
 generalize h2 : hp1.add (.list [.bool (under c 5), .bool (under c 6), .bool (under c 7), .bool (under c 8)]) = hp2
 have g2 : hp2.os[hp1.new]? = some (.list [.bool (under c 5), .bool (under c 6), .bool (under c 7), .bool (under c 8)]) := by rw [← h2]; exact Hp.add_new
 have g2' : hp2.os[hp0.new]? = some (.list [.bool (under c 1), .bool (under c 2), .bool (under c 3), .bool (under c 4)]) := by rw [← h2]; exact Hp.add_old g1
 generalize h3 : hp2.add (.list (wordKinds c)) = hp3
 have g3 : hp3.os[hp2.new]? = some (.list (wordKinds c)) := by rw [← h3]; exact Hp.add_new
 generalize h4 : hp3.add (.list wordNames) = hp4
 have g4 : hp4.os[hp3.new]? = some (.list wordNames) := by rw [← h4]; exact Hp.add_new
 have g4' : hp4.os[hp2.new]? = some (.list (wordKinds c)) := by rw [← h4]; exact Hp.add_old g3
 generalize h5 : hp4.add (.list [.str ⟨#[110, 111, 32, 118, 97, 108, 117, 101, 32, 101, 114, 114, 111, 114]⟩]) = hp5
 have g5 : hp5.os[hp4.new]? = some (.list [.str ⟨#[110, 111, 32, 118, 97, 108, 117, 101, 32, 101, 114, 114, 111, 114]⟩]) := by rw [← h5]; exact Hp.add_new
 generalize h6 : hp5.add (.list []) = hp6
 have g6 : hp6.os[hp5.new]? = some (.list []) := by rw [← h6]; exact Hp.add_new
 have g6a : hp6.os[hp3.new]? = some (.list wordNames) := by rw [← h6, ← h5]; exact Hp.add_old (Hp.add_old g4)
 have g6b : hp6.os[hp2.new]? = some (.list (wordKinds c)) := by rw [← h6, ← h5]; exact Hp.add_old (Hp.add_old g4')
 generalize h7 : hp6.add .own = hp7
 have g7 : hp7.os[hp6.new]? = some .own := by rw [← h7]; exact Hp.add_new
 have g7a : hp7.os[hp3.new]? = some (.list wordNames) := by rw [← h7]; exact Hp.add_old g6a
 have g7b : hp7.os[hp2.new]? = some (.list (wordKinds c)) := by rw [← h7]; exact Hp.add_old g6b
 have g7c : hp7.os[hp5.new]? = some (.list []) := by rw [← h7]; exact Hp.add_old g6
 have gl : hp.os.length ≤ (hp7.add (.list [w])).new := by
  have a1 : hp1.os.length = hp0.os.length + 1 := by rw [← h1]; unfold Hp.add; simp
  have a2 : hp2.os.length = hp1.os.length + 1 := by rw [← h2]; unfold Hp.add; simp
  have a3 : hp3.os.length = hp2.os.length + 1 := by rw [← h3]; unfold Hp.add; simp
  have a4 : hp4.os.length = hp3.os.length + 1 := by rw [← h4]; unfold Hp.add; simp
  have a5 : hp5.os.length = hp4.os.length + 1 := by rw [← h5]; unfold Hp.add; simp
  have a6 : hp6.os.length = hp5.os.length + 1 := by rw [← h6]; unfold Hp.add; simp
  have a7 : hp7.os.length = hp6.os.length + 1 := by rw [← h7]; unfold Hp.add; simp
  rw [Hp.new_add]; omega
 have hc := e_comp (P := P.hold) (C := noCall) (loc := [(27, some (.exc c)), (30, some (.lst hp2.new)), (33, some (.lst hp3.new))]) (hp := hp6) (elt := .var 32) (t := .two 32 28) (k := .zip) (its := [.var 33, .var 30]) (ifs := [.val (.var 28)]) (fun h => h = hp7) sndB fstV
  (es_cons (e_var rfl) (es_cons (e_var rfl) es_nil)) (k_zipl g6a g6b) h7 (y_zip (fun h q => by rw [q]; exact g7) (y_all fun h q => by rw [q]; exact g7a) (y_all fun h q => by rw [q]; exact g7b)) rfl (Nat.lt_of_le_of_lt (pairs_len _ _) (by decide)) fun p hm => by
   obtain ⟨a, ha, b, hb, rfl⟩ := pairs_mem hm
   refine x11 (by
    simp only [wordKinds, List.mem_cons, List.not_mem_nil, or_false] at hb
    rcases hb with q | q | q | q | q | q | q | q <;> exact ei11 _ q : ∃ t, b = .bool t) fun t zq1 => ?_
   subst zq1
   refine ei13 _ rfl ?_ (fun z_ => e_var rfl)
   show (evalT P.hold noCall (.val (.var 28)) _ hp7).bind _ = _
   rw [t_val (e_var rfl) v_bool, Res.bind_ok]
   cases t <;> rfl
 rw [hw] at hc
 have g8 : (hp7.add (.list [w])).os[hp7.new]? = some (.list [w]) := Hp.add_new
 have g8' : (hp7.add (.list [w])).os[hp5.new]? = some (.list []) := Hp.add_old g7c
 refine callW_list (a := (hp7.add (.list [w])).new) (hp' := (hp7.add (.list [w])).add (.list [w])) [(27, some (.exc c)), (30, none), (33, none)] hf rfl gl (by show (below _ w && true) = true; rw [hb]; rfl) ?_ Hp.add_new
 rw [h0]
 refine s_asg (e_list (es_cons (e_isi (e_var rfl) rfl) (es_cons (e_isi (e_var rfl) rfl) (es_cons (e_isi (e_var rfl) rfl) (es_cons (e_isi (e_var rfl) rfl) es_nil))))) ?_
 rw [h1]
 refine s_asg (e_bin (e_var rfl) (e_list (es_cons (e_isi (e_var rfl) rfl) (es_cons (e_isi (e_var rfl) rfl) (es_cons (e_isi (e_var rfl) rfl) (es_cons (e_isi (e_var rfl) rfl) es_nil))))) (by rw [h2]; exact o_ladd g2' g2 (by show 8 ≤ 1000000; decide))) ?_
 rw [show hp2.add (.list ([.bool (under c 1), .bool (under c 2), .bool (under c 3), .bool (under c 4)] ++ [.bool (under c 5), .bool (under c 6), .bool (under c 7), .bool (under c 8)])) = hp3 from h3]
 refine s_asg (e_list (es_cons e_lit (es_cons e_lit (es_cons e_lit (es_cons e_lit (es_cons e_lit (es_cons e_lit (es_cons e_lit (es_cons e_lit es_nil))))))))) ?_
 rw [show hp3.add (.list [.str ⟨#[98, 97, 114]⟩, .str ⟨#[115, 101, 116, 116, 105, 110, 103]⟩, .str ⟨#[99, 104, 101, 115, 116]⟩, .str ⟨#[114, 111, 119]⟩, .str ⟨#[110, 117, 109, 98, 101, 114]⟩, .str ⟨#[109, 111, 118, 101]⟩, .str ⟨#[109, 97, 110, 121]⟩, .str ⟨#[110, 111, 116, 101]⟩]) = hp4 from h4]
 exact s_ret (e_bin (e_bin (e_list (es_cons e_lit es_nil)) (e_bcall (es_cons (e_not (e_isi (e_var rfl) rfl) rfl) es_nil) rfl) (by rw [h5, ← h6]; exact o_lmul0 g5)) hc (o_ladd g8' g8 (by show 1 ≤ 1000000; decide)))
noncomputable def wMove : Str := ⟨#[109, 111, 118, 101]⟩
theorem word_move {P : MProg} {i : Nat} {hp : Hp} (hf : P.funs[i]? = some wordF) : callW P i [.exc 6] hp = .ok (.lst hp.new) (hp.add (.list [.str wMove])) := word_all hf rfl rfl
end Mine
end
section
namespace Mine
open PySem
theorem rising_eq {α : Type} (f : α → Int) : ∀ {l m : List α}, l.Pairwise (fun a b => f a < f b) → m.Pairwise (fun a b => f a < f b) → (∀ x, x ∈ l ↔ x ∈ m) → l = m
 | [], [], _, _, _ => rfl
 | [], b :: m, _, _, h => by cases (h b).mpr (.head _)
 | a :: l, [], _, _, h => by cases (h a).mp (.head _)
 | a :: l, b :: m, hl, hm, h => by
  have hl' := List.pairwise_cons.mp hl
  have hm' := List.pairwise_cons.mp hm
  have hab : a = b := by
   rcases List.mem_cons.mp ((h a).mp (.head _)) with q | q
   ·exact q
   ·rcases List.mem_cons.mp ((h b).mpr (.head _)) with z | z
    ·exact z.symm
    ·exact absurd (hm'.1 a q) (Int.not_lt.mpr (Int.le_of_lt (hl'.1 b z)))
  subst hab
  rw [rising_eq f hl'.2 hm'.2 fun x => ⟨fun hx => ?_, fun hx => ?_⟩]
  ·rcases List.mem_cons.mp ((h x).mp (.tail _ hx)) with q | q
   ·subst q; exact absurd (hl'.1 x hx) (Int.lt_irrefl _)
   ·exact q
  ·rcases List.mem_cons.mp ((h x).mpr (.tail _ hx)) with q | q
   ·subst q; exact absurd (hm'.1 x hx) (Int.lt_irrefl _)
   ·exact q
noncomputable def mkey (p : Nat × Int) : Int := 3 * (p.1 : Int) + p.2
noncomputable def good (cs ps : List Int) (i : Nat) (d : Int) : Bool := match ps[i]?, cs[i]? with
 | some x, some c => decide (0 ≤ x + d ∧ x + d < c ∧ (numC cs (ps.set i (x + d)) = numC cs ps + 1 ∨ numC cs (ps.set i (x + d)) = numC cs ps + -1))
 | _, _ => false
theorem good_at {cs ps : List Int} {i : Nat} {d x c : Int} (hx : ps[i]? = some x) (hc : cs[i]? = some c) : good cs ps i d = decide (0 ≤ x + d ∧ x + d < c ∧ (numC cs (ps.set i (x + d)) = numC cs ps + 1 ∨ numC cs (ps.set i (x + d)) = numC cs ps + -1)) := by
 unfold good; rw [hx, hc]
noncomputable def dueAt (cs ps : List Int) (i : Nat) : List (Nat × Int) := (([-1, 1] : List Int).filter (good cs ps i)).map fun d => (i, d)
noncomputable def dueC (cs ps : List Int) : List (Nat × Int) := (List.range cs.length).flatMap (dueAt cs ps)
theorem mem_dueC {cs ps : List Int} {p : Nat × Int} : p ∈ dueC cs ps ↔ p.1 < cs.length ∧ (p.2 = -1 ∨ p.2 = 1) ∧ good cs ps p.1 p.2 = true := by
 obtain ⟨i, d⟩ := p
 unfold dueC dueAt
 rw [List.mem_flatMap]
 constructor
 ·refine y12 fun j hj hm => ?_
  refine x12 (List.mem_map.mp hm) fun e he q => ?_
  cases q
  have h2 := List.mem_filter.mp he
  refine ⟨List.mem_range.mp hj, ?_, h2.2⟩
  have := h2.1
  simp only [List.mem_cons, List.not_mem_nil, or_false] at this
  exact this
 ·refine y03 fun h1 h2 h3 => ?_
  refine ei12 i (List.mem_range.mpr h1) (List.mem_map.mpr ⟨d, List.mem_filter.mpr ⟨?_, h3⟩, rfl⟩)
  simp only [List.mem_cons, List.not_mem_nil, or_false]
  exact h2
theorem due_rising (cs ps : List Int) : (dueC cs ps).Pairwise (fun a b => mkey a < mkey b) := by
 unfold dueC dueAt
 rw [List.pairwise_flatMap]
 refine ⟨fun i z_ => ?_, ?_⟩
 ·rw [List.pairwise_map]
  refine List.Pairwise.filter _ ?_
  refine List.Pairwise.cons (fun y hy => ?_) (List.pairwise_singleton _ _)
  rw [List.mem_singleton.mp hy]
  show 3 * (i : Int) + -1 < 3 * (i : Int) + 1
  omega
 ·refine List.Pairwise.imp ?_ List.pairwise_lt_range
  intro i j hij x hx y hy
  refine x12 (List.mem_map.mp hx) fun a ha zq2 => ?_
  subst zq2
  refine x12 (List.mem_map.mp hy) fun b hb zq1 => ?_
  subst zq1
  have h1 := (List.mem_filter.mp ha).1
  have h2 := (List.mem_filter.mp hb).1
  simp only [List.mem_cons, List.not_mem_nil, or_false] at h1 h2
  show 3 * (i : Int) + a < 3 * (j : Int) + b
  omega
theorem IsRow.at {cs ps : List Int} (h : IsRow cs ps) : ∀ {i : Nat} {x c : Int}, ps[i]? = some x → cs[i]? = some c → 0 ≤ x ∧ x < c := by
 induction h with
 | nil => intro i x c hx; cases hx
 | cons a b _ ih =>
  intro i x c hx hc
  cases i with
  | zero => cases hx; cases hc; exact ⟨a, b⟩
  | succ i => exact ih hx hc
theorem set_unique {ps : List Int} {i r : Nat} {x y d e : Int} (hx : ps[i]? = some x) (hy : ps[r]? = some y) (hd : d = 1 ∨ d = -1) (he : e = 1 ∨ e = -1) (h : ps.set i (x + d) = ps.set r (y + e)) : i = r ∧ d = e := by
 have hi := (List.getElem?_eq_some_iff.mp hx).1
 have h1 : (ps.set i (x + d))[i]? = (ps.set r (y + e))[i]? := by rw [h]
 rw [List.getElem?_set_self hi] at h1
 by_cases q : i = r
 ·subst q
  rw [hx] at hy; cases hy
  rw [List.getElem?_set_self hi] at h1
  have := Option.some.inj h1
  exact ⟨rfl, by omega⟩
 ·rw [List.getElem?_set_ne (Ne.symm q), hx] at h1
  have := Option.some.inj h1
  (clear he q; omega)
theorem good_near {cs ps : List Int} (hc : cntsOk cs) (hr : IsRow cs ps) {p : Nat × Int} : p ∈ dueC cs ps ↔ ∃ b, (b = numC cs ps + 1 ∨ b = numC cs ps + -1) ∧ 0 ≤ b ∧ b < prodC cs ∧ mvC cs (numC cs ps) b = p := by
 rw [mem_dueC]
 have n0 := num_range hr
 have hrow := row_num hr
 constructor
 ·refine y03 fun hi hd hg => ?_
  refine x11 (⟨_, List.getElem?_eq_getElem hi⟩ : ∃ c, cs[p.1]? = some c) fun c hcc => ?_
  refine x11 (⟨_, List.getElem?_eq_getElem (by rw [hr.len]; exact hi)⟩ : ∃ x, ps[p.1]? = some x) fun x hx => ?_
  rw [good_at hx hcc] at hg
  refine x03 (of_decide_eq_true hg) fun g0 g1 g2 => ?_
  have hq := hr.upd hcc g0 g1
  have nb := num_range hq
  refine ei14 _ g2 nb.1 nb.2 ?_
  have nr := near_of hc n0.1 n0.2 nb.1 nb.2 g2
  rw [row_num hq, hrow] at nr
  refine x12 nr.ex fun y hy he => ?_
  refine x02 (set_unique hx hy (by omega) nr.one he) fun e1 e2 => ?_
  exact Prod.ext e1.symm e2.symm
 ·rintro ⟨b, hb, b0, b1, rfl⟩
  have nr := near_of hc n0.1 n0.2 b0 b1 hb
  rw [hrow] at nr
  refine x12 nr.ex fun x hx he => ?_
  have hi := (List.getElem?_eq_some_iff.mp hx).1
  refine x11 (⟨_, List.getElem?_eq_getElem (by rw [← hr.len]; exact hi)⟩ : ∃ c, cs[(mvC cs (numC cs ps) b).1]? = some c) fun c hcc => ?_
  have hrb := rowC_row hc b
  rw [he] at hrb
  have hat := hrb.at (i := (mvC cs (numC cs ps) b).1) (List.getElem?_set_self hi) hcc
  refine ⟨by rw [← hr.len]; exact hi, by have := nr.one; omega, ?_⟩
  rw [good_at hx hcc, ← he, num_row hc b b0 b1]
  exact decide_eq_true ⟨hat.1, hat.2, hb⟩
theorem prodC_two {cs : List Int} (hc : cntsOk cs) (h1 : 1 ≤ cs.length) : 2 ≤ prodC cs := by
 cases cs with
 | nil => cases h1
 | cons c cs =>
  have h2 := prodC_pos (cs := cs) fun x hx => hc x (.tail _ hx)
  have h3 := Int.mul_le_mul_of_nonneg_right (hc c (.head _)).1 (Int.le_of_lt h2)
  show 2 ≤ c * prodC cs
  omega
noncomputable def inRng (cs : List Int) (b : Int) : Bool := decide (0 ≤ b) && decide (b < prodC cs)
noncomputable def mvsC (cs : List Int) (N : Int) : List (Nat × Int) := (([N - 1, N + 1] : List Int).filter (inRng cs)).map (mvC cs N)
theorem inRng_iff {cs : List Int} {b : Int} : inRng cs b = true ↔ 0 ≤ b ∧ b < prodC cs := by unfold inRng; rw [Bool.and_eq_true_iff, decide_eq_true_eq, decide_eq_true_eq]
theorem mem_mvsC {cs : List Int} {N : Int} {p : Nat × Int} : p ∈ mvsC cs N ↔ ∃ b, (b = N + 1 ∨ b = N + -1) ∧ 0 ≤ b ∧ b < prodC cs ∧ mvC cs N b = p := by
 unfold mvsC
 rw [List.mem_map]
 constructor
 ·refine y12 fun b hb e => ?_
  have := List.mem_filter.mp hb
  have h1 := this.1
  simp only [List.mem_cons, List.not_mem_nil, or_false] at h1
  have h2 := inRng_iff.mp this.2
  exact ei14 b (by omega) h2.1 h2.2 e
 ·refine y14 fun b hb b0 b1 e => ?_
  refine ei12 b (List.mem_filter.mpr ⟨?_, inRng_iff.mpr ⟨b0, b1⟩⟩) e
  simp only [List.mem_cons, List.not_mem_nil, or_false]
  omega
theorem sort_due {cs ps : List Int} (hc : cntsOk cs) (hr : IsRow cs ps) (h1 : 1 ≤ cs.length) : sort2 ((mvsC cs (numC cs ps)).map mvV) = some ((dueC cs ps).map mvV) ∧ 1 ≤ (dueC cs ps).length ∧ (dueC cs ps).length ≤ 2 := by
 have n0 := num_range hr
 have hp := prodC_two hc h1
 have hrow := row_num hr
 have mem : ∀ p, p ∈ dueC cs ps ↔ p ∈ mvsC cs (numC cs ps) := fun p => (good_near hc hr).trans mem_mvsC.symm
 have one : ∀ p, mvsC cs (numC cs ps) = [p] → sort2 ((mvsC cs (numC cs ps)).map mvV) = some ((dueC cs ps).map mvV) ∧ 1 ≤ (dueC cs ps).length ∧ (dueC cs ps).length ≤ 2 := fun p e => by
  have hd : dueC cs ps = [p] := rising_eq mkey (due_rising cs ps) (List.pairwise_singleton _ _) fun x => by rw [mem, e]
  rw [e, hd]; exact ⟨rfl, Nat.le_refl 1, Nat.le_succ 1⟩
 by_cases q0 : 0 ≤ numC cs ps - 1
 ·have i0 : inRng cs (numC cs ps - 1) = true := inRng_iff.mpr ⟨q0, by omega⟩
  by_cases q1 : numC cs ps + 1 < prodC cs
  ·have i1 : inRng cs (numC cs ps + 1) = true := inRng_iff.mpr ⟨by omega, q1⟩
   have em : mvsC cs (numC cs ps) = [mvC cs (numC cs ps) (numC cs ps - 1), mvC cs (numC cs ps) (numC cs ps + 1)] := by
    unfold mvsC; rw [List.filter_cons_of_pos i0, List.filter_cons_of_pos i1]; rfl
   have r0 := near_of hc n0.1 n0.2 q0 (by omega) (.inr (by omega))
   have r1 := near_of hc n0.1 n0.2 (show 0 ≤ numC cs ps + 1 by omega) q1 (.inl rfl)
   rw [hrow] at r0 r1
   have hne : mkey (mvC cs (numC cs ps) (numC cs ps - 1)) ≠ mkey (mvC cs (numC cs ps) (numC cs ps + 1)) := fun e => by
    refine x12 r0.ex fun x hx ex => ?_
    refine x12 r1.ex fun y hy ey => ?_
    have o0 := r0.one
    have o1 := r1.one
    unfold mkey at e
    have e1 : (mvC cs (numC cs ps) (numC cs ps - 1)).1 = (mvC cs (numC cs ps) (numC cs ps + 1)).1 := by omega
    have e2 : (mvC cs (numC cs ps) (numC cs ps - 1)).2 = (mvC cs (numC cs ps) (numC cs ps + 1)).2 := by omega
    rw [e1] at hx
    rw [hx] at hy; cases hy
    rw [e1, e2, ← ey] at ex
    have := congrArg (numC cs) ex
    rw [num_row hc _ q0 (by omega), num_row hc _ (by (clear h1 q0 e e1 e2 this; omega)) q1] at this
    omega
   generalize hP : mvC cs (numC cs ps) (numC cs ps - 1) = P at *
   generalize hQ : mvC cs (numC cs ps) (numC cs ps + 1) = Q at *
   have o0 := r0.one
   have o1 := r1.one
   rw [em]
   show some (if decide ((Q.1 : Int) < (P.1 : Int) ∨ (Q.1 : Int) = (P.1 : Int) ∧ Q.2 < P.2) = true then [mvV Q, mvV P] else [mvV P, mvV Q]) = _ ∧ _
   unfold mkey at hne
   by_cases z : (Q.1 : Int) < (P.1 : Int) ∨ (Q.1 : Int) = (P.1 : Int) ∧ Q.2 < P.2
   ·have hd : dueC cs ps = [Q, P] := rising_eq mkey (due_rising cs ps) (.cons (fun y hy => by rw [List.mem_singleton.mp hy]; unfold mkey; omega) (List.pairwise_singleton _ _)) fun x => by
     rw [mem, em]; simp only [List.mem_cons, List.not_mem_nil, or_false]; exact Or.comm
    rw [if_pos (decide_eq_true z), hd]; exact ⟨rfl, Nat.le_succ 1, Nat.le_refl 2⟩
   ·have hd : dueC cs ps = [P, Q] := rising_eq mkey (due_rising cs ps) (.cons (fun y hy => by rw [List.mem_singleton.mp hy]; unfold mkey; omega) (List.pairwise_singleton _ _)) fun x => by
     rw [mem, em]
    rw [if_neg (by rw [decide_eq_true_eq]; exact z), hd]; exact ⟨rfl, Nat.le_succ 1, Nat.le_refl 2⟩
  ·refine one (mvC cs (numC cs ps) (numC cs ps - 1)) ?_
   unfold mvsC; rw [List.filter_cons_of_pos i0, List.filter_cons_of_neg (by rw [inRng_iff]; omega)]; rfl
 ·refine one (mvC cs (numC cs ps) (numC cs ps + 1)) ?_
  unfold mvsC; rw [List.filter_cons_of_neg (by rw [inRng_iff]; omega), List.filter_cons_of_pos (inRng_iff.mpr ⟨by (clear h1 q0; omega), by omega⟩)]; rfl
section
variable {hp : Hp}
noncomputable def mvD (p : Nat × Int) : PyData := .tuple [.int p.1, .int p.2]
theorem snapAll_mvs (n : Nat) : ∀ l : List (Nat × Int), snapAll (snap (n + 1) hp) (l.map mvV) = some (l.map mvD)
 | [] => rfl
 | p :: r => by
  have h1 : snap (n + 1) hp (mvV p) = some (mvD p) := by
   show (match snap n hp (.int p.1), (match snap n hp (.int p.2), some [] with | some d, some ds => some (d :: ds) | _, _ => none) with | some d, some ds => some (d :: ds) | _, _ => none).map PyData.tuple = _
   rw [snap_i, snap_i]; rfl
  show (match snap (n + 1) hp (mvV p), snapAll (snap (n + 1) hp) (r.map mvV) with | some d, some ds => some (d :: ds) | _, _ => none) = _
  rw [h1, snapAll_mvs n r]; rfl
theorem any_mvs (p : Nat × Int) : ∀ l : List (Nat × Int), (l.map mvD).any (fun d => PyData.eqv d (mvD p)) = decide (p ∈ l)
 | [] => rfl
 | q :: r => by
  show ((decide ((q.1 : Int) = (p.1 : Int)) && (decide (q.2 = p.2) && true)) || (r.map mvD).any fun d => PyData.eqv d (mvD p)) = _
  rw [any_mvs p r, Bool.and_true]
  by_cases h : p = q
  ·subst h; rw [decide_eq_true rfl, decide_eq_true rfl, decide_eq_true (List.mem_cons_self ..)]; rfl
  ·have : (decide ((q.1 : Int) = (p.1 : Int)) && decide (q.2 = p.2)) = false := by
    rw [Bool.and_eq_false_iff, decide_eq_false_iff_not, decide_eq_false_iff_not]
    by_cases h1 : q.2 = p.2
    ·exact .inl fun h2 => h (Prod.ext (by omega) h1.symm)
    ·exact .inr h1
   rw [this, Bool.false_or]
   by_cases h3 : p ∈ r
   ·rw [decide_eq_true h3, decide_eq_true (List.mem_cons_of_mem _ h3)]
   ·rw [decide_eq_false h3, decide_eq_false (fun z => (List.mem_cons.mp z).elim h h3)]
theorem q_inm {n : Nat} {l : List (Nat × Int)} {p : Nat × Int} (hl : hp.os[n]? = some (.list (l.map mvV))) : cmpop .isin (mvV p) (.lst n) hp = some (decide (p ∈ l)) := by
 have h1 : snap snapD hp (.lst n) = some (.list (l.map mvD)) := by
  show (match lstAt hp n with | some l => (snapAll (snap 7 hp) l).map PyData.list | none => none) = _
  rw [lst_of hl]
  show (snapAll (snap (6 + 1) hp) (l.map mvV)).map PyData.list = _
  rw [snapAll_mvs]; rfl
 show ((snap snapD hp (.lst n)).bind fun d => (asLd d).bind fun l => some (l.any fun d => PyData.eqv d (mvD p))) = _
 rw [h1]
 exact congrArg some (any_mvs p l)
theorem j_sort {n : Nat} {l l' : List PV} (hl : hp.os[n]? = some (.list l)) (hs : sort2 l = some l') : bfun .sorted [.lst n] hp = .ok (.lst hp.new) (hp.add (.list l')) := by
 show (match lstAt hp n with | some l => (match sort2 l with | some l' => newList l' hp | none => .bad) | none => .bad) = _
 rw [lst_of hl]
 show (match sort2 l with | some l' => newList l' hp | none => .bad) = _
 rw [hs]; rfl
end
section
variable {P : MProg} {C W : Caller} {loc : Loc} {hp : Hp}
theorem x_asgT {t : Tgt} {e : ME} {r : List MS} {v : PV} {loc1 : Loc} {hp1 : Hp} {q : SR} (h : evalE P C e loc hp = .ok v hp1) (hb : bindT t v loc = some loc1) (h2 : exeB P C W r loc1 hp1 = q) (hP : P.held = false := by rfl) : exeB P C W (.asgT t e :: r) loc hp = q := by
 refine s_cons (loc1 := loc1) (hp1 := hp1) ?_ h2
 show (if P.held then SR.bad else (evalE P C e loc hp).stm loc fun v hp1 => match bindT t v loc with | some loc1 => .nxt loc1 hp1 | none => .bad) = _
 rw [hP]
 refine stm_eq h ?_
 rw [hb]
end
end Mine
end
section
namespace Mine
open PySem
noncomputable def Ext (hp hp' : Hp) : Prop := ∀ (n : Nat) (o : MObj), hp.os[n]? = some o → hp'.os[n]? = some o
theorem Ext.refl (hp : Hp) : Ext hp hp := fun z_ z_ h => h
theorem Ext.trans {a b c : Hp} (h : Ext a b) (h' : Ext b c) : Ext a c := fun n o e => h' n o (h n o e)
theorem Ext.add (hp : Hp) (o : MObj) : Ext hp (hp.add o) := fun n x e => Hp.add_old e
theorem addE (H : Hp) (o : MObj) {P : Prop} (k : ∀ H1, H.add o = H1 → Ext H H1 → H1.os[H.new]? = some o → P) : P := k _ rfl (Ext.add _ _) Hp.add_new
theorem Ext.len {a b : Hp} (h : Ext a b) : a.os.length ≤ b.os.length := by
 cases hl : a.os.length with
 | zero => exact Nat.zero_le _
 | succ n =>
  have := h n a.os[n] (List.getElem?_eq_getElem (by omega))
  exact (List.getElem?_eq_some_iff.mp this).1
theorem lt_of_at {hp : Hp} {n : Nat} {o : MObj} (h : hp.os[n]? = some o) : n < hp.os.length := (List.getElem?_eq_some_iff.mp h).1
section
variable {P : MProg} {C W : Caller}
theorem forn_y {h : Hp} {t : Tgt} {body : Loc → Hp → SR} {src : Src} {l : List PV} {D : Loc → Prop} (hy : Yields (fun x => x = h) src l) : ∀ {N : Nat} {loc : Loc}, l.length < N → D loc →
  (∀ loc v, v ∈ l → D loc → ∃ loc1, bindT t v loc = some loc1 ∧ body loc1 h = .nxt loc1 h ∧ D loc1) → ∃ loc1, forLoop t body N src loc h = .nxt loc1 h ∧ D loc1 := by
 induction hy with
 | nil hn =>
  intro N loc hN d _
  cases N with
  | zero => cases hN
  | succ N => unfold forLoop; rw [hn _ rfl]; exact ei12 loc rfl d
 | @cons src src' v l hn _ ih =>
  intro N loc hN d step
  cases N with
  | zero => cases hN
  | succ N =>
   unfold forLoop; rw [hn _ rfl]
   dsimp only
   refine x13 (step loc v (.head _) d) fun loc1 e1 e2 d1 => ?_
   rw [e1]; dsimp only; rw [e2]
   exact ih (Nat.lt_of_succ_lt_succ hN) d1 (fun loc v hv => step loc v (.tail _ hv))
theorem x_forn {t : Tgt} {k : ItK} {its : List ME} {body : List MS} {vs : List PV} {hp hp1 h : Hp} {src : Src} {l : List PV} {loc : Loc} (D : Loc → Prop) (hi : evalEs P C its loc hp = .ok vs hp1) (hs : srcOf k vs hp1 = some src) (hh : srcHp k hp1 = h) (hy : Yields (fun x => x = h) src l) (hlen : l.length < 1000000) (d : D loc)
  (step : ∀ loc v, v ∈ l → D loc → ∃ loc1, bindT t v loc = some loc1 ∧ exeB P C W body loc1 h = .nxt loc1 h ∧ D loc1) (hP : P.held = false := by rfl) : ∃ loc1, exeS P C W (.forS t k its body) loc hp = .nxt loc1 h ∧ D loc1 := by
 refine x12 loops_ex fun N hN hle => ?_
 refine x12 (forn_y hy (Nat.lt_of_lt_of_le hlen hle) d step) fun loc1 e d1 => ?_
 exact ei12 loc1 ((f_eq N hN hi hs hP).trans (by rw [hh]; exact e)) d1
theorem compg_y {K : Hp → Prop} {bind : PV → Option Loc} {test : Loc → Hp → Res Bool} {elt : Loc → Hp → Res PV} (ht : ∀ l h, test l h = .ok true h) {src : Src} {l : List PV} (hy : Yields K src l) : ∀ {G : Nat → Hp → List PV → Prop} {N : Nat} {acc : List PV} {hp : Hp}, (∀ i h a, G i h a → K h) → l.length < N → G 0 hp acc →
  (∀ i h a v, l[i]? = some v → G i h a → ∃ loc p h', bind v = some loc ∧ elt loc h = .ok p h' ∧ G (i + 1) h' (a ++ [p])) → ∃ h a, compLoop bind test elt N src acc hp = .ok a h ∧ G l.length h a := by
 induction hy with
 | nil hn =>
  intro G N acc hp hK hN g _
  cases N with
  | zero => cases hN
  | succ N => unfold compLoop; rw [hn _ (hK _ _ _ g)]; exact ei22 hp acc rfl g
 | @cons src src' v l hn _ ih =>
  intro G N acc hp hK hN g step
  cases N with
  | zero => cases hN
  | succ N =>
   refine x33 (step 0 hp acc v rfl g) fun loc p h' e1 e2 g' => ?_
   refine x22 (ih (G := fun i => G (i + 1)) (fun i h a => hK (i + 1) h a) (Nat.lt_of_succ_lt_succ hN) g' (fun i h a w hw => step (i + 1) h a w hw)) fun h a e3 g'' => ?_
   refine ei22 h a ?_ g''
   unfold compLoop; rw [hn _ (hK _ _ _ g)]
   dsimp only
   rw [e1]; dsimp only
   rw [ht, Res.bindB_ok, if_pos rfl, e2, Res.bindB_ok]; exact e3
theorem e_compG {elt : ME} {t : Tgt} {k : ItK} {its : List ME} {vs : List PV} {hp hp1 : Hp} {src : Src} {l : List PV} {loc : Loc} (K : Hp → Prop) (G : Nat → Hp → List PV → Prop) (hi : evalEs P C its loc hp = .ok vs hp1) (hs : srcOf k vs hp1 = some src) (hy : Yields K src l) (hlen : l.length < 1000000) (hK : ∀ i h a, G i h a → K h) (g : G 0 (srcHp k hp1) [])
  (step : ∀ i h a v, l[i]? = some v → G i h a → ∃ loc1 p h', bindT t v loc = some loc1 ∧ evalE P C elt loc1 h = .ok p h' ∧ G (i + 1) h' (a ++ [p])) (hP : P.held = false := by rfl) :
  ∃ h a, evalE P C (.comp elt t k its []) loc hp = .ok (.lst h.new) (h.add (.list a)) ∧ G l.length h a := by
 refine x12 loops_ex fun N hN hle => ?_
 refine x22 (compg_y (bind := fun v => bindT t v loc) (test := evalIfs P C []) (elt := evalE P C elt) (fun z_ z_ => rfl) hy hK (Nat.lt_of_lt_of_le hlen hle) g step) fun h a e g' => ?_
 exact ei22 h a (m_eq N hN hi hs e (by rw [hP]; rfl)) g'
end
section
variable {hp : Hp} {n d : Nat} {l : Loc}
theorem tab_of (h1 : hp.os[n]? = some (.inst d)) (h2 : hp.os[d]? = some (.attrs l)) : tabOf (.lst n) hp = some (d, l) := by
 have e1 : instAt hp n = some d := by unfold instAt; rw [h1]
 have e2 : attrsAt hp d = some l := by unfold attrsAt; rw [h2]
 show (instAt hp n).bind _ = _
 rw [e1]
 show (attrsAt hp d).bind _ = _
 rw [e2]; rfl
theorem attr_of {k : Nat} {v : PV} (h1 : hp.os[n]? = some (.inst d)) (h2 : hp.os[d]? = some (.attrs l)) (h3 : getv l k = some v) : attrOf (.lst n) k hp = some v := by
 unfold attrOf; rw [tab_of h1 h2]; exact h3
theorem put_of {k : Nat} {v : PV} (h1 : hp.os[n]? = some (.inst d)) (h2 : hp.os[d]? = some (.attrs l)) (hlo : hp.lo ≤ d) : putAttr (.lst n) k v hp = some (hp.turn d (.attrs (putv l k v))) := by
 unfold putAttr; rw [tab_of h1 h2]
 show setObj d _ hp = _
 unfold setObj; rw [if_pos hlo]; rfl
theorem inst_new : (newInst hp).os[hp.os.length]? = some (.inst (hp.os.length + 1)) := by unfold newInst; simp
theorem inst_tab : (newInst hp).os[hp.os.length + 1]? = some (.attrs []) := by
 unfold newInst
 rw [List.getElem?_append_right (Nat.le_add_right _ 1), Nat.add_sub_cancel_left]; rfl
theorem inst_old {m : Nat} {o : MObj} (h : hp.os[m]? = some o) : (newInst hp).os[m]? = some o := by
 unfold newInst
 rw [List.getElem?_append_left (lt_of_at h)]; exact h
theorem s_setA {P : MProg} {C W : Caller} {loc : Loc} {o e : ME} {k : Nat} {r : List MS} {v a : PV} {hp1 hp2 hp3 : Hp} {q : SR} (he : evalE P C e loc hp = .ok v hp1) (ho : evalE P C o loc hp1 = .ok a hp2) (hs : putAttr a k v hp2 = some hp3) (h2 : exeB P C W r loc hp3 = q) : exeB P C W (.setA o k e :: r) loc hp = q := by
 refine s_cons (stm_eq he (stm_eq ho ?_)) h2
 rw [hs]
end
section
variable {P : MProg} {m n i : Nat} {ps ls : List Nat} {body : List MS} {vs : List PV} {hp hp' : Hp}
theorem call_ieq (loc : Loc) (hm : m = n + 1) (hf : P.funs[i]? = some ⟨false, ps, ls, body⟩) (hz : (zipArgs ps vs).map (· ++ unb ls) = some loc) : callN P m i vs hp = (exeB P (callN P n) (callW P) body loc hp).fin := by
 subst hm
 refine x12 (Option.map_eq_some_iff.mp hz) fun l0 h0 zq2 => ?_
 subst zq2
 show (match P.funs[i]? with | none => Res.bad | some f => _) = _
 rw [hf]
 show (match zipArgs ps vs with | none => Res.bad | some loc => _) = _
 rw [h0]; rfl
theorem call_ix {loc' : Loc} {c : Nat} (loc : Loc) (hm : m = n + 1) (hf : P.funs[i]? = some ⟨false, ps, ls, body⟩) (hz : (zipArgs ps vs).map (· ++ unb ls) = some loc) (hr : exeB P (callN P n) (callW P) body loc hp = .exc c loc' hp') : callN P m i vs hp = .exc c hp' := by
 rw [call_ieq loc hm hf hz, hr]; rfl
theorem call_in {loc' : Loc} (loc : Loc) (hm : m = n + 1) (hf : P.funs[i]? = some ⟨false, ps, ls, body⟩) (hz : (zipArgs ps vs).map (· ++ unb ls) = some loc) (hr : exeB P (callN P n) (callW P) body loc hp = .nxt loc' hp') : callN P m i vs hp = .ok .none hp' := by
 rw [call_ieq loc hm hf hz, hr]; rfl
theorem call_grow {v : PV} (loc : Loc) (hm : m = n + 1) (hf : P.funs[i]? = some ⟨true, ps, ls, body⟩) (hz : (zipArgs ps vs).map (· ++ unb ls) = some loc) (he : Ext hp hp') (hv : ∀ k, v = .lst k → lstAt hp' k = none ∨ ∃ l, lstAt hp' k = some l ∧ belows hp.os.length l = false)
  (hb : below hp.os.length v = false) (hr : exeB P (callN P n) (callW P) body loc ⟨hp.os.length, hp.os⟩ = .ret v hp') : callN P m i vs hp = .ok v { hp' with lo := hp.lo } := by
 rw [call_eq loc hm hf hz, hr]
 show (if below hp.os.length v = true then _ else _) = _
 rw [hb, if_neg Bool.false_ne_true]
 cases v with
 | lst k =>
  show (match lstAt hp' k with | some l => (if belows hp.os.length l = true then _ else _) | none => _) = _
  rcases hv k rfl with h | ⟨l, h, h2⟩
  ·rw [h]
  ·rw [h]; show (if belows hp.os.length l = true then _ else _) = _; rw [h2, if_neg Bool.false_ne_true]
 | _ => rfl
end
theorem tn_mod (x : Int) (c : Nat) (h : 0 < c) : ∃ w : Nat, x % (c : Int) = (w : Int) ∧ w < c :=
 have e := (Int.toNat_of_nonneg (Int.emod_nonneg x (Int.ofNat_ne_zero.mpr (Nat.ne_of_gt h)))).symm
 ⟨(x % (c : Int)).toNat, e, Int.ofNat_lt.mp (e ▸ Int.emod_lt_of_pos x (Int.ofNat_lt.mpr h))⟩
theorem lin_ok {a i : Nat} (ha : a ≤ 7) (h : i < 12) : 0 < 1 + (a : Int) * (i : Int) ∧ 1 + (a : Int) * (i : Int) ≤ 1000000000 := by
 have h1 : a * i ≤ 84 := Nat.mul_le_mul ha (Nat.le_of_lt h)
 rw [← Int.natCast_mul]
 exact ⟨Int.add_pos_of_pos_of_nonneg (by decide) (Int.natCast_nonneg _), Int.ofNat_le.mpr (Nat.le_trans (Nat.add_le_add_left h1 1) (by decide))⟩
theorem add_nn {k : Int} {x : Int} (hk : 0 ≤ k) {c : Int} (h : c ≠ 0) : 0 ≤ k + x % c := Int.add_nonneg hk (Int.emod_nonneg _ h)
theorem up2 (x : Int) {c : Int} (h : 0 < c) : 2 ≤ 2 + x % c ∧ 2 + x % c < 2 + c := ⟨Int.le_add_of_nonneg_right (Int.emod_nonneg x (Int.ne_of_gt h)), Int.add_lt_add_left (Int.emod_lt_of_pos x h) 2⟩
theorem one_mod {x w : Int} (w0 : 1 ≤ w) (w1 : w ≤ 12) : ∃ u : Nat, 1 + x % w = (u : Int) ∧ 1 ≤ u ∧ u ≤ 12 := by
 refine x11 (Int.eq_ofNat_of_zero_le (Int.le_trans (by decide) w0)) fun n zq1 => ?_
 subst zq1
 refine x12 (tn_mod x n (Int.ofNat_le.mp w0)) fun u h1 h2 => ?_
 exact ei13 (1 + u) (by rw [h1]; rfl) (Nat.le_add_right _ _) (Nat.le_trans (Nat.le_of_eq (Nat.add_comm _ _)) (Nat.le_trans h2 (Int.ofNat_le.mp w1)))
end Mine
end
section
namespace Mine.L13
open PySem Mine
noncomputable def cellAt (ns : List Int) (k : Int) : Int := ns.getD k.toNat 0
noncomputable def mixed (ns : List Int) (k : Int) : Int := (cellAt ns k + 7919 * k + 1) * 48271 % 2147483647
theorem mixed_nn {ns : List Int} {k : Int} : 0 ≤ mixed ns k := Int.emod_nonneg _ (by first | exact lv hm | exact lw hn | omega)
theorem one_le {m : Nat} (h : 1 ≤ m) : ∃ n, m = n + 1 := ⟨m - 1, (Nat.sub_add_cancel h).symm⟩
theorem cell_ok {m : Nat} {hp : Hp} {ns : List Int} {k : Int} (hm : 1 ≤ m) (hk : 0 ≤ k) : callN prog m 10 [.frz ns, .int k] hp = .ok (.int (cellAt ns k)) hp := by
 refine x11 (one_le hm) fun n zq29 => ?_
 subst zq29
 refine call_ret [(2, some (.frz ns)), (1, some (.int k))] rfl rfl rfl rfl (hp' := ⟨hp.os.length, hp.os⟩) ?_
 by_cases h : k < ns.length
 ·refine s_end (i_t (t_cmp (e_var rfl) (c_one (e_bcall (es_cons (e_var rfl) es_nil) n_frz) (q_lt_t h))) (s_ret (e_sub (e_var rfl) (e_var rfl) ?_)))
  show (if 0 ≤ k then (ns.map PV.int)[k.toNat]? else none) = _
  rw [if_pos hk, List.getElem?_map]
  unfold cellAt
  rw [List.getD_eq_getElem?_getD, List.getElem?_eq_getElem ((Int.toNat_lt hk).mpr h)]; rfl
 ·have : cellAt ns k = 0 := by unfold cellAt; rw [List.getD_eq_getElem?_getD, List.getElem?_eq_none (Int.le_toNat hk |>.mpr (Int.not_lt.mp h))]; rfl
  rw [this]
  exact s_if0 (t_cmp (e_var rfl) (c_one (e_bcall (es_cons (e_var rfl) es_nil) n_frz) (q_lt_f h))) (s_ret e_lit)
theorem mixed_ok {m : Nat} {hp : Hp} {ns : List Int} {k : Int} (hm : 2 ≤ m) (hk : 0 ≤ k) : callN prog m 11 [.frz ns, .int k] hp = .ok (.int (mixed ns k)) hp := by
 refine x11 (one_le (Nat.le_of_succ_le hm)) fun n zq28 => ?_
 subst zq28
 refine call_ret [(2, some (.frz ns)), (1, some (.int k))] rfl rfl rfl rfl (hp' := ⟨hp.os.length, hp.os⟩) ?_
 exact s_ret (e_bin (e_bin (e_bin (e_bin (e_call (es_cons (e_var rfl) (es_cons (e_var rfl) es_nil)) (cell_ok (m := n) (hp := ⟨hp.os.length, hp.os⟩) (ns := ns) (by omega) hk)) (e_bin e_lit (e_var rfl) (o_mulL (by decide) (by decide))) o_add) e_lit o_add) e_lit (o_mulR (by decide) (by decide))) e_lit (o_mod (by decide)))
theorem whole_ok {m : Nat} {hp : Hp} {a : Int} (hm : 1 ≤ m) : callN prog m 12 [.int a] hp = .ok (.bool true) hp := by
 refine x11 (one_le hm) fun n zq27 => ?_
 subst zq27
 refine call_ret [(3, some (.int a))] rfl rfl rfl rfl (hp' := ⟨hp.os.length, hp.os⟩) ?_
 exact s_ret (e_and (b_go (e_isi (e_var rfl) y_int) rfl (b_last (e_not (e_isi (e_var rfl) y_ib) rfl))))
theorem among_t {m : Nat} {hp : Hp} {a lo hi : Int} (hm : 1 ≤ m) (h1 : lo ≤ a) (h2 : a ≤ hi) : callN prog m 1 [.int a, .int lo, .int hi] hp = .ok (.bool true) hp := by
 refine x11 (one_le hm) fun n zq26 => ?_
 subst zq26
 refine call_ret [(6, some (.int a)), (4, some (.int lo)), (5, some (.int hi))] rfl rfl rfl rfl (hp' := ⟨hp.os.length, hp.os⟩) ?_
 exact s_ret (e_and (b_go (e_isi (e_var rfl) y_int) rfl (b_go (e_not (e_isi (e_var rfl) y_ib) rfl) rfl (b_last (e_cmp (e_var rfl) (c_go (e_var rfl) (q_le_t h1) (c_one (e_var rfl) (q_le_t h2))))))))
theorem need_counts_ok {m : Nat} {hp : Hp} {a : Nat} {cs : List Int} (hm : 2 ≤ m) (hl : hp.os[a]? = some (.list (cs.map .int))) (h1 : 1 ≤ cs.length) (h2 : cs.length ≤ 12) (hc : cntsOk cs) : callN prog m 2 [.lst a] hp = .ok .none hp := by
 refine x11 (one_le (Nat.le_of_succ_le hm)) fun n zq25 => ?_
 subst zq25
 refine x11 (e_all (P := prog) (C := callN prog n) (loc := [(19, some (.lst a))]) (hp := ⟨hp.os.length, hp.os⟩) (elt := .call (.glob 0 (.fn 1)) [.var 18, .lit (.int 2), .glob 0 (.int 9)]) (t := .one 18) (k := .plain) (its := [.var 19])
  (fun h => h.os = hp.os) (es_cons (e_var rfl) es_nil) (k_lst hl) rfl (y_all fun h e => by rw [e]; exact hl) rfl (by rw [List.length_map]; exact (Nat.lt_of_le_of_lt h2 ltl)) fun p hp => by
   refine x12 (List.mem_map.mp hp) fun c hcm zq24 => ?_
   subst zq24
   exact ei12 _ rfl (e_call (es_cons (e_var rfl) (es_cons e_lit (es_cons e_glob es_nil))) (among_t (by first | exact lv hm | exact lw hn | omega) (hc c hcm).1 (hc c hcm).2))) fun o ho => ?_
 refine call_non (loc' := [(19, some (.lst a))]) [(19, some (.lst a))] rfl rfl rfl (hp' := Hp.add ⟨hp.os.length, hp.os⟩ o) ?_
 have hn : bfun .len [.lst a] ⟨hp.os.length, hp.os⟩ = .ok (.int cs.length) ⟨hp.os.length, hp.os⟩ := by have := n_lst (hp := ⟨hp.os.length, hp.os⟩) hl; rwa [List.length_map] at this
 refine s_if0 (t_or (ts_go (t_not_f (t_val (e_isi (e_var rfl) (y_lst hl)) v_bool)) (ts_go (t_not_f (t_cmp e_lit (c_go (e_bcall (es_cons (e_var rfl) es_nil) hn) (q_le_t (by exact (Int.ofNat_le.mpr h1))) (c_one e_glob (q_le_t (by exact (Int.ofNat_le.mpr h2))))))) ts_nil))) ?_
 exact s_if0 (t_not_f (t_val ho v_bool)) s_nil
theorem product_ok {m : Nat} {hp : Hp} {a : Nat} {cs : List Int} (hm : 1 ≤ m) (hl : hp.os[a]? = some (.list (cs.map .int))) (h2 : cs.length ≤ 12) (hc : cntsOk cs) : callN prog m 3 [.lst a] hp = .ok (.int (prodC cs)) hp := by
 refine x11 (one_le hm) fun n zq23 => ?_
 subst zq23
 refine call_ret [(19, some (.lst a)), (7, none), (18, none)] rfl rfl rfl rfl (hp' := ⟨hp.os.length, hp.os⟩) ?_
 refine s_asg e_lit ?_
 refine s_for (fun h => h.os = hp.os) (fun s : Int × Option PV => [(19, some (.lst a)), (7, some (.int s.1)), (18, s.2)]) (fun z_ => ⟨hp.os.length, hp.os⟩) (fun i s => s.1 * prodC (cs.drop i) = prodC cs) (1, none) (vs := [.lst a]) (src := .at a 0) (l := cs.map .int)
  (es_cons (e_var rfl) es_nil) (k_lst hl) rfl (y_all fun h e => by rw [e]; exact hl) (by rw [List.length_map]; exact (Nat.lt_of_le_of_lt h2 ltl)) (fun z_ z_ z_ => rfl) (by rw [List.drop_zero, Int.one_mul]) ?_ ?_
 ·intro i s v hv g
  refine x12 (int_at hv) fun c hci zq22 => ?_
  subst zq22
  have hc1 := hc c (List.mem_of_getElem? hci)
  refine ei23 (s.1 * c, some (.int c)) _ rfl (s_asg (e_bin (e_var rfl) (e_var rfl) (o_mulR (by exact (Int.le_of_lt (Int.lt_of_lt_of_le ilt hc1.1))) (by exact (Int.le_of_lt (Int.lt_of_le_of_lt hc1.2 ilt))))) s_nil) ?_
  rw [drop_at hci, prodC] at g
  rw [← g]; exact Int.mul_assoc _ _ _
 ·intro s g
  rw [List.length_map, List.drop_length, prodC, Int.mul_one] at g
  rw [← g]
  exact s_ret (e_var rfl)
theorem counted_in_ok {m : Nat} {hp : Hp} {a : Nat} {cs ps : List Int} (hm : 1 ≤ m) (hl : hp.os[a]? = some (.list (cs.map .int))) (h2 : cs.length ≤ 12) (hc : cntsOk cs) (hr : IsRow cs ps) : callN prog m 4 [.lst a, .tup (ps.map .int)] hp = .ok (.int (numC cs ps)) hp := by
 refine x11 (one_le hm) fun n zq21 => ?_
 subst zq21
 have hlen := hr.len
 refine call_ret [(19, some (.lst a)), (22, some (.tup (ps.map .int))), (7, none), (20, none), (37, none)] rfl rfl rfl rfl (hp' := ⟨hp.os.length, hp.os⟩) ?_
 refine s_asg e_lit ?_
 refine s_for (fun z_ => True) (fun s : Int × Option PV × Option PV => [(19, some (.lst a)), (22, some (.tup (ps.map .int))), (7, some (.int s.1)), (20, s.2.1), (37, s.2.2)]) (fun z_ => ⟨hp.os.length, hp.os⟩) (fun i s => s.1 = numC (cs.drop (cs.length - i)) (ps.drop (cs.length - i))) (0, none, none)
  (vs := [.rng ((cs.map PV.int).length - 1) (-1) (-1)]) (src := .items (rngL ((cs.map PV.int).length - 1) (-1) cs.length)) (l := rngL ((cs.map PV.int).length - 1) (-1) cs.length)
  (es_cons (e_bcall (es_cons (e_bin (e_bcall (es_cons (e_var rfl) es_nil) (n_lst hl)) e_lit o_sub) (es_cons (e_neg e_lit) (es_cons (e_neg e_lit) es_nil))) (j_r3 ?_ ?_)) es_nil) ?_ rfl (y_items _) (by rw [rngL_len]; exact (Nat.lt_of_le_of_lt h2 ltl)) (fun z_ z_ z_ => trivial) (by rw [Nat.sub_zero, List.drop_length, ← hlen, List.drop_length]; rfl) ?_ ?_
 ·rw [List.length_map]; (clear h2 hm hlen; omega)
 ·rw [List.length_map]; omega
 ·have := k_down (hp := ⟨hp.os.length, hp.os⟩) (a := ((cs.map PV.int).length : Int) - 1) (b := -1) (by rw [List.length_map]; (clear h2 hm hlen; omega)) (by rw [List.length_map]; omega) (by decide) (by decide)
  rwa [show (((cs.map PV.int).length : Int) - 1 - -1).toNat = cs.length by rw [List.length_map]; omega] at this
 ·intro i s v hv g
  refine x02 (rngL_at hv) fun hi zq20 => ?_
  subst zq20
  have hk : ((cs.map PV.int).length : Int) - 1 + -1 * (i : Int) = ((cs.length - (i + 1) : Nat) : Int) := by rw [List.length_map]; (clear hm hlen g; omega)
  rw [hk]
  have ed : cs.length - i = cs.length - (i + 1) + 1 := sub1 hi
  rw [ed] at g
  generalize hkk : cs.length - (i + 1) = k at *
  refine x11 (⟨_, List.getElem?_eq_getElem (by (clear hm hlen g hk ed; omega))⟩ : ∃ c, cs[k]? = some c) fun c hck => ?_
  refine x11 (⟨_, List.getElem?_eq_getElem (by (clear h2 hm g hk ed; omega))⟩ : ∃ p, ps[k]? = some p) fun p hpk => ?_
  have hcr := hc c (List.mem_of_getElem? hck)
  have gc : subop (.lst a) (.int (k : Int)) ⟨hp.os.length, hp.os⟩ = some (.int c) := g_lst hl (Int.natCast_nonneg _) (by rw [Int.toNat_natCast, List.getElem?_map, hck]; rfl)
  have gp : subop (.tup (ps.map .int)) (.int (k : Int)) ⟨hp.os.length, hp.os⟩ = some (.int p) := g_tup (Int.natCast_nonneg _) (by rw [Int.toNat_natCast, List.getElem?_map, hpk]; rfl)
  rw [drop_at hck, drop_at hpk, numC]
  rw [← g]
  by_cases hq : s.1 % 2 = 1
  ·rw [if_pos hq]
   exact ei23 (s.1 * c + (c - 1 - p), some (.int (c - 1 - p)), some (.int k)) _ rfl (s_asg (e_sub (e_var rfl) (e_var rfl) gp) (s_cons (i_t (t_cmp (e_bin (e_var rfl) e_lit (o_mod (by decide))) (c_one e_lit (q_eq_t hq))) (s_asg (e_bin (e_bin (e_sub (e_var rfl) (e_var rfl) gc) e_lit o_sub) (e_var rfl) o_sub) s_nil))
    (s_asg (e_bin (e_bin (e_var rfl) (e_sub (e_var rfl) (e_var rfl) gc) (o_mulR (by exact (Int.le_of_lt (Int.lt_of_lt_of_le ilt hcr.1))) (by exact (Int.le_of_lt (Int.lt_of_le_of_lt hcr.2 ilt))))) (e_var rfl) o_add) s_nil))) rfl
  ·rw [if_neg hq]
   exact ei23 (s.1 * c + p, some (.int p), some (.int k)) _ rfl (s_asg (e_sub (e_var rfl) (e_var rfl) gp) (s_if0 (t_cmp (e_bin (e_var rfl) e_lit (o_mod (by decide))) (c_one e_lit (q_eq_f hq)))
    (s_asg (e_bin (e_bin (e_var rfl) (e_sub (e_var rfl) (e_var rfl) gc) (o_mulR (by exact (Int.le_of_lt (Int.lt_of_lt_of_le ilt hcr.1))) (by exact (Int.le_of_lt (Int.lt_of_le_of_lt hcr.2 ilt))))) (e_var rfl) o_add) s_nil))) rfl
 ·intro s g
  rw [rngL_len, Nat.sub_self, List.drop_zero, List.drop_zero] at g
  rw [← g]
  exact s_ret (e_var rfl)
theorem row_of_ok {m : Nat} {hp : Hp} {a : Nat} {cs : List Int} {x : Int} (hm : 1 ≤ m) (hl : hp.os[a]? = some (.list (cs.map .int))) (h2 : cs.length ≤ 12) (hc : cntsOk cs) : callN prog m 5 [.lst a, .int x] hp = .ok (.tup ((rowC cs x).map .int)) hp := by
 refine x11 (one_le hm) fun n zq19 => ?_
 subst zq19
 have hb : below hp.os.length (.tup ((rowC cs x).map .int)) = true := below_ints _ _
 refine call_ret [(19, some (.lst a)), (8, some (.int x)), (7, none), (18, none), (20, none)] rfl rfl rfl hb (hp' := Hp.add ⟨hp.os.length, hp.os⟩ (.list ((rowC cs x).map .int))) ?_
 refine s_asg (e_list es_nil) ?_
 refine s_for (fun h => h.os[a]? = some (.list (cs.map .int))) (fun s : Int × List Int × Option PV × Option PV => [(19, some (.lst a)), (8, some (.int s.1)), (7, some (.lst (Hp.new ⟨hp.os.length, hp.os⟩))), (18, s.2.2.1), (20, s.2.2.2)]) (fun s => Hp.add ⟨hp.os.length, hp.os⟩ (.list (s.2.1.map .int)))
  (fun i s => s.2.1.length ≤ i ∧ s.2.1 ++ rowC (cs.drop i) s.1 = rowC cs x) (x, [], none, none) (vs := [.lst a]) (src := .at a 0) (l := cs.map .int)
  (es_cons (e_var rfl) es_nil) (k_lst (Hp.add_old (hp := ⟨hp.os.length, hp.os⟩) hl)) rfl (y_all fun h e => e) (by rw [List.length_map]; exact (Nat.lt_of_le_of_lt h2 ltl)) (fun z_ z_ z_ => Hp.add_old (hp := ⟨hp.os.length, hp.os⟩) hl) ⟨Nat.le_refl _, rfl⟩ ?_ ?_
 ·intro i s v hv g
  refine x12 (int_at hv) fun c hci zq18 => ?_
  subst zq18
  have hc1 := hc c (List.mem_of_getElem? hci)
  have hi := (List.getElem?_eq_some_iff.mp hci).1
  revert g; refine y02 fun g0 g => ?_
  rw [drop_at hci, rowC] at g
  have happ : ∀ y : Int, method .append (.lst (Hp.new ⟨hp.os.length, hp.os⟩)) [.int y] (Hp.add ⟨hp.os.length, hp.os⟩ (.list (s.2.1.map .int))) = .ok .none (Hp.add ⟨hp.os.length, hp.os⟩ (.list ((s.2.1 ++ [y]).map .int))) := fun y => by
   rw [p_new (Nat.le_refl _) (by rw [List.length_map]; exact (Nat.le_of_lt (Nat.lt_trans (Nat.lt_of_lt_of_le (Nat.lt_of_le_of_lt g0 hi) h2) ltl))), List.map_append]; rfl
  have hrc : recv .append (.lst (Hp.new ⟨hp.os.length, hp.os⟩)) (Hp.add ⟨hp.os.length, hp.os⟩ (.list (s.2.1.map .int))) = true := r_lst Hp.add_new
  by_cases hq : s.1 / c % 2 = 1
  ·rw [if_pos hq] at g
   exact ei24 (s.1 / c, s.2.1 ++ [c - 1 - s.1 % c], some (.int c), some (.int (c - 1 - s.1 % c))) _ rfl (s_asg (e_bin (e_var rfl) (e_var rfl) (o_mod (by exact (Int.lt_of_lt_of_le ilt hc1.1)))) (s_asg (e_bin (e_var rfl) (e_var rfl) (o_div (by exact (Int.lt_of_lt_of_le ilt hc1.1)) (by exact (Int.le_of_lt (Int.lt_of_le_of_lt hc1.2 ilt)))))
    (s_cons (i_t (t_cmp (e_bin (e_var rfl) e_lit (o_mod (by decide))) (c_one e_lit (q_eq_t hq))) (s_asg (e_bin (e_bin (e_var rfl) e_lit o_sub) (e_var rfl) o_sub) s_nil)) (s_expr (e_meth (e_var rfl) hrc (es_cons (e_var rfl) es_nil) (happ _)) s_nil)))) (by rw [List.length_append]; exact Nat.succ_le_succ g0) (by rw [List.append_assoc]; exact g)
  ·rw [if_neg hq] at g
   exact ei24 (s.1 / c, s.2.1 ++ [s.1 % c], some (.int c), some (.int (s.1 % c))) _ rfl (s_asg (e_bin (e_var rfl) (e_var rfl) (o_mod (by exact (Int.lt_of_lt_of_le ilt hc1.1)))) (s_asg (e_bin (e_var rfl) (e_var rfl) (o_div (by exact (Int.lt_of_lt_of_le ilt hc1.1)) (by exact (Int.le_of_lt (Int.lt_of_le_of_lt hc1.2 ilt)))))
    (s_if0 (t_cmp (e_bin (e_var rfl) e_lit (o_mod (by decide))) (c_one e_lit (q_eq_f hq))) (s_expr (e_meth (e_var rfl) hrc (es_cons (e_var rfl) es_nil) (happ _)) s_nil)))) (by rw [List.length_append]; exact Nat.succ_le_succ g0) (by rw [List.append_assoc]; exact g)
 ·intro s g
  have g := g.2
  rw [List.length_map, List.drop_length, rowC, List.append_nil] at g
  rw [← g]
  exact s_ret (e_bcall (es_cons (e_var rfl) es_nil) (u_lst Hp.add_new))
theorem law_num_ok {m : Nat} {hp : Hp} {a : Nat} {cs ps : List Int} (hm : 1 ≤ m) (hl : hp.os[a]? = some (.list (cs.map .int))) (h2 : cs.length ≤ 12) (hc : cntsOk cs) (hr : IsRow cs ps) : callN prog m 16 [.lst a, .tup (ps.map .int)] hp = .ok (.int (numC cs ps)) hp := by
 refine x11 (one_le hm) fun n zq17 => ?_
 subst zq17
 have hlen := hr.len
 refine call_ret [(26, some (.lst a)), (36, some (.tup (ps.map .int))), (12, none), (14, none), (24, none)] rfl rfl rfl rfl (hp' := ⟨hp.os.length, hp.os⟩) ?_
 refine s_asg e_lit ?_
 have hn : bfun .len [.lst a] ⟨hp.os.length, hp.os⟩ = .ok (.int cs.length) ⟨hp.os.length, hp.os⟩ := by have := n_lst (hp := ⟨hp.os.length, hp.os⟩) hl; rwa [List.length_map] at this
 have hk := k_revr (hp := ⟨hp.os.length, hp.os⟩) (n := cs.length) (by exact (Nat.le_of_lt (Nat.lt_of_le_of_lt h2 ltl)))
 refine s_for (fun z_ => True) (fun s : Int × Option PV × Option PV => [(26, some (.lst a)), (36, some (.tup (ps.map .int))), (12, some (.int s.1)), (14, s.2.1), (24, s.2.2)]) (fun z_ => ⟨hp.os.length, hp.os⟩) (fun i s => s.1 = numC (cs.drop (cs.length - i)) (ps.drop (cs.length - i))) (0, none, none)
  (vs := [.rng 0 cs.length 1]) (l := (rngL 0 1 cs.length).reverse)
  (es_cons (e_bcall (es_cons (e_bcall (es_cons (e_var rfl) es_nil) hn) es_nil) (j_r1 (by (clear h2 hm hlen; omega)) (by exact (Int.le_of_lt (Int.lt_of_le_of_lt (Int.ofNat_le.mpr h2) ilt))))) es_nil) hk rfl (y_items _) (by rw [List.length_reverse, rngL_len]; exact (Nat.lt_of_le_of_lt h2 ltl)) (fun z_ z_ z_ => trivial) (by rw [Nat.sub_zero, List.drop_length, ← hlen, List.drop_length]; rfl) ?_ ?_
 ·intro i s v hv g
  have hi : i < cs.length := by have := (List.getElem?_eq_some_iff.mp hv).1; rwa [List.length_reverse, rngL_len] at this
  rw [List.getElem?_reverse (by rw [rngL_len]; exact hi), rngL_len] at hv
  refine x02 (rng0_at hv) fun z_ zq16 => ?_
  subst zq16
  have ed : cs.length - i = cs.length - 1 - i + 1 := by (clear hm hlen g; omega)
  have ee : cs.length - (i + 1) = cs.length - 1 - i := by (clear h2 hm hlen g ed; omega)
  rw [ed] at g
  rw [ee]
  generalize cs.length - 1 - i = k at *
  refine x11 (⟨_, List.getElem?_eq_getElem (by (clear hm hlen hi g ed ee; omega))⟩ : ∃ c, cs[k]? = some c) fun c hck => ?_
  refine x11 (⟨_, List.getElem?_eq_getElem (by (clear h2 hm hi g ed ee; omega))⟩ : ∃ p, ps[k]? = some p) fun p hpk => ?_
  have hcr := hc c (List.mem_of_getElem? hck)
  have gc : subop (.lst a) (.int (k : Int)) ⟨hp.os.length, hp.os⟩ = some (.int c) := g_lst hl (Int.natCast_nonneg _) (by rw [Int.toNat_natCast, List.getElem?_map, hck]; rfl)
  have gp : subop (.tup (ps.map .int)) (.int (k : Int)) ⟨hp.os.length, hp.os⟩ = some (.int p) := g_tup (Int.natCast_nonneg _) (by rw [Int.toNat_natCast, List.getElem?_map, hpk]; rfl)
  rw [drop_at hck, drop_at hpk, numC]
  rw [← g]
  by_cases hq : s.1 % 2 = 1
  ·rw [if_pos hq]
   exact ei23 (s.1 * c + c - 1 - p, some (.int k), some (.int s.1)) _ rfl (s_asg (e_var rfl) (s_asg (e_bin (e_var rfl) (e_sub (e_var rfl) (e_var rfl) gc) (o_mulR (by exact (Int.le_of_lt (Int.lt_of_lt_of_le ilt hcr.1))) (by exact (Int.le_of_lt (Int.lt_of_le_of_lt hcr.2 ilt))))) (s_cons (i_f (t_cmp (e_bin (e_var rfl) e_lit (o_mod (by decide))) (c_one e_lit (q_eq_f (by (clear hm hlen hi g ed ee hcr; omega)))))
    (s_asg (e_bin (e_bin (e_bin (e_var rfl) (e_sub (e_var rfl) (e_var rfl) gc) o_add) e_lit o_sub) (e_sub (e_var rfl) (e_var rfl) gp) o_sub) s_nil)) s_nil))) (by clear g; generalize s.1 * c = z; show z + c - 1 - p = _; (clear hm hlen hi ed ee hq; omega))
  ·rw [if_neg hq]
   exact ei23 (s.1 * c + p, some (.int k), some (.int s.1)) _ rfl (s_asg (e_var rfl) (s_asg (e_bin (e_var rfl) (e_sub (e_var rfl) (e_var rfl) gc) (o_mulR (by exact (Int.le_of_lt (Int.lt_of_lt_of_le ilt hcr.1))) (by exact (Int.le_of_lt (Int.lt_of_le_of_lt hcr.2 ilt))))) (s_cons (i_t (t_cmp (e_bin (e_var rfl) e_lit (o_mod (by decide))) (c_one e_lit (q_eq_t (by (clear hm hlen hi g ed ee hcr; omega)))))
    (s_asg (e_bin (e_var rfl) (e_sub (e_var rfl) (e_var rfl) gp) o_add) s_nil)) s_nil))) rfl
 ·intro s g
  rw [List.length_reverse, rngL_len, Nat.sub_self, List.drop_zero, List.drop_zero] at g
  rw [← g]
  exact s_ret (e_var rfl)
theorem law_counts_ok {m : Nat} {hp : Hp} {ns : List Int} {k w : Int} (hm : 3 ≤ m) (hk : 0 ≤ k) (w0 : 1 ≤ w) (w1 : w ≤ 12) : ∃ cs, callN prog m 13 [.frz ns, .int k, .int w] hp = .ok (.lst hp.new) (hp.add (.list (cs.map .int))) ∧ 1 ≤ cs.length ∧ cs.length ≤ 12 ∧ cntsOk cs := by
 refine x11 (one_le (Nat.le_trans (by decide) hm)) fun n zq15 => ?_
 subst zq15
 have z0 := Int.emod_nonneg (mixed ns k) (show w ≠ 0 by omega)
 have z1 := Int.emod_lt_of_pos (mixed ns k) (show 0 < w by exact (Int.lt_of_lt_of_le ilt w0))
 have y0 := Int.emod_nonneg (mixed ns k / w) (show (3 : Int) ≠ 0 by decide)
 have y1 := Int.emod_lt_of_pos (mixed ns k / w) (show (0 : Int) < 3 by decide)
 have hmx : ∀ (h : Hp) (j : Int), 0 ≤ j → callN prog n 11 [.frz ns, .int j] h = .ok (.int (mixed ns j)) h := fun h j hj => mixed_ok (by first | exact lv hm | exact lw hn | omega) hj
 refine x13 (one_mod (x := mixed ns k) w0 w1) fun u hu u0 u1 => ?_
 generalize hz : 1 + mixed ns k % w = z at *
 have ht : z.toNat = u := by rw [hu]; rfl
 have zz : 0 ≤ z := hu ▸ Int.natCast_nonneg u
 have zl : z ≤ 12 := hu ▸ Int.ofNat_le.mpr u1
 generalize hy : mixed ns k / w % 3 = y at *
 have hi : srcOf .plain [.rng 0 z 1] (Hp.add ⟨hp.os.length, hp.os⟩ (.list [])) = some (.items (rngL 0 1 z.toNat)) := by have := k_up (hp := Hp.add ⟨hp.os.length, hp.os⟩ (.list [])) (a := 0) (b := z) (by decide) (by decide) (Int.le_trans (by decide) zz) (Int.le_trans zl (by decide)); rwa [Int.sub_zero] at this
 refine x15 (x_for (P := prog) (C := callN prog n) (W := callW prog) (body := f_law_counts_b1) (t := .one 14) (k := .plain) (its := [.bcall .range1 [.var 31]]) (hp := Hp.add ⟨hp.os.length, hp.os⟩ (.list [])) (fun z_ => True) (fun s : List Int × Hp × Option PV × Option PV => [(2, some (.frz ns)), (1, some (.int k)), (11, some (.int w)), (13, s.2.2.1), (14, s.2.2.2), (26, some (.lst hp.os.length)), (29, some (.int y)), (31, some (.int z))])
  (fun s => s.2.1) (fun i s => s.1.length = i ∧ cntsOk s.1 ∧ s.2.1.os[hp.os.length]? = some (.list (s.1.map .int)) ∧ s.2.1.lo = hp.os.length) ([], Hp.add ⟨hp.os.length, hp.os⟩ (.list []), none, none) (vs := [.rng 0 z 1]) (l := rngL 0 1 z.toNat)
  (es_cons (e_bcall (es_cons (e_var rfl) es_nil) (j_r1 (Int.le_trans (by decide) zz) (Int.le_trans zl (by decide)))) es_nil) hi rfl (y_items _) (by rw [rngL_len, ht]; exact Nat.lt_of_le_of_lt u1 ltl) (fun z_ z_ z_ => trivial) ⟨rfl, fun c hc => (by cases hc), Hp.add_new (hp := ⟨hp.os.length, hp.os⟩), rfl⟩ (by
   intro i s v hv ⟨g1, g2, g3, g4⟩
   refine x02 (rng0_at hv) fun hiz zq14 => ?_
   subst zq14
   have hj : (0 : Int) ≤ k + 1 + (i : Int) % 3 := add_nn (Int.add_nonneg hk (by decide)) (by decide)
   have i12 : i < 12 := Nat.lt_of_lt_of_le (ht ▸ hiz) u1
   have hcl := fun h => hmx h _ hj
   generalize mixed ns (k + 1 + (i : Int) % 3) / (1 + 7 * (i : Int)) = cl at *
   generalize mixed ns (k + 1 + (i : Int) % 3) = mx at *
   refine x13 (by
    generalize mx / (1 + 7 * (i : Int)) = cl
    obtain q | q | q := of3 y0 y1
    ·exact ei13 (2 + cl % 8) ((up2 cl (by decide)).1) (Int.le_of_lt_add_one (up2 cl (by decide)).2) (by rw [q]; rfl)
    ·exact ei13 (2 + cl % 3) ((up2 cl (by decide)).1) (Int.le_trans (Int.le_of_lt (up2 cl (by decide)).2) (by decide)) (by rw [q]; rfl)
    ·exact ei13 (2 + cl / 8 % 2) ((up2 _ (by decide)).1) (Int.le_trans (Int.le_of_lt (up2 _ (by decide)).2) (by decide)) (by rw [q]; rfl) : ∃ v : Int, 2 ≤ v ∧ v ≤ 9 ∧ [PV.int (2 + mx / (1 + 7 * (i : Int)) % 8), .int (2 + mx / (1 + 7 * (i : Int)) % 3), .int (2 + mx / (1 + 7 * (i : Int)) / 8 % 2)][y.toNat]? = some (.int v)) fun v v0 v1 hv => ?_
   have g5 := fun o => Hp.add_old (o := o) g3
   refine ei26 (s.1 ++ [v], _, some (.int (mx / (1 + 7 * (i : Int)))), some (.int i)) _ rfl (s_asg (e_bin (e_call (es_cons (e_var rfl) (es_cons (e_bin (e_bin (e_var rfl) e_lit o_add) (e_bin (e_var rfl) e_lit (o_mod (by decide))) o_add) es_nil)) (hcl _)) (e_bin e_lit (e_bin e_lit (e_var rfl) (o_mulL (by decide) (by decide))) o_add) (o_div (lin_ok (a := 7) (by decide) i12).1 (lin_ok (a := 7) (by decide) i12).2))
    (s_expr (e_meth (e_var rfl) (r_lst g3) (es_cons (e_sub (e_list (es_cons (e_bin e_lit (e_bin (e_var rfl) e_lit (o_mod (by decide))) o_add) (es_cons (e_bin e_lit (e_bin (e_var rfl) e_lit (o_mod (by decide))) o_add) (es_cons (e_bin e_lit (e_bin (e_bin (e_var rfl) e_lit (o_div (by decide) (by decide))) e_lit (o_mod (by decide))) o_add) es_nil)))) (e_var rfl) (g_lst Hp.add_new y0 hv)) es_nil)
     (p_app (g5 _) (Nat.le_of_eq g4) (by rw [List.length_map, g1]; exact Nat.le_of_lt (Nat.lt_trans i12 ltl)))) s_nil)) ?_ ?_ ?_ g4
   ·rw [List.length_append, g1]; rfl
   ·intro c hc
    rcases List.mem_append.mp hc with q | q
    ·exact g2 c q
    ·rw [List.mem_singleton.mp q]; exact ⟨v0, v1⟩
   ·show _ = some (MObj.list ((s.1 ++ [v]).map .int)); rw [List.map_append]; exact Hp.turn_at (g5 _))) fun s e g1 g2 g3 g4 => ?_
 rw [rngL_len] at g1
 refine ei14 s.1 (call_list [(2, some (.frz ns)), (1, some (.int k)), (11, some (.int w)), (13, none), (14, none), (26, none), (29, none), (31, none)] rfl rfl rfl (Nat.le_refl _) (below_ints _ _) (hp' := s.2.1) ?_ g3) (by rw [g1, ht]; exact u0) (by rw [g1, ht]; exact u1) g2
 refine s_asg (v := .int z) (e_bin e_lit (e_bin (e_call (es_cons (e_var rfl) (es_cons (e_var rfl) es_nil)) (hmx _ _ hk)) (e_var rfl) (o_mod (by exact (Int.lt_of_le_of_lt z0 z1)))) (by rw [← hz]; exact o_add)) ?_
 refine s_asg (v := .int y) (e_bin (e_bin (e_call (es_cons (e_var rfl) (es_cons (e_var rfl) es_nil)) (hmx _ _ hk)) (e_var rfl) (o_div (by exact (Int.lt_of_le_of_lt z0 z1)) (by exact (Int.le_of_lt (Int.lt_of_le_of_lt w1 ilt))))) e_lit (by rw [← hy]; exact o_mod (by decide))) ?_
 exact s_asg (e_list es_nil) (s_cons e (s_ret (e_var rfl)))
theorem move_between_ok {m : Nat} {hp : Hp} {l l' : List Int} {r : Nat} {d : Int} (hm : 1 ≤ m) (h2 : l.length ≤ 12) (hn : Near l l' r d) : callN prog m 6 [.tup (l.map .int), .tup (l'.map .int)] hp = .ok (mvV (r, d)) hp := by
 refine x11 (one_le hm) fun n zq13 => ?_
 subst zq13
 refine x12 hn.ex fun x hx he => ?_
 have hr := (List.getElem?_eq_some_iff.mp hx).1
 have hlen : (l.map PV.int).length = l.length := List.length_map _
 have hi : srcOf .plain [.rng 0 ((l.map PV.int).length : Int) 1] (⟨hp.os.length, hp.os⟩ : Hp) = some (.items (rngL 0 1 l.length)) := by have := k_up (hp := ⟨hp.os.length, hp.os⟩) (a := 0) (b := ((l.map PV.int).length : Int)) (by decide) (by decide) (by (clear h2 hm hr hlen; omega)) (by first | exact lv hm | exact lw hn | omega); rw [Int.sub_zero, Int.toNat_natCast] at this; exact this.trans (by rw [hlen])
 refine call_ret [(38, some (.tup (l.map .int))), (39, some (.tup (l'.map .int))), (37, none)] rfl rfl rfl rfl (hp' := ⟨hp.os.length, hp.os⟩) (s_end ?_)
 refine x_ret (fun z_ => True) (fun s : Option PV => [(38, some (.tup (l.map .int))), (39, some (.tup (l'.map .int))), (37, s)]) (fun z_ => ⟨hp.os.length, hp.os⟩) (fun z_ z_ => True) none r (es_cons (e_bcall (es_cons (e_bcall (es_cons (e_var rfl) es_nil) n_tup) es_nil) (j_r1 (by (clear h2 hm hr hlen; omega)) (by first | exact lv hm | exact lw hn | omega))) es_nil) hi rfl (y_items _) (by rw [rngL_len]; exact (Nat.lt_of_le_of_lt h2 ltl)) (fun z_ z_ z_ => trivial) trivial (by rw [rngL_len]; exact hr) ?_ ?_
 ·intro i s v hir hv _
  refine x02 (rng0_at hv) fun hil zq12 => ?_
  subst zq12
  refine x11 (⟨_, List.getElem?_eq_getElem hil⟩ : ∃ y, l[i]? = some y) fun y hy => ?_
  have hy' : l'[i]? = some y := by rw [he, List.getElem?_set_ne (by first | exact lv hm | exact lw hn | omega)]; exact hy
  exact ei23 (some (.int i)) _ rfl (s_if0 (t_cmp (e_sub (e_var rfl) (e_var rfl) (int_row hy)) (c_one (e_sub (e_var rfl) (e_var rfl) (int_row hy')) (q_ne_f rfl))) s_nil) trivial
 ·intro s v hv _
  refine x02 (rng0_at hv) fun z_ zq11 => ?_
  subst zq11
  have hx' : l'[r]? = some (x + d) := by rw [he, List.getElem?_set_self hr]
  have hd := hn.one
  refine ei12 _ rfl (s_end (i_t (t_cmp (e_sub (e_var rfl) (e_var rfl) (int_row hx)) (c_one (e_sub (e_var rfl) (e_var rfl) (int_row hx')) (q_ne_t (by first | exact lv hm | exact lw hn | omega)))) (s_ret (e_tuple (es_cons (e_var rfl) (es_cons (e_bin (e_sub (e_var rfl) (e_var rfl) (int_row hx')) (e_sub (e_var rfl) (e_var rfl) (int_row hx)) ?_) es_nil))))))
  rw [show d = x + d - x by omega, show x + (x + d - x) = x + d by omega]; exact o_sub
theorem among_no {m : Nat} {hp : Hp} {p : PV} {lo hi : Int} (hm : 1 ≤ m) (h : (∃ a, p = .int a ∧ (a < lo ∨ hi < a)) ∨ (∃ b, p = .bool b) ∨ ∀ n, isity p .int ⟨n, hp.os⟩ = some false) : callN prog m 1 [p, .int lo, .int hi] hp = .ok (.bool false) hp := by
 refine x11 (one_le hm) fun n zq10 => ?_
 subst zq10
 refine call_ret [(6, some p), (4, some (.int lo)), (5, some (.int hi))] rfl rfl rfl rfl (hp' := ⟨hp.os.length, hp.os⟩) (s_ret (e_and ?_))
 rcases h with ⟨a, rfl, h⟩ | ⟨b, rfl⟩ | h
 ·refine b_go (e_isi (e_var rfl) y_int) rfl (b_go (e_not (e_isi (e_var rfl) y_ib) rfl) rfl (b_last (e_cmp (e_var rfl) ?_)))
  by_cases q : lo ≤ a
  ·exact c_go (e_var rfl) (q_le_t q) (c_one (e_var rfl) (q_le_f (by first | exact lv hm | exact lw hn | omega)))
  ·exact c_stop (e_var rfl) (q_le_f q)
 ·exact b_go (e_isi (e_var rfl) rfl) rfl (b_stop (k := true) (e_not (b := true) (e_isi (e_var rfl) rfl) rfl) rfl)
 ·exact b_stop (k := true) (e_isi (e_var rfl) (h _)) rfl
theorem moves_of_ok {m : Nat} {hp : Hp} {a : Nat} {cs ps : List Int} (hm : 2 ≤ m) (hl : hp.os[a]? = some (.list (cs.map .int))) (h1 : 1 ≤ cs.length) (h2 : cs.length ≤ 12) (hc : cntsOk cs) (hr : IsRow cs ps) : callN prog m 7 [.lst a, .tup (ps.map .int)] hp = .ok (.lst hp.new) (hp.add (.list ((dueC cs ps).map mvV))) := by
 refine x11 (one_le (Nat.le_of_succ_le hm)) fun n zq9 => ?_
 subst zq9
 have n0 := num_range hr
 have hrow := row_num hr
 have c1 := counted_in_ok (m := n) (hp := ⟨hp.os.length, hp.os⟩) (by first | exact lv hm | exact lw hn | omega) hl h2 hc hr
 have hs := (sort_due hc hr h1).1
 have hlo : ∀ o, (Hp.add ⟨hp.os.length, hp.os⟩ o).os[a]? = some (.list (cs.map .int)) := fun o => Hp.add_old (hp := ⟨hp.os.length, hp.os⟩) hl
 have hnr := fun (b : Int) (hb : b = numC cs ps + 1 ∨ b = numC cs ps + -1) (b0 : 0 ≤ b) (b1 : b < prodC cs) => near_of hc n0.1 n0.2 b0 b1 hb
 rw [hrow] at hnr
 unfold mvsC at hs
 generalize numC cs ps = N at *
 refine x12 (x_for (P := prog) (C := callN prog n) (W := callW prog) (body := f_moves_of_b1) (t := .one 39) (k := .plain) (its := [.tuple [.bin .sub (.var 8) (.lit (.int 1)), .bin .add (.var 8) (.lit (.int 1))]]) (hp := Hp.add ⟨hp.os.length, hp.os⟩ (.list [])) (fun z_ => True)
  (fun s : List (Nat × Int) × Option PV => [(19, some (.lst a)), (22, some (.tup (ps.map .int))), (7, some (.lst hp.os.length)), (8, some (.int N)), (39, s.2)]) (fun s => Hp.add ⟨hp.os.length, hp.os⟩ (.list (s.1.map mvV)))
  (fun i s => s.1 = ((([N - 1, N + 1] : List Int).take i).filter (inRng cs)).map (mvC cs N)) ([], none)
  (es_cons (e_tuple (es_cons (e_bin (e_var rfl) e_lit o_sub) (es_cons (e_bin (e_var rfl) e_lit o_add) es_nil))) es_nil) k_tup rfl (y_items _) (by show 2 < 1000000; decide) (fun z_ z_ z_ => trivial) rfl (by
   intro i; refine p2 fun l o v hv g => ?_
   refine x12 (int_at (cs := [N - 1, N + 1]) hv) fun b hb zq8 => ?_
   subst zq8
   have hb' : b = N + 1 ∨ b = N + -1 := by
    have := List.mem_of_getElem? hb
    simp only [List.mem_cons, List.not_mem_nil, or_false] at this
    omega
   have hll : (l.map mvV).length ≤ 1000000 := by
    rw [List.length_map, show l = _ from g, List.length_map]
    refine Nat.le_trans (List.length_filter_le _ _) (Nat.le_trans (List.length_take_le' _ _) ?_)
    show 2 ≤ 1000000; decide
   by_cases q : inRng cs b = true
   ·refine x02 (inRng_iff.mp q) fun b0 b1 => ?_
    have happ : method .append (.lst hp.os.length) [mvV (mvC cs N b)] (Hp.add ⟨hp.os.length, hp.os⟩ (.list (l.map mvV))) = .ok .none (Hp.add ⟨hp.os.length, hp.os⟩ (.list ((l ++ [mvC cs N b]).map mvV))) := by
     rw [List.map_append]; exact p_new (hp := ⟨hp.os.length, hp.os⟩) (Nat.le_refl _) hll
    refine ei23 (l ++ [mvC cs N b], some (.int b)) _ rfl (s_cons (i_t (t_cmp e_lit (c_go (e_var rfl) (q_le_t b0) (c_one (e_call (es_cons (e_var rfl) es_nil) (product_ok (by first | exact lv hm | exact lw hn | omega) (hlo _) h2 hc)) (q_lt_t b1)))) (s_expr (e_meth (e_var rfl) (r_lst (Hp.add_new (hp := ⟨hp.os.length, hp.os⟩))) (es_cons (e_call (es_cons (e_var rfl) (es_cons (e_call (es_cons (e_var rfl) (es_cons (e_var rfl) es_nil)) (row_of_ok (by first | exact lv hm | exact lw hn | omega) (hlo _) h2 hc)) es_nil)) (move_between_ok (by first | exact lv hm | exact lw hn | omega) (by rw [hr.len]; exact h2) (hnr b hb' b0 b1))) es_nil) happ) s_nil)) s_nil) ?_
    show l ++ _ = _
    rw [take_at hb, List.filter_append, List.map_append, List.filter_cons_of_pos q, ← show l = _ from g]; rfl
   ·refine ei23 (l, some (.int b)) _ rfl (s_if0 (t_cmp e_lit ?_) s_nil) ?_
    ·by_cases q0 : 0 ≤ b
     ·exact c_go (e_var rfl) (q_le_t q0) (c_one (e_call (es_cons (e_var rfl) es_nil) (product_ok (by first | exact lv hm | exact lw hn | omega) (hlo _) h2 hc)) (q_lt_f (fun z => q (inRng_iff.mpr ⟨q0, z⟩))))
     ·exact c_stop (e_var rfl) (q_le_f q0)
    ·show l = _
     rw [take_at hb, List.filter_append, List.map_append, List.filter_cons_of_neg q, ← show l = _ from g]
     exact (List.append_nil l).symm)) fun s e g => ?_
 rw [show ([PV.int (N - 1), .int (N + 1)]).length = 2 from rfl, show (([N - 1, N + 1] : List Int).take 2) = [N - 1, N + 1] from rfl] at g
 rw [← g] at hs
 refine call_list (a := (Hp.add ⟨hp.os.length, hp.os⟩ (.list (s.1.map mvV))).new) [(19, some (.lst a)), (22, some (.tup (ps.map .int))), (7, none), (8, none), (39, none)] rfl rfl rfl (by rw [Hp.new_add]; exact Nat.le_succ _) (below_mvs _ _) (hp' := (Hp.add ⟨hp.os.length, hp.os⟩ (.list (s.1.map mvV))).add (.list ((dueC cs ps).map mvV))) ?_ Hp.add_new
 exact s_asg (e_call (es_cons (e_var rfl) (es_cons (e_var rfl) es_nil)) c1) (s_asg (e_list es_nil) (s_cons e (s_ret (e_bcall (es_cons (e_var rfl) es_nil) (j_sort (Hp.add_new (hp := ⟨hp.os.length, hp.os⟩)) hs)))))
theorem with_move_ok {m : Nat} {hp : Hp} {ps : List Int} {i : Nat} {d x : Int} (hm : 1 ≤ m) (h2 : ps.length ≤ 12) (hx : ps[i]? = some x) : callN prog m 9 [.tup (ps.map .int), mvV (i, d)] hp = .ok (.tup ((ps.set i (x + d)).map .int)) hp := by
 refine x11 (one_le hm) fun n zq7 => ?_
 subst zq7
 have hi := (List.getElem?_eq_some_iff.mp hx).1
 have g0 : subop (mvV (i, d)) (.int 0) ⟨hp.os.length, hp.os⟩ = some (.int (i : Int)) := g_tup (Int.le_refl _) rfl
 have g1 : subop (mvV (i, d)) (.int 1) ⟨hp.os.length, hp.os⟩ = some (.int d) := g_tup (by decide) rfl
 have hupd := e_upd (P := prog) (C := callN prog n) (loc := [(22, some (.tup (ps.map .int))), (59, some (mvV (i, d)))]) (hp := ⟨hp.os.length, hp.os⟩) (o := .var 22) (i := .sub (.var 59) (.lit (.int 0))) (w := .bin .add (.sub (.var 22) (.sub (.var 59) (.lit (.int 0)))) (.sub (.var 59) (.lit (.int 1)))) (hp1 := ⟨hp.os.length, hp.os⟩) (hp2 := ⟨hp.os.length, hp.os⟩) (hp3 := ⟨hp.os.length, hp.os⟩)
  (fun h => e_var rfl) (fun h => e_sub (e_var rfl) e_lit (g_tup (Int.le_refl _) rfl)) (e_bin (e_sub (e_var rfl) (e_sub (e_var rfl) e_lit g0) (int_row hx)) (e_sub (e_var rfl) e_lit g1) o_add) (Int.natCast_nonneg i) (by rw [List.length_map]; omega) (by rw [List.length_map]; exact (Nat.le_of_lt (Nat.lt_of_le_of_lt h2 ltl)))
 rw [Int.toNat_natCast, ← List.map_set] at hupd
 exact call_ret [(22, some (.tup (ps.map .int))), (59, some (mvV (i, d)))] rfl rfl rfl (below_ints _ _) (s_ret hupd)
theorem turned_ok {m : Nat} {hp : Hp} {ps : List Int} {i : Nat} {d x : Int} (hm : 1 ≤ m) (h2 : ps.length ≤ 12) (hx : ps[i]? = some x) : callN prog m 19 [.tup (ps.map .int), .int (i : Int), .int d] hp = .ok (.tup ((ps.set i (x + d)).map .int)) hp := by
 refine x11 (one_le hm) fun n zq6 => ?_
 subst zq6
 have hi := (List.getElem?_eq_some_iff.mp hx).1
 have hupd := e_upd (P := prog) (C := callN prog n) (loc := [(36, some (.tup (ps.map .int))), (14, some (.int (i : Int))), (51, some (.int d))]) (hp := ⟨hp.os.length, hp.os⟩) (o := .var 36) (i := .var 14) (w := .bin .add (.sub (.var 36) (.var 14)) (.var 51)) (hp1 := ⟨hp.os.length, hp.os⟩) (hp2 := ⟨hp.os.length, hp.os⟩) (hp3 := ⟨hp.os.length, hp.os⟩)
  (fun h => e_var rfl) (fun h => e_var rfl) (e_bin (e_sub (e_var rfl) (e_var rfl) (int_row hx)) (e_var rfl) o_add) (Int.natCast_nonneg i) (by rw [List.length_map]; exact (Int.ofNat_lt.mpr hi)) (by rw [List.length_map]; exact (Nat.le_of_lt (Nat.lt_of_le_of_lt h2 ltl)))
 rw [Int.toNat_natCast, ← List.map_set] at hupd
 exact call_ret [(36, some (.tup (ps.map .int))), (14, some (.int (i : Int))), (51, some (.int d))] rfl rfl rfl (below_ints _ _) (s_ret hupd)
theorem law_due_ok {m : Nat} {hp : Hp} {a : Nat} {cs ps : List Int} (hm : 2 ≤ m) (hl : hp.os[a]? = some (.list (cs.map .int))) (h2 : cs.length ≤ 12) (hc : cntsOk cs) (hr : IsRow cs ps) : callN prog m 20 [.lst a, .tup (ps.map .int)] hp = .ok (.lst hp.new) (hp.add (.list ((dueC cs ps).map mvV))) := by
 refine x11 (one_le (Nat.le_of_succ_le hm)) fun n zq5 => ?_
 subst zq5
 have hlo : ∀ o, (Hp.add ⟨hp.os.length, hp.os⟩ o).os[a]? = some (.list (cs.map .int)) := fun o => Hp.add_old (hp := ⟨hp.os.length, hp.os⟩) hl
 have c1 := fun h => law_num_ok (m := n) (hp := Hp.add ⟨hp.os.length, hp.os⟩ h) (by first | exact lv hm | exact lw hn | omega) (hlo h) h2 hc hr
 have hlen : (cs.map PV.int).length = cs.length := List.length_map _
 have few : ∀ i, (dueAt cs ps i).length ≤ 2 := fun i => by unfold dueAt; rw [List.length_map]; exact List.length_filter_le _ _
 have fewer : ∀ i, ((List.range i).flatMap (dueAt cs ps)).length ≤ 2 * i := fun i => by
  induction i with
  | zero => exact Nat.le_refl _
  | succ i ih => rw [List.range_succ, List.flatMap_append, List.length_append, List.flatMap_singleton]; have := few i; omega
 refine x12 (x_for (P := prog) (C := callN prog n) (W := callW prog) (body := f_law_moves_b1) (t := .two 14 25) (k := .enum) (its := [.var 26]) (hp := Hp.add ⟨hp.os.length, hp.os⟩ (.list [])) (fun h => h.os[a]? = some (.list (cs.map .int)))
  (fun s : List (Nat × Int) × Option PV × Option PV × Option PV => [(26, some (.lst a)), (36, some (.tup (ps.map .int))), (0, some (.lst hp.os.length)), (12, some (.int (numC cs ps))), (14, s.2.1), (25, s.2.2.1), (51, s.2.2.2)]) (fun s => Hp.add ⟨hp.os.length, hp.os⟩ (.list (s.1.map mvV)))
  (fun i s => i ≤ cs.length ∧ s.1 = (List.range i).flatMap (dueAt cs ps)) ([], none, none, none) (vs := [.lst a]) (l := ((cs.map PV.int).zipIdx 0).map fun p => PV.tup [.int p.2, p.1])
  (es_cons (e_var rfl) es_nil) (k_enum (hlo _)) rfl (y_enum (fun h e => e) _ 0 rfl) (by rw [List.length_map, List.length_zipIdx, hlen]; exact (Nat.lt_of_le_of_lt h2 ltl)) (fun z_ z_ z_ => hlo _) ⟨Nat.zero_le _, rfl⟩ (by
   intro i; refine p4 fun l s2 s3 s4 v hv => y02 fun gi g => ?_
   refine x12 (enum_at hv) fun c hci zq4 => ?_
   subst zq4
   have hil := (List.getElem?_eq_some_iff.mp hci).1
   have hcr := hc c (List.mem_of_getElem? hci)
   refine x11 (⟨_, List.getElem?_eq_getElem (by rw [hr.len]; exact hil)⟩ : ∃ x, ps[i]? = some x) fun x hx => ?_
   refine x12 (x_for (P := prog) (C := callN prog n) (W := callW prog) (body := f_law_moves_b2) (t := .one 51) (k := .plain) (its := [.tuple [.neg (.lit (.int 1)), .lit (.int 1)]]) (hp := Hp.add ⟨hp.os.length, hp.os⟩ (.list (l.map mvV))) (fun z_ => True)
    (fun s : List (Nat × Int) × Option PV => [(26, some (.lst a)), (36, some (.tup (ps.map .int))), (0, some (.lst hp.os.length)), (12, some (.int (numC cs ps))), (14, some (.int (i : Int))), (25, some (.int c)), (51, s.2)]) (fun s => Hp.add ⟨hp.os.length, hp.os⟩ (.list (s.1.map mvV)))
    (fun j s => s.1 = l ++ ((([-1, 1] : List Int).take j).filter (good cs ps i)).map fun d => (i, d)) (l, s4)
    (es_cons (e_tuple (es_cons (e_neg e_lit) (es_cons e_lit es_nil))) es_nil) k_tup rfl (y_items _) (by show 2 < 1000000; decide) (fun z_ z_ z_ => trivial) (List.append_nil l).symm (by
     intro j; refine p2 fun l' o v hv g' => ?_
     refine x12 (int_at (cs := [-1, 1]) hv) fun d hd zq3 => ?_
     subst zq3
     have hll : (l'.map mvV).length ≤ 1000000 := by
      rw [List.length_map, show l' = _ from g', List.length_append, List.length_map, show l = _ from g]
      have h5 := List.length_filter_le (good cs ps i) (([-1, 1] : List Int).take j)
      have h6 : (([-1, 1] : List Int).take j).length ≤ 2 := List.length_take_le' _ _
      have h7 := fewer i
      (clear hm hlen hil hcr; omega)
     have gx := int_row (hp := Hp.add ⟨hp.os.length, hp.os⟩ (.list (l'.map mvV))) hx
     have hgd := good_at (d := d) hx hci
     by_cases q0 : 0 ≤ x + d ∧ x + d < c
     ·have hrow := hr.upd hci q0.1 q0.2
      have c2 := law_num_ok (m := n) (hp := Hp.add ⟨hp.os.length, hp.os⟩ (.list (l'.map mvV))) (by first | exact lv hm | exact lw hn | omega) (hlo _) h2 hc hrow
      have tn := turned_ok (m := n) (hp := Hp.add ⟨hp.os.length, hp.os⟩ (.list (l'.map mvV))) (d := d) (by first | exact lv hm | exact lw hn | omega) (by rw [hr.len]; exact h2) hx
      generalize numC cs (ps.set i (x + d)) = N' at *
      generalize numC cs ps = N at *
      have ev : evalT prog (callN prog n) (.cmp (.lit (.int 0)) [.le, .lt] [(.bin .add (.sub (.var 36) (.var 14)) (.var 51)), (.var 25)]) [(26, some (.lst a)), (36, some (.tup (ps.map .int))), (0, some (.lst hp.os.length)), (12, some (.int N)), (14, some (.int (i : Int))), (25, some (.int c)), (51, some (.int d))] (Hp.add ⟨hp.os.length, hp.os⟩ (.list (l'.map mvV))) = .ok true (Hp.add ⟨hp.os.length, hp.os⟩ (.list (l'.map mvV))) :=
       t_cmp e_lit (c_go (e_bin (e_sub (e_var rfl) (e_var rfl) gx) (e_var rfl) o_add) (q_le_t q0.1) (c_one (e_var rfl) (q_lt_t q0.2)))
      by_cases q1 : N' = N + 1 ∨ N' = N + -1
      ·have happ : method .append (.lst hp.os.length) [mvV (i, d)] (Hp.add ⟨hp.os.length, hp.os⟩ (.list (l'.map mvV))) = .ok .none (Hp.add ⟨hp.os.length, hp.os⟩ (.list ((l' ++ [(i, d)]).map mvV))) := by
        rw [List.map_append]; exact p_new (hp := ⟨hp.os.length, hp.os⟩) (Nat.le_refl _) hll
       rw [decide_eq_true ⟨q0.1, q0.2, q1⟩] at hgd
       refine ei23 (l' ++ [(i, d)], some (.int d)) _ rfl (s_cons (i_t ev (s_cons (i_t (t_cmp (e_bcall (es_cons (e_bin (e_call (es_cons (e_var rfl) (es_cons (e_call (es_cons (e_var rfl) (es_cons (e_var rfl) (es_cons (e_var rfl) es_nil))) tn) es_nil)) c2) (e_var rfl) o_sub) es_nil) j_abs) (c_one e_lit (q_eq_t (by split <;> omega)))) (s_expr (e_meth (e_var rfl) (r_lst (Hp.add_new (hp := ⟨hp.os.length, hp.os⟩))) (es_cons (e_tuple (es_cons (e_var rfl) (es_cons (e_var rfl) es_nil))) es_nil) happ) s_nil)) s_nil)) s_nil) ?_
       show l' ++ _ = _
       rw [take_at hd, List.filter_append, List.map_append, List.filter_cons_of_pos hgd, ← List.append_assoc, ← show l' = _ from g']; rfl
      ·rw [decide_eq_false (fun z => q1 z.2.2)] at hgd
       refine ei23 (l', some (.int d)) _ rfl (s_cons (i_t ev (s_if0 (t_cmp (e_bcall (es_cons (e_bin (e_call (es_cons (e_var rfl) (es_cons (e_call (es_cons (e_var rfl) (es_cons (e_var rfl) (es_cons (e_var rfl) es_nil))) tn) es_nil)) c2) (e_var rfl) o_sub) es_nil) j_abs) (c_one e_lit (q_eq_f (by split <;> omega)))) s_nil)) s_nil) ?_
       show l' = _
       rw [take_at hd, List.filter_append, List.map_append, List.filter_cons_of_neg (by rw [hgd]; exact Bool.false_ne_true), ← List.append_assoc, ← show l' = _ from g']
       exact (List.append_nil l').symm
     ·rw [decide_eq_false (fun z => q0 ⟨z.1, z.2.1⟩)] at hgd
      refine ei23 (l', some (.int d)) _ rfl (s_if0 (t_cmp e_lit ?_) s_nil) ?_
      ·by_cases q1 : 0 ≤ x + d
       ·exact c_go (e_bin (e_sub (e_var rfl) (e_var rfl) gx) (e_var rfl) o_add) (q_le_t q1) (c_one (e_var rfl) (q_lt_f fun z => q0 ⟨q1, z⟩))
       ·exact c_stop (e_bin (e_sub (e_var rfl) (e_var rfl) gx) (e_var rfl) o_add) (q_le_f q1)
      ·show l' = _
       rw [take_at hd, List.filter_append, List.map_append, List.filter_cons_of_neg (by rw [hgd]; exact Bool.false_ne_true), ← List.append_assoc, ← show l' = _ from g']
       exact (List.append_nil l').symm)) fun s' e' g' => ?_
   refine ei24 (s'.1, some (.int (i : Int)), some (.int c), s'.2) _ rfl (s_cons e' s_nil) hil ?_
   show s'.1 = _
   rw [List.range_succ, List.flatMap_append, List.flatMap_singleton, ← show l = _ from g]
   exact g')) fun s e g => ?_
 rw [List.length_map, List.length_zipIdx, hlen] at g
 revert g; refine y02 fun z_ g => ?_
 refine call_list (a := hp.os.length) [(26, some (.lst a)), (36, some (.tup (ps.map .int))), (0, none), (12, none), (14, none), (25, none), (51, none)] rfl rfl rfl (Nat.le_refl _) (below_mvs _ _) (hp' := Hp.add ⟨hp.os.length, hp.os⟩ (.list (s.1.map mvV))) (s_asg (e_list es_nil) (s_asg (e_call (es_cons (e_var rfl) (es_cons (e_var rfl) es_nil)) (c1 _)) (s_cons e (s_ret (e_var rfl))))) ?_
 rw [g]; exact Hp.add_new (hp := ⟨hp.os.length, hp.os⟩)
noncomputable def NoInt (lo hi : Int) (os : List MObj) (p : PV) : Prop := (∃ a, p = .int a ∧ (a < lo ∨ hi < a)) ∨ (∃ b, p = .bool b) ∨ ∀ n, isity p .int ⟨n, os⟩ = some false
inductive NoMv (cs ps : List Int) (os : List MObj) : PV → Prop
 | thing {p : PV} : (∀ n, isity p .tuple ⟨n, os⟩ = some false) → NoMv cs ps os p
 | len {l : List PV} : l.length ≠ 2 → NoMv cs ps os (.tup l)
 | fst {x y : PV} : NoInt 0 ((cs.length : Int) - 1) os x → NoMv cs ps os (.tup [x, y])
 | snd {i : Nat} {y : PV} : i < cs.length → NoInt (-1) 1 os y → NoMv cs ps os (.tup [.int (i : Int), y])
 | none {i : Nat} {d : Int} : i < cs.length → -1 ≤ d → d ≤ 1 → (i, d) ∉ dueC cs ps → NoMv cs ps os (mvV (i, d))
theorem is_move_no {m : Nat} {hp : Hp} {a : Nat} {cs ps : List Int} {p : PV} (hm : 3 ≤ m) (hl : hp.os[a]? = some (.list (cs.map .int))) (h1 : 1 ≤ cs.length) (h2 : cs.length ≤ 12) (hc : cntsOk cs) (hr : IsRow cs ps) (h : NoMv cs ps hp.os p) : callN prog m 8 [.lst a, .tup (ps.map .int), p] hp = .ok (.bool false) hp := by
 refine x11 (one_le (Nat.le_trans (by decide) hm)) fun n zq2 => ?_
 subst zq2
 have hn : bfun .len [.lst a] ⟨hp.os.length, hp.os⟩ = .ok (.int cs.length) ⟨hp.os.length, hp.os⟩ := by have := n_lst (hp := ⟨hp.os.length, hp.os⟩) hl; rwa [List.length_map] at this
 cases h with
 | thing h => exact call_ret (hp' := ⟨hp.os.length, hp.os⟩) [(19, some (.lst a)), (22, some (.tup (ps.map .int))), (59, some p)] rfl rfl rfl rfl (s_end (i_t (t_or (ts_stop (k := false) (t_not_t (t_val (e_isi (e_var rfl) (h _)) v_bool)))) (s_ret e_lit)))
 | @len l h => exact call_ret (hp' := ⟨hp.os.length, hp.os⟩) [(19, some (.lst a)), (22, some (.tup (ps.map .int))), (59, some (.tup l))] rfl rfl rfl rfl (s_end (i_t (t_or (ts_go (t_not_f (t_val (e_isi (e_var rfl) y_tup) v_bool)) (ts_stop (k := false) (t_cmp (e_bcall (es_cons (e_var rfl) es_nil) n_tup) (c_one e_lit (q_ne_t (by first | exact lv hm | exact lw hn | omega))))))) (s_ret e_lit)))
 | @fst x y h => exact call_ret (hp' := ⟨hp.os.length, hp.os⟩) [(19, some (.lst a)), (22, some (.tup (ps.map .int))), (59, some (.tup [x, y]))] rfl rfl rfl rfl (s_if0 (t_or (ts_go (t_not_f (t_val (e_isi (e_var rfl) y_tup) v_bool)) (ts_go (t_cmp (e_bcall (es_cons (e_var rfl) es_nil) n_tup) (c_one e_lit (q_ne_f rfl))) ts_nil)))
   (s_end (i_t (t_or (ts_stop (k := false) (t_not_t (t_val (e_call (es_cons (e_sub (e_var rfl) e_lit (g_tup (Int.le_refl _) rfl)) (es_cons e_lit (es_cons (e_bin (e_bcall (es_cons (e_var rfl) es_nil) hn) e_lit o_sub) es_nil))) (among_no (hp := ⟨hp.os.length, hp.os⟩) (by first | exact lv hm | exact lw hn | omega) h)) v_bool)))) (s_ret e_lit))))
 | @snd i y hi h => exact call_ret (hp' := ⟨hp.os.length, hp.os⟩) [(19, some (.lst a)), (22, some (.tup (ps.map .int))), (59, some (.tup [.int (i : Int), y]))] rfl rfl rfl rfl (s_if0 (t_or (ts_go (t_not_f (t_val (e_isi (e_var rfl) y_tup) v_bool)) (ts_go (t_cmp (e_bcall (es_cons (e_var rfl) es_nil) n_tup) (c_one e_lit (q_ne_f rfl))) ts_nil)))
   (s_end (i_t (t_or (ts_go (t_not_f (t_val (e_call (es_cons (e_sub (e_var rfl) e_lit (g_tup (Int.le_refl _) rfl)) (es_cons e_lit (es_cons (e_bin (e_bcall (es_cons (e_var rfl) es_nil) hn) e_lit o_sub) es_nil))) (among_t (by first | exact lv hm | exact lw hn | omega) (by exact (Int.natCast_nonneg _)) (by first | exact lv hm | exact lw hn | omega))) v_bool)) (ts_stop (k := false) (t_not_t (t_val (e_call (es_cons (e_sub (e_var rfl) e_lit (g_tup (by decide) rfl)) (es_cons (e_neg e_lit) (es_cons e_lit es_nil))) (among_no (hp := ⟨hp.os.length, hp.os⟩) (by first | exact lv hm | exact lw hn | omega) h)) v_bool))))) (s_ret e_lit))))
 | @none i d hi d0 d1 h => exact call_ret (hp' := Hp.add ⟨hp.os.length, hp.os⟩ (.list ((dueC cs ps).map mvV))) [(19, some (.lst a)), (22, some (.tup (ps.map .int))), (59, some (mvV (i, d)))] rfl rfl rfl rfl (s_if0 (t_or (ts_go (t_not_f (t_val (e_isi (e_var rfl) y_tup) v_bool)) (ts_go (t_cmp (e_bcall (es_cons (e_var rfl) es_nil) n_tup) (c_one e_lit (q_ne_f rfl))) ts_nil)))
   (s_if0 (t_or (ts_go (t_not_f (t_val (e_call (es_cons (e_sub (e_var rfl) e_lit (g_tup (Int.le_refl _) rfl)) (es_cons e_lit (es_cons (e_bin (e_bcall (es_cons (e_var rfl) es_nil) hn) e_lit o_sub) es_nil))) (among_t (by first | exact lv hm | exact lw hn | omega) (by exact (Int.natCast_nonneg _)) (by first | exact lv hm | exact lw hn | omega))) v_bool)) (ts_go (t_not_f (t_val (e_call (es_cons (e_sub (e_var rfl) e_lit (g_tup (by decide) rfl)) (es_cons (e_neg e_lit) (es_cons e_lit es_nil))) (among_t (by first | exact lv hm | exact lw hn | omega) d0 d1)) v_bool)) ts_nil)))
   (s_ret (e_cmp (e_var rfl) (c_one (e_call (es_cons (e_var rfl) (es_cons (e_var rfl) es_nil)) (moves_of_ok (hp := ⟨hp.os.length, hp.os⟩) (by first | exact lv hm | exact lw hn | omega) hl h1 h2 hc hr)) (by rw [q_inm Hp.add_new, decide_eq_false h]))))))
theorem is_move_t {m : Nat} {hp : Hp} {a : Nat} {cs ps : List Int} {i : Nat} {d : Int} (hm : 3 ≤ m) (hl : hp.os[a]? = some (.list (cs.map .int))) (h1 : 1 ≤ cs.length) (h2 : cs.length ≤ 12) (hc : cntsOk cs) (hr : IsRow cs ps) (h : (i, d) ∈ dueC cs ps) : callN prog m 8 [.lst a, .tup (ps.map .int), mvV (i, d)] hp = .ok (.bool true) hp := by
 refine x11 (one_le (Nat.le_trans (by decide) hm)) fun n zq1 => ?_
 subst zq1
 have hn : bfun .len [.lst a] ⟨hp.os.length, hp.os⟩ = .ok (.int cs.length) ⟨hp.os.length, hp.os⟩ := by have := n_lst (hp := ⟨hp.os.length, hp.os⟩) hl; rwa [List.length_map] at this
 refine x03 (mem_dueC.mp h) fun hi hd z_ => ?_
 dsimp only at hi hd
 exact call_ret (hp' := Hp.add ⟨hp.os.length, hp.os⟩ (.list ((dueC cs ps).map mvV))) [(19, some (.lst a)), (22, some (.tup (ps.map .int))), (59, some (mvV (i, d)))] rfl rfl rfl rfl (s_if0 (t_or (ts_go (t_not_f (t_val (e_isi (e_var rfl) y_tup) v_bool)) (ts_go (t_cmp (e_bcall (es_cons (e_var rfl) es_nil) n_tup) (c_one e_lit (q_ne_f rfl))) ts_nil)))
   (s_if0 (t_or (ts_go (t_not_f (t_val (e_call (es_cons (e_sub (e_var rfl) e_lit (g_tup (Int.le_refl _) rfl)) (es_cons e_lit (es_cons (e_bin (e_bcall (es_cons (e_var rfl) es_nil) hn) e_lit o_sub) es_nil))) (among_t (by first | exact lv hm | exact lw hn | omega) (by exact (Int.natCast_nonneg _)) (by first | exact lv hm | exact lw hn | omega))) v_bool)) (ts_go (t_not_f (t_val (e_call (es_cons (e_sub (e_var rfl) e_lit (g_tup (by decide) rfl)) (es_cons (e_neg e_lit) (es_cons e_lit es_nil))) (among_t (by first | exact lv hm | exact lw hn | omega) (by first | exact lv hm | exact lw hn | omega) (by first | exact lv hm | exact lw hn | omega))) v_bool)) ts_nil)))
   (s_ret (e_cmp (e_var rfl) (c_one (e_call (es_cons (e_var rfl) (es_cons (e_var rfl) es_nil)) (moves_of_ok (hp := ⟨hp.os.length, hp.os⟩) (by first | exact lv hm | exact lw hn | omega) hl h1 h2 hc hr)) (by rw [q_inm Hp.add_new, decide_eq_true h]))))))
end Mine.L13
end
section
namespace Mine.L13
open PySem Mine
theorem Hp.turn_len {hp : Hp} {n : Nat} {o : MObj} : (hp.turn n o).os.length = hp.os.length := List.length_set
inductive ListsAt (hp : Hp) : List Nat → List (List Int) → Prop
 | nil : ListsAt hp [] []
 | cons {a : Nat} {cs : List Int} {as : List Nat} {css : List (List Int)} : hp.os[a]? = some (.list (cs.map .int)) → ListsAt hp as css → ListsAt hp (a :: as) (cs :: css)
theorem ListsAt.len {hp : Hp} {as : List Nat} {css : List (List Int)} (h : ListsAt hp as css) : as.length = css.length := by
 induction h with
 | nil => rfl
 | cons _ _ ih => simp [ih]
theorem ListsAt.on {hp hp' : Hp} {as : List Nat} {css : List (List Int)} (h : ListsAt hp as css) : (∀ a ∈ as, ∀ o, hp.os[a]? = some o → hp'.os[a]? = some o) → ListsAt hp' as css := by
 induction h with
 | nil => exact fun z_ => .nil
 | cons h1 _ ih => exact fun e => .cons (e _ (.head _) _ h1) (ih fun a ha => e a (.tail _ ha))
theorem ListsAt.ext {hp hp' : Hp} {as : List Nat} {css : List (List Int)} (h : ListsAt hp as css) (e : Ext hp hp') : ListsAt hp' as css := h.on fun a z_ o => e a o
theorem ListsAt.app {hp : Hp} {as : List Nat} {css : List (List Int)} {a : Nat} {cs : List Int} (h : ListsAt hp as css) (ha : hp.os[a]? = some (.list (cs.map .int))) : ListsAt hp (as ++ [a]) (css ++ [cs]) := by
 induction h with
 | nil => exact .cons ha .nil
 | cons h1 _ ih => exact .cons h1 ih
theorem ListsAt.get {hp : Hp} {as : List Nat} {css : List (List Int)} (h : ListsAt hp as css) : ∀ {i a : Nat}, as[i]? = some a → ∃ cs, css[i]? = some cs ∧ hp.os[a]? = some (.list (cs.map .int)) := by
 induction h with
 | nil => intro i a e; cases e
 | cons h1 _ ih =>
  intro i a e
  cases i with
  | zero => cases e; exact ei12 _ rfl h1
  | succ i => exact ih e
theorem ListsAt.at {hp : Hp} {as : List Nat} {css : List (List Int)} (h : ListsAt hp as css) : ∀ {i : Nat} {cs : List Int}, css[i]? = some cs → ∃ a, as[i]? = some a ∧ hp.os[a]? = some (.list (cs.map .int)) := by
 induction h with
 | nil => intro i a e; cases e
 | cons h1 _ ih =>
  intro i a e
  cases i with
  | zero => cases e; exact ei12 _ rfl h1
  | succ i => exact ih e
noncomputable def rowV (ps : List Int) : PV := .tup (ps.map .int)
noncomputable def zeros (cs : List Int) : PV := rowV (List.replicate cs.length 0)
structure Rk (hp : Hp) (n x y z : Nat) (as : List Nat) (css : List (List Int)) : Prop where
 ex : ∃ d, hp.os[n]? = some (.inst d) ∧ hp.os[d]? = some (.attrs [(72, some (.lst x)), (109, some (.lst y)), (110, some (.lst z))])
 hx : hp.os[x]? = some (.list (as.map .lst))
 ls : ListsAt hp as css
noncomputable def ExtB (d : Nat) (hp hp' : Hp) : Prop := ∀ (k : Nat) (o : MObj), k ≠ d → hp.os[k]? = some o → hp'.os[k]? = some o
theorem Ext.but {d : Nat} {hp hp' : Hp} (h : Ext hp hp') : ExtB d hp hp' := fun k o z_ e => h k o e
theorem ExtB.trans {d : Nat} {a b c : Hp} (h : ExtB d a b) (h' : ExtB d b c) : ExtB d a c := fun k o hk e => h' k o hk (h k o hk e)
theorem ExtB.turn {d : Nat} (hp : Hp) (o : MObj) : ExtB d hp (hp.turn d o) := fun k x hk e => (Hp.turn_ne (Ne.symm hk)).trans e
noncomputable def goodC (cs : List Int) : Prop := 1 ≤ cs.length ∧ cs.length ≤ 12 ∧ cntsOk cs
theorem pairs_get : ∀ {l m : List PV} {i : Nat} {v : PV}, (pairs l m)[i]? = some v → ∃ a b, l[i]? = some a ∧ m[i]? = some b ∧ v = .tup [a, b]
 | [], _, i, v, h => by cases h
 | _ :: _, [], i, v, h => by cases h
 | a :: l, b :: m, 0, v, h => by cases h; exact ei23 a b rfl rfl rfl
 | a :: l, b :: m, i + 1, v, h => pairs_get (l := l) (m := m) h
theorem pairs_same : ∀ {l m : List PV}, l.length = m.length → (pairs l m).length = l.length
 | [], [], _ => rfl
 | [], _ :: _, h => by cases h
 | _ :: _, [], h => by cases h
 | _ :: l, _ :: m, h => by show (pairs l m).length + 1 = _; rw [pairs_same (Nat.succ.inj h)]; rfl
section
variable {m : Nat} {hp : Hp}
theorem copies {C : Caller} {L : Loc} {b u w : Nat} {as : List Nat} {css : List (List Int)} (hv : getv L w = some (.lst b)) (hg : ∀ v, getv (putv L u v) u = some v) (hb : hp.os[b]? = some (.list (as.map .lst))) (hL : ListsAt hp as css) (hl5 : css.length ≤ 5) {PP : Prop} (kk : ∀ h bs, evalE prog C (.comp (.bcall .list [.var u]) (.one u) .plain [.var w] []) L hp = .ok (.lst h.new) (h.add (.list (bs.map .lst))) → Ext hp h → h.lo = hp.lo → ListsAt h bs css → (∀ q ∈ bs, hp.os.length ≤ q) → PP) : PP := by
 refine x22 (e_compG (P := prog) (C := C) (loc := L) (hp := hp) (elt := .bcall .list [.var u]) (t := .one u) (k := .plain) (its := [.var w]) (fun h => Ext hp h) (fun i h a => Ext hp h ∧ h.lo = hp.lo ∧ ∃ bs, a = bs.map .lst ∧ ListsAt h bs (css.take i) ∧ ∀ q ∈ bs, hp.os.length ≤ q)
  (es_cons (e_var hv) es_nil) (k_lst hb) (y_all fun h q => q _ _ hb) (by rw [List.length_map, hL.len]; exact (Nat.lt_of_le_of_lt hl5 ltl)) (fun z_ z_ z_ g => g.1) ⟨Ext.refl _, rfl, [], rfl, .nil, fun q hq => (by cases hq)⟩ (by
   intro i h a v hv'; refine y03 fun g1 g2 zq => ?_
   revert zq; refine y13 fun bs zq g3 g4 => ?_
   subst zq
   rw [List.getElem?_map] at hv'
   refine x12 (Option.map_eq_some_iff.mp hv') fun x hx zq5 => ?_
   subst zq5
   refine x12 (hL.get hx) fun cs hcs hox => ?_
   refine ⟨_, .lst h.new, h.add (.list (cs.map .int)), rfl, e_bcall (es_cons (e_var (hg _)) es_nil) (j_list (g1 _ _ hox)), g1.trans (Ext.add _ _), g2, bs ++ [h.new], by rw [List.map_append]; rfl, by rw [take_at hcs]; exact (g3.ext (Ext.add _ _)).app Hp.add_new, fun q hq => ?_⟩
   rcases List.mem_append.mp hq with z | z
   ·exact g4 q z
   ·rw [List.mem_singleton.mp z]; exact g1.len)) fun h a e zq6 => ?_
 obtain ⟨g1, g2, bs, rfl, g3, g4⟩ := zq6
 refine kk h bs e g1 g2 ?_ g4
 rwa [List.length_map, hL.len, List.take_length] at g3
theorem noughts {C : Caller} {L : Loc} {b u w : Nat} {as : List Nat} {css : List (List Int)} (hv : getv L w = some (.lst b)) (hg : ∀ v, getv (putv L u v) u = some v) (hb : hp.os[b]? = some (.list (as.map .lst))) (hL : ListsAt hp as css) (hl5 : css.length ≤ 5) (hgd : ∀ cs ∈ css, goodC cs) :
  evalE prog C (.comp (.bin .mul (.tuple [.lit (.int 0)]) (.bcall .len [.var u])) (.one u) .plain [.var w] []) L hp = .ok (.lst hp.new) (hp.add (.list (css.map zeros))) := by
 refine x22 (e_compG (P := prog) (C := C) (loc := L) (hp := hp) (elt := .bin .mul (.tuple [.lit (.int 0)]) (.bcall .len [.var u])) (t := .one u) (k := .plain) (its := [.var w]) (fun h => h = hp) (fun i h a => h = hp ∧ a = (css.take i).map zeros)
  (es_cons (e_var hv) es_nil) (k_lst hb) (y_all fun h q => by rw [q]; exact hb) (by rw [List.length_map, hL.len]; exact (Nat.lt_of_le_of_lt hl5 ltl)) (fun z_ z_ z_ g => g.1) ⟨rfl, rfl⟩ (by
   rintro i h a v hv' ⟨rfl, rfl⟩
   rw [List.getElem?_map] at hv'
   refine x12 (Option.map_eq_some_iff.mp hv') fun x hx zq3 => ?_
   subst zq3
   refine x12 (hL.get hx) fun cs hcs hox => ?_
   have hgc := hgd cs (List.mem_of_getElem? hcs)
   refine ei34 _ (zeros cs) _ rfl (e_bin (e_tuple (es_cons e_lit es_nil)) (e_bcall (es_cons (e_var (hg _)) es_nil) (n_lst hox)) ?_) rfl (by rw [take_at hcs, List.map_append]; rfl)
   rw [List.length_map]
   exact o_rep hgc.1 (Nat.le_trans hgc.2.1 (by decide)))) fun h a e zq4 => ?_
 obtain ⟨rfl, rfl⟩ := zq4
 rw [List.length_map, hL.len, List.take_length] at e
 exact e
theorem init_ok {n d b : Nat} {as : List Nat} {css : List (List Int)} (hm : 3 ≤ m) (h1 : hp.os[n]? = some (.inst d)) (h2 : hp.os[d]? = some (.attrs [])) (hlo : hp.lo ≤ d) (hb : hp.os[b]? = some (.list (as.map .lst))) (hL : ListsAt hp as css) (hl1 : 1 ≤ css.length) (hl5 : css.length ≤ 5) (hg : ∀ cs ∈ css, goodC cs) {PP : Prop} (kk : ∀ hp' x y z bs, callN prog m 28 [.lst n, .lst b] hp = .ok .none hp' → Rk hp' n x y z bs css → hp'.os[y]? = some (.list (css.map zeros)) → hp'.os[z]? = some (.list []) → hp.os.length ≤ x → (∀ q ∈ bs, hp.os.length ≤ q) → hp.os.length ≤ y → hp.os.length ≤ z → ExtB d hp hp' → hp'.lo = hp.lo → PP) : PP := by
 refine x11 (one_le (Nat.le_trans (by decide) hm)) fun k zq2 => ?_
 subst zq2
 have hlen : (as.map PV.lst).length = css.length := by rw [List.length_map, hL.len]
 have hbd : b ≠ d := fun q => by rw [q, h2] at hb; cases hb
 have hnd : n ≠ d := fun q => by rw [q, h2] at h1; cases h1
 obtain ⟨loc1, ef, y, rfl⟩ := x_forn (P := prog) (C := callN prog k) (W := callW prog) (hp := hp) (t := .one 19) (k := .plain) (its := [.var 72]) (body := f_Rack___init___b1) (loc := [(76, some (.lst n)), (72, some (.lst b)), (19, none)]) (fun loc => ∃ y, loc = [(76, some (.lst n)), (72, some (.lst b)), (19, y)])
  (es_cons (e_var rfl) es_nil) (k_lst hb) rfl (y_all fun h q => by rw [q]; exact hb) (by rw [hlen]; exact (Nat.lt_of_le_of_lt hl5 ltl)) ⟨none, rfl⟩ (by
   rintro loc v hv ⟨y, rfl⟩
   refine x12 (List.mem_map.mp hv) fun a ha zq1 => ?_
   subst zq1
   obtain ⟨i, hi, rfl⟩ := List.getElem_of_mem ha
   refine x12 (hL.get (List.getElem?_eq_getElem hi)) fun cs hcs hox => ?_
   have hgc := hg cs (List.mem_of_getElem? hcs)
   exact ⟨_, rfl, s_expr (e_call (es_cons (e_var rfl) es_nil) (need_counts_ok (by first | exact lv hm | exact lw hn | omega) hox hgc.1 hgc.2.1 hgc.2.2)) s_nil, _, rfl⟩)
 refine copies (u := 19) (w := 72) (C := callN prog k) (L := [(76, some (.lst n)), (72, some (.lst b)), (19, y)]) (hp := hp) rfl (fun z_ => rfl) hb hL hl5 fun ha bs e1 x1 l1 B1 fr => ?_
 generalize hH1 : ha.add (.list (bs.map .lst)) = H1 at e1
 have X1 : Ext hp H1 := by rw [← hH1]; exact x1.trans (Ext.add _ _)
 have N1 : H1.os[ha.new]? = some (.list (bs.map .lst)) := by rw [← hH1]; exact Hp.add_new
 have B1' : ListsAt H1 bs css := by rw [← hH1]; exact B1.ext (Ext.add _ _)
 have L1 : H1.lo = hp.lo := by rw [← hH1]; exact l1
 have p1 := put_of (k := 72) (v := .lst ha.new) (X1 _ _ h1) (X1 _ _ h2) (by rw [L1]; exact hlo)
 generalize hG1 : H1.turn d (.attrs (putv [] 72 (.lst ha.new))) = G1 at p1
 have Y1 : ExtB d H1 G1 := by rw [← hG1]; exact ExtB.turn _ _
 have D1 : G1.os[d]? = some (.attrs [(72, some (.lst ha.new))]) := by rw [← hG1]; exact Hp.turn_at (X1 _ _ h2)
 have L2 : G1.lo = hp.lo := by rw [← hG1]; exact L1
 have hbsd : ∀ a ∈ bs, a ≠ d := fun a ha q => by
  obtain ⟨i, hi, rfl⟩ := List.getElem_of_mem ha
  refine x12 (B1'.get (List.getElem?_eq_getElem hi)) fun cs z_ hox => ?_
  rw [q, X1 _ _ h2] at hox; cases hox
 have hasd : ∀ a ∈ as, a ≠ d := fun a ha q => by
  obtain ⟨i, hi, rfl⟩ := List.getElem_of_mem ha
  refine x12 (hL.get (List.getElem?_eq_getElem hi)) fun cs z_ hox => ?_
  rw [q, h2] at hox; cases hox
 have hb1 : G1.os[b]? = some (.list (as.map .lst)) := Y1 _ _ hbd (X1 _ _ hb)
 have hL1 : ListsAt G1 as css := (hL.ext X1).on fun a ha o => Y1 a o (hasd a ha)
 have e2 := noughts (u := 19) (w := 72) (C := callN prog k) (L := [(76, some (.lst n)), (72, some (.lst b)), (19, y)]) (hp := G1) rfl (fun z_ => rfl) hb1 hL1 hl5 hg
 generalize hH2 : G1.add (.list (css.map zeros)) = H2 at e2
 have X2 : Ext G1 H2 := by rw [← hH2]; exact Ext.add _ _
 have N2 : H2.os[G1.new]? = some (.list (css.map zeros)) := by rw [← hH2]; exact Hp.add_new
 have L3 : H2.lo = hp.lo := by rw [← hH2]; exact L2
 have p2 := put_of (k := 109) (v := .lst G1.new) (X2 _ _ (Y1 _ _ hnd (X1 _ _ h1))) (X2 _ _ D1) (by rw [L3]; exact hlo)
 generalize hG2 : H2.turn d (.attrs (putv [(72, some (.lst ha.new))] 109 (.lst G1.new))) = G2 at p2
 have Y2 : ExtB d H2 G2 := by rw [← hG2]; exact ExtB.turn _ _
 have D2 : G2.os[d]? = some (.attrs [(72, some (.lst ha.new)), (109, some (.lst G1.new))]) := by rw [← hG2]; exact Hp.turn_at (X2 _ _ D1)
 have L4 : G2.lo = hp.lo := by rw [← hG2]; exact L3
 generalize hH3 : G2.add (.list []) = H3
 have X3 : Ext G2 H3 := by rw [← hH3]; exact Ext.add _ _
 have N3 : H3.os[G2.new]? = some (.list []) := by rw [← hH3]; exact Hp.add_new
 have L5 : H3.lo = hp.lo := by rw [← hH3]; exact L4
 have n3 : H3.os[n]? = some (.inst d) := X3 _ _ (Y2 _ _ hnd (X2 _ _ (Y1 _ _ hnd (X1 _ _ h1))))
 have p3 := put_of (k := 110) (v := .lst G2.new) n3 (X3 _ _ D2) (by rw [L5]; exact hlo)
 generalize hG3 : H3.turn d (.attrs (putv [(72, some (.lst ha.new)), (109, some (.lst G1.new))] 110 (.lst G2.new))) = G3 at p3
 have Y3 : ExtB d H3 G3 := by rw [← hG3]; exact ExtB.turn _ _
 have D3 : G3.os[d]? = some (.attrs [(72, some (.lst ha.new)), (109, some (.lst G1.new)), (110, some (.lst G2.new))]) := by rw [← hG3]; exact Hp.turn_at (X3 _ _ D2)
 have hne : ∀ {h : Hp} {a : Nat} {l : List PV} {q : Loc}, h.os[a]? = some (.list l) → h.os[d]? = some (.attrs q) → a ≠ d := fun e1 e2 q => by rw [q, e2] at e1; cases e1
 have Z1 : ∀ a o, a ≠ d → H1.os[a]? = some o → G3.os[a]? = some o := fun a o hd e => Y3 _ _ hd (X3 _ _ (Y2 _ _ hd (X2 _ _ (Y1 _ _ hd e))))
 have le1 : hp.os.length ≤ G1.os.length := by rw [← hG1, Hp.turn_len]; exact X1.len
 have le2 : hp.os.length ≤ G2.os.length := by rw [← hG2, Hp.turn_len]; exact Nat.le_trans le1 X2.len
 refine kk G3 ha.new G1.new G2.new bs ?_ ⟨⟨d, Y3 _ _ hnd n3, D3⟩, Z1 _ _ (hne N1 (X1 _ _ h2)) N1, B1'.on fun a ha o => Z1 a o (hbsd a ha)⟩ (Y3 _ _ (hne N2 (X2 _ _ D1)) (X3 _ _ (Y2 _ _ (hne N2 (X2 _ _ D1)) N2))) (Y3 _ _ (hne N3 (X3 _ _ D2)) N3) x1.len fr le1 le2 (fun a o hd e => Z1 a o hd (X1 _ _ e)) (by rw [← hG3]; exact L5)
 refine call_in (loc' := [(76, some (.lst n)), (72, some (.lst b)), (19, y)]) [(76, some (.lst n)), (72, some (.lst b)), (19, none)] rfl rfl rfl ?_
 refine s_if0 (t_or (ts_go (t_not_f (t_val (e_isi (e_var rfl) (y_lst hb)) v_bool)) (ts_go (t_not_f (t_cmp e_lit (c_go (e_bcall (es_cons (e_var rfl) es_nil) (n_lst hb)) (q_le_t (by rw [hlen]; exact (Int.ofNat_le.mpr hl1))) (c_one e_glob (q_le_t (by rw [hlen]; exact (Int.ofNat_le.mpr hl5))))))) ts_nil))) ?_
 refine s_cons ef ?_
 refine s_setA e1 (e_var rfl) p1 ?_
 refine s_setA e2 (e_var rfl) p2 ?_
 refine s_setA (e_list es_nil) (e_var rfl) (hp3 := G3) ?_ s_nil
 rw [hH3]; exact p3
theorem make_ok {b : Nat} {as : List Nat} {css : List (List Int)} (hm : 3 ≤ m) (hlo : hp.lo ≤ hp.os.length) (hb : hp.os[b]? = some (.list (as.map .lst))) (hL : ListsAt hp as css) (hl1 : 1 ≤ css.length) (hl5 : css.length ≤ 5) (hg : ∀ cs ∈ css, goodC cs) {PP : Prop} (kk : ∀ hp' x y z bs, callN prog m 28 [.lst hp.os.length, .lst b] (newInst hp) = .ok .none hp' → Rk hp' hp.os.length x y z bs css → hp'.os[y]? = some (.list (css.map zeros)) → hp'.os[z]? = some (.list []) → hp.os.length ≤ x → (∀ q ∈ bs, hp.os.length ≤ q) → hp.os.length ≤ y → hp.os.length ≤ z → Ext hp hp' → hp'.lo = hp.lo → PP) : PP := by
 have hX : Ext hp (newInst hp) := fun z_ z_ e => inst_old e
 refine init_ok (hp := newInst hp) hm inst_new inst_tab (Nat.le_succ_of_le hlo) (hX _ _ hb) (hL.ext hX) hl1 hl5 hg fun hp' x y z bs e R hy hz lx lb ly lz X l => ?_
 exact kk hp' x y z bs e R hy hz (Nat.le_trans hX.len lx) (fun q hq => Nat.le_trans hX.len (lb q hq)) (Nat.le_trans hX.len ly) (Nat.le_trans hX.len lz) (fun k o q => X k o (fun z => by have := lt_of_at q; rw [z] at this; exact absurd this (Nat.not_lt.mpr (Nat.le_succ _))) (hX _ _ q)) l
end
end Mine.L13
end
section
namespace Mine.L13
open PySem Mine
abbrev Deed := Nat × Nat × Int
noncomputable def deedV (d : Deed) : PV := .tup [.int (d.1 : Int), .int (d.2.1 : Int), .int d.2.2]
noncomputable def nums (css pss : List (List Int)) : List Int := List.zipWith numC css pss
theorem below_rows (k : Nat) : ∀ pss : List (List Int), belows k (pss.map rowV) = true
 | [] => rfl
 | ps :: r => by show (belows k (ps.map .int) && belows k (r.map rowV)) = true; rw [below_ints, below_rows k r]; rfl
theorem below_deeds (k : Nat) : ∀ ds : List Deed, belows k (ds.map deedV) = true
 | [] => rfl
 | d :: r => by show (true && belows k (r.map deedV)) = true; rw [below_deeds k r]; rfl
section
variable {m : Nat} {hp : Hp} {n x y z : Nat} {as : List Nat} {css pss : List (List Int)} {ds : List Deed}
theorem Rk.chests (R : Rk hp n x y z as css) : attrOf (.lst n) 72 hp = some (.lst x) := x12 R.ex fun z_ h1 h2 => attr_of h1 h2 rfl
theorem Rk.places (R : Rk hp n x y z as css) : attrOf (.lst n) 109 hp = some (.lst y) := x12 R.ex fun z_ h1 h2 => attr_of h1 h2 rfl
theorem Rk.done (R : Rk hp n x y z as css) : attrOf (.lst n) 110 hp = some (.lst z) := x12 R.ex fun z_ h1 h2 => attr_of h1 h2 rfl
theorem Rk.tab (R : Rk hp n x y z as css) : (tabOf (.lst n) hp).isSome = true := by
 refine x12 R.ex fun d h1 h2 => ?_
 rw [tab_of h1 h2]; rfl
theorem rows_ok (hm : 1 ≤ m) (R : Rk hp n x y z as css) (hy : hp.os[y]? = some (.list (pss.map rowV))) : callN prog m 29 [.lst n] hp = .ok (.lst hp.new) (hp.add (.list (pss.map rowV))) := by
 refine x11 (one_le hm) fun k zq11 => ?_
 subst zq11
 have R' : Rk ⟨hp.os.length, hp.os⟩ n x y z as css := ⟨R.ex, R.hx, R.ls.on fun z_ z_ z_ e => e⟩
 exact call_list (a := Hp.new ⟨hp.os.length, hp.os⟩) [(76, some (.lst n))] rfl rfl rfl (Nat.le_refl _) (below_rows _ _) (hp' := Hp.add ⟨hp.os.length, hp.os⟩ (.list (pss.map rowV))) (s_ret (e_bcall (es_cons (e_attr (e_var rfl) R'.places) es_nil) (j_list hy))) Hp.add_new
theorem deeds_ok (hm : 1 ≤ m) (R : Rk hp n x y z as css) (hz : hp.os[z]? = some (.list (ds.map deedV))) : callN prog m 31 [.lst n] hp = .ok (.lst hp.new) (hp.add (.list (ds.map deedV))) := by
 refine x11 (one_le hm) fun k zq10 => ?_
 subst zq10
 have R' : Rk ⟨hp.os.length, hp.os⟩ n x y z as css := ⟨R.ex, R.hx, R.ls.on fun z_ z_ z_ e => e⟩
 exact call_list (a := Hp.new ⟨hp.os.length, hp.os⟩) [(76, some (.lst n))] rfl rfl rfl (Nat.le_refl _) (below_deeds _ _) (hp' := Hp.add ⟨hp.os.length, hp.os⟩ (.list (ds.map deedV))) (s_ret (e_bcall (es_cons (e_attr (e_var rfl) R'.done) es_nil) (j_list hz))) Hp.add_new
structure Fit (css pss : List (List Int)) : Prop where
 len : pss.length = css.length
 ok : ∀ (i : Nat) (cs ps : List Int), css[i]? = some cs → pss[i]? = some ps → IsRow cs ps
 good : ∀ cs ∈ css, goodC cs
 l1 : 1 ≤ css.length
 l5 : css.length ≤ 5
theorem nums_at {i : Nat} {cs ps : List Int} (h1 : css[i]? = some cs) (h2 : pss[i]? = some ps) : (nums css pss)[i]? = some (numC cs ps) := by
 unfold nums; rw [List.getElem?_zipWith, h1, h2]
theorem all_nums {C : Caller} {L : Loc} {i u v cx cy : Nat} {e1 e2 : ME} (F : Fit css pss) (hev : evalEs prog C [e1, e2] L hp = .ok [.lst cx, .lst cy] hp) (hx : hp.os[cx]? = some (.list (as.map .lst))) (hL : ListsAt hp as css) (hy : hp.os[cy]? = some (.list (pss.map rowV)))
  (hu : ∀ a b, getv (putv (putv L u a) v b) u = some a) (hv : ∀ a b, getv (putv (putv L u a) v b) v = some b)
  (hC : ∀ a cs ps, hp.os[a]? = some (.list (cs.map .int)) → goodC cs → IsRow cs ps → C i [.lst a, rowV ps] (hp.add .own) = .ok (.int (numC cs ps)) (hp.add .own)) :
  evalE prog C (.comp (.call (.glob 0 (.fn i)) [.var u, .var v]) (.two u v) .zip [e1, e2] []) L hp = .ok (.lst (hp.add .own).new) ((hp.add .own).add (.list ((nums css pss).map .int))) := by
 have hl : (pairs (as.map PV.lst) (pss.map rowV)).length = css.length := by rw [pairs_same (by rw [List.length_map, List.length_map, hL.len, F.len]), List.length_map, hL.len]
 refine x22 (e_compG (P := prog) (C := C) (loc := L) (hp := hp) (elt := .call (.glob 0 (.fn i)) [.var u, .var v]) (t := .two u v) (k := .zip) (its := [e1, e2]) (fun h => h = hp.add .own) (fun i h a => h = hp.add .own ∧ a = ((nums css pss).take i).map .int)
  hev (k_zipl hx hy) (y_zip (fun h q => by rw [q]; exact Hp.add_new) (y_all fun h q => by rw [q]; exact Hp.add_old hx) (y_all fun h q => by rw [q]; exact Hp.add_old hy)) (by rw [hl]; have := F.l5; exact (Nat.lt_of_le_of_lt this ltl)) (fun z_ z_ z_ g => g.1) ⟨rfl, rfl⟩ (by
   rintro j h a w hw ⟨rfl, rfl⟩
   refine x23 (pairs_get hw) fun p q hp1 hp2 zq8 => ?_
   subst zq8
   rw [List.getElem?_map] at hp1 hp2
   refine x12 (Option.map_eq_some_iff.mp hp1) fun a ha zq7 => ?_
   subst zq7
   refine x12 (Option.map_eq_some_iff.mp hp2) fun ps hps zq6 => ?_
   subst zq6
   refine x12 (hL.get ha) fun cs hcs hox => ?_
   refine ei34 _ (.int (numC cs ps)) _ rfl (e_call (es_cons (e_var (hu _ _)) (es_cons (e_var (hv _ _)) es_nil)) (hC _ _ _ hox (F.good cs (List.mem_of_getElem? hcs)) (F.ok _ _ _ hcs hps))) rfl ?_
   rw [take_at (nums_at hcs hps), List.map_append]; rfl)) fun h a e zq9 => ?_
 obtain ⟨rfl, rfl⟩ := zq9
 rw [hl, show css.length = (nums css pss).length by unfold nums; rw [List.length_zipWith, F.len, Nat.min_self], List.take_length] at e
 exact e
theorem numbers_ok (hm : 2 ≤ m) (R : Rk hp n x y z as css) (F : Fit css pss) (hy : hp.os[y]? = some (.list (pss.map rowV))) : callN prog m 30 [.lst n] hp = .ok (.lst hp.new) (hp.add (.list ((nums css pss).map .int))) := by
 refine x11 (one_le (Nat.le_trans (by decide) hm)) fun k zq5 => ?_
 subst zq5
 have R' : Rk ⟨hp.os.length, hp.os⟩ n x y z as css := ⟨R.ex, R.hx, R.ls.on fun z_ z_ z_ e => e⟩
 exact call_list (a := (Hp.add ⟨hp.os.length, hp.os⟩ .own).new) [(76, some (.lst n))] rfl rfl rfl (by rw [Hp.new_add]; exact Nat.le_succ _) (below_ints _ _)
  (s_ret (all_nums (hp := ⟨hp.os.length, hp.os⟩) F (es_cons (e_attr (e_var rfl) R'.chests) (es_cons (e_attr (e_var rfl) R'.places) es_nil)) R'.hx R'.ls hy (fun z_ z_ => rfl) (fun z_ z_ => rfl) (fun a cs ps ha g hr => counted_in_ok (by first | exact lv hm | exact lw hn | omega) (Hp.add_old (hp := ⟨hp.os.length, hp.os⟩) ha) g.2.1 g.2.2 hr))) Hp.add_new
inductive NoDeed (css pss : List (List Int)) (os : List MObj) : PV → Prop
 | thing {p : PV} : (∀ n, isity p .tuple ⟨n, os⟩ = some false) → NoDeed css pss os p
 | len {l : List PV} : l.length ≠ 3 → NoDeed css pss os (.tup l)
 | chest {a b c : PV} : NoInt 0 ((css.length : Int) - 1) os a → NoDeed css pss os (.tup [a, b, c])
 | move {i : Nat} {cs ps : List Int} {b c : PV} : css[i]? = some cs → pss[i]? = some ps → NoMv cs ps os (.tup [b, c]) → NoDeed css pss os (.tup [.int (i : Int), b, c])
theorem do_no {p : PV} (hm : 4 ≤ m) (R : Rk hp n x y z as css) (F : Fit css pss) (hy : hp.os[y]? = some (.list (pss.map rowV))) (h : NoDeed css pss hp.os p) : callN prog m 32 [.lst n, p] hp = .exc 6 hp := by
 refine x11 (one_le (Nat.le_trans (by decide) hm)) fun k zq4 => ?_
 subst zq4
 have hn : bfun .len [.lst x] hp = .ok (.int css.length) hp := by have := n_lst R.hx; rwa [List.length_map, R.ls.len] at this
 cases h with
 | thing h => exact call_ix (loc' := [(76, some (.lst n)), (73, some p)]) [(76, some (.lst n)), (73, some p)] rfl rfl rfl (s_exc (i_t (t_or (ts_stop (k := false) (t_not_t (t_val (e_isi (e_var rfl) (h _)) v_bool)))) x_raise))
 | @len l h => exact call_ix (loc' := [(76, some (.lst n)), (73, some (.tup l))]) [(76, some (.lst n)), (73, some (.tup l))] rfl rfl rfl (s_exc (i_t (t_or (ts_go (t_not_f (t_val (e_isi (e_var rfl) y_tup) v_bool)) (ts_stop (k := false) (t_cmp (e_bcall (es_cons (e_var rfl) es_nil) n_tup) (c_one e_lit (q_ne_t (by first | exact lv hm | exact lw hn | omega))))))) x_raise))
 | @chest a b c h => exact call_ix (loc' := [(76, some (.lst n)), (73, some (.tup [a, b, c]))]) [(76, some (.lst n)), (73, some (.tup [a, b, c]))] rfl rfl rfl (s_exc (i_t (t_or (ts_go (t_not_f (t_val (e_isi (e_var rfl) y_tup) v_bool)) (ts_go (t_cmp (e_bcall (es_cons (e_var rfl) es_nil) n_tup) (c_one e_lit (q_ne_f rfl))) (ts_stop (k := false) (t_not_t (t_val (e_call (es_cons (e_sub (e_var rfl) e_lit (g_tup (Int.le_refl _) rfl)) (es_cons e_lit (es_cons (e_bin (e_bcall (es_cons (e_attr (e_var rfl) R.chests) es_nil) hn) e_lit o_sub) es_nil))) (among_no (by first | exact lv hm | exact lw hn | omega) h)) v_bool)))))) x_raise))
 | @move i cs ps b c h1 h2 h =>
  refine x12 (R.ls.at h1) fun a ha hox => ?_
  have g := F.good cs (List.mem_of_getElem? h1)
  have hi := (List.getElem?_eq_some_iff.mp h1).1
  have gx : subop (.lst x) (.int (i : Int)) hp = some (.lst a) := g_lst R.hx (Int.natCast_nonneg _) (by rw [Int.toNat_natCast, List.getElem?_map, ha]; rfl)
  have gy : subop (.lst y) (.int (i : Int)) hp = some (rowV ps) := g_lst hy (Int.natCast_nonneg _) (by rw [Int.toNat_natCast, List.getElem?_map, h2]; rfl)
  have g0 : subop (.tup [.int (i : Int), b, c]) (.int 0) hp = some (.int (i : Int)) := g_tup (Int.le_refl _) rfl
  exact call_ix (loc' := [(76, some (.lst n)), (73, some (.tup [.int (i : Int), b, c]))]) [(76, some (.lst n)), (73, some (.tup [.int (i : Int), b, c]))] rfl rfl rfl
   (s_if0 (t_or (ts_go (t_not_f (t_val (e_isi (e_var rfl) y_tup) v_bool)) (ts_go (t_cmp (e_bcall (es_cons (e_var rfl) es_nil) n_tup) (c_one e_lit (q_ne_f rfl))) (ts_go (t_not_f (t_val (e_call (es_cons (e_sub (e_var rfl) e_lit g0) (es_cons e_lit (es_cons (e_bin (e_bcall (es_cons (e_attr (e_var rfl) R.chests) es_nil) hn) e_lit o_sub) es_nil))) (among_t (by first | exact lv hm | exact lw hn | omega) (Int.natCast_nonneg _) (by first | exact lv hm | exact lw hn | omega))) v_bool)) ts_nil))))
    (s_exc (i_t (t_not_t (t_val (e_call (es_cons (e_sub (e_attr (e_var rfl) R.chests) (e_sub (e_var rfl) e_lit g0) gx) (es_cons (e_sub (e_attr (e_var rfl) R.places) (e_sub (e_var rfl) e_lit g0) gy) (es_cons (e_slice (e_var rfl) (o_some e_lit) o_none (h_drop (l := [.int (i : Int), b, c]) (k := 1) (by decide) (show (1 : Int) ≤ 3 by decide) (by decide))) es_nil))) (is_move_no (by first | exact lv hm | exact lw hn | omega) hox g.1 g.2.1 g.2.2 (F.ok _ _ _ h1 h2) h)) v_bool)) x_raise)))
theorem Rk.turn {k : Nat} {l l' : List PV} (R : Rk hp n x y z as css) (hk : hp.os[k]? = some (.list l)) (hx : k ≠ x) (ha : k ∉ as) : Rk (hp.turn k (.list l')) n x y z as css := by
 refine x12 R.ex fun d h1 h2 => ?_
 have ne : ∀ {q : Nat} {o : MObj}, hp.os[q]? = some o → (∀ l, o ≠ .list l) → k ≠ q := fun h hl e => by rw [e] at hk; rw [hk] at h; cases h; exact hl _ rfl
 exact ⟨⟨d, (Hp.turn_ne (ne h1 fun z_ q => by cases q)).trans h1, (Hp.turn_ne (ne h2 fun z_ q => by cases q)).trans h2⟩, (Hp.turn_ne hx).trans R.hx, R.ls.on fun a hq o e => (Hp.turn_ne (show k ≠ a from fun q => ha (by rw [q]; exact hq))).trans e⟩
noncomputable def moved (ps : List Int) (i : Nat) (d : Int) : List Int := ps.set i (ps.getD i 0 + d)
theorem moved_at {ps : List Int} {i : Nat} {d v : Int} (h : ps[i]? = some v) : moved ps i d = ps.set i (v + d) := by unfold moved; rw [List.getD_eq_getElem?_getD, h]; rfl
theorem due_row {cs ps : List Int} {i : Nat} {d : Int} (hr : IsRow cs ps) (h : (i, d) ∈ dueC cs ps) : i < ps.length ∧ (d = -1 ∨ d = 1) ∧ IsRow cs (moved ps i d) := by
 refine x03 (mem_dueC.mp h) fun hi hd hg => ?_
 dsimp only at hi hd hg
 have hi' : i < ps.length := by rw [hr.len]; exact hi
 refine ⟨hi', hd, ?_⟩
 refine x11 (⟨_, List.getElem?_eq_getElem hi'⟩ : ∃ v, ps[i]? = some v) fun v hv => ?_
 refine x11 (⟨_, List.getElem?_eq_getElem hi⟩ : ∃ c, cs[i]? = some c) fun c hc => ?_
 rw [good_at hv hc] at hg
 refine x03 (of_decide_eq_true hg) fun g0 g1 z_ => ?_
 rw [moved_at hv]
 exact hr.upd hc g0 g1
theorem do_ok {c i : Nat} {d : Int} {cs ps : List Int} (hm : 4 ≤ m) (R : Rk hp n x y z as css) (F : Fit css pss) (hy : hp.os[y]? = some (.list (pss.map rowV))) (hz : hp.os[z]? = some (.list (ds.map deedV))) (ly : hp.lo ≤ y) (lz : hp.lo ≤ z) (nyz : y ≠ z) (nyx : y ≠ x) (nya : y ∉ as) (hds : ds.length ≤ 1000)
  (h1 : css[c]? = some cs) (h2 : pss[c]? = some ps) (h : (i, d) ∈ dueC cs ps) :
  callN prog m 32 [.lst n, deedV (c, i, d)] hp = .ok .none ((hp.turn y (.list ((pss.set c (moved ps i d)).map rowV))).turn z (.list ((ds ++ [(c, i, d)]).map deedV))) := by
 refine x11 (one_le (Nat.le_trans (by decide) hm)) fun k zq3 => ?_
 subst zq3
 have hn : bfun .len [.lst x] hp = .ok (.int css.length) hp := by have := n_lst R.hx; rwa [List.length_map, R.ls.len] at this
 refine x12 (R.ls.at h1) fun a ha hox => ?_
 have g := F.good cs (List.mem_of_getElem? h1)
 have hr := F.ok _ _ _ h1 h2
 have hi := (List.getElem?_eq_some_iff.mp h1).1
 have hc2 := (List.getElem?_eq_some_iff.mp h2).1
 refine x03 (due_row hr h) fun hip z_ z_ => ?_
 refine x11 (⟨_, List.getElem?_eq_getElem hip⟩ : ∃ v, ps[i]? = some v) fun v hv => ?_
 have gx : subop (.lst x) (.int (c : Int)) hp = some (.lst a) := g_lst R.hx (Int.natCast_nonneg _) (by rw [Int.toNat_natCast, List.getElem?_map, ha]; rfl)
 have gy : subop (.lst y) (.int (c : Int)) hp = some (rowV ps) := g_lst hy (Int.natCast_nonneg _) (by rw [Int.toNat_natCast, List.getElem?_map, h2]; rfl)
 have g0 : subop (deedV (c, i, d)) (.int 0) hp = some (.int (c : Int)) := g_tup (Int.le_refl _) rfl
 have hsl : sliceop (deedV (c, i, d)) (some (.int 1)) none hp = .ok (mvV (i, d)) hp := h_drop (l := [.int (c : Int), .int (i : Int), .int d]) (k := 1) (by decide) (show (1 : Int) ≤ 3 by decide) (by decide)
 have wm := with_move_ok (m := k) (hp := hp) (d := d) (by first | exact lv hm | exact lw hn | omega) (by rw [hr.len]; exact g.2.1) hv
 rw [← moved_at hv] at wm
 have wa := w_at (v := rowV (moved ps i d)) hy ly (Int.natCast_nonneg c) (by rw [List.length_map]; exact Int.ofNat_lt.mpr hc2)
 rw [Int.toNat_natCast, ← List.map_set] at wa
 have R' := R.turn (l' := (pss.set c (moved ps i d)).map rowV) hy nyx nya
 have hz' : (hp.turn y (.list ((pss.set c (moved ps i d)).map rowV))).os[z]? = some (.list (ds.map deedV)) := (Hp.turn_ne nyz).trans hz
 have pa := p_app (v := deedV (c, i, d)) hz' lz (by rw [List.length_map]; exact Nat.le_trans hds (by decide))
 rw [show ds.map deedV ++ [deedV (c, i, d)] = (ds ++ [(c, i, d)]).map deedV by rw [List.map_append]; rfl] at pa
 exact call_in (loc' := [(76, some (.lst n)), (73, some (deedV (c, i, d)))]) [(76, some (.lst n)), (73, some (deedV (c, i, d)))] rfl rfl rfl
  (s_if0 (t_or (ts_go (t_not_f (t_val (e_isi (e_var rfl) y_tup) v_bool)) (ts_go (t_cmp (e_bcall (es_cons (e_var rfl) es_nil) n_tup) (c_one e_lit (q_ne_f rfl))) (ts_go (t_not_f (t_val (e_call (es_cons (e_sub (e_var rfl) e_lit g0) (es_cons e_lit (es_cons (e_bin (e_bcall (es_cons (e_attr (e_var rfl) R.chests) es_nil) hn) e_lit o_sub) es_nil))) (among_t (by first | exact lv hm | exact lw hn | omega) (Int.natCast_nonneg _) (by first | exact lv hm | exact lw hn | omega))) v_bool)) ts_nil))))
   (s_if0 (t_not_f (t_val (e_call (es_cons (e_sub (e_attr (e_var rfl) R.chests) (e_sub (e_var rfl) e_lit g0) gx) (es_cons (e_sub (e_attr (e_var rfl) R.places) (e_sub (e_var rfl) e_lit g0) gy) (es_cons (e_slice (e_var rfl) (o_some e_lit) o_none hsl) es_nil))) (is_move_t (by first | exact lv hm | exact lw hn | omega) hox g.1 g.2.1 g.2.2 hr h)) v_bool))
    (s_store (e_call (es_cons (e_sub (e_attr (e_var rfl) R.places) (e_sub (e_var rfl) e_lit g0) gy) (es_cons (e_slice (e_var rfl) (o_some e_lit) o_none hsl) es_nil)) wm) (e_attr (e_var rfl) R.places) (e_sub (e_var rfl) e_lit g0) wa
     (s_expr (e_meth (e_attr (e_var rfl) R'.done) (r_lst hz') (es_cons (e_var rfl) es_nil) pa) s_nil))))
theorem p_pop {k : Nat} {l : List PV} {v : PV} (hl : hp.os[k]? = some (.list (l ++ [v]))) (hlo : hp.lo ≤ k) : method .pop (.lst k) [] hp = .ok v (hp.turn k (.list l)) := by
 show (match lstAt hp k with | some l => (match l.getLast? with | some v => (match setObj k (.list l.dropLast) hp with | some hp' => Res.ok v hp' | none => .bad) | none => .bad) | none => .bad) = _
 rw [lst_of hl]
 show (match (l ++ [v]).getLast? with | some w => (match setObj k (.list (l ++ [v]).dropLast) hp with | some hp' => Res.ok w hp' | none => .bad) | none => .bad) = _
 rw [List.getLast?_concat, List.dropLast_concat]
 show (match setObj k (.list l) hp with | some hp' => Res.ok v hp' | none => .bad) = _
 unfold setObj; rw [if_pos hlo]; rfl
theorem r_pop {k : Nat} {l : List PV} (hl : hp.os[k]? = some (.list l)) : recv .pop (.lst k) hp = true := by show (lstAt hp k).isSome = true; rw [lst_of hl]; rfl
theorem back_no (hm : 1 ≤ m) (R : Rk hp n x y z as css) (hz : hp.os[z]? = some (.list [])) : callN prog m 33 [.lst n] hp = .exc 6 hp := by
 refine x11 (one_le hm) fun k zq2 => ?_
 subst zq2
 exact call_ix (loc' := [(76, some (.lst n)), (37, none), (70, none), (71, none)]) [(76, some (.lst n)), (37, none), (70, none), (71, none)] rfl rfl rfl (s_exc (i_t (t_cmp (e_bcall (es_cons (e_attr (e_var rfl) R.done) es_nil) (n_lst hz)) (c_one e_lit (q_eq_t rfl))) x_raise))
theorem back_ok {c i : Nat} {d : Int} {ps : List Int} (hm : 2 ≤ m) (R : Rk hp n x y z as css) (hy : hp.os[y]? = some (.list (pss.map rowV))) (hz : hp.os[z]? = some (.list ((ds ++ [(c, i, d)]).map deedV))) (ly : hp.lo ≤ y) (lz : hp.lo ≤ z) (nyz : y ≠ z) (nzx : z ≠ x) (nza : z ∉ as)
  (h2 : pss[c]? = some ps) (hl : ps.length ≤ 12) (hi : i < ps.length) :
  callN prog m 33 [.lst n] hp = .ok .none ((hp.turn z (.list (ds.map deedV))).turn y (.list ((pss.set c (moved ps i (-d))).map rowV))) := by
 refine x11 (one_le (Nat.le_trans (by decide) hm)) fun k zq1 => ?_
 subst zq1
 have hc2 := (List.getElem?_eq_some_iff.mp h2).1
 refine x11 (⟨_, List.getElem?_eq_getElem hi⟩ : ∃ v, ps[i]? = some v) fun v hv => ?_
 have hz2 := hz
 rw [List.map_append] at hz2
 have hp1 := p_pop (v := deedV (c, i, d)) hz2 lz
 have hn := n_lst hz
 rw [List.length_map, List.length_append] at hn
 have R' := R.turn (l' := ds.map deedV) hz nzx nza
 have hy' : (hp.turn z (.list (ds.map deedV))).os[y]? = some (.list (pss.map rowV)) := (Hp.turn_ne (Ne.symm nyz)).trans hy
 have gy : subop (.lst y) (.int (c : Int)) (hp.turn z (.list (ds.map deedV))) = some (rowV ps) := g_lst hy' (Int.natCast_nonneg _) (by rw [Int.toNat_natCast, List.getElem?_map, h2]; rfl)
 have wm := with_move_ok (m := k) (hp := hp.turn z (.list (ds.map deedV))) (d := -d) (by first | exact lv hm | exact lw hn | omega) hl hv
 rw [← moved_at hv] at wm
 have wa := w_at (v := rowV (moved ps i (-d))) hy' ly (Int.natCast_nonneg c) (by rw [List.length_map]; exact Int.ofNat_lt.mpr hc2)
 rw [Int.toNat_natCast, ← List.map_set] at wa
 exact call_in (loc' := [(76, some (.lst n)), (37, some (.int (i : Int))), (70, some (.int d)), (71, some (.int (c : Int)))]) [(76, some (.lst n)), (37, none), (70, none), (71, none)] rfl rfl rfl
  (s_if0 (t_cmp (e_bcall (es_cons (e_attr (e_var rfl) R.done) es_nil) hn) (c_one e_lit (q_eq_f (by show ¬ ((ds.length + 1 : Nat) : Int) = 0; omega))))
   (x_asgT (e_meth (e_attr (e_var rfl) R.done) (r_pop hz) es_nil hp1) (v := deedV (c, i, d)) rfl
    (s_store (e_call (es_cons (e_sub (e_attr (e_var rfl) R'.places) (e_var rfl) gy) (es_cons (e_tuple (es_cons (e_var rfl) (es_cons (e_neg (e_var rfl)) es_nil))) es_nil)) wm) (e_attr (e_var rfl) R'.places) (e_var rfl) wa s_nil)))
end
end Mine.L13
end
section
namespace Mine.L13
open PySem Mine
theorem perm3 (f : Int) {j : Nat} (hj : j < 3) : ∃ i : Nat, i < 3 ∧ ((f + (i : Int)) % 3).toNat = j := by
 refine x12 (tn_mod ((j : Int) - f) 3 (by decide)) fun i h1 h2 => ?_
 refine ei12 i h2 ?_
 replace h1 : ((j : Int) - f) % 3 = (i : Int) := h1
 rw [← h1, Int.add_emod, Int.emod_emod, ← Int.add_emod, show f + ((j : Int) - f) = (j : Int) by omega, show (j : Int) % 3 = (j : Int) from Int.emod_eq_of_lt (Int.natCast_nonneg j) (Int.ofNat_lt.mpr hj)]
 exact Int.toNat_natCast j
theorem Rk.ext {hp hp' : Hp} {n x y z : Nat} {as : List Nat} {css : List (List Int)} (R : Rk hp n x y z as css) (e : Ext hp hp') : Rk hp' n x y z as css := ⟨x12 R.ex fun d h1 h2 => ei12 d (e _ _ h1) (e _ _ h2), e _ _ R.hx, R.ls.ext e⟩
theorem sameE {hp : Hp} : Ext hp ⟨hp.os.length, hp.os⟩ := fun z_ z_ e => e
structure Ask (hp : Hp) (l : Nat → List PV) (h : Hp) (w : List PV) (S : List Nat) : Prop where
 told : h.os[hp.os.length]? = some (.list w)
 len : w.length = 3
 lo : h.lo = hp.os.length
 ext : Ext hp h
 got : ∀ j ∈ S, ∃ f, w[j]? = some (.lst f) ∧ hp.os.length < f ∧ h.os[f]? = some (.list (l j))
 dist : ∀ (j j' f : Nat), j ∈ S → j' ∈ S → w[j]? = some (.lst f) → w[j']? = some (.lst f) → j = j'
theorem Ask.step {hp h : Hp} {l : Nat → List PV} {w : List PV} {S : List Nat} {j : Nat} (A : Ask hp l h w S) (hj : j < 3) (hn : j ∉ S) : storeAt (.lst hp.os.length) (.int (j : Int)) (.lst h.new) (h.add (.list (l j))) = some ((h.add (.list (l j))).turn hp.os.length (.list (w.set j (.lst h.new)))) ∧
  Ask hp l ((h.add (.list (l j))).turn hp.os.length (.list (w.set j (.lst h.new)))) (w.set j (.lst h.new)) (S ++ [j]) := by
 have hw := w_at (v := .lst h.new) (Hp.add_old (o := .list (l j)) A.told) (by show h.lo ≤ _; rw [A.lo]; exact Nat.le_refl _) (Int.natCast_nonneg j) (by rw [A.len]; exact (Int.ofNat_lt.mpr hj))
 rw [Int.toNat_natCast] at hw
 have ht := lt_of_at A.told
 have hjw : j < w.length := by rw [A.len]; exact hj
 have at1 : (w.set j (.lst h.new))[j]? = some (.lst h.new) := List.getElem?_set_self hjw
 have atn : ∀ i, i ≠ j → (w.set j (.lst h.new))[i]? = w[i]? := fun i hi => List.getElem?_set_ne (Ne.symm hi)
 have old : ∀ {k : Nat} {o : MObj}, k ≠ hp.os.length → h.os[k]? = some o → ((h.add (.list (l j))).turn hp.os.length (.list (w.set j (.lst h.new)))).os[k]? = some o := fun hk e => (Hp.turn_ne (Ne.symm hk)).trans (Hp.add_old e)
 have lt : ∀ i ∈ S, ∀ f, w[i]? = some (.lst f) → f < h.new := fun i hi f e => by
  refine x13 (A.got i hi) fun f' e' z_ e2 => ?_
  rw [e] at e'; cases e'; exact lt_of_at e2
 refine ⟨hw, Hp.turn_at (Hp.add_old A.told), by rw [List.length_set]; exact A.len, A.lo, fun k o e => old (Nat.ne_of_lt (lt_of_at e)) (A.ext k o e), fun i hi => ?_, fun i i' f hi hi' e e' => ?_⟩
 ·rcases List.mem_append.mp hi with q | q
  ·refine x13 (A.got i q) fun f e1 e2 e3 => ?_
   exact ei13 f (by rw [atn i (fun z => hn (z ▸ q))]; exact e1) e2 (old (Nat.ne_of_gt e2) e3)
  ·rw [List.mem_singleton.mp q]
   exact ei13 h.new at1 ht ((Hp.turn_ne (Nat.ne_of_lt ht)).trans Hp.add_new)
 ·rcases List.mem_append.mp hi with q | q <;> rcases List.mem_append.mp hi' with q' | q'
  ·rw [atn i (fun z => hn (z ▸ q))] at e; rw [atn i' (fun z => hn (z ▸ q'))] at e'
   exact A.dist i i' f q q' e e'
  ·rw [List.mem_singleton.mp q', at1] at e'; rw [atn i (fun z => hn (z ▸ q))] at e; cases e'
   exact absurd (lt i q _ e) (Nat.lt_irrefl _)
  ·rw [List.mem_singleton.mp q, at1] at e; rw [atn i' (fun z => hn (z ▸ q'))] at e'; cases e
   exact absurd (lt i' q' _ e') (Nat.lt_irrefl _)
  ·rw [List.mem_singleton.mp q, List.mem_singleton.mp q']
section
variable {m : Nat} {hp : Hp} {n x y z : Nat} {as : List Nat} {css pss : List (List Int)} {ds : List Deed}
noncomputable def tells (css pss : List (List Int)) (ds : List Deed) : Nat → List PV
 | 0 => pss.map rowV
 | 1 => (nums css pss).map .int
 | _ => ds.map deedV
theorem three_of {w : List PV} {a b c : PV} (hl : w.length = 3) (h0 : w[0]? = some a) (h1 : w[1]? = some b) (h2 : w[2]? = some c) : w = [a, b, c] := by
 match w, hl with
 | [p, q, r], _ => cases h0; cases h1; cases h2; rfl
theorem asked_ok {f : Int} (hm : 3 ≤ m) (R : Rk hp n x y z as css) (F : Fit css pss) (hy : hp.os[y]? = some (.list (pss.map rowV))) (hz : hp.os[z]? = some (.list (ds.map deedV))) {PP : Prop} (kk : ∀ H f0 f1 f2, callN prog m 21 [.lst n, .int f] hp = .ok (.lst hp.os.length) H → Ext hp H → H.lo = hp.lo → H.os[hp.os.length]? = some (.list [.lst f0, .lst f1, .lst f2]) → hp.os.length < f0 → hp.os.length < f1 → hp.os.length < f2 →
   H.os[f0]? = some (.list (pss.map rowV)) → H.os[f1]? = some (.list ((nums css pss).map .int)) → H.os[f2]? = some (.list (ds.map deedV)) → f0 ≠ f1 → f0 ≠ f2 → f1 ≠ f2 → PP) : PP := by
 refine x11 (one_le (Nat.le_trans (by decide) hm)) fun k zq2 => ?_
 subst zq2
 have three : ∀ i : Nat, ∃ j : Nat, (f + (i : Int)) % 3 = (j : Int) ∧ j < 3 := fun i => tn_mod _ 3 (by decide)
 refine x12 (x_for (P := prog) (C := callN prog k) (W := callW prog) (body := f_law_asked_b1) (t := .one 1) (k := .plain) (its := [.bcall .range1 [.lit (.int 3)]]) (hp := Hp.add ⟨hp.os.length, hp.os⟩ (.list [.none, .none, .none])) (fun z_ => True)
  (fun s : Hp × List PV × Option PV => [(67, some (.lst n)), (87, some (.int f)), (1, s.2.2), (101, some (.lst hp.os.length))]) (fun s => s.1) (fun i s => Ask hp (tells css pss ds) s.1 s.2.1 ((List.range i).map fun i : Nat => ((f + (i : Int)) % 3).toNat)) (Hp.add ⟨hp.os.length, hp.os⟩ (.list [.none, .none, .none]), [.none, .none, .none], none)
  (es_cons (e_bcall (es_cons e_lit es_nil) (j_r1 (by decide) (by decide))) es_nil) (k_up (by decide) (by decide) (by decide) (by decide)) rfl (y_items _) (by rw [rngL_len]; decide) (fun z_ z_ z_ => trivial)
  ⟨Hp.add_new (hp := ⟨hp.os.length, hp.os⟩), rfl, rfl, sameE.trans (Ext.add _ _), fun j hj => (by cases hj), fun j j' f hj => (by cases hj)⟩ (by
   intro i; refine p3 fun h w o v hv A => ?_
   refine x02 (rng0_at (k := 3) hv) fun hi zq1 => ?_
   subst zq1
   replace hi : i < 3 := hi
   refine x12 (three i) fun j hj j3 => ?_
   have hn : j ∉ (List.range i).map fun i : Nat => ((f + (i : Int)) % 3).toNat := fun q => by
    refine x12 (List.mem_map.mp q) fun i' hi' q => ?_
    have := List.mem_range.mp hi'
    omega
   refine x02 (A.step j3 hn) fun hst A' => ?_
   have hS : ((List.range (i + 1)).map fun i : Nat => ((f + (i : Int)) % 3).toNat) = ((List.range i).map fun i : Nat => ((f + (i : Int)) % 3).toNat) ++ [j] := by rw [List.range_succ, List.map_append, List.map_singleton, hj, Int.toNat_natCast]
   refine ei23 ((h.add (.list (tells css pss ds j))).turn hp.os.length (.list (w.set j (.lst h.new))), w.set j (.lst h.new), some (.int i)) _ rfl ?_ (by rw [hS]; exact A')
   have Rh := R.ext A.ext
   have yh := A.ext _ _ hy
   have zh := A.ext _ _ hz
   have ev : ∀ L : Loc, getv L 87 = some (.int f) → getv L 1 = some (.int (i : Int)) → evalE prog (callN prog k) (.bin .mod (.bin .add (.var 87) (.var 1)) (.lit (.int 3))) L h = .ok (.int (j : Int)) h := fun L h1 h2 => by
    rw [← hj]; exact e_bin (e_bin (e_var h1) (e_var h2) o_add) e_lit (o_mod (by decide))
   rcases j with _ | _ | _ | j
   ·exact s_cons (i_t (t_cmp (ev _ rfl rfl) (c_one e_lit (q_eq_t rfl))) (s_store (e_mcall (e_var rfl) Rh.tab es_nil (rows_ok (by first | exact lv hm | exact lw hn | omega) Rh yh)) (e_var rfl) e_lit hst s_nil)) s_nil
   ·exact s_cons (i_f (t_cmp (ev _ rfl rfl) (c_one e_lit (q_eq_f (by decide)))) (s_cons (i_t (t_cmp (ev _ rfl rfl) (c_one e_lit (q_eq_t rfl))) (s_store (e_mcall (e_var rfl) Rh.tab es_nil (numbers_ok (by first | exact lv hm | exact lw hn | omega) Rh F yh)) (e_var rfl) e_lit hst s_nil)) s_nil)) s_nil
   ·exact s_cons (i_f (t_cmp (ev _ rfl rfl) (c_one e_lit (q_eq_f (by decide)))) (s_cons (i_f (t_cmp (ev _ rfl rfl) (c_one e_lit (q_eq_f (by decide)))) (s_store (e_mcall (e_var rfl) Rh.tab es_nil (deeds_ok (by first | exact lv hm | exact lw hn | omega) Rh zh)) (e_var rfl) e_lit hst s_nil)) s_nil)) s_nil
   ·omega)) fun s e A => ?_
 rw [rngL_len] at A
 have all : ∀ j, j < 3 → j ∈ (List.range 3).map fun i : Nat => ((f + (i : Int)) % 3).toNat := fun j hj =>
  x12 (perm3 f hj) fun i h1 h2 => List.mem_map.mpr ⟨i, List.mem_range.mpr h1, h2⟩
 replace A : Ask hp (tells css pss ds) s.1 s.2.1 ((List.range 3).map fun i : Nat => ((f + (i : Int)) % 3).toNat) := A
 refine x13 (A.got 0 (all 0 (by decide))) fun f0 a0 b0 c0 => ?_
 refine x13 (A.got 1 (all 1 (by decide))) fun f1 a1 b1 c1 => ?_
 refine x13 (A.got 2 (all 2 (by decide))) fun f2 a2 b2 c2 => ?_
 have hw : s.2.1 = [.lst f0, .lst f1, .lst f2] := three_of A.len a0 a1 a2
 have told := A.told
 rw [hw] at told
 refine kk ⟨hp.lo, s.1.os⟩ f0 f1 f2 ?_ A.ext rfl told b0 b1 b2 c0 c1 c2 (fun q => ?_) (fun q => ?_) (fun q => ?_)
 ·exact call_grow (hp' := s.1) [(67, some (.lst n)), (87, some (.int f)), (1, none), (101, none)] rfl rfl rfl A.ext (fun k' hk => by cases hk; exact .inr ⟨_, lst_of told, by show (decide (f0 < hp.os.length) && _) = false; rw [decide_eq_false (Nat.not_lt.mpr (Nat.le_of_lt b0))]; rfl⟩) (decide_eq_false (Nat.lt_irrefl _)) (s_asg (e_list (es_cons e_lit (es_cons e_lit (es_cons e_lit es_nil)))) (s_cons e (s_ret (e_var rfl))))
 ·exact absurd (A.dist 0 1 f0 (all 0 (by decide)) (all 1 (by decide)) a0 (q ▸ a1)) (by decide)
 ·exact absurd (A.dist 0 2 f0 (all 0 (by decide)) (all 2 (by decide)) a0 (q ▸ a2)) (by decide)
 ·exact absurd (A.dist 1 2 f1 (all 1 (by decide)) (all 2 (by decide)) a1 (q ▸ a2)) (by decide)
end
end Mine.L13
end
section
namespace Mine.L13
open PySem Mine
theorem Same.tup {l : List PV} (is : List Int) (h : Same l) : Same (.tup (is.map .int) :: l) := h.cons (d := .tuple (is.map .int)) (fun hp => by show (snapAll (snap 6 hp) (is.map .int)).map PyData.tuple = _; rw [snapAll_ints]; rfl) (by show PyData.eqvAll (is.map .int) (is.map .int) = true; rw [eqvAll_ints]; exact decide_eq_true rfl)
theorem Same.none {l : List PV} (h : Same l) : Same (.none :: l) := h.cons (d := .none) (fun z_ => rfl) rfl
theorem same_rows {t : List PV} (ht : Same t) : ∀ pss : List (List Int), Same (pss.map rowV ++ t)
 | [] => ht
 | ps :: r => Same.tup ps (same_rows ht r)
theorem same_deeds {t : List PV} (ht : Same t) : ∀ ds : List Deed, Same (ds.map deedV ++ t)
 | [] => ht
 | d :: r => Same.tup [(d.1 : Int), (d.2.1 : Int), d.2.2] (same_deeds ht r)
theorem same_ints {t : List PV} (ht : Same t) : ∀ l : List Int, Same (l.map .int ++ t)
 | [] => ht
 | a :: r => Same.int a (same_ints ht r)
theorem same_tells {t : List PV} (ht : Same t) (css pss : List (List Int)) (ds : List Deed) (j : Nat) : Same (tells css pss ds j ++ t) := by
 unfold tells; split
 ·exact same_rows ht _
 ·exact same_ints ht _
 ·exact same_deeds ht _
theorem filter_no {α : Type} (l : List α) : (l.filter fun z_ => false) = [] := List.filter_eq_nil_iff.mpr fun z_ z_ => Bool.false_ne_true
section
variable {m : Nat} {hp : Hp} {n x y z : Nat} {as : List Nat} {css pss : List (List Int)} {ds : List Deed}
theorem none_left {k v : Nat} {L : Loc} {e : ME} {vs : List PV} {h h1 : Hp} {src : Src} {is : List Int} (hk : 1 ≤ k) (hev : evalEs prog (callN prog k) [e] L h = .ok vs h1) (hs : srcOf .plain vs h1 = some src) (hy : Yields (fun h => h = h1) src (is.map .int)) (hl : is.length ≤ 1000) (hg : ∀ p, getv (putv L v p) v = some p) :
  evalE prog (callN prog k) (.comp (.var v) (.one v) .plain [e] [.notT (.val (.call (.glob 0 (.fn 12)) [.var v]))]) L h = .ok (.lst h1.new) (h1.add (.list [])) := by
 have := e_comp (P := prog) (C := callN prog k) (loc := L) (hp := h) (elt := .var v) (t := .one v) (k := .plain) (its := [e]) (ifs := [.notT (.val (.call (.glob 0 (.fn 12)) [.var v]))])
  (fun h => h = h1) (fun z_ => false) (fun p => p) hev hs rfl hy rfl (by rw [List.length_map]; exact (Nat.lt_of_le_of_lt hl ltl)) (fun p hp => by
   refine x12 (List.mem_map.mp hp) fun a z_ zq3 => ?_
   subst zq3
   exact ei13 _ rfl (bind_eq (t_not_f (t_val (e_call (es_cons (e_var (hg _)) es_nil) (whole_ok hk)) v_bool)) rfl) (fun q => nomatch q))
 rwa [filter_no, List.map_nil] at this
theorem all_whole_ok {a : Nat} {l : List PV} (hm : 2 ≤ m) (hl : hp.os[a]? = some (.list l)) (h5 : l.length ≤ 1000) (ht : ∀ p ∈ l, ∃ is : List Int, p = .tup (is.map .int) ∧ is.length ≤ 1000) : callN prog m 22 [.lst a] hp = .ok (.bool true) hp := by
 refine x11 (one_le (Nat.le_trans (by decide) hm)) fun k zq2 => ?_
 subst zq2
 refine x12 (x_for (P := prog) (C := callN prog k) (W := callW prog) (body := f_law_all_whole_b1) (t := .one 36) (k := .plain) (its := [.var 102]) (hp := ⟨hp.os.length, hp.os⟩) (fun h => Ext hp h)
  (fun s : Hp × Option PV => [(102, some (.lst a)), (36, s.2)]) (fun s => s.1) (fun i s => Ext hp s.1) (⟨hp.os.length, hp.os⟩, none)
  (es_cons (e_var rfl) es_nil) (k_lst hl) rfl (y_all fun h e => e _ _ hl) (by exact (Nat.lt_of_le_of_lt h5 ltl)) (fun z_ z_ g => g) sameE (by
   intro i; refine p2 fun h o v hv g => ?_
   refine x12 (ht v (List.mem_of_getElem? hv)) fun is zq1 hi => ?_
   subst zq1
   refine ei23 ((h.add (.list [])).add (.list []), some (.tup (is.map .int))) _ rfl (s_if0 (t_or (ts_go (t_not_f (t_val (e_isi (e_var rfl) y_tup) v_bool)) (ts_go (t_cmp (none_left (by first | exact lv hm | exact lw hn | omega) (es_cons (e_var rfl) es_nil) k_tup (y_items _) hi (fun z_ => rfl)) (c_one (e_list es_nil) (q_same_f .nil (Hp.add_old Hp.add_new) Hp.add_new))) ts_nil))) s_nil) ((g.trans (Ext.add _ _)).trans (Ext.add _ _)))) fun s e z_ => ?_
 exact call_ret (hp' := s.1) [(102, some (.lst a)), (36, none)] rfl rfl rfl rfl (s_cons e (s_ret e_lit))
theorem h_linit {k : Nat} {l : List PV} {v : PV} (hl : hp.os[k]? = some (.list (l ++ [v]))) : sliceop (.lst k) none (some (.int (-1))) hp = .ok (.lst hp.new) (hp.add (.list l)) := by
 have c : cut (l ++ [v]) none (some (-1)) = l := by
  show ((l ++ [v]).take (max 0 (min ((-1 : Int) + ((l ++ [v]).length : Int)) ((l ++ [v]).length : Int))).toNat).drop 0 = _
  rw [List.drop_zero, List.length_append, List.length_singleton, Int.min_eq_left (Int.le_trans (Int.add_le_add_right (show (-1 : Int) ≤ 0 by decide) _) (Int.le_of_eq (Int.zero_add _))), show (-1 : Int) + ((l.length + 1 : Nat) : Int) = (l.length : Int) from (Int.add_comm _ _).trans (Int.add_neg_cancel_right (l.length : Int) 1), Int.max_eq_right (Int.natCast_nonneg _), Int.toNat_natCast, List.take_left']
  rfl
 show (match lstAt hp k with | some l => Mine.newList (cut l none (some (-1))) hp | none => .bad) = _
 rw [lst_of hl]
 show Mine.newList (cut (l ++ [v]) none (some (-1))) hp = _
 rw [c]; rfl
end
end Mine.L13
end
section
namespace Mine.L13
open PySem Mine
theorem call_ir {P : MProg} {m n i : Nat} {ps ls : List Nat} {body : List MS} {vs : List PV} {hp hp' : Hp} {v : PV} (loc : Loc) (hm : m = n + 1) (hf : P.funs[i]? = some ⟨false, ps, ls, body⟩) (hz : (zipArgs ps vs).map (· ++ unb ls) = some loc) (hr : exeB P (callN P n) (callW P) body loc hp = .ret v hp') : callN P m i vs hp = .ok v hp' := by
 rw [call_ieq loc hm hf hz, hr]; rfl
noncomputable abbrev rightL (n LC S N K : Nat) (f : Int) (found due nm told : Option PV) : Loc := [(67, some (.lst n)), (61, some (.lst LC)), (94, some (.lst S)), (85, some (.lst N)), (42, some (.lst K)), (87, some (.int f)), (0, found), (52, due), (92, nm), (101, told)]
theorem right_step {k n LC S N K u g : Nat} {f : Int} {nm told : Option PV} {h : Hp} {l kl : List PV} (hg : h.os[g]? = some (.list l)) (hu : h.os[u]? = some (.list l)) (hK : h.os[K]? = some (.list kl)) (same : Same l) (ngK : g ≠ K) (lg : h.lo ≤ g) (lK : h.lo ≤ K) (hl : l.length ≤ 1000000) (hkl : kl.length ≤ 1000000) {PP : Prop} (kk : ∀ H, exeB prog (callN prog k) (callW prog) f_law_right_b1 (rightL n LC S N K f (some (.lst g)) (some (.lst u)) nm told) h = .nxt (rightL n LC S N K f (some (.lst g)) (some (.lst u)) nm told) H → H.lo = h.lo → H.os[g]? = some (.list (l ++ [.none])) → H.os[h.os.length]? = some (.list (l ++ [.none])) → H.os[K]? = some (.list (kl ++ [.tup [.lst g, .lst h.os.length]])) → (∀ q o, q ≠ g → q ≠ K → h.os[q]? = some o → H.os[q]? = some o) → PP) : PP := by
 have p1 := p_app (v := .none) hg lg hl
 refine x12 (⟨_, rfl, Hp.turn_at hg⟩ : ∃ h1, h.turn g (.list (l ++ [.none])) = h1 ∧ h1.os[g]? = some (.list (l ++ [.none]))) fun h1 e1 f1 => ?_
 have len1 : h1.os.length = h.os.length := by rw [← e1]; exact Hp.turn_len
 have old1 : ∀ q o, q ≠ g → h.os[q]? = some o → h1.os[q]? = some o := fun q o hq e => by rw [← e1]; exact (Hp.turn_ne (Ne.symm hq)).trans e
 have lo1 : h1.lo = h.lo := by rw [← e1]; rfl
 rw [e1] at p1
 have p2 := j_list f1
 refine x13 (⟨_, rfl, Hp.add_new, Ext.add _ _⟩ : ∃ h2, h1.add (.list (l ++ [.none])) = h2 ∧ h2.os[h1.new]? = some (.list (l ++ [.none])) ∧ Ext h1 h2) fun h2 e2 f2 X2 => ?_
 have lo2 : h2.lo = h.lo := by rw [← e2]; exact lo1
 rw [e2] at p2
 have hK2 := X2 _ _ (old1 _ _ (Ne.symm ngK) hK)
 have p3 := p_app (v := .tup [.lst g, .lst h1.new]) hK2 (by rw [lo2]; exact lK) hkl
 have hn : h1.new = h.os.length := len1
 have nK : h1.new ≠ K := by rw [hn]; exact Nat.ne_of_gt (lt_of_at hK)
 refine kk _ (s_if0 (t_or (ts_go (t_not_f (t_val (e_isi (e_var rfl) (y_lst hg)) v_bool)) (ts_go (t_cmp (e_var rfl) (c_one (e_var rfl) (q_same_f same hg hu))) ts_nil))) (s_expr (e_meth (e_var rfl) (r_lst hg) (es_cons e_lit es_nil) p1) (s_expr (e_meth (e_var rfl) (r_lst (old1 _ _ (Ne.symm ngK) hK)) (es_cons (e_tuple (es_cons (e_var rfl) (es_cons (e_bcall (es_cons (e_var rfl) es_nil) p2) es_nil))) es_nil) p3) s_nil))) lo2 ((Hp.turn_ne (Ne.symm ngK)).trans (X2 _ _ f1)) ?_ ?_ (fun q o hq hqK e => (Hp.turn_ne (Ne.symm hqK)).trans (X2 _ _ (old1 _ _ hq e)))
 ·rw [← hn]; exact (Hp.turn_ne (Ne.symm nK)).trans f2
 ·rw [← hn]; exact Hp.turn_at hK2
section
variable {m : Nat} {hp : Hp} {n x y z : Nat} {as : List Nat} {css pss : List (List Int)} {ds : List Deed}
structure Going (hp H4 : Hp) (l : Nat → List PV) (ff : Nat → Nat) (K : Nat) (kl : List PV) (i : Nat) (h : Hp) (kn : List PV) : Prop where
 lo : h.lo = hp.lo
 hK : h.os[K]? = some (.list (kl ++ kn))
 len : kn.length = i
 ext : ∀ (q : Nat) (o : MObj), q ≠ K → (∀ j, j < 3 → q ≠ ff j) → H4.os[q]? = some o → h.os[q]? = some o
 rest : ∀ j, i ≤ j → j < 3 → h.os[ff j]? = some (.list (l j))
 past : ∀ j, j < i → h.os[ff j]? = some (.list (l j ++ [.none]))
 kept : ∀ p ∈ kn, ∃ j b, j < i ∧ p = .tup [.lst (ff j), .lst b] ∧ hp.os.length ≤ b ∧ b ≠ K ∧ (∀ j, j < 3 → b ≠ ff j) ∧ h.os[b]? = some (.list (l j ++ [.none]))
theorem Going.next {H4 h H : Hp} {l : Nat → List PV} {ff : Nat → Nat} {K i : Nat} {kl kn : List PV} (hi : i < 3) (G : Going hp H4 l ff K kl i h kn) (fK : ∀ j, j < 3 → ff j ≠ K) (ffi : ∀ j j', j < 3 → j' < 3 → ff j = ff j' → j = j') (flt : ∀ j, j < 3 → ff j < h.os.length) (hle : hp.os.length ≤ h.os.length)
  (h1 : H.lo = h.lo) (h2 : H.os[ff i]? = some (.list (l i ++ [.none]))) (h3 : H.os[h.os.length]? = some (.list (l i ++ [.none]))) (h4 : H.os[K]? = some (.list (kl ++ kn ++ [.tup [.lst (ff i), .lst h.os.length]]))) (h5 : ∀ (q : Nat) (o : MObj), q ≠ ff i → q ≠ K → h.os[q]? = some o → H.os[q]? = some o) :
  Going hp H4 l ff K kl (i + 1) H (kn ++ [.tup [.lst (ff i), .lst h.os.length]]) := by
 refine ⟨h1.trans G.lo, by rw [← List.append_assoc]; exact h4, by rw [List.length_append, G.len]; rfl, fun q o hq hf e => h5 q o (hf i hi) hq (G.ext q o hq hf e), fun j hj j3 => h5 _ _ (fun q => absurd (ffi _ _ j3 hi q) (by first | exact lv hm | exact lw hn | omega)) (fK j j3) (G.rest j (by first | exact lv hm | exact lw hn | omega) j3), fun j hj => ?_, fun p hp' => ?_⟩
 ·by_cases q : j = i
  ·rw [q]; exact h2
  ·exact h5 _ _ (fun e => q (ffi _ _ (by first | exact lv hm | exact lw hn | omega) hi e)) (fK j (by first | exact lv hm | exact lw hn | omega)) (G.past j (by first | exact lv hm | exact lw hn | omega))
 ·rcases List.mem_append.mp hp' with q | q
  ·refine x26 (G.kept p q) fun j b j1 e b1 b2 b3 b4 => ?_
   exact ei26 j b (by omega) e b1 b2 b3 (h5 _ _ (b3 i hi) b2 b4)
  ·rw [List.mem_singleton.mp q]
   exact ei26 i h.os.length (Nat.lt_succ_self _) rfl hle (fun e => absurd (lt_of_at G.hK) (by rw [← e]; exact Nat.lt_irrefl _)) (fun j j3 => Nat.ne_of_gt (flt j j3)) h3
noncomputable def NewKept (k : Nat) (H : Hp) (p : PV) : Prop := ∃ a b l, p = .tup [.lst a, .lst b] ∧ k ≤ a ∧ k ≤ b ∧ H.os[a]? = some (.list l) ∧ H.os[b]? = some (.list l) ∧ Same l
theorem right_end {k n LC S N K t f0 f1 f2 : Nat} {f : Int} {o1 o2 nm : Option PV} {h5 : Hp} (hm : 4 ≤ k + 1) (F : Fit css pss) (hds : ds.length ≤ 900) (t5 : h5.os[t]? = some (.list [.lst f0, .lst f1, .lst f2])) (p0 : h5.os[f0]? = some (.list (pss.map rowV ++ [.none]))) (p1 : h5.os[f1]? = some (.list ((nums css pss).map .int ++ [.none]))) (p2 : h5.os[f2]? = some (.list (ds.map deedV ++ [.none]))) {PP : Prop} (kk : ∀ h9, exeB prog (callN prog k) (callW prog) (f_law_right.body.drop 3) (rightL n LC S N K f o1 o2 nm (some (.lst t))) h5 = .ret (.bool true) h9 → Ext h5 h9 → h9.lo = h5.lo → PP) : PP := by
 have hpl : pss.length ≤ 5 := by rw [F.len]; exact F.l5
 refine addE h5 (.list ((nums css pss).map .int)) fun h6 hh6 X6 N6 => ?_
 have e4 := none_left (k := k) (v := 12) (L := rightL n LC S N K f o1 o2 nm (some (.lst t))) (e := .slice (.sub (.var 101) (.lit (.int 1))) none (some (.neg (.lit (.int 1))))) (h := h5) (h1 := h6) (by first | exact lv hm | exact lw hn | omega) (es_cons (e_slice (e_sub (e_var rfl) e_lit (g_lst t5 (by decide) rfl)) o_none (o_some (e_neg e_lit)) (by rw [← hh6]; exact h_linit p1)) es_nil) (k_lst N6) (y_all fun h q => by rw [q]; exact N6) (by unfold nums; rw [List.length_zipWith]; omega) (fun z_ => rfl)
 refine x14 (⟨_, rfl, (Ext.add _ _).trans (Ext.add _ _), Hp.add_old Hp.add_new, Hp.add_new⟩ : ∃ h7, (h6.add (.list [])).add (.list []) = h7 ∧ Ext h6 h7 ∧ h7.os[h6.new]? = some (.list []) ∧ h7.os[(h6.add (.list [])).new]? = some (.list [])) fun h7 hh7 X7 N7 N7' => ?_
 have X57 : Ext h5 h7 := X6.trans X7
 refine addE h7 (.list (pss.map rowV)) fun h8 hh8 X8 N8 => ?_
 have a8 := all_whole_ok (m := k) (by first | exact lv hm | exact lw hn | omega) N8 (by rw [List.length_map]; exact (Nat.le_of_lt (Nat.lt_of_le_of_lt hpl ltl))) (fun p hp => by
  refine x12 (List.mem_map.mp hp) fun ps hps zq5 => ?_
  subst zq5
  obtain ⟨i, hi, rfl⟩ := List.getElem_of_mem hps
  refine x11 (⟨_, List.getElem?_eq_getElem (by rw [← F.len]; exact hi)⟩ : ∃ cs, css[i]? = some cs) fun cs hcs => ?_
  exact ei12 _ rfl (by rw [(F.ok i cs _ hcs (List.getElem?_eq_getElem hi)).len]; exact Nat.le_trans (F.good cs (List.mem_of_getElem? hcs)).2.1 (by decide)))
 refine addE h8 (.list (ds.map deedV)) fun h9 hh9 X9 N9 => ?_
 have a9 := all_whole_ok (m := k) (by first | exact lv hm | exact lw hn | omega) N9 (by rw [List.length_map]; exact (Nat.le_of_lt (Nat.lt_of_le_of_lt hds ltl))) (fun p hp => by
  refine x12 (List.mem_map.mp hp) fun d z_ zq4 => ?_
  subst zq4
  exact ei12 ([(d.1 : Int), (d.2.1 : Int), d.2.2]) rfl (by show 3 ≤ 1000; decide))
 have X59 : Ext h5 h9 := (X57.trans X8).trans X9
 refine kk h9 ?_ X59 (by rw [← hh9, ← hh8, ← hh7, ← hh6]; rfl)
 refine s_if0 (t_cmp e4 (c_one (e_list es_nil) (by rw [hh7]; exact q_same_f .nil N7 N7'))) ?_
 rw [hh7]
 exact s_ret (e_and (b_go (e_call (es_cons (e_slice (e_sub (e_var rfl) e_lit (g_lst (X57 _ _ t5) (by decide) rfl)) o_none (o_some (e_neg e_lit)) (by rw [← hh8]; exact h_linit (X57 _ _ p0))) es_nil) a8) rfl (b_last (e_call (es_cons (e_slice (e_sub (e_var rfl) e_lit (g_lst (X8 _ _ (X57 _ _ t5)) (by decide) rfl)) o_none (o_some (e_neg e_lit)) (by rw [← hh9]; exact h_linit (X8 _ _ (X57 _ _ p2)))) es_nil) a9))))
theorem right_ok {LC S N K : Nat} {lc : List Nat} {kl : List PV} {f : Int} (hm : 4 ≤ m) (R : Rk hp n x y z as css) (F : Fit css pss) (hy : hp.os[y]? = some (.list (pss.map rowV))) (hz : hp.os[z]? = some (.list (ds.map deedV)))
  (hLC : hp.os[LC]? = some (.list (lc.map .lst))) (hlc : ListsAt hp lc css) (hS : hp.os[S]? = some (.list (pss.map rowV))) (hN : hp.os[N]? = some (.list (ds.map deedV))) (hK : hp.os[K]? = some (.list kl)) (lo : hp.lo ≤ K) (nS : S ≠ K) (nN : N ≠ K) (hkl : kl.length ≤ 1000) (hds : ds.length ≤ 900) {PP : Prop} (kk : ∀ H kn, callN prog m 23 [.lst n, .lst LC, .lst S, .lst N, .lst K, .int f] hp = .ok (.bool true) H → ExtB K hp H → H.lo = hp.lo → H.os[K]? = some (.list (kl ++ kn)) → kn.length = 3 → (∀ p ∈ kn, NewKept hp.os.length H p) → PP) : PP := by
 refine x11 (one_le (Nat.le_trans (by decide) hm)) fun k zq3 => ?_
 subst zq3
 refine asked_ok (m := k) (f := f) (by first | exact lv hm | exact lw hn | omega) R F hy hz fun H1 f0 f1 f2 e1 X1 l1 ht b0 b1 b2 c0 c1 c2 d01 d02 d12 => ?_
 have hlt := lt_of_at hK
 have hpl : pss.length ≤ 5 := by rw [F.len]; exact F.l5
 -- the numbers
 have e2 := all_nums (C := callN prog k) (L := rightL n LC S N K f none none none (some (.lst hp.os.length))) (i := 16) (u := 26) (v := 36) (e1 := .var 61) (e2 := .var 94) (hp := H1) F (es_cons (e_var rfl) (es_cons (e_var rfl) es_nil)) (X1 _ _ hLC) (hlc.ext X1) (X1 _ _ hS) (fun z_ z_ => rfl) (fun z_ z_ => rfl) (fun a cs ps ha g hr => law_num_ok (by first | exact lv hm | exact lw hn | omega) (Hp.add_old ha) g.2.1 g.2.2 hr)
 refine nmE ((H1.add .own).new) fun Nn hNn => ?_
 refine x13 (⟨_, rfl, (Ext.add _ _).trans (Ext.add _ _), Hp.add_new⟩ : ∃ H2, (H1.add .own).add (.list ((nums css pss).map .int)) = H2 ∧ Ext H1 H2 ∧ H2.os[(H1.add .own).new]? = some (.list ((nums css pss).map .int))) fun H2 hH2 X2 N2 => ?_
 have lo2 : H2.lo = hp.lo := by rw [← hH2]; exact l1
 rw [hH2, hNn] at e2
 rw [hNn] at N2
 have Nlt : ∀ {q : Nat} {o : MObj}, H1.os[q]? = some o → q < Nn := fun e => by rw [← hNn, Hp.new_add]; exact Nat.lt_succ_of_lt (lt_of_at e)
 -- the dues
 refine addE H2 (.list [.lst S, .lst Nn, .lst N]) fun H3 hH3 X3 N3 => ?_
 refine addE H3 .own fun H4 hH4 X4 N4 => ?_
 have lo4 : H4.lo = hp.lo := by rw [← hH4, ← hH3]; exact lo2
 have X14 : Ext H1 H4 := (X2.trans X3).trans X4
 have X04 : Ext hp H4 := X1.trans X14
 refine x13 (⟨fun j => match j with | 0 => f0 | 1 => f1 | _ => f2, rfl, rfl, rfl⟩ : ∃ ff : Nat → Nat, ff 0 = f0 ∧ ff 1 = f1 ∧ ff 2 = f2) fun ff ff0 ff1 ff2 => ?_
 refine x13 (⟨fun j => match j with | 0 => S | 1 => Nn | _ => N, rfl, rfl, rfl⟩ : ∃ uu : Nat → Nat, uu 0 = S ∧ uu 1 = Nn ∧ uu 2 = N) fun uu uu0 uu1 uu2 => ?_
 have by3 : ∀ {Q : Nat → Prop}, Q 0 → Q 1 → Q 2 → ∀ j, j < 3 → Q j := fun q0 q1 q2 j hj => by
  match j, hj with
  | 0, _ => exact q0
  | 1, _ => exact q1
  | 2, _ => exact q2
 have fge : ∀ j, j < 3 → hp.os.length < ff j := by3 (by rw [ff0]; exact b0) (by rw [ff1]; exact b1) (by rw [ff2]; exact b2)
 have fat : ∀ j, j < 3 → H1.os[ff j]? = some (.list (tells css pss ds j)) := by3 (by rw [ff0]; exact c0) (by rw [ff1]; exact c1) (by rw [ff2]; exact c2)
 have fK : ∀ j, j < 3 → ff j ≠ K := fun j hj => Nat.ne_of_gt (Nat.lt_trans hlt (fge j hj))
 have ffi : ∀ j j', j < 3 → j' < 3 → ff j = ff j' → j = j' := fun j j' hj hj' =>
  by3 (Q := fun j => ∀ j', j' < 3 → ff j = ff j' → j = j')
   (by3 (Q := fun j' => ff 0 = ff j' → 0 = j') (fun z_ => rfl) (fun q => absurd ((ff0.symm.trans q).trans ff1) d01) (fun q => absurd ((ff0.symm.trans q).trans ff2) d02))
   (by3 (Q := fun j' => ff 1 = ff j' → 1 = j') (fun q => absurd ((ff0.symm.trans q.symm).trans ff1) d01) (fun z_ => rfl) (fun q => absurd ((ff1.symm.trans q).trans ff2) d12))
   (by3 (Q := fun j' => ff 2 = ff j' → 2 = j') (fun q => absurd ((ff0.symm.trans q.symm).trans ff2) d02) (fun q => absurd ((ff1.symm.trans q.symm).trans ff2) d12) (fun z_ => rfl)) j hj j' hj'
 have uat : ∀ j, j < 3 → H4.os[uu j]? = some (.list (tells css pss ds j)) ∧ uu j ≠ K ∧ ∀ j', j' < 3 → uu j ≠ ff j' := by
  refine by3 ⟨by rw [uu0]; exact X04 _ _ hS, by rw [uu0]; exact nS, fun j' h => by rw [uu0]; exact Nat.ne_of_lt (Nat.lt_trans (lt_of_at hS) (fge j' h))⟩ ⟨by rw [uu1]; exact X4 _ _ (X3 _ _ N2), by rw [uu1]; exact Nat.ne_of_gt (Nlt (X1 _ _ hK)), fun j' h => by rw [uu1]; exact Nat.ne_of_gt (Nlt (fat j' h))⟩ ⟨by rw [uu2]; exact X04 _ _ hN, by rw [uu2]; exact nN, fun j' h => by rw [uu2]; exact Nat.ne_of_lt (Nat.lt_trans (lt_of_at hN) (fge j' h))⟩
 have tl : ∀ j, j < 3 → (tells css pss ds j).length ≤ 1000 := by
  refine by3 ?_ ?_ ?_
  ·show (pss.map rowV).length ≤ 1000; rw [List.length_map]; exact (Nat.le_of_lt (Nat.lt_of_le_of_lt hpl ltl))
  ·show ((nums css pss).map PV.int).length ≤ 1000; unfold nums; rw [List.length_map, List.length_zipWith]; (clear lo hkl hds hm l1 b0 b1 b2 hlt hNn lo2 lo4 ff0 ff1 ff2 uu0 uu1 uu2; omega)
  ·show (ds.map deedV).length ≤ 1000; rw [List.length_map]; exact (Nat.le_of_lt (Nat.lt_of_le_of_lt hds ltl))
 have tK : hp.os.length ≠ K := Nat.ne_of_gt hlt
 have tf : ∀ j, j < 3 → hp.os.length ≠ ff j := fun j hj => Nat.ne_of_lt (fge j hj)
 have dge : ∀ {q : Nat} {o : MObj}, H1.os[q]? = some o → q < H2.new := fun e => lt_of_at (X2 _ _ e)
 refine x12 (x_for (P := prog) (C := callN prog k) (W := callW prog) (body := f_law_right_b1) (t := .two 0 52) (k := .zip) (its := [.var 101, .list [.var 94, .var 92, .var 85]]) (hp := H2)
  (fun h => h.os[H3.new]? = some .own ∧ h.os[hp.os.length]? = some (.list [.lst f0, .lst f1, .lst f2]) ∧ h.os[H2.new]? = some (.list [.lst S, .lst Nn, .lst N]))
  (fun s : Hp × List PV × Option PV × Option PV => rightL n LC S N K f s.2.2.1 s.2.2.2 (some (.lst Nn)) (some (.lst hp.os.length))) (fun s => s.1) (fun i s => Going hp H4 (tells css pss ds) ff K kl i s.1 s.2.1 ∧ H4.os.length ≤ s.1.os.length) (H4, [], none, none)
  (vs := [.lst hp.os.length, .lst H2.new]) (hp1 := H3) (by rw [← hH3]; exact es_cons (e_var rfl) (es_cons (e_list (es_cons (e_var rfl) (es_cons (e_var rfl) (es_cons (e_var rfl) es_nil)))) es_nil)) (k_zipl (X3 _ _ (X2 _ _ ht)) N3) (by rw [← hH4]; rfl) (y_zip (fun h q => q.1) (y_all fun h q => q.2.1) (y_all fun h q => q.2.2)) (by show 3 < 1000000; decide)
  (fun i s g => ⟨g.1.ext _ _ (Nat.ne_of_gt (Nat.lt_trans (dge (X1 _ _ hK)) (lt_of_at N3))) (fun j hj => Nat.ne_of_gt (Nat.lt_trans (dge (fat j hj)) (lt_of_at N3))) N4, g.1.ext _ _ tK tf (X14 _ _ ht), g.1.ext _ _ (Nat.ne_of_gt (dge (X1 _ _ hK))) (fun j hj => Nat.ne_of_gt (dge (fat j hj))) (X4 _ _ N3)⟩)
  ⟨⟨lo4, by rw [List.append_nil]; exact X04 _ _ hK, rfl, fun z_ z_ z_ z_ e => e, fun j z_ hj => X14 _ _ (fat j hj), fun j hj => absurd hj (Nat.not_lt_zero _), fun p hp => (by cases hp)⟩, Nat.le_refl _⟩ (by
   intro i; refine p4 fun h kn o1 o2 v hv => y02 fun G hle => ?_
   have hi : i < 3 := (List.getElem?_eq_some_iff.mp hv).1
   have hv' : v = .tup [.lst (ff i), .lst (uu i)] := by
    rcases i with _ | _ | _ | i
    ·rw [ff0, uu0]; cases hv; rfl
    ·rw [ff1, uu1]; cases hv; rfl
    ·rw [ff2, uu2]; cases hv; rfl
    ·(clear lo hkl hds hm l1 b0 b1 b2 hlt hpl hNn lo2 lo4 ff0 ff1 ff2 uu0 uu1 uu2 hle; omega)
   subst hv'
   refine x03 (uat i hi) fun u1 u2 u3 => ?_
   refine right_step (k := k) (n := n) (LC := LC) (S := S) (N := N) (K := K) (u := uu i) (g := ff i) (f := f) (nm := some (.lst Nn)) (told := some (.lst hp.os.length)) (h := h) (G.rest i (Nat.le_refl _) hi) (G.ext _ _ u2 u3 u1) G.hK (by have := same_tells .nil css pss ds i; rwa [List.append_nil] at this) (fK i hi) (by rw [G.lo]; exact Nat.le_of_lt (Nat.lt_of_le_of_lt lo (Nat.lt_trans hlt (fge i hi)))) (by rw [G.lo]; exact lo) (Nat.le_trans (tl i hi) (by decide)) (by rw [List.length_append, G.len]; (clear lo hds hm l1 b0 b1 b2 hlt hpl hNn lo2 lo4 ff0 ff1 ff2 uu0 uu1 uu2 hle; omega)) fun H e q1 q2 q3 q4 q5 => ?_
   have hlen : h.os.length < H.os.length := lt_of_at q3
   exact ei24 (H, kn ++ [.tup [.lst (ff i), .lst h.os.length]], some (.lst (ff i)), some (.lst (uu i))) _ rfl e (G.next hi fK ffi (fun j hj => Nat.lt_of_lt_of_le (lt_of_at (X14 _ _ (fat j hj))) hle) (Nat.le_trans X04.len hle) q1 q2 q3 q4 q5) (Nat.le_of_lt (Nat.lt_of_le_of_lt hle hlen)))) fun s e3 G => ?_
 refine x11 (⟨s, rfl⟩ : ∃ s', s = s') fun zq2 hs => ?_
 obtain ⟨h5, kn, o1, o2⟩ := zq2
 subst hs
 revert G; refine y02 fun G hle => ?_
 replace G : Going hp H4 (tells css pss ds) ff K kl 3 h5 kn := G
 have t5 : h5.os[hp.os.length]? = some (.list [.lst f0, .lst f1, .lst f2]) := G.ext _ _ tK tf (X14 _ _ ht)
 have p0 := G.past 0 (by decide)
 have p1 := G.past 1 (by decide)
 have p2 := G.past 2 (by decide)
 rw [ff0] at p0; rw [ff1] at p1; rw [ff2] at p2
 replace p0 : h5.os[f0]? = some (.list (pss.map rowV ++ [.none])) := p0
 replace p1 : h5.os[f1]? = some (.list ((nums css pss).map .int ++ [.none])) := p1
 replace p2 : h5.os[f2]? = some (.list (ds.map deedV ++ [.none])) := p2
 refine right_end (k := k) (n := n) (LC := LC) (S := S) (N := N) (K := K) (f := f) (o1 := o1) (o2 := o2) (nm := some (.lst Nn)) hm F hds t5 p0 p1 p2 fun h9 e9 X59 lo9 => ?_
 refine kk h9 kn ?_ (fun q o hq e => X59 _ _ (G.ext q o hq (fun j hj => Nat.ne_of_lt (Nat.lt_trans (lt_of_at e) (fge j hj))) (X04 _ _ e))) (lo9.trans G.lo) (X59 _ _ G.hK) G.len (fun p hp' => ?_)
 ·exact call_ir (rightL n LC S N K f none none none none) rfl rfl rfl (s_asg (e_call (es_cons (e_var rfl) (es_cons (e_var rfl) es_nil)) e1) (s_asg e2 (s_cons e3 e9)))
 ·refine x26 (G.kept p hp') fun j b j3 zq1 g1 g2 g3 g4 => ?_
  subst zq1
  exact ei36 (ff j) b _ rfl (Nat.le_of_lt (fge j j3)) g1 (X59 _ _ (G.past j j3)) (X59 _ _ g4) (same_tells (Same.none .nil) css pss ds j)
end
end Mine.L13
end
section
namespace Mine.L13
open PySem Mine
noncomputable def sBack : Str := ⟨#[98, 97, 99, 107]⟩
theorem same_move : Same [.str wMove] := Same.nil.cons (d := .str wMove) (fun z_ => by show (if PyData.strOk wMove = true then some (PyData.str wMove) else none) = _; rw [if_pos (by decide +kernel)]) (by decide +kernel)
noncomputable def NoText (os : List MObj) (p : PV) : Prop := ∀ lo, cmpop .eq p (.str sBack) ⟨lo, os⟩ = some false
theorem eq_back {p : PV} {d : PyData} {h : Hp} (hs : snap snapD h p = some d) (he : PyData.eqv d (.str sBack) = false) : cmpop .eq p (.str sBack) h = some false := by
 show peq p (.str sBack) h = _
 unfold peq
 rw [hs, show snap snapD h (.str sBack) = some (.str sBack) by show (if PyData.strOk sBack = true then some (PyData.str sBack) else none) = _; rw [if_pos (by decide +kernel)]]
 exact congrArg some he
section
variable {m : Nat} {hp : Hp} {n x y z : Nat} {as : List Nat} {css pss : List (List Int)} {ds : List Deed}
theorem refused_ok {p : PV} (hm : 5 ≤ m) (R : Rk hp n x y z as css) (F : Fit css pss) (hy : hp.os[y]? = some (.list (pss.map rowV))) (h : NoDeed css pss hp.os p) (ht : NoText hp.os p) : callN prog m 24 [.lst n, p] hp = .ok (.bool true) hp := by
 refine x11 (one_le (Nat.le_trans (by decide) hm)) fun k zq3 => ?_
 subst zq3
 have R' : Rk ⟨hp.os.length, hp.os⟩ n x y z as css := R.ext sameE
 exact call_ret [(67, some (.lst n)), (83, some p), (27, none)] rfl rfl rfl rfl (x_try (s_exc (i_f (t_cmp (e_var rfl) (c_one e_lit (ht _))) (x_exc (e_mcall (e_var rfl) R'.tab (es_cons (e_var rfl) es_nil) (do_no (hp := ⟨hp.os.length, hp.os⟩) (by first | exact lv hm | exact lw hn | omega) R' F hy h))))) (e_cmp (e_call (es_cons (e_var rfl) es_nil) (word_move rfl)) (c_one (e_list (es_cons e_lit es_nil)) (q_same_t same_move (Hp.add_old Hp.add_new) Hp.add_new))))
theorem refused_back (hm : 5 ≤ m) (R : Rk hp n x y z as css) (hz : hp.os[z]? = some (.list [])) : callN prog m 24 [.lst n, .str sBack] hp = .ok (.bool true) hp := by
 refine x11 (one_le (Nat.le_trans (by decide) hm)) fun k zq2 => ?_
 subst zq2
 have R' : Rk ⟨hp.os.length, hp.os⟩ n x y z as css := R.ext sameE
 have hq : cmpop .eq (.str sBack) (.str sBack) ⟨hp.os.length, hp.os⟩ = some true := by
  show peq _ _ _ = _
  unfold peq
  rw [show snap snapD ⟨hp.os.length, hp.os⟩ (.str sBack) = some (.str sBack) by show (if PyData.strOk sBack = true then some (PyData.str sBack) else none) = _; rw [if_pos (by decide +kernel)]]
  exact congrArg some (by decide +kernel)
 exact call_ret [(67, some (.lst n)), (83, some (.str sBack)), (27, none)] rfl rfl rfl rfl (x_try (s_exc (i_t (t_cmp (e_var rfl) (c_one e_lit hq)) (x_exc (e_mcall (e_var rfl) R'.tab es_nil (back_no (hp := ⟨hp.os.length, hp.os⟩) (by first | exact lv hm | exact lw hn | omega) R' hz))))) (e_cmp (e_call (es_cons (e_var rfl) es_nil) (word_move rfl)) (c_one (e_list (es_cons e_lit es_nil)) (q_same_t same_move (Hp.add_old Hp.add_new) Hp.add_new))))
noncomputable def spoilt (c i : Nat) (d : Int) (L w : Nat) : List PV := [.tup [.int (c : Int), .int (i : Int), .int (2 * d)], .tup [.int (c : Int), .int (w : Int), .int d], .tup [.int (L : Int), .int (i : Int), .int d], .tup [.int (-1), .int (i : Int), .int d]]
noncomputable def spoilt2 (c i : Nat) (d : Int) (b : Nat) : List PV := [.lst b, .tup [.int (i : Int), .int d], .tup [.int (c : Int), .int (i : Int), .int d, .int 0], .none, .tup [.int (c : Int), .int (i : Int), .int 0], .tup [.int (c : Int), .int (-1), .int d], .tup [.int (c : Int), .bool true, .int d]]
noncomputable def spoilt3 (c i : Nat) (d : Int) : List PV := [.tup [.int (c : Int), .int (i : Int), .bool true], .str ⟨#[98, 97, 99, 107, 32]⟩, .tup [.none, .int (i : Int), .int d], .tup [.bool (decide ((c : Int) = 1)), .int (i : Int), .int d], .tup [.bool false, .int (i : Int), .int d]]
theorem bad_no {c i : Nat} {d : Int} {cs ps : List Int} {b : Nat} {os : List MObj} {p : PV} (F : Fit css pss) (h1 : css[c]? = some cs) (h2 : pss[c]? = some ps) (hi : i < cs.length) (hd : d = -1 ∨ d = 1) (hb : p = .lst b → os[b]? = some (.list [.int (c : Int), .int (i : Int), .int d])) (hp : p ∈ spoilt c i d css.length cs.length ++ spoilt2 c i d b ++ spoilt3 c i d) :
  NoDeed css pss os p ∧ NoText os p := by
 have hcl := (List.getElem?_eq_some_iff.mp h1).1
 rcases List.mem_append.mp hp with hp | hp
 ·rcases List.mem_append.mp hp with hp | hp
  ·simp only [spoilt, List.mem_cons, List.not_mem_nil, or_false] at hp
   rcases hp with rfl | rfl | rfl | rfl
   ·exact ⟨.move h1 h2 (.snd hi (.inl ⟨_, rfl, by omega⟩)), fun lo => eq_back (d := .tuple [.int _, .int _, .int _]) rfl rfl⟩
   ·exact ⟨.move h1 h2 (.fst (.inl ⟨_, rfl, by omega⟩)), fun lo => eq_back (d := .tuple [.int _, .int _, .int _]) rfl rfl⟩
   ·exact ⟨.chest (.inl ⟨_, rfl, by omega⟩), fun lo => eq_back (d := .tuple [.int _, .int _, .int _]) rfl rfl⟩
   ·exact ⟨.chest (.inl ⟨_, rfl, by omega⟩), fun lo => eq_back (d := .tuple [.int _, .int _, .int _]) rfl rfl⟩
  ·simp only [spoilt2, List.mem_cons, List.not_mem_nil, or_false] at hp
   rcases hp with rfl | rfl | rfl | rfl | rfl | rfl | rfl
   ·refine ⟨.thing fun lo => ?_, fun lo => eq_back (d := .list [.int _, .int _, .int _]) (by show (match lstAt ⟨lo, os⟩ b with | some l => (snapAll (snap 7 ⟨lo, os⟩) l).map PyData.list | none => none) = _; rw [lst_of (hp := ⟨lo, os⟩) (hb rfl)]; rfl) rfl⟩
    show ((tagOf (.lst b) ⟨lo, os⟩).map (tyB .tuple)) = _
    unfold tagOf; dsimp only; rw [hb rfl]; rfl
   ·exact ⟨.len (by show (2 : Nat) ≠ 3; decide), fun lo => eq_back (d := .tuple [.int _, .int _]) rfl rfl⟩
   ·exact ⟨.len (by show (4 : Nat) ≠ 3; decide), fun lo => eq_back (d := .tuple [.int _, .int _, .int _, .int _]) rfl rfl⟩
   ·exact ⟨.thing fun z_ => rfl, fun lo => eq_back (d := .none) rfl rfl⟩
   ·exact ⟨.move h1 h2 (.none hi (by decide) (by decide) fun q => (mem_dueC.mp q).2.1.elim (fun z => absurd (show (0 : Int) = -1 from z) (by decide)) (fun z => absurd (show (0 : Int) = 1 from z) (by decide))), fun lo => eq_back (d := .tuple [.int _, .int _, .int _]) rfl rfl⟩
   ·exact ⟨.move h1 h2 (.fst (.inl ⟨_, rfl, .inl (by decide)⟩)), fun lo => eq_back (d := .tuple [.int _, .int _, .int _]) rfl rfl⟩
   ·exact ⟨.move h1 h2 (.fst (.inr (.inl ⟨_, rfl⟩))), fun lo => eq_back (d := .tuple [.int _, .bool _, .int _]) rfl rfl⟩
 ·simp only [spoilt3, List.mem_cons, List.not_mem_nil, or_false] at hp
  rcases hp with rfl | rfl | rfl | rfl | rfl
  ·exact ⟨.move h1 h2 (.snd hi (.inr (.inl ⟨_, rfl⟩))), fun lo => eq_back (d := .tuple [.int _, .int _, .bool _]) rfl rfl⟩
  ·exact ⟨.thing fun z_ => rfl, fun lo => eq_back (d := .str ⟨#[98, 97, 99, 107, 32]⟩) (by show (if PyData.strOk _ = true then some (PyData.str _) else none) = _; rw [if_pos (by decide +kernel)]) (by decide +kernel)⟩
  ·exact ⟨.chest (.inr (.inr fun z_ => rfl)), fun lo => eq_back (d := .tuple [.none, .int _, .int _]) rfl rfl⟩
  ·exact ⟨.chest (.inr (.inl ⟨_, rfl⟩)), fun lo => eq_back (d := .tuple [.bool _, .int _, .int _]) rfl rfl⟩
  ·exact ⟨.chest (.inr (.inl ⟨_, rfl⟩)), fun lo => eq_back (d := .tuple [.bool _, .int _, .int _]) rfl rfl⟩
theorem j_listT {h : Hp} {l : List PV} : bfun .list [.tup l] h = .ok (.lst h.new) (h.add (.list l)) := rfl
theorem bad_below {c i : Nat} {d : Int} {b L w r : Nat} {p : PV} (hp : p ∈ spoilt c i d L w ++ spoilt2 c i d b ++ spoilt3 c i d) (hb : p ≠ .lst b) : below r p = true := by
 rcases List.mem_append.mp hp with hp | hp
 ·rcases List.mem_append.mp hp with hp | hp
  ·simp only [spoilt, List.mem_cons, List.not_mem_nil, or_false] at hp
   rcases hp with rfl | rfl | rfl | rfl <;> rfl
  ·simp only [spoilt2, List.mem_cons, List.not_mem_nil, or_false] at hp
   rcases hp with rfl | rfl | rfl | rfl | rfl | rfl | rfl
   ·exact absurd rfl hb
   all_goals rfl
 ·simp only [spoilt3, List.mem_cons, List.not_mem_nil, or_false] at hp
  rcases hp with rfl | rfl | rfl | rfl | rfl <;> rfl
theorem bad_ok {c i : Nat} {d cell : Int} {cs ps : List Int} {LC : Nat} {lc : List Nat} (hm : 1 ≤ m) (F : Fit css pss) (h1 : css[c]? = some cs) (h2 : pss[c]? = some ps) (hi : i < cs.length) (hd : d = -1 ∨ d = 1) (hLC : hp.os[LC]? = some (.list (lc.map .lst))) (hlc : ListsAt hp lc css) {PP : Prop} (kk : ∀ p H, callN prog m 25 [.int cell, deedV (c, i, d), .lst LC] hp = .ok p H → Ext hp H → H.lo = hp.lo → NoDeed css pss H.os p → NoText H.os p → PP) : PP := by
 refine x11 (one_le hm) fun k zq1 => ?_
 subst zq1
 refine x12 (hlc.at h1) fun a ha hox => ?_
 have hn : bfun .len [.lst LC] ⟨hp.os.length, hp.os⟩ = .ok (.int css.length) ⟨hp.os.length, hp.os⟩ := by have := n_lst (hp := ⟨hp.os.length, hp.os⟩) hLC; rwa [List.length_map, hlc.len] at this
 have hw : bfun .len [.lst a] ⟨hp.os.length, hp.os⟩ = .ok (.int cs.length) ⟨hp.os.length, hp.os⟩ := by have := n_lst (hp := ⟨hp.os.length, hp.os⟩) hox; rwa [List.length_map] at this
 have gx : subop (.lst LC) (.int (c : Int)) ⟨hp.os.length, hp.os⟩ = some (.lst a) := g_lst (hp := ⟨hp.os.length, hp.os⟩) hLC (Int.natCast_nonneg _) (by rw [Int.toNat_natCast, List.getElem?_map, ha]; rfl)
 refine x13 (⟨_, rfl, sameE.trans (Ext.add _ _), Hp.add_new (hp := ⟨hp.os.length, hp.os⟩)⟩ : ∃ A, Hp.add ⟨hp.os.length, hp.os⟩ (.list (spoilt c i d css.length cs.length)) = A ∧ Ext hp A ∧ A.os[hp.os.length]? = some (.list (spoilt c i d css.length cs.length))) fun A hA XA NA => ?_
 refine addE A (.list [.int (c : Int), .int (i : Int), .int d]) fun B hB XB NB => ?_
 refine nmE A.new fun b hb => ?_
 rw [hb] at NB
 refine addE B (.list (spoilt2 c i d b)) fun C hC XC NC => ?_
 refine addE C (.list (spoilt c i d css.length cs.length ++ spoilt2 c i d b)) fun D hD XD ND => ?_
 refine addE D (.list (spoilt3 c i d)) fun E hE XE NE => ?_
 refine addE E (.list (spoilt c i d css.length cs.length ++ spoilt2 c i d b ++ spoilt3 c i d)) fun G hG XG NG => ?_
 refine x12 (show ∃ w : Nat, cell % 16 = (w : Int) ∧ w < 16 from tn_mod cell 16 (by decide)) fun w hwe hw16 => ?_
 refine x11 (⟨_, List.getElem?_eq_getElem hw16⟩ : ∃ p, (spoilt c i d css.length cs.length ++ spoilt2 c i d b ++ spoilt3 c i d)[w]? = some p) fun p hp' => ?_
 have hmem := List.mem_of_getElem? hp'
 have bge : hp.os.length ≤ b := by rw [← hb]; exact XA.len
 have XBG : Ext B G := ((XC.trans XD).trans XE).trans XG
 have run : exeB prog (callN prog k) (callW prog) f_law_bad.body [(13, some (.int cell)), (83, some (deedV (c, i, d))), (61, some (.lst LC)), (14, none), (40, none), (51, none), (81, none)] ⟨hp.os.length, hp.os⟩ = .ret p G := by
  refine x_asgT (v := deedV (c, i, d)) (e_var rfl) rfl (s_asg (v := .lst hp.os.length) (hp1 := A) ?_ (s_asg (v := .lst C.new) (hp1 := D) ?_ (s_asg (v := .lst E.new) (hp1 := G) ?_ (s_ret (e_sub (e_var rfl) (e_bin (e_var rfl) e_lit (o_mod (by decide))) (g_lst NG (by rw [hwe]; exact Int.natCast_nonneg _) (by rw [hwe, Int.toNat_natCast]; exact hp')))))))
  ·rw [← hA]
   exact e_list (es_cons (e_tuple (es_cons (e_var rfl) (es_cons (e_var rfl) (es_cons (e_bin e_lit (e_var rfl) (o_mulL (by decide) (by decide))) es_nil)))) (es_cons (e_tuple (es_cons (e_var rfl) (es_cons (e_bcall (es_cons (e_sub (e_var rfl) (e_var rfl) gx) es_nil) hw) (es_cons (e_var rfl) es_nil)))) (es_cons (e_tuple (es_cons (e_bcall (es_cons (e_var rfl) es_nil) hn) (es_cons (e_var rfl) (es_cons (e_var rfl) es_nil)))) (es_cons (e_tuple (es_cons (e_neg e_lit) (es_cons (e_var rfl) (es_cons (e_var rfl) es_nil)))) es_nil))))
  ·rw [← hD]
   refine e_bin (e_var rfl) (hp2 := C) ?_ (o_ladd (XC _ _ (XB _ _ NA)) NC (by show 4 + 7 ≤ 1000000; decide))
   rw [← hC]
   exact e_list (es_cons (v := .lst b) (hp1 := B) (by rw [← hb, ← hB]; exact e_bcall (es_cons (e_var rfl) es_nil) j_listT) (es_cons (e_slice (e_var rfl) (o_some e_lit) o_none (h_drop (l := [.int (c : Int), .int (i : Int), .int d]) (k := 1) (by decide) (show (1 : Int) ≤ 3 by decide) (by decide))) (es_cons (e_bin (e_var rfl) (e_tuple (es_cons e_lit es_nil)) (o_cat (by show 3 + 1 ≤ 1000000; decide))) (es_cons e_lit (es_cons (e_tuple (es_cons (e_var rfl) (es_cons (e_var rfl) (es_cons e_lit es_nil)))) (es_cons (e_tuple (es_cons (e_var rfl) (es_cons (e_neg e_lit) (es_cons (e_var rfl) es_nil)))) (es_cons (e_tuple (es_cons (e_var rfl) (es_cons e_lit (es_cons (e_var rfl) es_nil)))) es_nil)))))))
  ·rw [← hG]
   refine e_bin (e_var rfl) (hp2 := E) ?_ (o_ladd (XE _ _ ND) NE (by show 11 + 5 ≤ 1000000; decide))
   rw [← hE]
   exact e_list (es_cons (e_tuple (es_cons (e_var rfl) (es_cons (e_var rfl) (es_cons e_lit es_nil)))) (es_cons e_lit (es_cons (e_tuple (es_cons e_lit (es_cons (e_var rfl) (es_cons (e_var rfl) es_nil)))) (es_cons (e_tuple (es_cons (e_cmp (e_var rfl) (c_one e_lit rfl)) (es_cons (e_var rfl) (es_cons (e_var rfl) es_nil)))) (es_cons (e_tuple (es_cons e_lit (es_cons (e_var rfl) (es_cons (e_var rfl) es_nil)))) es_nil)))))
 by_cases q : p = .lst b
 ·subst q
  have bn := bad_no (b := hp.new) F h1 h2 hi hd (fun z_ => Hp.add_new) (by exact List.mem_append.mpr (.inl (List.mem_append.mpr (.inr (.head _)))))
  exact kk _ _ (call_list (a := b) [(13, some (.int cell)), (83, some (deedV (c, i, d))), (61, some (.lst LC)), (14, none), (40, none), (51, none), (81, none)] rfl rfl rfl bge rfl run (XBG _ _ NB)) (Ext.add _ _) rfl bn.1 bn.2
 ·have bn := bad_no (os := hp.os) F h1 h2 hi hd (fun z => absurd z q) hmem
  exact kk p hp (call_ret [(13, some (.int cell)), (83, some (deedV (c, i, d))), (61, some (.lst LC)), (14, none), (40, none), (51, none), (81, none)] rfl rfl rfl (bad_below hmem q) run) (Ext.refl _) rfl bn.1 bn.2
end
end Mine.L13
end
section
namespace Mine.L13
open PySem Mine
theorem Fit.set {css pss : List (List Int)} {c : Nat} {cs ps' : List Int} (F : Fit css pss) (h1 : css[c]? = some cs) (hr : IsRow cs ps') : Fit css (pss.set c ps') := by
 refine ⟨by rw [List.length_set]; exact F.len, fun i cs' ps h h' => ?_, F.good, F.l1, F.l5⟩
 by_cases q : c = i
 ·subst q
  rw [h1] at h; cases h
  have hlt := (List.getElem?_eq_some_iff.mp h').1
  rw [List.length_set] at hlt
  rw [List.getElem?_set_self hlt] at h'; cases h'
  exact hr
 ·rw [List.getElem?_set_ne q] at h'
  exact F.ok i _ _ h h'
inductive Hist (css : List (List Int)) : List (List Int) → List Deed → Prop
 | nil {pss : List (List Int)} : Fit css pss → Hist css pss []
 | snoc {pss : List (List Int)} {ds : List Deed} {c i : Nat} {d : Int} {cs ps : List Int} : Hist css pss ds → css[c]? = some cs → pss[c]? = some ps → (i, d) ∈ dueC cs ps → Hist css (pss.set c (moved ps i d)) (ds ++ [(c, i, d)])
theorem Hist.fit {css pss : List (List Int)} {ds : List Deed} (h : Hist css pss ds) : Fit css pss := by
 induction h with
 | nil f => exact f
 | snoc _ h1 h2 h3 ih => exact ih.set h1 (due_row (ih.ok _ _ _ h1 h2) h3).2.2
theorem set_self {α : Type} {l : List α} {i : Nat} {v : α} (h : l[i]? = some v) : l.set i v = l := by
 obtain ⟨h1, rfl⟩ := List.getElem?_eq_some_iff.mp h
 exact List.set_getElem_self h1
theorem moved_back {ps : List Int} {i : Nat} {d : Int} (hi : i < ps.length) : moved (moved ps i d) i (-d) = ps := by
 refine x11 (⟨_, List.getElem?_eq_getElem hi⟩ : ∃ v, ps[i]? = some v) fun v hv => ?_
 have h1 : moved ps i d = ps.set i (v + d) := moved_at hv
 have h2 : (ps.set i (v + d))[i]? = some (v + d) := List.getElem?_set_self hi
 rw [h1, moved_at h2, List.set_set, show v + d + -d = v by omega]
 exact set_self hv
theorem Hist.back {css pss : List (List Int)} {ds : List Deed} {c i : Nat} {d : Int} (h : Hist css pss (ds ++ [(c, i, d)])) {PP : Prop} (kk : ∀ ps, pss[c]? = some ps → i < ps.length → ps.length ≤ 12 → Hist css (pss.set c (moved ps i (-d))) ds → PP) : PP := by
 generalize he : ds ++ [(c, i, d)] = e at h
 cases h with
 | nil f => exact absurd (congrArg List.length he) (by rw [List.length_append]; show ¬ ds.length + 1 = 0; omega)
 | @snoc pss0 ds0 c0 i0 d0 cs ps h0 h1 h2 h3 =>
  refine x02 (List.append_inj' he rfl) fun zq4 hd => ?_
  subst zq4
  cases hd
  have hr := h0.fit.ok _ _ _ h1 h2
  refine x03 (due_row hr h3) fun hi z_ hr' => ?_
  have hc := (List.getElem?_eq_some_iff.mp h2).1
  have g := h0.fit.good cs (List.mem_of_getElem? h1)
  refine kk (moved ps i d) (List.getElem?_set_self hc) (by unfold moved; rw [List.length_set]; exact hi) (by rw [hr'.len]; exact g.2.1) ?_
  rw [List.set_set, moved_back hi, set_self h2]; exact h0
structure Ad where
 (n x y z : Nat)
 as : List Nat
 LC : Nat
 lc : List Nat
 (S N K : Nat)
noncomputable def Ad.M (a : Ad) : List Nat := [a.y, a.z, a.S, a.N, a.K]
noncomputable def Kept (M : List Nat) (H : Hp) (p : PV) : Prop := ∃ a b l, p = .tup [.lst a, .lst b] ∧ a ∉ M ∧ b ∉ M ∧ H.os[a]? = some (.list l) ∧ H.os[b]? = some (.list l) ∧ Same l
noncomputable def OffM (M : List Nat) (H H' : Hp) : Prop := ∀ (q : Nat) (o : MObj), q ∉ M → H.os[q]? = some o → H'.os[q]? = some o
theorem Kept.off {M : List Nat} {H H' : Hp} {p : PV} (h : Kept M H p) (e : OffM M H H') : Kept M H' p := x36 h fun a b l h1 h2 h3 h4 h5 h6 => ei36 a b l h1 h2 h3 (e _ _ h2 h4) (e _ _ h3 h5) h6
structure St (a : Ad) (css pss : List (List Int)) (ds : List Deed) (kl : List PV) (H : Hp) : Prop where
 R : Rk H a.n a.x a.y a.z a.as css
 F : Hist css pss ds
 hy : H.os[a.y]? = some (.list (pss.map rowV))
 hz : H.os[a.z]? = some (.list (ds.map deedV))
 hLC : H.os[a.LC]? = some (.list (a.lc.map .lst))
 hlc : ListsAt H a.lc css
 hS : H.os[a.S]? = some (.list (pss.map rowV))
 hN : H.os[a.N]? = some (.list (ds.map deedV))
 hK : H.os[a.K]? = some (.list kl)
 lo : ∀ q ∈ a.M, H.lo ≤ q
 nd : a.M.Nodup
 offx : a.x ∉ a.M
 offL : a.LC ∉ a.M
 offa : ∀ q ∈ a.as, q ∉ a.M
 offl : ∀ q ∈ a.lc, q ∉ a.M
 kept : ∀ p ∈ kl, Kept a.M H p
theorem St.ne {a : Ad} {css pss : List (List Int)} {ds : List Deed} {kl : List PV} {H : Hp} (I : St a css pss ds kl H) {PP : Prop} (kk : a.y ≠ a.z → a.y ≠ a.S → a.y ≠ a.N → a.y ≠ a.K → a.z ≠ a.S → a.z ≠ a.N → a.z ≠ a.K → a.S ≠ a.N → a.S ≠ a.K → a.N ≠ a.K → PP) : PP := by
 have h := I.nd
 unfold Ad.M at h
 simp only [List.nodup_cons, List.mem_cons, List.not_mem_nil, or_false, not_or] at h
 revert h; refine y05 fun zq1 zq2 zq3 h10 z_ => ?_
 obtain ⟨h1, h2, h3, h4⟩ := zq1
 obtain ⟨h5, h6, h7⟩ := zq2
 obtain ⟨h8, h9⟩ := zq3
 exact kk h1 h2 h3 h4 h5 h6 h7 h8 h9 h10
theorem St.lists {a : Ad} {css pss : List (List Int)} {ds : List Deed} {kl : List PV} {H : Hp} (I : St a css pss ds kl H) : ∀ q ∈ a.M, ∃ l, H.os[q]? = some (.list l) := fun q hq => by
 unfold Ad.M at hq
 simp only [List.mem_cons, List.not_mem_nil, or_false] at hq
 rcases hq with rfl | rfl | rfl | rfl | rfl
 ·exact ei11 _ I.hy
 ·exact ei11 _ I.hz
 ·exact ei11 _ I.hS
 ·exact ei11 _ I.hN
 ·exact ei11 _ I.hK
theorem St.next {a : Ad} {css pss pss' : List (List Int)} {ds ds' : List Deed} {kl kl' : List PV} {H H' : Hp} (I : St a css pss ds kl H) (off : OffM a.M H H') (lo : H'.lo = H.lo) (F : Hist css pss' ds') (hy : H'.os[a.y]? = some (.list (pss'.map rowV))) (hz : H'.os[a.z]? = some (.list (ds'.map deedV))) (hS : H'.os[a.S]? = some (.list (pss'.map rowV))) (hN : H'.os[a.N]? = some (.list (ds'.map deedV))) (hK : H'.os[a.K]? = some (.list kl'))
  (hk : ∀ p ∈ kl', p ∈ kl ∨ Kept a.M H' p) : St a css pss' ds' kl' H' := by
 refine x12 I.R.ex fun d h1 h2 => ?_
 have nl : ∀ {q : Nat} {o : MObj}, H.os[q]? = some o → (∀ l, o ≠ .list l) → q ∉ a.M := fun e hl hq => by
  refine x11 (I.lists _ hq) fun l e' => ?_
  rw [e] at e'; cases e'; exact hl l rfl
 exact ⟨⟨⟨d, off _ _ (nl h1 fun z_ q => by cases q) h1, off _ _ (nl h2 fun z_ q => by cases q) h2⟩, off _ _ I.offx I.R.hx, I.R.ls.on fun q hq o => off q o (I.offa q hq)⟩, F, hy, hz, off _ _ I.offL I.hLC, I.hlc.on fun q hq o => off q o (I.offl q hq), hS, hN, hK, fun q hq => by rw [lo]; exact I.lo q hq, I.nd, I.offx, I.offL, I.offa, I.offl,
  fun p hp => (hk p hp).elim (fun q => (I.kept p q).off off) id⟩
theorem St.ext {a : Ad} {css pss : List (List Int)} {ds : List Deed} {kl : List PV} {H H' : Hp} (I : St a css pss ds kl H) (e : Ext H H') (lo : H'.lo = H.lo) : St a css pss ds kl H' :=
 I.next (fun q o z_ h => e q o h) lo I.F (e _ _ I.hy) (e _ _ I.hz) (e _ _ I.hS) (e _ _ I.hN) (e _ _ I.hK) fun p hp => .inl hp
section
variable {m : Nat} {a : Ad} {css pss : List (List Int)} {ds : List Deed} {kl : List PV} {H : Hp}
theorem St.mem (I : St a css pss ds kl H) : a.y ∈ a.M ∧ a.z ∈ a.M ∧ a.S ∈ a.M ∧ a.N ∈ a.M ∧ a.K ∈ a.M := ⟨.head _, .tail _ (.head _), .tail _ (.tail _ (.head _)), .tail _ (.tail _ (.tail _ (.head _))), .tail _ (.tail _ (.tail _ (.tail _ (.head _))))⟩
theorem St.right {f : Int} (hm : 4 ≤ m) (I : St a css pss ds kl H) (hkl : kl.length ≤ 1000) (hds : ds.length ≤ 900) {PP : Prop} (kk : ∀ H' kl', callN prog m 23 [.lst a.n, .lst a.LC, .lst a.S, .lst a.N, .lst a.K, .int f] H = .ok (.bool true) H' → St a css pss ds kl' H' → kl'.length = kl.length + 3 → OffM a.M H H' → PP) : PP := by
 refine I.ne fun n1 n2 n3 n4 n5 n6 n7 n8 n9 n10 => ?_
 refine x05 I.mem fun m1 m2 m3 m4 m5 => ?_
 refine right_ok (f := f) hm I.R I.F.fit I.hy I.hz I.hLC I.hlc I.hS I.hN I.hK (I.lo _ m5) n9 n10 hkl hds fun H' kn e x l hK hl hk => ?_
 have off : OffM a.M H H' := fun q o hq e => x q o (fun z => hq (z ▸ m5)) e
 refine kk H' (kl ++ kn) e (I.next off l I.F (x _ _ n4 I.hy) (x _ _ n7 I.hz) (x _ _ n9 I.hS) (x _ _ n10 I.hN) hK fun p hp => ?_) (by rw [List.length_append, hl]) off
 rcases List.mem_append.mp hp with q | q
 ·exact .inl q
 ·refine x36 (hk p q) fun u v l h1 h2 h3 h4 h5 h6 => ?_
  have big : ∀ {w : Nat}, H.os.length ≤ w → w ∉ a.M := fun hw hq => by
   refine x11 (I.lists _ hq) fun l e' => ?_
   exact absurd (lt_of_at e') (Nat.not_lt.mpr hw)
  exact .inr ⟨u, v, l, h1, big h2, big h3, h4, h5, h6⟩
end
end Mine.L13
end
section
namespace Mine.L13
open PySem Mine
section
variable {l : List PV} {hp : Hp}
theorem cut_take {k : Int} (h0 : 0 ≤ k) : cut l none (some k) = l.take k.toNat := by
 show (l.take (cutHi (some k) l.length)).drop 0 = _
 rw [cut_nn h0, List.drop_zero, ← List.take_eq_take_min]
theorem asInt_ok {k : Int} (h0 : 0 ≤ k) (h1 : k ≤ 1000000000) : asInt? (some (.int k)) = some (some k) := by
 show (if intOk k then some (some k) else none) = _
 rw [if_pos (small (Int.le_trans ile h0) h1)]
theorem h_ltake {n : Nat} {k : Int} (hl : hp.os[n]? = some (.list l)) (h0 : 0 ≤ k) (h1 : k ≤ 1000000000) : sliceop (.lst n) none (some (.int k)) hp = .ok (.lst hp.new) (hp.add (.list (l.take k.toNat))) := by
 unfold sliceop
 rw [asInt_ok h0 h1]
 show (match lstAt hp n with | some l => Mine.newList (cut l none (some k)) hp | none => .bad) = _
 rw [lst_of hl]
 show Mine.newList (cut l none (some k)) hp = _
 rw [cut_take h0]; rfl
end
theorem off_turn {M : List Nat} {H : Hp} {k : Nat} {o' : MObj} (hk : k ∈ M) : OffM M H (H.turn k o') := fun q o hq e => (Hp.turn_ne (show k ≠ q from fun w => hq (w ▸ hk))).trans e
theorem OffM.trans {M : List Nat} {A B C : Hp} (h : OffM M A B) (h' : OffM M B C) : OffM M A C := fun q o hq e => h' q o hq (h q o hq e)
theorem if_id {h : Hp} (b : Bool) : (if b = true then Res.ok true h else Res.ok false h) = Res.ok b h := by cases b <;> rfl
noncomputable abbrev doneL (a : Ad) (deed tw : PV) (one some' chest dh later : Option PV) : Loc := [(67, some (.lst a.n)), (61, some (.lst a.LC)), (94, some (.lst a.S)), (85, some (.lst a.N)), (83, some deed), (103, some tw), (9, one), (40, some'), (81, chest), (84, dh), (90, later)]
noncomputable def mvOf : PV → Nat × Int
 | .tup [.int i, .int d] => (i.toNat, d)
 | _ => (0, 0)
theorem mvOf_mv (q : Nat × Int) : mvOf (mvV q) = q := by show ((q.1 : Int).toNat, q.2) = q; rw [Int.toNat_natCast]
section
variable {m k : Nat} {a : Ad} {css pss : List (List Int)} {ds : List Deed} {kl : List PV} {H : Hp}
theorem one_deed {c i : Nat} {d : Int} {cs ps : List Int} {deed tw : PV} {so dh la : Option PV} (hk : 4 ≤ k) (I : St a css pss ds kl H) (hds : ds.length ≤ 900) (h1 : css[c]? = some cs) (h2 : pss[c]? = some ps) (h : (i, d) ∈ dueC cs ps) {PP : Prop} (kk : ∀ H', exeB prog (callN prog k) (callW prog) f_law_deed_done_b1 (doneL a deed tw (some (deedV (c, i, d))) so (some (.int (c : Int))) dh la) H = .nxt (doneL a deed tw (some (deedV (c, i, d))) so (some (.int (c : Int))) dh la) H' → St a css (pss.set c (moved ps i d)) (ds ++ [(c, i, d)]) kl H' → OffM a.M H H' → PP) : PP := by
 refine I.ne fun n1 n2 n3 n4 n5 n6 n7 n8 n9 n10 => ?_
 refine x05 I.mem fun m1 m2 m3 m4 m5 => ?_
 have F := I.F.fit
 have hr := F.ok _ _ _ h1 h2
 have g := F.good cs (List.mem_of_getElem? h1)
 refine x03 (due_row hr h) fun hip z_ z_ => ?_
 refine x11 (⟨_, List.getElem?_eq_getElem hip⟩ : ∃ v, ps[i]? = some v) fun v hv => ?_
 have hc2 := (List.getElem?_eq_some_iff.mp h2).1
 have e1 := do_ok (m := k) (by exact hk) I.R F I.hy I.hz (I.lo _ m1) (I.lo _ m2) n1 (fun q => I.offx (q ▸ m1)) (fun q => I.offa _ q m1) (Nat.le_trans hds (by decide)) h1 h2 h
 refine x17 (⟨_, rfl, (Hp.turn_ne (Ne.symm n1)).trans (Hp.turn_at I.hy), Hp.turn_at ((Hp.turn_ne n1).trans I.hz), (Hp.turn_ne n5).trans ((Hp.turn_ne n2).trans I.hS), (Hp.turn_ne n6).trans ((Hp.turn_ne n3).trans I.hN), (Hp.turn_ne n7).trans ((Hp.turn_ne n4).trans I.hK), (off_turn m1).trans (off_turn m2)⟩ : ∃ H1, (H.turn a.y (.list ((pss.set c (moved ps i d)).map rowV))).turn a.z (.list ((ds ++ [(c, i, d)]).map deedV)) = H1 ∧ H1.os[a.y]? = some (.list ((pss.set c (moved ps i d)).map rowV)) ∧ H1.os[a.z]? = some (.list ((ds ++ [(c, i, d)]).map deedV)) ∧ H1.os[a.S]? = some (.list (pss.map rowV)) ∧ H1.os[a.N]? = some (.list (ds.map deedV)) ∧ H1.os[a.K]? = some (.list kl) ∧ OffM a.M H H1) fun H1 hH1 y1 z1 S1 N1 K1 o1 => ?_
 have lo1 : H1.lo = H.lo := by rw [← hH1]; rfl
 rw [hH1] at e1
 have p2 := p_app (v := deedV (c, i, d)) N1 (by rw [lo1]; exact I.lo _ m4) (by rw [List.length_map]; exact Nat.le_trans hds (by decide))
 rw [show ds.map deedV ++ [deedV (c, i, d)] = (ds ++ [(c, i, d)]).map deedV by rw [List.map_append]; rfl] at p2
 refine x17 (⟨_, rfl, (Hp.turn_ne (Ne.symm n3)).trans y1, (Hp.turn_ne (Ne.symm n6)).trans z1, (Hp.turn_ne (Ne.symm n8)).trans S1, Hp.turn_at N1, (Hp.turn_ne n10).trans K1, o1.trans (off_turn m4)⟩ : ∃ H2, H1.turn a.N (.list ((ds ++ [(c, i, d)]).map deedV)) = H2 ∧ H2.os[a.y]? = some (.list ((pss.set c (moved ps i d)).map rowV)) ∧ H2.os[a.z]? = some (.list ((ds ++ [(c, i, d)]).map deedV)) ∧ H2.os[a.S]? = some (.list (pss.map rowV)) ∧ H2.os[a.N]? = some (.list ((ds ++ [(c, i, d)]).map deedV)) ∧ H2.os[a.K]? = some (.list kl) ∧ OffM a.M H H2) fun H2 hH2 y2 z2 S2 N2 K2 o2 => ?_
 have lo2 : H2.lo = H.lo := by rw [← hH2]; exact lo1
 rw [hH2] at p2
 have tn := turned_ok (m := k) (hp := H2) (d := d) (by exact (Nat.le_of_lt (Nat.lt_of_lt_of_le ltl hk))) (by rw [hr.len]; exact g.2.1) hv
 rw [← moved_at hv] at tn
 have gS : subop (.lst a.S) (.int (c : Int)) H2 = some (rowV ps) := g_lst S2 (Int.natCast_nonneg _) (by rw [Int.toNat_natCast, List.getElem?_map, h2]; rfl)
 have wa := w_at (v := rowV (moved ps i d)) S2 (by rw [lo2]; exact I.lo _ m3) (Int.natCast_nonneg c) (by rw [List.length_map]; exact Int.ofNat_lt.mpr hc2)
 rw [Int.toNat_natCast, ← List.map_set] at wa
 have g1 : subop (deedV (c, i, d)) (.int 1) H2 = some (.int (i : Int)) := g_tup (by decide) rfl
 have g2 : subop (deedV (c, i, d)) (.int 2) H2 = some (.int d) := g_tup (by decide) rfl
 refine kk _ (s_if0 (t_cmp (e_mcall (e_var rfl) I.R.tab (es_cons (e_var rfl) es_nil) e1) (c_one e_lit rfl)) (s_expr (e_meth (e_var rfl) (r_lst N1) (es_cons (e_var rfl) es_nil) p2) (s_store (e_call (es_cons (e_sub (e_var rfl) (e_var rfl) gS) (es_cons (e_sub (e_var rfl) e_lit g1) (es_cons (e_sub (e_var rfl) e_lit g2) es_nil))) tn) (e_var rfl) (e_var rfl) wa s_nil))) ?_ ?_
 ·refine I.next (o2.trans (off_turn m3)) lo2 (.snoc I.F h1 h2 h) ((Hp.turn_ne (Ne.symm n2)).trans y2) ((Hp.turn_ne (Ne.symm n5)).trans z2) (Hp.turn_at S2) ((Hp.turn_ne n8).trans N2) ((Hp.turn_ne n9).trans K2) fun p hp => .inl hp
 ·exact o2.trans (off_turn m3)
theorem deeds_loop {c i D : Nat} {d : Int} {cs ps : List Int} {tw : PV} {so la : Option PV} {L2 : List PV} (hm : 6 ≤ k + 1) (I : St a css pss ds kl H) (hds : ds.length ≤ 800) (h1 : css[c]? = some cs) (h2 : pss[c]? = some ps) (h : (i, d) ∈ dueC cs ps) (hc2 : c < pss.length) (l2 : L2.length ≤ 1)
  (two : L2 = [] ∨ ∃ q : Nat × Int, L2 = [deedV (c, q)] ∧ q ∈ dueC cs (moved ps i d) ∧ q ∉ dueC cs ps) (hD : H.os[D]? = some (.list (deedV (c, i, d) :: L2))) (nD : D ∉ a.M) {PP : Prop} (kk : ∀ s : Hp × List (List Int) × List Deed × Option PV, exeS prog (callN prog k) (callW prog) (.forS (.one 9) .plain [.var 84] f_law_deed_done_b1) (doneL a (deedV (c, i, d)) tw none so (some (.int (c : Int))) (some (.lst D)) la) H = .nxt (doneL a (deedV (c, i, d)) tw s.2.2.2 so (some (.int (c : Int))) (some (.lst D)) la) s.1 → St a css s.2.1 s.2.2.1 kl s.1 → OffM a.M H s.1 → s.2.2.1.length = ds.length + (L2.length + 1) → PP) : PP := by
 have hc3 : c < (pss.set c (moved ps i d)).length := by rw [List.length_set]; exact hc2
 refine x16 (x_for (P := prog) (C := callN prog k) (W := callW prog) (body := f_law_deed_done_b1) (t := .one 9) (k := .plain) (its := [.var 84]) (hp := H) (fun h => h.os[D]? = some (.list (deedV (c, i, d) :: L2)))
  (fun s : Hp × List (List Int) × List Deed × Option PV => doneL a (deedV (c, i, d)) tw s.2.2.2 so (some (.int (c : Int))) (some (.lst D)) la) (fun s => s.1)
  (fun j s => St a css s.2.1 s.2.2.1 kl s.1 ∧ OffM a.M H s.1 ∧ (j = 0 → s.2.1 = pss) ∧ (j = 1 → s.2.1 = pss.set c (moved ps i d)) ∧ s.2.2.1.length = ds.length + j) (H, pss, ds, none)
  (es_cons (e_var rfl) es_nil) (k_lst hD) rfl (y_all fun h q => q) (by show L2.length + 1 < 1000000; omega) (fun j s g => g.2.1 _ _ nD hD) ⟨I, fun z_ z_ z_ e => e, fun z_ => rfl, fun q => absurd q (by decide), rfl⟩ (by
   intro j; refine p4 fun h' pss' ds' o w hw => y05 fun g1 g2 g3 g4 g5 => ?_
   dsimp only at g1 g2 g3 g4 g5
   have hj : j < L2.length + 1 := (List.getElem?_eq_some_iff.mp hw).1
   rcases j with _ | _ | j
   ·cases hw
    obtain rfl := g3 rfl
    refine one_deed (k := k) (deed := deedV (c, i, d)) (tw := tw) (so := so) (dh := some (.lst D)) (la := la) (by first | exact lv hm | exact lw hn | omega) g1 (by first | exact lv hm | exact lw hn | omega) h1 h2 h fun H' e I' o' => ?_
    exact ei27 (H', _, ds' ++ [(c, i, d)], some (deedV (c, i, d))) _ rfl e I' (fun q o hq e => o' q o hq (g2 q o hq e)) (fun q => absurd q (by decide)) (fun z_ => rfl) (by rw [List.length_append, g5]; rfl)
   ·rcases two with q | ⟨q, q1, q2, _⟩
    ·rw [q] at hj; exact absurd hj (by decide)
    ·rw [q1] at hw
     cases hw
     obtain rfl := g4 rfl
     refine one_deed (k := k) (c := c) (i := q.1) (d := q.2) (deed := deedV (c, i, d)) (tw := tw) (so := so) (dh := some (.lst D)) (la := la) (by first | exact lv hm | exact lw hn | omega) g1 (by first | exact lv hm | exact lw hn | omega) h1 (List.getElem?_set_self hc2) q2 fun H' e I' o' => ?_
     exact ei27 (H', _, ds' ++ [(c, q.1, q.2)], some (deedV (c, q.1, q.2))) _ rfl e I' (fun q o hq e => o' q o hq (g2 q o hq e)) (fun q => absurd q (by first | exact lv hm | exact lw hn | omega)) (fun q => absurd q (by first | exact lv hm | exact lw hn | omega)) (by rw [List.length_append, g5]; rfl)
   ·omega)) fun s e7 I7 o7 z_ z_ l7 => ?_
 exact kk s e7 I7 o7 l7
theorem deed_done_ok {c i : Nat} {d : Int} {cs ps : List Int} {tw : Bool} (hm : 6 ≤ m) (I : St a css pss ds kl H) (hds : ds.length ≤ 800) (h1 : css[c]? = some cs) (h2 : pss[c]? = some ps) (h : (i, d) ∈ dueC cs ps) {PP : Prop} (kk : ∀ H' pss' ds', callN prog m 26 [.lst a.n, .lst a.LC, .lst a.S, .lst a.N, deedV (c, i, d), .bool tw] H = .ok (.bool true) H' → St a css pss' ds' kl H' → ds'.length ≤ ds.length + 2 → OffM a.M H H' → PP) : PP := by
 refine x11 (one_le (Nat.le_trans (by decide) hm)) fun k zq4 => ?_
 subst zq4
 have F := I.F.fit
 have hr := F.ok _ _ _ h1 h2
 have g := F.good cs (List.mem_of_getElem? h1)
 refine x03 (due_row hr h) fun hip z_ hr' => ?_
 refine x11 (⟨_, List.getElem?_eq_getElem hip⟩ : ∃ v, ps[i]? = some v) fun v hv => ?_
 have hc2 := (List.getElem?_eq_some_iff.mp h2).1
 refine x12 (I.hlc.at h1) fun b hb hox => ?_
 have gL : ∀ {h' : Hp}, Ext H h' → subop (.lst a.LC) (.int (c : Int)) h' = some (.lst b) := fun e => g_lst (e _ _ I.hLC) (Int.natCast_nonneg _) (by rw [Int.toNat_natCast, List.getElem?_map, hb]; rfl)
 have gS : ∀ {h' : Hp}, Ext H h' → subop (.lst a.S) (.int (c : Int)) h' = some (rowV ps) := fun e => g_lst (e _ _ I.hS) (Int.natCast_nonneg _) (by rw [Int.toNat_natCast, List.getElem?_map, h2]; rfl)
 have e1 := law_due_ok (m := k) (hp := H) (by first | exact lv hm | exact lw hn | omega) hox g.2.1 g.2.2 hr
 refine addE H (.list ((dueC cs ps).map mvV)) fun H1 hH1 X1 N1 => ?_
 rw [hH1] at e1
 have tn := turned_ok (m := k) (hp := H1) (d := d) (by first | exact lv hm | exact lw hn | omega) (by rw [hr.len]; exact g.2.1) hv
 rw [← moved_at hv] at tn
 have e2 := law_due_ok (m := k) (hp := H1) (by first | exact lv hm | exact lw hn | omega) (X1 _ _ hox) g.2.1 g.2.2 hr'
 have dl := (sort_due g.2.2 hr' g.1).2.2
 refine addE H1 (.list ((dueC cs (moved ps i d)).map mvV)) fun H2 hH2 X2 N2 => ?_
 rw [hH2] at e2
 refine addE H2 (.list [deedV (c, i, d)]) fun H3 hH3 X3 N3 => ?_
 have X03 : Ext H H3 := (X1.trans X2).trans X3
 have N13 := X3 _ _ (X2 _ _ N1)
 have e4 := e_comp (P := prog) (C := callN prog k) (loc := doneL a (deedV (c, i, d)) (.bool tw) none (some (.lst H.new)) (some (.int (c : Int))) none (some (.lst H1.new))) (hp := H3) (elt := .bin .add (.tuple [.var 81]) (.var 56)) (t := .one 56) (k := .plain) (its := [.var 90]) (hp2 := H3) (ifs := [.cmp (.var 56) [.notin] [.var 40]])
  (fun h => h = H3) (fun p => !decide (mvOf p ∈ dueC cs ps)) (fun p => deedV (c, mvOf p)) (es_cons (e_var rfl) es_nil) (k_lst (X3 _ _ N2)) rfl (y_all fun h q => by rw [q]; exact X3 _ _ N2) rfl (by rw [List.length_map]; exact (Nat.lt_of_le_of_lt dl ltl)) (fun p hp => by
   refine x12 (List.mem_map.mp hp) fun q z_ zq3 => ?_
   subst zq3
   refine ei13 _ rfl (bind_eq (t_cmp (e_var rfl) (c_one (e_var rfl) ?_)) (if_id _)) (fun z_ => e_bin (e_tuple (es_cons (e_var rfl) es_nil)) (e_var rfl) ?_)
   ·rw [mvOf_mv]; show (cmpop .isin (mvV q) (.lst H.new) H3).map (! ·) = _; rw [q_inm N13]; rfl
   ·rw [mvOf_mv]; exact o_cat (l := [.int (c : Int)]) (m := [.int (q.1 : Int), .int q.2]) (by show 1 + 2 ≤ 1000000; decide))
 refine nmE ((((dueC cs (moved ps i d)).map mvV).filter fun p => !decide (mvOf p ∈ dueC cs ps)).map (fun p => deedV (c, mvOf p))) fun L1 hL1 => ?_
 have inL : ∀ p ∈ L1, ∃ q : Nat × Int, p = deedV (c, q) ∧ q ∈ dueC cs (moved ps i d) ∧ q ∉ dueC cs ps := fun p hp => by
  rw [← hL1] at hp
  refine x12 (List.mem_map.mp hp) fun p' hp' zq2 => ?_
  subst zq2
  refine x02 (List.mem_filter.mp hp') fun hp1 hp2 => ?_
  refine x12 (List.mem_map.mp hp1) fun q hq zq1 => ?_
  subst zq1
  rw [mvOf_mv] at hp2 ⊢
  exact ei13 q rfl hq (by simpa using hp2)
 rw [hL1] at e4
 have lL1 : L1.length ≤ 2 := by rw [← hL1, List.length_map]; exact Nat.le_trans (List.length_filter_le _ _) (by rw [List.length_map]; exact dl)
 refine addE H3 (.list L1) fun H4 hH4 X4 N4 => ?_
 rw [hH4] at e4
 refine x12 (by
  cases tw with
  | false => exact ei12 0 rfl (by decide)
  | true => exact ei12 1 rfl (by decide) : ∃ t : Nat, bfun .int [.bool tw] H4 = .ok (.int (t : Int)) H4 ∧ t ≤ 1) fun t ht t1 => ?_
 have e5 := h_ltake (k := (t : Int)) N4 (Int.natCast_nonneg _) (by exact (Int.le_of_lt (Int.lt_of_le_of_lt (Int.ofNat_le.mpr t1) ilt)))
 rw [Int.toNat_natCast] at e5
 refine nmE (L1.take t) fun L2 hL2 => ?_
 rw [hL2] at e5
 have two : L2 = [] ∨ ∃ q : Nat × Int, L2 = [deedV (c, q)] ∧ q ∈ dueC cs (moved ps i d) ∧ q ∉ dueC cs ps := by
  rw [← hL2]
  rcases t with _ | _ | t
  ·exact .inl rfl
  ·cases hL : L1 with
   | nil => exact .inl rfl
   | cons p r =>
    refine x13 (inL p (by rw [hL]; exact .head _)) fun q q0 q1 q2 => ?_
    exact .inr ⟨q, by rw [q0]; rfl, q1, q2⟩
  ·omega
 refine addE H4 (.list L2) fun H5 hH5 X5 N5 => ?_
 rw [hH5] at e5
 have l2 : L2.length ≤ 1 := by
  rcases two with q | ⟨q, q1, _⟩
  ·rw [q]; decide
  ·rw [q1]; exact Nat.le_refl _
 have e6 := o_ladd (X5 _ _ (X4 _ _ N3)) N5 (by show 1 + L2.length ≤ 1000000; omega)
 refine x13 (⟨_, rfl, Ext.add _ _, Hp.add_new⟩ : ∃ H6, H5.add (.list ([deedV (c, i, d)] ++ L2)) = H6 ∧ Ext H5 H6 ∧ H6.os[H5.new]? = some (.list (deedV (c, i, d) :: L2))) fun H6 hH6 X6 N6 => ?_
 rw [hH6] at e6
 have X06 : Ext H H6 := ((X03.trans X4).trans X5).trans X6
 have lo6 : H6.lo = H.lo := by rw [← hH6, ← hH5, ← hH4, ← hH3, ← hH2, ← hH1]; rfl
 have I6 := I.ext X06 lo6
 have n5M : H5.new ∉ a.M := fun hq => by
  refine x11 (I.lists _ hq) fun l e' => ?_
  exact absurd (lt_of_at e') (Nat.not_lt.mpr ((X03.trans X4).trans X5).len)
 refine deeds_loop (k := k) (tw := .bool tw) (so := some (.lst H.new)) (la := some (.lst H1.new)) hm I6 hds h1 h2 h hc2 l2 two N6 n5M fun s e7 I7 o7 l7 => ?_
 refine kk s.1 s.2.1 s.2.2.1 ?_ I7 (by rw [l7]; (clear hip hc2 dl lL1 t1 lo6 l7; omega)) (fun q o hq e => o7 q o hq (X06 _ _ e))
 have hn6 : bfun .len [.lst H5.new] H6 = .ok (.int ((L2.length + 1 : Nat) : Int)) H6 := n_lst N6
 have tst : evalT prog (callN prog k) (.andT [.cmp (.bcall .len [.var 84]) [.gt] [.lit (.int 1)], .notT (.val (.call (.glob 0 (.fn 24)) [.var 67, .sub (.var 84) (.lit (.int 1))]))]) (doneL a (deedV (c, i, d)) (.bool tw) none (some (.lst H.new)) (some (.int (c : Int))) (some (.lst H5.new)) (some (.lst H1.new))) H6 = .ok false H6 := by
  rcases two with q | ⟨q, q1, q2, q3⟩
  ·subst q
   exact t_and (ts_stop (k := true) (t_cmp (e_bcall (es_cons (e_var rfl) es_nil) hn6) (c_one e_lit (q_gt_f (by decide)))))
  ·subst q1
   have hq := mem_dueC.mp q2
   have no : NoDeed css pss H6.os (deedV (c, q)) := .move h1 h2 (.none (i := q.1) (d := q.2) hq.1 (by (clear hds hm hip hc2 dl lL1 t1 lo6 l2 l7; omega)) (by (clear hds hm hip hc2 dl lL1 t1 lo6 l2 l7; omega)) q3)
   exact t_and (ts_go (t_cmp (e_bcall (es_cons (e_var rfl) es_nil) hn6) (c_one e_lit (q_gt_t (show (1 : Int) < 2 by decide)))) (ts_stop (k := true) (t_not_f (t_val (e_call (es_cons (e_var rfl) (es_cons (e_sub (e_var rfl) e_lit (g_lst N6 (by decide) rfl)) es_nil)) (refused_ok (by first | exact lv hm | exact lw hn | omega) I6.R F I6.hy no (fun lo => eq_back (d := .tuple [.int _, .int _, .int _]) rfl rfl))) v_bool))))
 exact call_ir (doneL a (deedV (c, i, d)) (.bool tw) none none none none none) rfl rfl rfl (s_asg (e_sub (e_var rfl) e_lit (g_tup (Int.le_refl _) rfl)) (s_asg (e_call (es_cons (e_sub (e_var rfl) (e_var rfl) (gL (Ext.refl _))) (es_cons (e_sub (e_var rfl) (e_var rfl) (gS (Ext.refl _))) es_nil)) e1)
  (s_asg (e_call (es_cons (e_sub (e_var rfl) (e_var rfl) (gL X1)) (es_cons (e_call (es_cons (e_sub (e_var rfl) (e_var rfl) (gS X1)) (es_cons (e_sub (e_var rfl) e_lit (g_tup (by decide) rfl)) (es_cons (e_sub (e_var rfl) e_lit (g_tup (by decide) rfl)) es_nil))) tn) es_nil)) e2)
   (s_asg (e_bin (a := .lst H2.new) (hp1 := H3) (by rw [← hH3]; exact e_list (es_cons (e_var rfl) es_nil)) (e_slice e4 o_none (o_some (e_bcall (es_cons (e_var rfl) es_nil) ht)) e5) e6) (s_if0 tst (s_cons e7 (s_ret e_lit)))))))
end
end Mine.L13
end
section
namespace Mine.L13
open PySem Mine
noncomputable abbrev lawL (a : Ad) (ns : List Int) (k cell other some' handed last chest deed : Option PV) : Loc := [(2, some (.frz ns)), (1, k), (13, cell), (34, other), (40, some'), (42, some (.lst a.K)), (55, handed), (61, some (.lst a.LC)), (65, last), (67, some (.lst a.n)), (81, chest), (83, deed), (85, some (.lst a.N)), (94, some (.lst a.S))]
section
variable {m k : Nat} {a : Ad} {css pss : List (List Int)} {ds : List Deed} {kl : List PV} {H : Hp} {ns : List Int}
theorem St.back {c i : Nat} {d : Int} {ot ha : Option PV} {kk ce so la ch de : Option PV} (hk : 3 ≤ k) (I : St a css pss (ds ++ [(c, i, d)]) kl H) {PP : Prop} (kk : ∀ H' pss', exeB prog (callN prog k) (callW prog) [.ifS (.cmp (.mcall 33 (.var 67) []) [.isNot] [.lit .none]) [.ret (.lit (.bool false))] [], .asg 65 (.meth .pop (.var 85) []), .store (.var 94) (.sub (.var 65) (.lit (.int 0))) (.call (.glob 0 (.fn 19)) [.sub (.var 94) (.sub (.var 65) (.lit (.int 0))), .sub (.var 65) (.lit (.int 1)), .bin .sub (.lit (.int 0)) (.sub (.var 65) (.lit (.int 2)))])]
   (lawL a ns kk ce ot so ha la ch de) H = .nxt (lawL a ns kk ce ot so ha (some (deedV (c, i, d))) ch de) H' → St a css pss' ds kl H' → OffM a.M H H' → PP) : PP := by
 refine I.ne fun n1 n2 n3 n4 n5 n6 n7 n8 n9 n10 => ?_
 refine x05 I.mem fun m1 m2 m3 m4 m5 => ?_
 refine I.F.back fun ps h2 hi hl F' => ?_
 refine x11 (⟨_, List.getElem?_eq_getElem hi⟩ : ∃ v, ps[i]? = some v) fun v hv => ?_
 have hc2 := (List.getElem?_eq_some_iff.mp h2).1
 have e1 := back_ok (m := k) (by exact (Nat.le_of_lt (Nat.lt_of_lt_of_le ltl hk))) I.R I.hy I.hz (I.lo _ m1) (I.lo _ m2) n1 (fun q => I.offx (q ▸ m2)) (fun q => I.offa _ q m2) h2 hl hi
 refine x17 (⟨_, rfl, Hp.turn_at ((Hp.turn_ne (Ne.symm n1)).trans I.hy), (Hp.turn_ne n1).trans (Hp.turn_at I.hz), (Hp.turn_ne n2).trans ((Hp.turn_ne n5).trans I.hS), (Hp.turn_ne n3).trans ((Hp.turn_ne n6).trans I.hN), (Hp.turn_ne n4).trans ((Hp.turn_ne n7).trans I.hK), (off_turn m2).trans (off_turn m1)⟩ : ∃ H1, (H.turn a.z (.list (ds.map deedV))).turn a.y (.list ((pss.set c (moved ps i (-d))).map rowV)) = H1 ∧ H1.os[a.y]? = some (.list ((pss.set c (moved ps i (-d))).map rowV)) ∧ H1.os[a.z]? = some (.list (ds.map deedV)) ∧ H1.os[a.S]? = some (.list (pss.map rowV)) ∧ H1.os[a.N]? = some (.list ((ds ++ [(c, i, d)]).map deedV)) ∧ H1.os[a.K]? = some (.list kl) ∧ OffM a.M H H1) fun H1 hH1 y1 z1 S1 N1 K1 o1 => ?_
 have lo1 : H1.lo = H.lo := by rw [← hH1]; rfl
 rw [hH1] at e1
 have N1' := N1
 rw [List.map_append] at N1'
 have p2 := p_pop (v := deedV (c, i, d)) N1' (by rw [lo1]; exact I.lo _ m4)
 refine x17 (⟨_, rfl, (Hp.turn_ne (Ne.symm n3)).trans y1, (Hp.turn_ne (Ne.symm n6)).trans z1, (Hp.turn_ne (Ne.symm n8)).trans S1, Hp.turn_at N1, (Hp.turn_ne n10).trans K1, o1.trans (off_turn m4)⟩ : ∃ H2, H1.turn a.N (.list (ds.map deedV)) = H2 ∧ H2.os[a.y]? = some (.list ((pss.set c (moved ps i (-d))).map rowV)) ∧ H2.os[a.z]? = some (.list (ds.map deedV)) ∧ H2.os[a.S]? = some (.list (pss.map rowV)) ∧ H2.os[a.N]? = some (.list (ds.map deedV)) ∧ H2.os[a.K]? = some (.list kl) ∧ OffM a.M H H2) fun H2 hH2 y2 z2 S2 N2 K2 o2 => ?_
 have lo2 : H2.lo = H.lo := by rw [← hH2]; exact lo1
 rw [hH2] at p2
 have tn := turned_ok (m := k) (hp := H2) (d := 0 - d) (by exact (Nat.le_of_lt (Nat.lt_of_lt_of_le ltl hk))) hl hv
 rw [← moved_at hv, Int.zero_sub] at tn
 have gS : subop (.lst a.S) (.int (c : Int)) H2 = some (rowV ps) := g_lst S2 (Int.natCast_nonneg _) (by rw [Int.toNat_natCast, List.getElem?_map, h2]; rfl)
 have wa := w_at (v := rowV (moved ps i (-d))) S2 (by rw [lo2]; exact I.lo _ m3) (Int.natCast_nonneg c) (by rw [List.length_map]; exact Int.ofNat_lt.mpr hc2)
 rw [Int.toNat_natCast, ← List.map_set] at wa
 have g0 : subop (deedV (c, i, d)) (.int 0) H2 = some (.int (c : Int)) := g_tup (Int.le_refl _) rfl
 have g1 : subop (deedV (c, i, d)) (.int 1) H2 = some (.int (i : Int)) := g_tup (by decide) rfl
 have g2 : subop (deedV (c, i, d)) (.int 2) H2 = some (.int d) := g_tup (by decide) rfl
 refine kk _ (pss.set c (moved ps i (-d))) (s_if0 (t_cmp (e_mcall (e_var rfl) I.R.tab es_nil e1) (c_one e_lit rfl)) (s_asg (e_meth (e_var rfl) (r_pop N1) es_nil p2) (s_store (e_call (es_cons (e_sub (e_var rfl) (e_sub (e_var rfl) e_lit g0) gS) (es_cons (e_sub (e_var rfl) e_lit g1) (es_cons (e_bin e_lit (e_sub (e_var rfl) e_lit g2) (by rw [← Int.zero_sub]; exact o_sub)) es_nil))) tn) (e_var rfl) (e_sub (e_var rfl) e_lit g0) wa s_nil))) ?_ ?_
 ·exact I.next (o2.trans (off_turn m3)) lo2 F' ((Hp.turn_ne (Ne.symm n2)).trans y2) ((Hp.turn_ne (Ne.symm n5)).trans z2) (Hp.turn_at S2) ((Hp.turn_ne n8).trans N2) ((Hp.turn_ne n9).trans K2) fun p hp => .inl hp
 ·exact o2.trans (off_turn m3)
theorem turn_ok {t : Int} {ot ha ce so la ch de : Option PV} (hk : 7 ≤ k) (I : St a css pss ds kl H) (hkl : kl.length ≤ 1000) (hds : ds.length ≤ 700) (ht : 0 ≤ t) {PP : Prop} (kk : ∀ H' pss' ds' kl' ce' so' la' ch' de', exeB prog (callN prog k) (callW prog) f_law_b1 (lawL a ns (some (.int t)) ce ot so ha la ch de) H = .nxt (lawL a ns (some (.int t)) ce' ot so' ha la' ch' de') H' → St a css pss' ds' kl' H' → kl'.length = kl.length + 3 → ds'.length ≤ ds.length + 2 → OffM a.M H H' → PP) : PP := by
 have F := I.F.fit
 have e1 := mixed_ok (m := k) (hp := H) (ns := ns) (by exact (Nat.le_of_lt (Nat.lt_of_lt_of_le ltl hk))) ht
 have hnn := mixed_nn (ns := ns) (k := t)
 generalize mixed ns t = ce1 at *
 refine x12 (tn_mod _ _ F.l1 : ∃ c : Nat, ce1 / 5 % (css.length : Int) = (c : Int) ∧ c < css.length) fun c hc1 hc2 => ?_
 refine x11 (⟨_, List.getElem?_eq_getElem hc2⟩ : ∃ cs, css[c]? = some cs) fun cs h1 => ?_
 refine x11 (⟨_, List.getElem?_eq_getElem (by rw [F.len]; exact hc2)⟩ : ∃ ps, pss[c]? = some ps) fun ps h2 => ?_
 have hr := F.ok _ _ _ h1 h2
 have g := F.good cs (List.mem_of_getElem? h1)
 refine x12 (I.hlc.at h1) fun b hb hox => ?_
 have hnL : bfun .len [.lst a.LC] H = .ok (.int css.length) H := by have := n_lst I.hLC; rwa [List.length_map, I.hlc.len] at this
 have gL : subop (.lst a.LC) (.int (c : Int)) H = some (.lst b) := g_lst I.hLC (Int.natCast_nonneg _) (by rw [Int.toNat_natCast, List.getElem?_map, hb]; rfl)
 have gS : subop (.lst a.S) (.int (c : Int)) H = some (rowV ps) := g_lst I.hS (Int.natCast_nonneg _) (by rw [Int.toNat_natCast, List.getElem?_map, h2]; rfl)
 have e2 := law_due_ok (m := k) (hp := H) (by exact (Nat.le_of_lt (Nat.lt_of_lt_of_le ltl hk))) hox g.2.1 g.2.2 hr
 have sd := (sort_due g.2.2 hr g.1).2
 refine addE H (.list ((dueC cs ps).map mvV)) fun H1 hH1 X1 N1 => ?_
 have lo1 : H1.lo = H.lo := by rw [← hH1]; rfl
 rw [hH1] at e2
 have hn1 := n_lst N1
 rw [List.length_map] at hn1
 refine x12 (tn_mod _ _ sd.1 : ∃ w : Nat, ce1 / 35 % ((dueC cs ps).length : Int) = (w : Int) ∧ w < (dueC cs ps).length) fun w hw1 hw2 => ?_
 refine x11 (⟨_, List.getElem?_eq_getElem hw2⟩ : ∃ q, (dueC cs ps)[w]? = some q) fun zq1 hid => ?_
 obtain ⟨i, d⟩ := zq1
 have hmem := List.mem_of_getElem? hid
 have gW : subop (.lst H.new) (.int (w : Int)) H1 = some (mvV (i, d)) := g_lst N1 (Int.natCast_nonneg _) (by rw [Int.toNat_natCast, List.getElem?_map, hid]; rfl)
 have I1 := I.ext X1 lo1
 refine I1.right (m := k) (f := ce1 / 3) (by exact (Nat.le_of_lt (Nat.lt_of_lt_of_le ltl hk))) hkl (by exact (Nat.le_of_lt (Nat.lt_of_le_of_lt hds ltl))) fun H2 kl2 e3 I2 l2 o2 => ?_
 have o02 : OffM a.M H H2 := fun q o hq e => o2 q o hq (X1 _ _ e)
 have hcl : evalE prog (callN prog k) (.bin .mod (.bin .div (.var 13) (.lit (.int 5))) (.bcall .len [.var 61])) (lawL a ns (some (.int t)) (some (.int ce1)) ot so ha la ch de) H = .ok (.int (c : Int)) H := by
  rw [← hc1]; exact e_bin (e_bin (e_var rfl) e_lit (o_div (by decide) (by decide))) (e_bcall (es_cons (e_var rfl) es_nil) hnL) (o_mod (Int.ofNat_lt.mpr F.l1))
 have hdd : evalE prog (callN prog k) (.bin .add (.tuple [.var 81]) (.sub (.var 40) (.bin .mod (.bin .div (.var 13) (.lit (.int 35))) (.bcall .len [.var 40])))) (lawL a ns (some (.int t)) (some (.int ce1)) ot (some (.lst H.new)) ha la (some (.int (c : Int))) de) H1 = .ok (deedV (c, i, d)) H1 :=
  e_bin (e_tuple (es_cons (e_var rfl) es_nil)) (e_sub (i := .bin .mod (.bin .div (.var 13) (.lit (.int 35))) (.bcall .len [.var 40])) (b := .int (w : Int)) (e_var rfl) (by rw [← hw1]; exact e_bin (e_bin (e_var rfl) e_lit (o_div (by decide) (by decide))) (e_bcall (es_cons (e_var rfl) es_nil) hn1) (o_mod (Int.ofNat_lt.mpr sd.1))) gW) (o_cat (l := [.int (c : Int)]) (m := [.int (i : Int), .int d]) (by show 1 + 2 ≤ 1000000; decide))
 have hnd : bfun .len [.lst a.N] H2 = .ok (.int ds.length) H2 := by have := n_lst I2.hN; rwa [List.length_map] at this
 have pre : ∀ {q : SR}, exeB prog (callN prog k) (callW prog) (f_law_b1.drop 5) (lawL a ns (some (.int t)) (some (.int ce1)) ot (some (.lst H.new)) ha la (some (.int (c : Int))) (some (deedV (c, i, d)))) H2 = q → exeB prog (callN prog k) (callW prog) f_law_b1 (lawL a ns (some (.int t)) ce ot so ha la ch de) H = q := fun {q} hq =>
  s_asg (e_call (es_cons (e_var rfl) (es_cons (e_var rfl) es_nil)) e1) (s_asg hcl (s_asg (e_call (es_cons (e_sub (e_var rfl) (e_var rfl) gL) (es_cons (e_sub (e_var rfl) (e_var rfl) gS) es_nil)) e2) (s_asg hdd (s_if0 (t_not_f (t_val (e_call (es_cons (e_var rfl) (es_cons (e_var rfl) (es_cons (e_var rfl) (es_cons (e_var rfl) (es_cons (e_var rfl) (es_cons (e_bin (e_var rfl) e_lit (o_div (by decide) (by decide))) es_nil)))))) e3) v_bool)) hq))))
 have m5 : ∀ {h : Hp}, evalE prog (callN prog k) (.bin .mod (.var 13) (.lit (.int 5))) (lawL a ns (some (.int t)) (some (.int ce1)) ot (some (.lst H.new)) ha la (some (.int (c : Int))) (some (deedV (c, i, d)))) h = .ok (.int (ce1 % 5)) h := e_bin (e_var rfl) e_lit (o_mod (by decide))
 by_cases q0 : ce1 % 5 = 0
 ·rcases List.eq_nil_or_concat ds with hd | ⟨ds0, ⟨c', i', d'⟩, hd⟩
  ·subst hd
   exact kk H2 pss ([]) kl2 _ _ _ _ _ (pre (s_cons (i_t (t_and (ts_go (t_cmp m5 (c_one e_lit (q_eq_t q0))) (ts_go (t_cmp (e_bcall (es_cons (e_var rfl) es_nil) hnd) (c_one e_lit (q_eq_t rfl))) ts_nil))) (s_if0 (t_not_f (t_val (e_call (es_cons (e_var rfl) (es_cons e_lit es_nil)) (refused_back (by exact (Nat.le_of_lt (Nat.lt_of_lt_of_le ltl hk))) I2.R I2.hz)) v_bool)) s_nil)) s_nil)) I2 l2 (Nat.le_add_right _ _) o02
  ·rw [List.concat_eq_append] at hd
   subst hd
   refine I2.back (k := k) (ns := ns) (kk := some (.int t)) (ce := some (.int ce1)) (ot := ot) (so := some (.lst H.new)) (ha := ha) (la := la) (ch := some (.int (c : Int))) (de := some (deedV (c, i, d))) (by exact (Nat.le_of_lt (Nat.lt_of_lt_of_le ltl hk))) fun H3 pss3 e4 I3 o3 => ?_
   refine kk H3 pss3 ds0 kl2 _ _ _ _ _ (pre (s_cons (i_f (t_and (ts_go (t_cmp m5 (c_one e_lit (q_eq_t q0))) (ts_stop (k := true) (t_cmp (e_bcall (es_cons (e_var rfl) es_nil) hnd) (c_one e_lit (q_eq_f ?_)))))) (s_cons (i_t (t_cmp m5 (c_one e_lit (q_eq_t q0))) e4) s_nil)) s_nil)) I3 l2 (by rw [List.length_append]; (clear hk hkl ht hnn hc1 hc2 sd lo1 hw1 hw2 l2 q0 hds; omega)) (o02.trans o3)
   rw [List.length_append]; show ¬ ((ds0.length + 1 : Nat) : Int) = 0; (clear hkl ht hnn hc1 hc2 sd lo1 hw1 hw2 l2 q0 hds; omega)
 ·have tst : evalT prog (callN prog k) (.andT [.cmp (.bin .mod (.var 13) (.lit (.int 5))) [.eq] [.lit (.int 0)], .cmp (.bcall .len [.var 85]) [.eq] [.lit (.int 0)]]) (lawL a ns (some (.int t)) (some (.int ce1)) ot (some (.lst H.new)) ha la (some (.int (c : Int))) (some (deedV (c, i, d)))) H2 = .ok false H2 := t_and (ts_stop (k := true) (t_cmp m5 (c_one e_lit (q_eq_f q0))))
  by_cases q1 : ce1 % 5 = 1
  ·refine x03 (mem_dueC.mp hmem) fun z_ hdd' z_ => ?_
   refine bad_ok (m := k) (hp := H2) (cell := ce1 / 70) (by exact (Nat.le_of_lt (Nat.lt_of_lt_of_le ltl hk))) I2.F.fit h1 h2 (mem_dueC.mp hmem).1 hdd' I2.hLC I2.hlc fun p H3 e4 X3 l3 no nt => ?_
   exact kk H3 pss ds kl2 _ _ _ _ _ (pre (s_cons (i_f tst (s_cons (i_f (t_cmp m5 (c_one e_lit (q_eq_f q0))) (s_cons (i_t (t_cmp m5 (c_one e_lit (q_eq_t q1))) (s_if0 (t_not_f (t_val (e_call (es_cons (e_var rfl) (es_cons (e_call (es_cons (e_bin (e_var rfl) e_lit (o_div (by decide) (by decide))) (es_cons (e_var rfl) (es_cons (e_var rfl) es_nil))) e4) es_nil)) (refused_ok (by exact (Nat.le_of_lt (Nat.lt_of_lt_of_le ltl hk))) (I2.R.ext X3) I2.F.fit (X3 _ _ I2.hy) no nt)) v_bool)) s_nil)) s_nil)) s_nil)) s_nil)) (I2.ext X3 l3) l2 (Nat.le_add_right _ _) (fun q o hq e => X3 _ _ (o02 q o hq e))
  ·refine deed_done_ok (m := k) (tw := decide (ce1 % 5 = 2)) (by exact (Nat.le_of_lt (Nat.lt_of_lt_of_le ltl hk))) I2 (by exact (Nat.le_of_lt (Nat.lt_of_le_of_lt hds ltl))) h1 h2 hmem fun H3 pss3 ds3 e4 I3 l3 o3 => ?_
   exact kk H3 pss3 ds3 kl2 _ _ _ _ _ (pre (s_cons (i_f tst (s_cons (i_f (t_cmp m5 (c_one e_lit (q_eq_f q0))) (s_cons (i_f (t_cmp m5 (c_one e_lit (q_eq_f q1))) (s_if0 (t_not_f (t_val (e_call (es_cons (e_var rfl) (es_cons (e_var rfl) (es_cons (e_var rfl) (es_cons (e_var rfl) (es_cons (e_var rfl) (es_cons (e_cmp m5 (c_one e_lit rfl)) es_nil)))))) e4) v_bool)) s_nil)) s_nil)) s_nil)) s_nil)) I3 l2 l3 (o02.trans o3)
end
end Mine.L13
end
section
namespace Mine.L13
open PySem Mine
theorem j_r2 {hp : Hp} {a b : Int} (h1 : -1000000000 ≤ a) (h2 : a ≤ 1000000000) (h3 : -1000000000 ≤ b) (h4 : b ≤ 1000000000) : bfun .range2 [.int a, .int b] hp = .ok (.rng a b 1) hp := by
 show (if (intOk a && intOk b) = true then _ else _) = _
 rw [small h1 h2, small h3 h4]; rfl
theorem Rk.off {M : List Nat} {H H' : Hp} {n x y z : Nat} {as : List Nat} {css : List (List Int)} (R : Rk H n x y z as css) (e : OffM M H H') (hl : ∀ q ∈ M, ∃ l, H.os[q]? = some (.list l)) (hx : x ∉ M) (ha : ∀ q ∈ as, q ∉ M) : Rk H' n x y z as css := by
 refine x12 R.ex fun d h1 h2 => ?_
 have nl : ∀ {q : Nat} {o : MObj}, H.os[q]? = some o → (∀ l, o ≠ .list l) → q ∉ M := fun e hn hq => by
  refine x11 (hl _ hq) fun l e' => ?_
  rw [e] at e'; cases e'; exact hn l rfl
 exact ⟨⟨d, e _ _ (nl h1 fun z_ q => by cases q) h1, e _ _ (nl h2 fun z_ q => by cases q) h2⟩, e _ _ hx R.hx, R.ls.on fun q hq o => e q o (ha q hq)⟩
theorem fit32 : Fit [[3, 2]] [[1, 0]] := by
 refine ⟨rfl, fun i cs ps h1 h2 => ?_, fun cs h => ?_, by decide, by decide⟩
 ·cases i with
  | zero => cases h1; cases h2; exact .cons (by decide) (by decide) (.cons (by decide) (by decide) .nil)
  | succ i => cases h1
 ·rw [List.mem_singleton.mp h]; exact ⟨by decide, by decide, fun c hc => by
   rcases List.mem_cons.mp hc with q | q
   ·rw [q]; decide
   ·rw [List.mem_singleton.mp q]; decide⟩
section
variable {m k : Nat} {a : Ad} {css pss : List (List Int)} {ds : List Deed} {kl : List PV} {H : Hp} {ns : List Int}
theorem turns_ok {n2 : Nat} {ha : Option PV} (hk : 7 ≤ k) (hns : ns.length ≤ 63) (I : St a css pss [] [] H) {PP : Prop} (kk : ∀ H1 pss1 ds1 kl1 o1 o2 o3 o4 o5 o6, exeS prog (callN prog k) (callW prog) (.forS (.one 1) .plain [.bcall .range2 [.lit (.int 5), .bcall .min [.bcall .len [.var 2], .lit (.int 35)]]] f_law_b1) (lawL a ns none none (some (.lst n2)) none ha none none none) H = .nxt (lawL a ns o1 o2 (some (.lst n2)) o3 ha o4 o5 o6) H1 → St a css pss1 ds1 kl1 H1 → kl1.length ≤ 90 → ds1.length ≤ 60 → OffM a.M H H1 → PP) : PP := by
 refine x13 (by
  refine ei13 _ j_min ?_ ?_
  ·split <;> (first | exact (Int.le_of_lt ilt) | exact (Int.natCast_nonneg _) | omega)
  ·split <;> (first | exact Int.le_refl _ | omega) : ∃ b : Int, bfun .min [.int (ns.length : Int), .int 35] H = .ok (.int b) H ∧ 0 ≤ b ∧ b ≤ 35) fun b hb b0 b1 => ?_
 refine x15 (x_for (P := prog) (C := callN prog k) (W := callW prog) (body := f_law_b1) (t := .one 1) (k := .plain) (its := [.bcall .range2 [.lit (.int 5), .bcall .min [.bcall .len [.var 2], .lit (.int 35)]]]) (hp := H) (fun z_ => True)
  (fun s : Hp × (List (List Int) × List Deed × List PV) × Option PV × Option PV × Option PV × Option PV × Option PV × Option PV => lawL a ns s.2.2.1 s.2.2.2.1 (some (.lst n2)) s.2.2.2.2.1 ha s.2.2.2.2.2.1 s.2.2.2.2.2.2.1 s.2.2.2.2.2.2.2) (fun s => s.1)
  (fun i s => St a css s.2.1.1 s.2.1.2.1 s.2.1.2.2 s.1 ∧ s.2.1.2.2.length = 3 * i ∧ s.2.1.2.1.length ≤ 2 * i ∧ OffM a.M H s.1) (H, (pss, [], []), none, none, none, none, none, none)
  (es_cons (e_bcall (es_cons e_lit (es_cons (e_bcall (es_cons (e_bcall (es_cons (e_var rfl) es_nil) n_frz) (es_cons e_lit es_nil)) hb) es_nil)) (j_r2 (by decide) (by decide) (by exact (Int.le_of_lt (Int.lt_of_lt_of_le ilt b0))) (by exact (Int.le_of_lt (Int.lt_of_le_of_lt b1 ilt))))) es_nil) (k_up (by decide) (by decide) (by exact (Int.le_of_lt (Int.lt_of_lt_of_le ilt b0))) (by exact (Int.le_of_lt (Int.lt_of_le_of_lt b1 ilt)))) rfl (y_items _) (by rw [rngL_len]; omega) (fun z_ z_ z_ => trivial)
  ⟨I, rfl, Nat.le_refl _, fun z_ z_ z_ e => e⟩ (by
   rintro i ⟨h, ⟨pss', ds', kl'⟩, o1, o2, o3, o4, o5, o6⟩ v hv ⟨I', g1, g2, g3⟩
   dsimp only at I' g1 g2 g3
   refine x02 (rngL_at hv) fun hi zq2 => ?_
   subst zq2
   refine turn_ok (k := k) (ns := ns) (t := 5 + 1 * (i : Int)) (ot := some (.lst n2)) (ha := ha) (ce := o2) (so := o3) (la := o4) (ch := o5) (de := o6) hk I' (by (clear hk hns b0 g2; omega)) (by first | exact lv hm | exact lw hn | omega) (by (clear hk hns b0 b1 g1 g2 hi; omega)) fun H' pss2 ds2 kl2 ce' so' la' ch' de' e I2 q1 q2 q3 => ?_
   exact ei26 (H', (pss2, ds2, kl2), some (.int (5 + 1 * (i : Int))), ce', so', la', ch', de') _ rfl e I2 (by show kl2.length = _; omega) (by show ds2.length ≤ _; omega) (g3.trans q3))) fun s e I1 l1 l2 o1 => ?_
 rw [rngL_len] at l1 l2
 exact kk s.1 s.2.1.1 s.2.1.2.1 s.2.1.2.2 s.2.2.1 s.2.2.2.1 s.2.2.2.2.1 s.2.2.2.2.2.1 s.2.2.2.2.2.2.1 s.2.2.2.2.2.2.2 e I1 (by omega) (by omega) o1
theorem end_ok {n2 x2 y2 z2 : Nat} {as2 : List Nat} {ha : Option PV} (hk : 7 ≤ k) (hns : ns.length ≤ 63) (I : St a css pss [] [] H) (O : Rk H n2 x2 y2 z2 as2 [[3, 2]]) (hy2 : H.os[y2]? = some (.list ([[1, 0]].map rowV))) (hz2 : H.os[z2]? = some (.list ([(0, 0, 1)].map deedV))) (ox : x2 ∉ a.M) (oy : y2 ∉ a.M) (oz : z2 ∉ a.M) (oa : ∀ q ∈ as2, q ∉ a.M) :
  ∃ H', exeB prog (callN prog k) (callW prog) f_law_t11 (lawL a ns none none (some (.lst n2)) none ha none none none) H = .ret (.bool true) H' := by
 refine turns_ok (n2 := n2) (ha := ha) hk hns I fun H1 pss1 ds1 kl1 o1' o2 o3 o4 o5 o6 e I1 lk lds o1 => ?_
 refine I1.right (m := k) (f := (ns.length : Int)) (by exact (Nat.le_of_lt (Nat.lt_of_lt_of_le ltl hk))) (by exact (Nat.le_of_lt (Nat.lt_of_le_of_lt lk ltl))) (by first | exact lv hm | exact lw hn | omega) fun H2 kl2 e2 I2 l3 of2 => ?_
 have offH : OffM a.M H H2 := o1.trans of2
 -- the other rack
 refine x13 (⟨_, rfl, Ext.add _ _, Hp.add_new⟩ : ∃ A1, H2.add (.list [.int 3, .int 2]) = A1 ∧ Ext H2 A1 ∧ A1.os[H2.new]? = some (.list (([3, 2] : List Int).map .int))) fun A1 hA1 X1 N1 => ?_
 refine x13 (⟨_, rfl, Ext.add _ _, Hp.add_new⟩ : ∃ A2, A1.add (.list [.lst H2.new]) = A2 ∧ Ext A1 A2 ∧ A2.os[A1.new]? = some (.list ([H2.new].map .lst))) fun A2 hA2 X2 N2 => ?_
 refine x13 (⟨_, rfl, Ext.add _ _, Hp.add_new⟩ : ∃ A3, A2.add (.list [.tup [.int 1, .int 0]]) = A3 ∧ Ext A2 A3 ∧ A3.os[A2.new]? = some (.list ([[1, 0]].map rowV))) fun A3 hA3 X3 N3 => ?_
 refine x13 (⟨_, rfl, Ext.add _ _, Hp.add_new⟩ : ∃ A4, A3.add (.list [.tup [.int 0, .int 0, .int 1]]) = A4 ∧ Ext A3 A4 ∧ A4.os[A3.new]? = some (.list ([(0, 0, 1)].map deedV))) fun A4 hA4 X4 N4 => ?_
 have X24 : Ext H2 A4 := ((X1.trans X2).trans X3).trans X4
 have lo4 : A4.lo = H2.lo := by rw [← hA4, ← hA3, ← hA2, ← hA1]; rfl
 have hKl := lt_of_at I2.hK
 have K3 : A2.new ≠ a.K := Nat.ne_of_gt (lt_of_at (X2 _ _ (X1 _ _ I2.hK)))
 have K4 : A3.new ≠ a.K := Nat.ne_of_gt (lt_of_at (X3 _ _ (X2 _ _ (X1 _ _ I2.hK))))
 refine right_ok (m := k) (hp := A4) (f := 1) (ds := [(0, 0, 1)]) (by exact (Nat.le_of_lt (Nat.lt_of_lt_of_le ltl hk))) ((O.off offH I.lists ox oa).ext X24) fit32 (X24 _ _ (offH _ _ oy hy2)) (X24 _ _ (offH _ _ oz hz2)) (X4 _ _ (X3 _ _ N2)) (ListsAt.cons (X4 _ _ (X3 _ _ (X2 _ _ N1))) .nil) (X4 _ _ N3) N4 (X24 _ _ I2.hK) (by rw [lo4]; exact I2.lo _ I2.mem.2.2.2.2) K3 K4 (by first | exact lv hm | exact lw hn | omega) (by decide) fun H3 kn e3 x3 lo3 hK3 ln hkn => ?_
 have all : ∀ p ∈ kl2 ++ kn, ∃ u v l, p = .tup [.lst u, .lst v] ∧ H3.os[u]? = some (.list l) ∧ H3.os[v]? = some (.list l) ∧ Same l := fun p hp => by
  rcases List.mem_append.mp hp with q | q
  ·refine x36 (I2.kept p q) fun u v l h1 h2 h3 h4 h5 h6 => ?_
   exact ei34 u v l h1 (x3 _ _ (fun z => h2 (z ▸ I2.mem.2.2.2.2)) (X24 _ _ h4)) (x3 _ _ (fun z => h3 (z ▸ I2.mem.2.2.2.2)) (X24 _ _ h5)) h6
  ·refine x36 (hkn p q) fun u v l h1 z_ z_ h4 h5 h6 => ?_
   exact ei34 u v l h1 h4 h5 h6
 have hcm := e_comp (P := prog) (C := callN prog k) (loc := lawL a ns o1' o2 (some (.lst n2)) o3 ha o4 o5 o6) (hp := H3) (hp2 := H3) (elt := .var 54) (t := .one 54) (k := .plain) (its := [.var 42]) (ifs := [.cmp (.sub (.var 54) (.lit (.int 0))) [.ne] [.sub (.var 54) (.lit (.int 1))]])
  (fun h => h = H3) (fun z_ => false) (fun p => p) (es_cons (e_var rfl) es_nil) (k_lst hK3) rfl (y_all fun h q => by rw [q]; exact hK3) rfl (by rw [List.length_append]; omega) (fun p hp => by
   refine x34 (all p hp) fun x y l zq1 g1 g2 g3 => ?_
   subst zq1
   exact ei13 _ rfl (bind_eq (t_cmp (e_sub (e_var rfl) e_lit (g_tup (Int.le_refl _) rfl)) (c_one (e_sub (e_var rfl) e_lit (g_tup (by decide) rfl)) (q_same_f g3 g1 g2))) rfl) (fun q => nomatch q))
 rw [filter_no, List.map_nil] at hcm
 refine ei11 _ (s_cons e (s_if0 (t_not_f (t_val (e_call (es_cons (e_var rfl) (es_cons (e_var rfl) (es_cons (e_var rfl) (es_cons (e_var rfl) (es_cons (e_var rfl) (es_cons (e_bcall (es_cons (e_var rfl) es_nil) n_frz) es_nil)))))) e2) v_bool)) (s_if0 (t_not_f (t_val (e_call (hp1 := A4) ?_ e3) v_bool)) (s_ret (e_cmp hcm (c_one (e_list es_nil) (q_same_t .nil (Hp.add_old Hp.add_new) Hp.add_new)))))))
 refine es_cons (e_var rfl) (es_cons (v := .lst A1.new) (hp1 := A2) ?_ (es_cons (v := .lst A2.new) (hp1 := A3) ?_ (es_cons (v := .lst A3.new) (hp1 := A4) ?_ (es_cons (e_var rfl) (es_cons e_lit es_nil)))))
 ·rw [← hA2, ← hA1]; exact e_list (es_cons (e_list (es_cons e_lit (es_cons e_lit es_nil))) es_nil)
 ·rw [← hA3]; exact e_list (es_cons (e_tuple (es_cons e_lit (es_cons e_lit es_nil))) es_nil)
 ·rw [← hA4]; exact e_list (es_cons (e_tuple (es_cons e_lit (es_cons e_lit (es_cons e_lit es_nil)))) es_nil)
end
end Mine.L13
end
section
namespace Mine.L13
open PySem Mine
theorem snap_lists {hp : Hp} {as : List Nat} {css : List (List Int)} (h : ListsAt hp as css) : snapAll (snap 7 hp) (as.map .lst) = some (css.map fun cs => .list (cs.map .int)) := by
 induction h with
 | nil => rfl
 | @cons a cs as css h1 _ ih =>
  have e : snap 7 hp (.lst a) = some (.list (cs.map .int)) := by
   show (match lstAt hp a with | some l => (snapAll (snap 6 hp) l).map PyData.list | none => none) = _
   rw [lst_of h1]
   show (snapAll (snap 6 hp) (cs.map .int)).map PyData.list = _
   rw [snapAll_ints]; rfl
  show (match snap 7 hp (.lst a), snapAll (snap 7 hp) (as.map .lst) with | some d, some ds => some (d :: ds) | _, _ => none) = _
  rw [e, ih]; rfl
theorem eqv_lists : ∀ css : List (List Int), PyData.eqvAll (css.map fun cs => .list (cs.map .int)) (css.map fun cs => .list (cs.map .int)) = true
 | [] => rfl
 | cs :: r => by
  show (PyData.eqvAll (cs.map .int) (cs.map .int) && PyData.eqvAll (r.map fun cs => .list (cs.map .int)) (r.map fun cs => .list (cs.map .int))) = true
  rw [eqvAll_ints, eqv_lists r, decide_eq_true rfl]; rfl
theorem q_lists {hp : Hp} {p q : Nat} {as bs : List Nat} {css : List (List Int)} (hp' : hp.os[p]? = some (.list (as.map .lst))) (hq : hp.os[q]? = some (.list (bs.map .lst))) (A : ListsAt hp as css) (B : ListsAt hp bs css) : cmpop .ne (.lst p) (.lst q) hp = some false := by
 have hs : ∀ {a : Nat} {as : List Nat}, hp.os[a]? = some (.list (as.map .lst)) → ListsAt hp as css → snap snapD hp (.lst a) = some (.list (css.map fun cs => .list (cs.map .int))) := fun {a as} ha A => by
  show (match lstAt hp a with | some l => (snapAll (snap 7 hp) l).map PyData.list | none => none) = _
  rw [lst_of ha]
  show (snapAll (snap 7 hp) (as.map .lst)).map PyData.list = _
  rw [snap_lists A]; rfl
 show (peq _ _ hp).map (! ·) = _
 unfold peq
 rw [hs hp' A, hs hq B]
 show (some (PyData.eqvAll (css.map fun cs => .list (cs.map .int)) (css.map fun cs => .list (cs.map .int)))).map (! ·) = _
 rw [eqv_lists]; rfl
theorem row_zero : ∀ {cs : List Int}, cntsOk cs → IsRow cs (List.replicate cs.length 0)
 | [], _ => .nil
 | c :: cs, h => .cons (Int.le_refl _) (by have := h c (.head _); exact (Int.lt_of_lt_of_le ilt this.1)) (row_zero fun c' hc => h c' (.tail _ hc))
noncomputable def noughtsOf (css : List (List Int)) : List (List Int) := css.map fun cs => List.replicate cs.length 0
theorem zeros_rows (css : List (List Int)) : css.map zeros = (noughtsOf css).map rowV := by unfold noughtsOf; rw [List.map_map]; rfl
theorem fit_zero {css : List (List Int)} (hg : ∀ cs ∈ css, goodC cs) (l1 : 1 ≤ css.length) (l5 : css.length ≤ 5) : Fit css (noughtsOf css) := by
 refine ⟨by unfold noughtsOf; rw [List.length_map], fun i cs ps h1 h2 => ?_, hg, l1, l5⟩
 unfold noughtsOf at h2
 rw [List.getElem?_map, h1] at h2; cases h2
 exact row_zero (hg cs (List.mem_of_getElem? h1)).2.2
section
variable {m k : Nat} {hp : Hp} {ns : List Int}
theorem chests_ok {L : Loc} (hk : 3 ≤ k) (hs : ∀ v, getv (putv L 1 v) 2 = some (.frz ns)) (hs' : getv L 2 = some (.frz ns)) (hg : ∀ v, getv (putv L 1 v) 1 = some v) {PP : Prop} (kk : ∀ h bs css, evalE prog (callN prog k) (.comp (.call (.glob 0 (.fn 13)) [.var 2, .bin .add (.lit (.int 2)) (.bin .mul (.lit (.int 5)) (.var 1)), .lit (.int 5)]) (.one 1) .plain [.bcall .range1 [.bin .add (.lit (.int 1)) (.bin .mod (.call (.glob 0 (.fn 11)) [.var 2, .lit (.int 0)]) (.lit (.int 5)))]] []) L hp = .ok (.lst h.new) (h.add (.list (bs.map .lst))) → Ext hp h → h.lo = hp.lo → ListsAt h bs css → 1 ≤ css.length → css.length ≤ 5 → (∀ cs ∈ css, goodC cs) → PP) : PP := by
 refine x13 (by
  refine x12 (tn_mod (mixed ns 0) 5 (by decide)) fun w h1 h2 => ?_
  exact ei13 (1 + w) (by rw [show mixed ns 0 % 5 = (w : Int) from h1]; rfl) (Nat.le_add_right _ _) (by omega) : ∃ u : Nat, 1 + mixed ns 0 % 5 = (u : Int) ∧ 1 ≤ u ∧ u ≤ 5) fun u hu u1 u5 => ?_
 have e0 := mixed_ok (m := k) (hp := hp) (ns := ns) (k := 0) (by exact (Nat.le_of_lt (Nat.lt_of_lt_of_le ltl hk))) (Int.le_refl _)
 have kup := k_up (hp := hp) (a := 0) (b := (u : Int)) (by decide) (by decide) (by exact (Int.le_of_lt (Int.lt_of_lt_of_le ilt (Int.ofNat_le.mpr u1)))) (by exact (Int.le_of_lt (Int.lt_of_le_of_lt (Int.ofNat_le.mpr u5) ilt)))
 rw [Int.sub_zero, Int.toNat_natCast] at kup
 refine x22 (e_compG (P := prog) (C := callN prog k) (loc := L) (hp := hp) (elt := .call (.glob 0 (.fn 13)) [.var 2, .bin .add (.lit (.int 2)) (.bin .mul (.lit (.int 5)) (.var 1)), .lit (.int 5)]) (t := .one 1) (k := .plain) (its := [.bcall .range1 [.bin .add (.lit (.int 1)) (.bin .mod (.call (.glob 0 (.fn 11)) [.var 2, .lit (.int 0)]) (.lit (.int 5)))]])
  (fun z_ => True) (fun i h a => Ext hp h ∧ h.lo = hp.lo ∧ ∃ bs css, a = bs.map .lst ∧ ListsAt h bs css ∧ css.length = i ∧ ∀ cs ∈ css, goodC cs)
  (vs := [.rng 0 (u : Int) 1]) (es_cons (e_bcall (es_cons (by rw [← hu]; exact e_bin e_lit (e_bin (e_call (es_cons (e_var hs') (es_cons e_lit es_nil)) e0) e_lit (o_mod (by decide))) o_add) es_nil) (j_r1 (by exact (Int.le_of_lt (Int.lt_of_lt_of_le ilt (Int.ofNat_le.mpr u1)))) (by exact (Int.le_of_lt (Int.lt_of_le_of_lt (Int.ofNat_le.mpr u5) ilt))))) es_nil) kup (y_items _) (by rw [rngL_len]; exact (Nat.lt_of_le_of_lt u5 ltl)) (fun z_ z_ z_ z_ => trivial) ⟨Ext.refl _, rfl, [], [], rfl, .nil, rfl, fun cs h => (by cases h)⟩ (by
   intro i h a v hv; refine y03 fun g1 g2 zq => ?_
   revert zq; refine y24 fun bs css zq g3 g4 g5 => ?_
   subst zq
   refine x02 (rng0_at hv) fun hi zq1 => ?_
   subst zq1
   refine x14 (law_counts_ok (m := k) (hp := h) (ns := ns) (k := 2 + 5 * (i : Int)) (w := 5) (by exact hk) (by (clear hk hu u1 u5 g2 g4 hi; omega)) (by decide) (by decide)) fun cs ec c1 c2 c3 => ?_
   refine ⟨_, .lst h.new, h.add (.list (cs.map .int)), rfl, e_call (es_cons (e_var (hs _)) (es_cons (e_bin e_lit (e_bin e_lit (e_var (hg _)) (o_mulL (by decide) (by decide))) o_add) (es_cons e_lit es_nil))) ec, g1.trans (Ext.add _ _), g2, bs ++ [h.new], css ++ [cs], by rw [List.map_append]; rfl, (g3.ext (Ext.add _ _)).app Hp.add_new, by rw [List.length_append, g4]; rfl, fun c hc => ?_⟩
   rcases List.mem_append.mp hc with q | q
   ·exact g5 c q
   ·rw [List.mem_singleton.mp q]; exact ⟨c1, c2, c3⟩)) fun h a e zq2 => ?_
 obtain ⟨g1, g2, bs, css, rfl, g3, g4, g5⟩ := zq2
 rw [rngL_len] at g4
 exact kk h bs css e g1 g2 g3 (by exact (Nat.le_trans u1 (Nat.le_of_eq g4.symm))) (by exact (Nat.le_trans (Nat.le_of_eq g4) u5)) g5
theorem ListsAt.lt {h : Hp} {as : List Nat} {css : List (List Int)} (L : ListsAt h as css) : ∀ q ∈ as, ∃ cs ∈ css, h.os[q]? = some (.list (cs.map .int)) := fun q hq => by
 obtain ⟨i, hi, rfl⟩ := List.getElem_of_mem hq
 refine x12 (L.get (List.getElem?_eq_getElem hi)) fun cs hcs e => ?_
 exact ei12 cs (List.mem_of_getElem? hcs) e
end
theorem off5 {q y z s n k : Nat} (h1 : q ≠ y) (h2 : q ≠ z) (h3 : q < s) (h4 : s < n) (h5 : n < k) : q ∉ [y, z, s, n, k] := fun h => by
 have h34 := Nat.lt_trans h3 h4
 rcases List.mem_cons.mp h with w | h
 ·exact h1 w
 rcases List.mem_cons.mp h with w | h
 ·exact h2 w
 rcases List.mem_cons.mp h with w | h
 ·exact Nat.ne_of_lt h3 w
 rcases List.mem_cons.mp h with w | h
 ·exact Nat.ne_of_lt h34 w
 ·exact Nat.ne_of_lt (Nat.lt_trans h34 h5) (List.mem_singleton.mp h)
theorem nd5 {y z s n k : Nat} (h : y ≠ z) (h1 : y < s) (h2 : z < s) (h4 : s < n) (h5 : n < k) : [y, z, s, n, k].Nodup := by
 simp only [List.nodup_cons, List.mem_cons, List.not_mem_nil, or_false, not_or, List.nodup_nil, not_false_eq_true, and_true]
 omega
theorem addr_ne {H : Hp} {a b : Nat} {l m : List PV} (ha : H.os[a]? = some (.list l)) (hb : H.os[b]? = some (.list m)) (h : l ≠ m) : a ≠ b := fun q => by
 rw [q, hb] at ha; cases ha; exact h rfl
theorem rows_nil {pss : List (List Int)} (h : 1 ≤ pss.length) : pss.map rowV ≠ [] := by cases pss with | nil => cases h | cons _ _ => exact fun q => nomatch q
theorem ints_nil {cs : List Int} (h : 1 ≤ cs.length) : cs.map PV.int ≠ [] := by cases cs with | nil => cases h | cons _ _ => exact fun q => nomatch q
theorem lsts_nil {as : List Nat} (h : 1 ≤ as.length) : as.map PV.lst ≠ [] := by cases as with | nil => cases h | cons _ _ => exact fun q => nomatch q
theorem rows_lsts {pss : List (List Int)} {as : List Nat} (h : 1 ≤ pss.length) : pss.map rowV ≠ as.map PV.lst := by
 cases pss with
 | nil => cases h
 | cons _ _ => cases as with
  | nil => exact fun q => nomatch q
  | cons _ _ => intro q; injection q with q; cases q
theorem rows_ints {pss : List (List Int)} {cs : List Int} (h : 1 ≤ cs.length) : pss.map rowV ≠ cs.map PV.int := by
 cases cs with
 | nil => cases h
 | cons _ _ => cases pss with
  | nil => exact fun q => nomatch q
  | cons _ _ => intro q; injection q with q; cases q
theorem lsts_ints {as : List Nat} {cs : List Int} (h : 1 ≤ cs.length) : as.map PV.lst ≠ cs.map PV.int := by
 cases cs with
 | nil => cases h
 | cons _ _ => cases as with
  | nil => exact fun q => nomatch q
  | cons _ _ => intro q; injection q with q; cases q
theorem law_ok (ns : List Int) (hns : ns.length ≤ 63) : ∃ hp', callN prog 20 27 [.frz ns] ⟨0, []⟩ = .ok (.bool true) hp' := by
 refine chests_ok (k := 19) (hp := ⟨0, []⟩) (ns := ns) (L := [(2, some (.frz ns)), (1, none), (13, none), (34, none), (40, none), (42, none), (55, none), (61, none), (65, none), (67, none), (81, none), (83, none), (85, none), (94, none)]) (by decide) (fun z_ => rfl) rfl (fun z_ => rfl) fun hA lc css e1 X0 L0 A0 l1 l5 hg => ?_
 refine addE hA (.list (lc.map .lst)) fun H1 hH1 X1 N1 => ?_
 have lo1 : H1.lo = 0 := by rw [← hH1]; exact L0
 rw [hH1] at e1
 have A1 := A0.ext X1
 refine x11 (⟨_, List.getElem?_eq_getElem l1⟩ : ∃ cs0, css[0]? = some cs0) fun cs0 hcs0 => ?_
 have g0 := hg cs0 (List.mem_of_getElem? hcs0)
 refine nmE hA.new fun LC hLC => ?_
 rw [hLC] at e1 N1
 -- handed
 refine copies (u := 26) (w := 61) (C := callN prog 19) (L := [(2, some (.frz ns)), (1, none), (13, none), (34, none), (40, none), (42, none), (55, none), (61, some (.lst LC)), (65, none), (67, none), (81, none), (83, none), (85, none), (94, none)]) (hp := H1) rfl (fun z_ => rfl) N1 A1 l5 fun hB bs e2 X2' L2' B2' fb => ?_
 refine addE hB (.list (bs.map .lst)) fun H2 hH2 X2 N2 => ?_
 have lo2 : H2.lo = 0 := by rw [← hH2]; exact L2'.trans lo1
 have fhd : H1.os.length ≤ hB.new := X2'.len
 refine nmE hB.new fun hd hhd => ?_
 rw [hH2] at e2
 rw [hhd] at e2 N2 fhd
 have X12 : Ext H1 H2 := X2'.trans X2
 have B2 := B2'.ext X2
 have A2 := A1.ext X12
 -- the rack
 refine make_ok (m := 19) (hp := H2) (by decide) (by rw [lo2]; exact Nat.zero_le _) N2 B2 l1 l5 hg fun H3 x y z as e3 R3 hy3 hz3 lx la ly lz X3 lo3 => ?_
 rw [zeros_rows] at hy3
 -- the other rack
 refine x13 (⟨_, rfl, Ext.add _ _, Hp.add_new⟩ : ∃ P1, H3.add (.list [.int 3, .int 2]) = P1 ∧ Ext H3 P1 ∧ P1.os[H3.new]? = some (.list (([3, 2] : List Int).map .int))) fun P1 hP1 Y1 M1 => ?_
 refine x13 (⟨_, rfl, Ext.add _ _, Hp.add_new⟩ : ∃ P2, P1.add (.list [.lst H3.new]) = P2 ∧ Ext P1 P2 ∧ P2.os[P1.new]? = some (.list ([H3.new].map .lst))) fun P2 hP2 Y2 M2 => ?_
 have lo0 : P2.lo = 0 := by rw [← hP2, ← hP1]; exact lo3.trans lo2
 have g32 : ∀ cs ∈ ([[3, 2]] : List (List Int)), goodC cs := fit32.good
 refine make_ok (m := 19) (hp := P2) (b := P1.new) (as := [H3.new]) (css := [[3, 2]]) (by decide) (by rw [lo0]; exact Nat.zero_le _) M2 (.cons (Y2 _ _ M1) .nil) (by decide) (by decide) g32 fun H4 x2 y2 z2 as2 e4 R4 hy4 hz4 lx2 la2 ly2 lz2 X4 lo4 => ?_
 have X34 : Ext H3 H4 := (Y1.trans Y2).trans X4
 have lP : H3.os.length ≤ P2.os.length := (Y1.trans Y2).len
 rw [zeros_rows] at hy4
 have nyz2 : y2 ≠ z2 := addr_ne hy4 hz4 (rows_nil (by decide))
 have nyx2 : y2 ≠ x2 := addr_ne hy4 R4.hx (rows_lsts (by decide))
 have nya2 : y2 ∉ as2 := fun q => x12 (R4.ls.lt _ q) fun cs hcs e' => addr_ne hy4 e' (rows_ints (g32 cs hcs).1) rfl
 have e5 := do_ok (m := 19) (c := 0) (i := 0) (d := 1) (cs := [3, 2]) (ps := [0, 0]) (pss := noughtsOf [[3, 2]]) (ds := []) (by decide) R4 (fit_zero g32 (by decide) (by decide)) hy4 hz4 (by rw [lo4, lo0]; exact Nat.zero_le _) (by rw [lo4, lo0]; exact Nat.zero_le _) nyz2 nyx2 nya2 (by decide) rfl rfl (by decide +kernel)
 refine x14 (⟨_, rfl, (Hp.turn_ne (Ne.symm nyz2)).trans (Hp.turn_at hy4), Hp.turn_at ((Hp.turn_ne nyz2).trans hz4), (off_turn (.head _)).trans (off_turn (.tail _ (.head _)))⟩ : ∃ H5, (H4.turn y2 (.list (((noughtsOf [[3, 2]]).set 0 (moved [0, 0] 0 1)).map rowV))).turn z2 (.list ((([] : List Deed) ++ [(0, 0, 1)]).map deedV)) = H5 ∧ H5.os[y2]? = some (.list ([[1, 0]].map rowV)) ∧ H5.os[z2]? = some (.list ([(0, 0, 1)].map deedV)) ∧ OffM [y2, z2] H4 H5) fun H5 hH5 y5 z5 o5 => ?_
 have lo5 : H5.lo = 0 := by rw [← hH5]; exact lo4.trans lo0
 have len5 : H5.os.length = H4.os.length := by rw [← hH5, Hp.turn_len, Hp.turn_len]
 rw [hH5] at e5
 have lt3 : ∀ {q : Nat} {o : MObj}, H3.os[q]? = some o → q ∉ [y2, z2] := fun {q o} e hq => by
  have hlt := lt_of_at e
  rcases List.mem_cons.mp hq with w | w
  ·rw [w] at hlt; exact Nat.not_lt.mpr (Nat.le_trans lP ly2) hlt
  ·rw [List.mem_singleton.mp w] at hlt; exact Nat.not_lt.mpr (Nat.le_trans lP lz2) hlt
 have X35 : Ext H3 H5 := fun q o e => o5 q o (lt3 e) (X34 _ _ e)
 -- handed is spoilt
 refine x12 (B2.at hcs0) fun b0 hb0 hob0 => ?_
 have lb0 : H1.os.length ≤ b0 := fb _ (List.mem_of_getElem? hb0)
 have X25 : Ext H2 H5 := X3.trans X35
 have e6 := q_lists (X25 _ _ N2) (X25 _ _ (X12 _ _ N1)) (B2.ext X25) (A2.ext X25)
 have e7 := w_at (v := .int 11) (X25 _ _ hob0) (by rw [lo5]; exact Nat.zero_le _) (Int.le_refl 0) (by rw [List.length_map]; have := g0.1; exact (Int.lt_of_lt_of_le ilt (Int.ofNat_le.mpr this)))
 refine x12 (⟨_, rfl, off_turn (.head _)⟩ : ∃ H6, H5.turn b0 (.list ((cs0.map PV.int).set (0 : Int).toNat (.int 11))) = H6 ∧ OffM [b0] H5 H6) fun H6 hH6 o6 => ?_
 rw [hH6] at e7
 have lo6 : H6.lo = 0 := by rw [← hH6]; exact lo5
 have len6 : H6.os.length = H5.os.length := by rw [← hH6, Hp.turn_len]
 have nbd : hd ≠ b0 := addr_ne N2 hob0 (lsts_ints g0.1)
 have hd6 := o6 _ _ (fun q => nbd (List.mem_singleton.mp q)) (X25 _ _ N2)
 have e8 := p_app (v := .none) hd6 (by rw [lo6]; exact Nat.zero_le _) (by rw [List.length_map, B2.len]; exact (Nat.le_of_lt (Nat.lt_of_le_of_lt l5 ltl)))
 refine x12 (⟨_, rfl, off_turn (.head _)⟩ : ∃ H7, H6.turn hd (.list (bs.map .lst ++ [.none])) = H7 ∧ OffM [hd] H6 H7) fun H7 hH7 o7 => ?_
 rw [hH7] at e8
 have lo7 : H7.lo = 0 := by rw [← hH7]; exact lo6
 have len7 : H7.os.length = H4.os.length := by rw [← hH7, Hp.turn_len, len6, len5]
 have k57 : ∀ {q : Nat} {o : MObj}, q ≠ b0 → q ≠ hd → H5.os[q]? = some o → H7.os[q]? = some o := fun h1 h2 e => o7 _ _ (fun w => h2 (List.mem_singleton.mp w)) (o6 _ _ (fun w => h1 (List.mem_singleton.mp w)) e)
 have k17 : ∀ {q : Nat} {o : MObj}, H1.os[q]? = some o → H7.os[q]? = some o := fun {q o} e => k57 (Nat.ne_of_lt (Nat.lt_of_lt_of_le (lt_of_at e) lb0)) (Nat.ne_of_lt (Nat.lt_of_lt_of_le (lt_of_at e) fhd)) (X25 _ _ (X12 _ _ e))
 have lb2 := lt_of_at hob0
 have ld2 := lt_of_at N2
 have k37 : ∀ {q : Nat} {o : MObj}, H2.os.length ≤ q → H5.os[q]? = some o → H7.os[q]? = some o := fun {q o} h e => k57 (Nat.ne_of_gt (Nat.lt_of_lt_of_le lb2 h)) (Nat.ne_of_gt (Nat.lt_of_lt_of_le ld2 h)) e
 have A7 : ListsAt H7 lc css := A1.on fun q z_ o e => k17 e
 have LC7 := k17 N1
 have e9 := noughts (u := 26) (w := 61) (C := callN prog 19) (L := [(2, some (.frz ns)), (1, none), (13, none), (34, some (.lst P2.os.length)), (40, none), (42, none), (55, some (.lst hd)), (61, some (.lst LC)), (65, none), (67, some (.lst H2.os.length)), (81, none), (83, none), (85, none), (94, none)]) (hp := H7) rfl (fun z_ => rfl) LC7 A7 l5 hg
 rw [zeros_rows] at e9
 refine x13 (⟨_, rfl, Ext.add _ _, Hp.add_new⟩ : ∃ H8, H7.add (.list ((noughtsOf css).map rowV)) = H8 ∧ Ext H7 H8 ∧ H8.os[H7.os.length]? = some (.list ((noughtsOf css).map rowV))) fun H8 hH8 X8 N8 => ?_
 have l8 : H8.os.length = H7.os.length + 1 := by rw [← hH8]; exact List.length_append
 rw [hH8] at e9
 refine x13 (⟨_, rfl, Ext.add _ _, Hp.add_new⟩ : ∃ H9, H8.add (.list []) = H9 ∧ Ext H8 H9 ∧ H9.os[H8.os.length]? = some (.list [])) fun H9 hH9 X9 N9 => ?_
 have l9 : H9.os.length = H8.os.length + 1 := by rw [← hH9]; exact List.length_append
 refine x13 (⟨_, rfl, Ext.add _ _, Hp.add_new⟩ : ∃ HX, H9.add (.list []) = HX ∧ Ext H9 HX ∧ HX.os[H9.os.length]? = some (.list [])) fun HX hHX XX NX => ?_
 have loX : HX.lo = 0 := by rw [← hHX, ← hH9, ← hH8]; exact lo7
 have X7X : Ext H7 HX := (X8.trans X9).trans XX
 have k3X : ∀ {q : Nat} {o : MObj}, H2.os.length ≤ q → H3.os[q]? = some o → HX.os[q]? = some o := fun h e => X7X _ _ (k37 h (X35 _ _ e))
 have k5X : ∀ {q : Nat} {o : MObj}, H2.os.length ≤ q → H5.os[q]? = some o → HX.os[q]? = some o := fun h e => X7X _ _ (k37 h e)
 have n3X : ∀ {q : Nat} {o : MObj}, (∀ l, o ≠ .list l) → H3.os[q]? = some o → HX.os[q]? = some o := fun {q o} hn e => X7X _ _ (k57 (fun w => by rw [w, X3 _ _ hob0] at e; cases e; exact hn _ rfl) (fun w => by rw [w, X3 _ _ N2] at e; cases e; exact hn _ rfl) (X35 _ _ e))
 have hle23 : H2.os.length ≤ H3.os.length := X3.len
 have hle37 : P2.os.length ≤ H7.os.length := by rw [len7]; exact X4.len
 have ly3 := lt_of_at hy3
 have lz3 := lt_of_at hz3
 have lx3 := lt_of_at R3.hx
 have lLC := lt_of_at N1
 have hl12 := X12.len
 have hl0 : 1 ≤ (noughtsOf css).length := by unfold noughtsOf; rw [List.length_map]; exact l1
 have nyz : y ≠ z := addr_ne hy3 hz3 (rows_nil hl0)
 have nyx : y ≠ x := addr_ne hy3 R3.hx (rows_lsts hl0)
 have nzx : z ≠ x := Ne.symm (addr_ne R3.hx hz3 (lsts_nil (by rw [R3.ls.len]; exact l1)))
 have nl3 : ∀ q ∈ as, q ≠ y ∧ q ≠ z ∧ H2.os.length ≤ q ∧ q < H3.os.length := fun q hq => by
  refine x12 (R3.ls.lt _ hq) fun cs hcs e' => ?_
  have gc := hg cs hcs
  exact ⟨Ne.symm (addr_ne hy3 e' (rows_ints gc.1)), addr_ne e' hz3 (ints_nil gc.1), la q hq, lt_of_at e'⟩
 refine x11 (⟨_, rfl⟩ : ∃ a : Ad, a = ⟨H2.os.length, x, y, z, as, LC, lc, H7.os.length, H8.os.length, H9.os.length⟩) fun a ha => ?_
 have aM : a.M = [y, z, H7.os.length, H8.os.length, H9.os.length] := by rw [ha]; rfl
 have notM : ∀ q, q ≠ y → q ≠ z → q < H7.os.length → q ∉ a.M := fun q h1 h2 h3 => by rw [aM]; exact off5 h1 h2 h3 (by rw [l8]; exact Nat.lt_succ_self _) (by rw [l9]; exact Nat.lt_succ_self _)
 have I : St a css (noughtsOf css) [] [] HX := by
  subst ha
  refine x12 R3.ex fun d d1 d2 => ?_
  refine ⟨⟨⟨d, n3X (fun z_ q => by cases q) d1, n3X (fun z_ q => by cases q) d2⟩, k3X lx R3.hx, R3.ls.on fun q hq o e => k3X (la q hq) e⟩, .nil (fit_zero hg l1 l5), k3X ly hy3, k3X lz hz3, X7X _ _ LC7, A7.ext X7X, XX _ _ (X9 _ _ N8), XX _ _ N9, NX, fun q z_ => by rw [loX]; exact Nat.zero_le _, ?_, notM x (Ne.symm nyx) (Ne.symm nzx) (by exact (Nat.lt_of_lt_of_le (Nat.lt_of_lt_of_le lx3 lP) hle37)), notM LC (Nat.ne_of_lt (Nat.lt_of_lt_of_le (Nat.lt_of_lt_of_le lLC hl12) ly)) (Nat.ne_of_lt (Nat.lt_of_lt_of_le (Nat.lt_of_lt_of_le lLC hl12) lz)) (by exact (Nat.lt_of_lt_of_le (Nat.lt_of_lt_of_le (Nat.lt_of_lt_of_le (Nat.lt_of_lt_of_le lLC hl12) hle23) lP) hle37)), fun q hq => notM q (nl3 q hq).1 (nl3 q hq).2.1 (by have := (nl3 q hq).2.2.2; exact (Nat.lt_of_lt_of_le (Nat.lt_of_lt_of_le this lP) hle37)), fun q hq => ?_, fun p hp => (by cases hp)⟩
  ·rw [aM]; exact nd5 nyz (Nat.lt_of_lt_of_le (Nat.lt_of_lt_of_le ly3 lP) hle37) (Nat.lt_of_lt_of_le (Nat.lt_of_lt_of_le lz3 lP) hle37) (by rw [l8]; exact Nat.lt_succ_self _) (by rw [l9]; exact Nat.lt_succ_self _)
  ·refine x12 (A1.lt _ hq) fun cs z_ e' => ?_
   have := lt_of_at e'
   exact notM q (Nat.ne_of_lt (Nat.lt_of_lt_of_le (Nat.lt_of_lt_of_le this hl12) ly)) (Nat.ne_of_lt (Nat.lt_of_lt_of_le (Nat.lt_of_lt_of_le this hl12) lz)) (by exact (Nat.lt_of_lt_of_le (Nat.lt_of_lt_of_le (Nat.lt_of_lt_of_le (Nat.lt_of_lt_of_le this hl12) hle23) lP) hle37))
 have O : Rk HX P2.os.length x2 y2 z2 as2 [[3, 2]] := by
  refine x12 R4.ex fun d d1 d2 => ?_
  have n4X : ∀ {q : Nat} {o : MObj}, (∀ l, o ≠ .list l) → H4.os[q]? = some o → HX.os[q]? = some o := fun {q o} hn e => by
   have ne : ∀ {w : Nat} {l : List PV}, H4.os[w]? = some (.list l) → q ≠ w := fun h w => by rw [w, h] at e; cases e; exact hn _ rfl
   refine X7X _ _ (k57 (ne (X34 _ _ (X3 _ _ hob0))) (ne (X34 _ _ (X3 _ _ N2))) (o5 _ _ (fun hq => ?_) e))
   rcases List.mem_cons.mp hq with w | w
   ·exact ne hy4 w
   ·exact ne hz4 (List.mem_singleton.mp w)
  have l4X : ∀ {q : Nat} {l : List PV}, P2.os.length ≤ q → q ≠ y2 → q ≠ z2 → H4.os[q]? = some (.list l) → HX.os[q]? = some (.list l) := fun {q l} h h1 h2 e => k5X (by exact (Nat.le_of_lt (Nat.lt_of_lt_of_le (Nat.lt_of_lt_of_le (Nat.lt_of_le_of_lt lx lx3) lP) h))) (o5 _ _ (fun hq => by
   rcases List.mem_cons.mp hq with w | w
   ·exact h1 w
   ·exact h2 (List.mem_singleton.mp w)) e)
  refine ⟨⟨d, n4X (fun z_ q => by cases q) d1, n4X (fun z_ q => by cases q) d2⟩, l4X lx2 (Ne.symm nyx2) (fun q => ?_) R4.hx, R4.ls.on fun q hq o e => ?_⟩
  ·exact addr_ne R4.hx hz4 (lsts_nil (by rw [R4.ls.len]; decide)) q
  ·refine x12 (R4.ls.lt _ hq) fun cs hcs e' => ?_
   rw [e'] at e; cases e
   exact l4X (la2 q hq) (fun w => nya2 (w ▸ hq)) (addr_ne e' hz4 (ints_nil (g32 cs hcs).1)) e'
 have in2 : ∀ q, P2.os.length ≤ q → q < H7.os.length → q ∉ a.M := fun q h1 h2 => notM q (Nat.ne_of_gt (Nat.lt_of_lt_of_le (Nat.lt_of_lt_of_le ly3 lP) h1)) (Nat.ne_of_gt (Nat.lt_of_lt_of_le (Nat.lt_of_lt_of_le lz3 lP) h1)) h2
 have ly4 := lt_of_at hy4
 have lz4 := lt_of_at hz4
 have lx4 := lt_of_at R4.hx
 refine x11 (end_ok (k := 19) (ns := ns) (ha := some (.lst hd)) (by decide) hns I O (k5X (by exact (Nat.le_of_lt (Nat.lt_of_lt_of_le (Nat.lt_of_lt_of_le (Nat.lt_of_le_of_lt lx lx3) lP) ly2))) y5) (k5X (by exact (Nat.le_of_lt (Nat.lt_of_lt_of_le (Nat.lt_of_lt_of_le (Nat.lt_of_le_of_lt lx lx3) lP) lz2))) z5) (in2 x2 lx2 (by exact (Nat.lt_of_lt_of_le lx4 (Nat.le_of_eq len7.symm)))) (in2 y2 ly2 (by exact (Nat.lt_of_lt_of_le ly4 (Nat.le_of_eq len7.symm)))) (in2 z2 lz2 (by exact (Nat.lt_of_lt_of_le lz4 (Nat.le_of_eq len7.symm)))) (fun q hq => by
  refine x12 (R4.ls.lt _ hq) fun cs z_ e' => ?_
  have := lt_of_at e'
  exact in2 q (la2 q hq) (by exact (Nat.lt_of_lt_of_le this (Nat.le_of_eq len7.symm))))) fun H' eE => ?_
 subst ha
 refine ei11 _ (call_ret [(2, some (.frz ns)), (1, none), (13, none), (34, none), (40, none), (42, none), (55, none), (61, none), (65, none), (67, none), (81, none), (83, none), (85, none), (94, none)] rfl rfl rfl rfl (s_asg e1 (s_asg e2 (s_asg (e_mk (es_cons (e_var rfl) es_nil) e3) (s_asg (e_mk (hp1 := P2) (vs := [.lst P1.new]) (es_cons (by rw [← hP2, ← hP1]; exact e_list (es_cons (e_list (es_cons e_lit (es_cons e_lit es_nil))) es_nil)) es_nil) e4) (s_expr (e_mcall (e_var rfl) R4.tab (es_cons (e_tuple (es_cons e_lit (es_cons e_lit (es_cons e_lit es_nil)))) es_nil) e5)
  (s_if0 (t_cmp (e_var rfl) (c_one (e_var rfl) e6)) (s_store e_lit (e_sub (e_var rfl) e_lit (g_lst (X25 _ _ N2) (Int.le_refl _) (by rw [List.getElem?_map]; show (bs[0]?).map PV.lst = _; rw [hb0]; rfl))) e_lit e7 (s_expr (e_meth (e_var rfl) (r_lst hd6) (es_cons e_lit es_nil) e8) (s_asg e9 (s_asg (v := .lst H8.os.length) (hp1 := H9) (by rw [← hH9]; exact e_list es_nil) (s_asg (v := .lst H9.os.length) (hp1 := HX) (by rw [← hHX]; exact e_list es_nil) eE))))))))))))
end Mine.L13
end
set_option maxRecDepth 100000 in
theorem PySem.Challenge.cw_uf030010_13_holds : PySem.Challenge.rw_uf030010_13.Holds :=
 Mine.go13 Mine.L13.law_ok
