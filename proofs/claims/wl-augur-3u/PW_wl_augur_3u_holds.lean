import PyProof.Rows.All
import PyProof.StrLawsFirst
import KE.KDictOf
import KE.KItemsList
import Wide.All
import Open.Line
import PySem.Challenge.RW_wl_augur_3u

set_option Elab.async false
set_option linter.all false
set_option linter.unusedSimpArgs false
set_option linter.unusedVariables false
set_option maxRecDepth 100000

section
open PySem
namespace Mine
theorem none_ne {α : Type} {x : α} (h : (none : Option α) = some x) : False := nomatch h
theorem nj {α : Type} {x : α} {p : Prop} (h : (none : Option α) = some x) : p := (none_ne h).elim
theorem BC {p : Prop} (h : ¬p → False) : p := Classical.byContradiction h
theorem OB {α β : Type} {a : α} {f : α → Option β} : (some a).bind f = f a := rfl
theorem OM {α β : Type} {a : α} {f : α → β} : (some a).map f = some (f a) := rfl
theorem GZ {α : Type} {a : α} {l : List α} : (a :: l)[0]? = some a := rfl
theorem GS {α : Type} {a : α} {l : List α} {i : Nat} : (a :: l)[i + 1]? = l[i]? := rfl
theorem SZ {α : Type} {a b : α} {l : List α} : (a :: l).set 0 b = b :: l := rfl
theorem SS {α : Type} {a b : α} {l : List α} {i : Nat} : (a :: l).set (i + 1) b = a :: l.set i b := rfl
theorem RS {α : Type} {a : α} {n : Nat} : List.replicate (n + 1) a = a :: List.replicate n a := rfl
theorem RZ {α : Type} {a : α} : List.replicate 0 a = [] := rfl
theorem OI {α : Type} {a b : α} : (some a = some b) = (a = b) := Option.some.injEq a b
theorem BF : (false = true) = False := Bool.false_eq_true
theorem BA {a b : Bool} : ((a && b) = true) = (a = true ∧ b = true) := Bool.and_eq_true a b
theorem OE {α β : Type} {o : Option α} {f : α → Option β} {b : β} : o.bind f = some b ↔ ∃ a, o = some a ∧ f a = some b := Option.bind_eq_some_iff
theorem bnC {α β : Type} {x : Option α} {f : α → Option β} {r : β} {G : Prop} (h : x.bind f = some r) (k : ∀ a, x = some a → f a = some r → G) : G := (Option.bind_eq_some_iff.mp h).elim fun a q => k a q.1 q.2
theorem Z2 {α γ β : Type} {x : Option (α × γ)} {f : α × γ → Option β} {r : β} {G : Prop} (h : x.bind f = some r) (k : ∀ a b, x = some (a, b) → f (a, b) = some r → G) : G := (Option.bind_eq_some_iff.mp h).elim fun a q => k a.1 a.2 q.1 q.2
theorem Xu {α β : Type} {a d : α} {b k : β} {G : α → β → Prop} (h : some (a, b) = some (d, k)) (g : G a b) : G d k := by cases h; exact g
theorem Qo {α : Type} {o : Option α} {p : α → Bool} {G : Prop} (h : o.any p = true) (k : ∀ a, o = some a → p a = true → G) : G := by
 cases o with
 | none => cases h
 | some a => exact k a rfl h
theorem Dw {a b c G : Prop} (h : a ∧ b ∧ c) (k : a → b → c → G) : G := k h.1 h.2.1 h.2.2
theorem Hl {a b c d G : Prop} (h : a ∧ b ∧ c ∧ d) (k : a → b → c → d → G) : G := k h.1 h.2.1 h.2.2.1 h.2.2.2
theorem exC {α : Type} {p : α → Prop} {G : Prop} (h : ∃ a, p a) (k : ∀ a, p a → G) : G := h.elim k
theorem exC2 {α : Type} {p q : α → Prop} {G : Prop} (h : ∃ a, p a ∧ q a) (k : ∀ a, p a → q a → G) : G := h.elim fun a x => k a x.1 x.2
theorem exxC2 {α β : Type} {p q : α → β → Prop} {G : Prop} (h : ∃ a b, p a b ∧ q a b) (k : ∀ a b, p a b → q a b → G) : G := h.elim fun a x => x.elim fun b x => k a b x.1 x.2
theorem Z1 {α β : Type} {p q r : α → β → Prop} {G : Prop} (h : ∃ a b, p a b ∧ q a b ∧ r a b) (k : ∀ a b, p a b → q a b → r a b → G) : G := h.elim fun a x => x.elim fun b x => k a b x.1 x.2.1 x.2.2
noncomputable def lim : Nat := 100000
theorem Tw : lim ≤ sizeLine := by decide
noncomputable def Ze (x : Str) : Prop := x.length ≤ lim ∧ PyData.strOk x = true
noncomputable def leaf : PyData → Bool
 | .list _ => false
 | .tuple _ => false
 | .dict _ => false
 | _ => true
noncomputable def Vq (h : Heap) (a : Addr) (items : Array Value) : Prop := ∃ n, h.get? a = some { cls := .type "tuple", data := .seq items n }
section
variable (prog : Program) (w : World) (P : Addr → Prop) (h : Heap)
mutual
inductive Rp : Value → PyData → Prop
 | none : Rp .none .none
 | bool (b) : Rp (.bool b) (.bool b)
 | int (i t) : Rp (.int i t) (.int i)
 | str (x t) : Ze x → Rp (.str x t) (.str x)
 | list {a vs ds} : P a → h.PlainList a vs.toArray → ds.length ≤ lim → RpAll vs ds → Rp (.ref a) (.list ds)
 | tuple {a vs ds} : P a → Vq h a vs.toArray → ds.length ≤ lim → RpAll vs ds → Rp (.ref a) (.tuple ds)
 | dict {a kvs kds} : P a → (a == sysModules) = false → h.DictOf (strKind prog w) a kvs → kds.length ≤ lim → RpKv kvs kds → Rp (.ref a) (.dict kds)
inductive RpAll : List Value → List PyData → Prop
 | nil : RpAll [] []
 | cons {v vs d ds} : Rp v d → RpAll vs ds → RpAll (v :: vs) (d :: ds)
inductive RpKv : List (Str × Value) → List (PyData × PyData) → Prop
 | nil : RpKv [] []
 | cons {k v d kvs kds} : Ze k → Rp v d → RpKv kvs kds → RpKv ((k, v) :: kvs) ((.str k, d) :: kds)
end
mutual
inductive Ow : Nat → Value → PyData → List Addr → Prop
 | sh {k v d} : (k = 0 ∨ leaf d = true) → Rp prog w P h v d → Ow k v d []
 | list {k a vs ds F} : h.PlainList a vs.toArray → ds.length ≤ lim → OwAll k vs ds F → Ow (k + 1) (.ref a) (.list ds) (a :: F)
 | dict {k a kvs kds F} : (a == sysModules) = false → h.DictOf (strKind prog w) a kvs → kds.length ≤ lim → OwKv k kvs kds F → Ow (k + 1) (.ref a) (.dict kds) (a :: F)
inductive OwAll : Nat → List Value → List PyData → List Addr → Prop
 | nil {k} : OwAll k [] [] []
 | cons {k v vs d ds F G} : Ow k v d F → OwAll k vs ds G → OwAll k (v :: vs) (d :: ds) (F ++ G)
inductive OwKv : Nat → List (Str × Value) → List (PyData × PyData) → List Addr → Prop
 | nil {k} : OwKv k [] [] []
 | cons {k x v d kvs kds F G} : Ze x → Ow k v d F → OwKv k kvs kds G → OwKv k ((x, v) :: kvs) ((.str x, d) :: kds) (F ++ G)
end
end
section
variable {prog : Program} {w : World} {P P' : Addr → Prop} {h h' : Heap}
theorem Ru {a : Addr} {kvs : List (Str × Value)} (x : h.DictOf (strKind prog w) a kvs) (e : ∀ o, h.get? a = some o → h'.get? a = some o) : h'.DictOf (strKind prog w) a kvs :=
 let ⟨o, es, ep, ho, r⟩ := x; ⟨o, es, ep, e _ ho, r⟩
theorem Zi {a : Addr} {kvs : List (Str × Value)} (x : h.DictOf (strKind prog w) a kvs) : ∃ o, h.get? a = some o := let ⟨o, _, _, ho, _⟩ := x; ⟨o, ho⟩
theorem Rp.move (hp : ∀ a o, P a → h.get? a = some o → P' a ∧ h'.get? a = some o) {v d} (x : Rp prog w P h v d) : Rp prog w P' h' v d :=
 Rp.rec (motive_1 := fun v d _ => Rp prog w P' h' v d) (motive_2 := fun vs ds _ => RpAll prog w P' h' vs ds) (motive_3 := fun vs ds _ => RpKv prog w P' h' vs ds)
  .none .bool .int .str
  (fun pa ⟨n, e⟩ l _ r => .list (hp _ _ pa e).1 ⟨n, (hp _ _ pa e).2⟩ l r)
  (fun pa ⟨n, e⟩ l _ r => .tuple (hp _ _ pa e).1 ⟨n, (hp _ _ pa e).2⟩ l r)
  (fun pa s e l _ r => .dict (let ⟨_, q⟩ := Zi e; (hp _ _ pa q).1) s (Ru e fun o q => (hp _ o pa q).2) l r)
  .nil (fun _ _ a b => .cons a b) .nil (fun k _ _ a b => .cons k a b) x
theorem RpAll.ind {M : List Value → List PyData → Prop} {vs ds} (r : RpAll prog w P h vs ds) (nil : M [] []) (cons : ∀ v vs d ds, Rp prog w P h v d → RpAll prog w P h vs ds → M vs ds → M (v :: vs) (d :: ds)) : M vs ds :=
 RpAll.rec (motive_1 := fun _ _ _ => True) (motive_2 := fun vs ds _ => M vs ds) (motive_3 := fun _ _ _ => True)
  trivial (fun _ => trivial) (fun _ _ => trivial) (fun _ _ _ => trivial) (fun _ _ _ _ _ => trivial) (fun _ _ _ _ _ => trivial) (fun _ _ _ _ _ _ => trivial) nil (fun a b _ ih => cons _ _ _ _ a b ih) trivial (fun _ _ _ _ _ => trivial) r
theorem RpKv.ind {M : List (Str × Value) → List (PyData × PyData) → Prop} {vs ds} (r : RpKv prog w P h vs ds) (nil : M [] []) (cons : ∀ x v vs d ds, Ze x → Rp prog w P h v d → RpKv prog w P h vs ds → M vs ds → M ((x, v) :: vs) ((.str x, d) :: ds)) : M vs ds :=
 RpKv.rec (motive_1 := fun _ _ _ => True) (motive_2 := fun _ _ _ => True) (motive_3 := fun vs ds _ => M vs ds)
  trivial (fun _ => trivial) (fun _ _ => trivial) (fun _ _ _ => trivial) (fun _ _ _ _ _ => trivial) (fun _ _ _ _ _ => trivial) (fun _ _ _ _ _ _ => trivial) trivial (fun _ _ _ _ => trivial) nil (fun k a b _ ih => cons _ _ _ _ _ k a b ih) r
theorem OwAll.ind {M : List Value → List PyData → List Addr → Prop} {k vs ds F} (x : OwAll prog w P h k vs ds F) (nil : M [] [] []) (cons : ∀ v vs d ds F G, Ow prog w P h k v d F → OwAll prog w P h k vs ds G → M vs ds G → M (v :: vs) (d :: ds) (F ++ G)) : M vs ds F :=
 OwAll.rec (motive_1 := fun _ _ _ _ _ => True) (motive_2 := fun k vs ds F _ => (∀ v vs d ds F G, Ow prog w P h k v d F → OwAll prog w P h k vs ds G → M vs ds G → M (v :: vs) (d :: ds) (F ++ G)) → M vs ds F) (motive_3 := fun _ _ _ _ _ => True)
  (fun _ _ => trivial) (fun _ _ _ _ => trivial) (fun _ _ _ _ _ => trivial) (fun _ => nil) (fun a b _ ih c => c _ _ _ _ _ _ a b (ih c)) trivial (fun _ _ _ _ _ => trivial) x cons
theorem OwKv.ind {M : List (Str × Value) → List (PyData × PyData) → List Addr → Prop} {k vs ds F} (x : OwKv prog w P h k vs ds F) (nil : M [] [] []) (cons : ∀ x v vs d ds F G, Ze x → Ow prog w P h k v d F → OwKv prog w P h k vs ds G → M vs ds G → M ((x, v) :: vs) ((.str x, d) :: ds) (F ++ G)) : M vs ds F :=
 OwKv.rec (motive_1 := fun _ _ _ _ _ => True) (motive_2 := fun _ _ _ _ _ => True) (motive_3 := fun k vs ds F _ => (∀ x v vs d ds F G, Ze x → Ow prog w P h k v d F → OwKv prog w P h k vs ds G → M vs ds G → M ((x, v) :: vs) ((.str x, d) :: ds) (F ++ G)) → M vs ds F)
  (fun _ _ => trivial) (fun _ _ _ _ => trivial) (fun _ _ _ _ _ => trivial) trivial (fun _ _ _ _ => trivial) (fun _ => nil) (fun q a b _ ih c => c _ _ _ _ _ _ _ q a b (ih c)) x cons
theorem RpAll.move (hp : ∀ a o, P a → h.get? a = some o → P' a ∧ h'.get? a = some o) {vs ds} (x : RpAll prog w P h vs ds) : RpAll prog w P' h' vs ds := by
 apply RpAll.ind x
 ·exact .nil
 ·intro _ _ _ _ a _ ih; exact .cons (a.move hp) ih
theorem RpKv.move (hp : ∀ a o, P a → h.get? a = some o → P' a ∧ h'.get? a = some o) {vs ds} (x : RpKv prog w P h vs ds) : RpKv prog w P' h' vs ds := by
 apply RpKv.ind x
 ·exact .nil
 ·intro _ _ _ _ _ k a _ ih; exact .cons k (a.move hp) ih
theorem Ow.move (hp : ∀ a o, P a → h.get? a = some o → P' a ∧ h'.get? a = some o) {k v d F} (hF : ∀ a o, a ∈ F → h.get? a = some o → h'.get? a = some o) (x : Ow prog w P h k v d F) : Ow prog w P' h' k v d F :=
 Ow.rec (motive_1 := fun k v d F _ => (∀ a o, a ∈ F → h.get? a = some o → h'.get? a = some o) → Ow prog w P' h' k v d F)
  (motive_2 := fun k vs ds F _ => (∀ a o, a ∈ F → h.get? a = some o → h'.get? a = some o) → OwAll prog w P' h' k vs ds F)
  (motive_3 := fun k vs ds F _ => (∀ a o, a ∈ F → h.get? a = some o → h'.get? a = some o) → OwKv prog w P' h' k vs ds F)
  (fun c r _ => .sh c (r.move hp))
  (fun ⟨n, e⟩ l _ r hF => .list ⟨n, hF _ _ (.head _) e⟩ l (r fun a o m q => hF a o (.tail _ m) q))
  (fun s e l _ r hF => .dict s (Ru e fun o q => hF _ o (.head _) q) l (r fun a o m q => hF a o (.tail _ m) q))
  (fun _ => .nil) (fun _ _ a b hF => .cons (a fun x o m q => hF x o (List.mem_append_left _ m) q) (b fun x o m q => hF x o (List.mem_append_right _ m) q))
  (fun _ => .nil) (fun k _ _ a b hF => .cons k (a fun x o m q => hF x o (List.mem_append_left _ m) q) (b fun x o m q => hF x o (List.mem_append_right _ m) q)) x hF
theorem OwAll.move (hp : ∀ a o, P a → h.get? a = some o → P' a ∧ h'.get? a = some o) {k vs ds F} (hF : ∀ a o, a ∈ F → h.get? a = some o → h'.get? a = some o) (x : OwAll prog w P h k vs ds F) : OwAll prog w P' h' k vs ds F := by
 revert hF; apply OwAll.ind x
 ·exact fun _ => .nil
 ·intro _ _ _ _ _ _ a _ ih hF; exact .cons (a.move hp fun x o m q => hF x o (List.mem_append_left _ m) q) (ih fun x o m q => hF x o (List.mem_append_right _ m) q)
theorem OwKv.move (hp : ∀ a o, P a → h.get? a = some o → P' a ∧ h'.get? a = some o) {k vs ds F} (hF : ∀ a o, a ∈ F → h.get? a = some o → h'.get? a = some o) (x : OwKv prog w P h k vs ds F) : OwKv prog w P' h' k vs ds F := by
 revert hF; apply OwKv.ind x
 ·exact fun _ => .nil
 ·intro _ _ _ _ _ _ _ k a _ ih hF; exact .cons k (a.move hp fun x o m q => hF x o (List.mem_append_left _ m) q) (ih fun x o m q => hF x o (List.mem_append_right _ m) q)
theorem Ow.share (hp : ∀ a, P a → P' a) {k v d F} (hF : ∀ a ∈ F, P' a) (x : Ow prog w P h k v d F) : Rp prog w P' h v d :=
 Ow.rec (motive_1 := fun _ v d F _ => (∀ a ∈ F, P' a) → Rp prog w P' h v d) (motive_2 := fun _ vs ds F _ => (∀ a ∈ F, P' a) → RpAll prog w P' h vs ds) (motive_3 := fun _ vs ds F _ => (∀ a ∈ F, P' a) → RpKv prog w P' h vs ds)
  (fun _ r _ => r.move fun a o q e => ⟨hp a q, e⟩)
  (fun e l _ r hF => .list (hF _ (.head _)) e l (r fun a m => hF a (.tail _ m)))
  (fun s e l _ r hF => .dict (hF _ (.head _)) s e l (r fun a m => hF a (.tail _ m)))
  (fun _ => .nil) (fun _ _ a b hF => .cons (a fun x m => hF x (List.mem_append_left _ m)) (b fun x m => hF x (List.mem_append_right _ m)))
  (fun _ => .nil) (fun k _ _ a b hF => .cons k (a fun x m => hF x (List.mem_append_left _ m)) (b fun x m => hF x (List.mem_append_right _ m))) x hF
theorem OwAll.share (hp : ∀ a, P a → P' a) {k vs ds F} (hF : ∀ a ∈ F, P' a) (x : OwAll prog w P h k vs ds F) : RpAll prog w P' h vs ds := by
 revert hF; apply OwAll.ind x
 ·exact fun _ => .nil
 ·intro _ _ _ _ _ _ a _ ih hF; exact .cons (a.share hp fun x m => hF x (List.mem_append_left _ m)) (ih fun x m => hF x (List.mem_append_right _ m))
theorem OwKv.share (hp : ∀ a, P a → P' a) {k vs ds F} (hF : ∀ a ∈ F, P' a) (x : OwKv prog w P h k vs ds F) : RpKv prog w P' h vs ds := by
 revert hF; apply OwKv.ind x
 ·exact fun _ => .nil
 ·intro _ _ _ _ _ _ _ k a _ ih hF; exact .cons k (a.share hp fun x m => hF x (List.mem_append_left _ m)) (ih fun x m => hF x (List.mem_append_right _ m))
noncomputable def All : Addr → Prop := fun _ => True
theorem Ow.rd {k v d F} (x : Ow prog w P h k v d F) : Rp prog w All h v d := x.share (fun _ _ => trivial) fun _ _ => trivial
theorem Rp.ow {v d} (x : Rp prog w P h v d) : Ow prog w P h 0 v d [] := .sh (.inl rfl) x
theorem Rp.rd {v d} (x : Rp prog w P h v d) : Rp prog w All h v d := x.move fun _ _ _ e => ⟨trivial, e⟩
theorem Ow.less {P : Addr → Prop} {k j v d F} (hF : ∀ a ∈ F, P a) (x : Ow prog w P h k v d F) (hj : j ≤ k) : ∃ G, Ow prog w P h j v d G ∧ G.Sublist F :=
 Ow.rec (motive_1 := fun k v d F _ => ∀ j, (∀ a ∈ F, P a) → j ≤ k → ∃ G, Ow prog w P h j v d G ∧ G.Sublist F)
  (motive_2 := fun k vs ds F _ => ∀ j, (∀ a ∈ F, P a) → j ≤ k → ∃ G, OwAll prog w P h j vs ds G ∧ G.Sublist F)
  (motive_3 := fun k vs ds F _ => ∀ j, (∀ a ∈ F, P a) → j ≤ k → ∃ G, OwKv prog w P h j vs ds G ∧ G.Sublist F)
  (fun c r j _ hj => ⟨[], .sh (c.imp (fun e => by lia) id) r, List.Sublist.refl _⟩)
  (fun e l r ih j hF hj => match j, hj with
   | 0, _ => ⟨[], .sh (.inl rfl) ((Ow.list e l r).share (fun _ q => q) hF), List.nil_sublist _⟩
   | j + 1, hj => let ⟨_, g, s⟩ := ih j (fun a m => hF a (.tail _ m)) (Nat.le_of_succ_le_succ hj); ⟨_, .list e l g, s.cons_cons _⟩)
  (fun q e l r ih j hF hj => match j, hj with
   | 0, _ => ⟨[], .sh (.inl rfl) ((Ow.dict q e l r).share (fun _ q => q) hF), List.nil_sublist _⟩
   | j + 1, hj => let ⟨_, g, s⟩ := ih j (fun a m => hF a (.tail _ m)) (Nat.le_of_succ_le_succ hj); ⟨_, .dict q e l g, s.cons_cons _⟩)
  (fun _ _ _ => ⟨[], .nil, List.Sublist.refl _⟩)
  (fun _ _ a b j hF hj => let ⟨_, g, s⟩ := a j (fun x m => hF x (List.mem_append_left _ m)) hj; let ⟨_, g', s'⟩ := b j (fun x m => hF x (List.mem_append_right _ m)) hj; ⟨_, .cons g g', s.append s'⟩)
  (fun _ _ _ => ⟨[], .nil, List.Sublist.refl _⟩)
  (fun k _ _ a b j hF hj => let ⟨_, g, s⟩ := a j (fun x m => hF x (List.mem_append_left _ m)) hj; let ⟨_, g', s'⟩ := b j (fun x m => hF x (List.mem_append_right _ m)) hj; ⟨_, .cons k g g', s.append s'⟩) x j hF hj
theorem OwAll.less {P : Addr → Prop} {k j vs ds F} (hF : ∀ a ∈ F, P a) (x : OwAll prog w P h k vs ds F) (hj : j ≤ k) : ∃ G, OwAll prog w P h j vs ds G ∧ G.Sublist F := by
 revert hF; apply OwAll.ind x
 ·exact fun _ => ⟨[], .nil, List.Sublist.refl _⟩
 ·intro _ _ _ _ _ _ a _ ih hF
  exact exC2 (a.less (fun x m => hF x (List.mem_append_left _ m)) hj) fun _ g s => exC2 (ih fun x m => hF x (List.mem_append_right _ m)) fun _ g' s' => ⟨_, .cons g g', s.append s'⟩
theorem OwKv.less {P : Addr → Prop} {k j vs ds F} (hF : ∀ a ∈ F, P a) (x : OwKv prog w P h k vs ds F) (hj : j ≤ k) : ∃ G, OwKv prog w P h j vs ds G ∧ G.Sublist F := by
 revert hF; apply OwKv.ind x
 ·exact fun _ => ⟨[], .nil, List.Sublist.refl _⟩
 ·intro _ _ _ _ _ _ _ k a _ ih hF
  exact exC2 (a.less (fun x m => hF x (List.mem_append_left _ m)) hj) fun _ g s => exC2 (ih fun x m => hF x (List.mem_append_right _ m)) fun _ g' s' => ⟨_, .cons k g g', s.append s'⟩
theorem Ow.dom {k v d F} (x : Ow prog w P h k v d F) : ∀ a ∈ F, ∃ o, h.get? a = some o :=
 Ow.rec (motive_1 := fun _ _ _ F _ => ∀ a ∈ F, ∃ o, h.get? a = some o) (motive_2 := fun _ _ _ F _ => ∀ a ∈ F, ∃ o, h.get? a = some o) (motive_3 := fun _ _ _ F _ => ∀ a ∈ F, ∃ o, h.get? a = some o)
  (fun _ _ _ m => nomatch m)
  (fun ⟨n, e⟩ _ _ r _ m => (List.mem_cons.mp m).elim (fun q => ⟨_, q ▸ e⟩) fun q => r _ q)
  (fun _ e _ _ r _ m => (List.mem_cons.mp m).elim (fun q => q ▸ Zi e) fun q => r _ q)
  (fun _ m => nomatch m) (fun _ _ a b _ m => (List.mem_append.mp m).elim (fun q => a _ q) fun q => b _ q)
  (fun _ m => nomatch m) (fun _ _ _ a b _ m => (List.mem_append.mp m).elim (fun q => a _ q) fun q => b _ q) x
theorem OwAll.dom {k vs ds F} (x : OwAll prog w P h k vs ds F) : ∀ a ∈ F, ∃ o, h.get? a = some o := by
 apply OwAll.ind x
 ·exact fun _ m => nomatch m
 ·intro _ _ _ _ _ _ a _ ih _ m; exact (List.mem_append.mp m).elim (fun q => a.dom _ q) fun q => ih _ q
theorem OwKv.dom {k vs ds F} (x : OwKv prog w P h k vs ds F) : ∀ a ∈ F, ∃ o, h.get? a = some o := by
 apply OwKv.ind x
 ·exact fun _ m => nomatch m
 ·intro _ _ _ _ _ _ _ _ a _ ih _ m; exact (List.mem_append.mp m).elim (fun q => a.dom _ q) fun q => ih _ q
theorem RpAll.length {vs ds} : RpAll prog w P h vs ds → vs.length = ds.length := by
 intro r; apply RpAll.ind r
 ·rfl
 ·intro _ _ _ _ _ _ ih; exact congrArg (· + 1) ih
theorem RpAll.get {vs ds} (r : RpAll prog w P h vs ds) {i : Nat} {d : PyData} (hd : ds[i]? = some d) : ∃ v, vs[i]? = some v ∧ Rp prog w P h v d := by
 revert i; apply RpAll.ind r
 ·intro i hd; exact nj hd
 ·intro v vs d' ds a _ ih i hd
  cases i with
  | zero => exact ⟨v, rfl, Option.some.inj hd ▸ a⟩
  | succ i => exact ih hd
theorem RpAll.append {vs ds us es} (r : RpAll prog w P h vs ds) (q : RpAll prog w P h us es) : RpAll prog w P h (vs ++ us) (ds ++ es) := by
 apply RpAll.ind r
 ·exact q
 ·intro _ _ _ _ a _ ih; exact .cons a ih
theorem RpAll.take {vs ds} (r : RpAll prog w P h vs ds) (n : Nat) : RpAll prog w P h (vs.take n) (ds.take n) := by
 revert n; apply RpAll.ind r
 ·intro n; cases n <;> exact .nil
 ·intro _ _ _ _ a _ ih n
  cases n with
  | zero => exact .nil
  | succ n => exact .cons a (ih n)
theorem RpAll.drop {vs ds} (r : RpAll prog w P h vs ds) (n : Nat) : RpAll prog w P h (vs.drop n) (ds.drop n) := by
 revert n; apply RpAll.ind r
 ·intro n; cases n <;> exact .nil
 ·intro _ _ _ _ a b ih n
  cases n with
  | zero => exact .cons a b
  | succ n => exact ih n
theorem RpAll.ow0 {vs ds} (r : RpAll prog w P h vs ds) : OwAll prog w P h 0 vs ds [] := by
 apply RpAll.ind r
 ·exact .nil
 ·intro _ _ _ _ a _ ih; exact .cons (F := []) (G := []) a.ow ih
theorem RpKv.ow0 {vs ds} (r : RpKv prog w P h vs ds) : OwKv prog w P h 0 vs ds [] := by
 apply RpKv.ind r
 ·exact .nil
 ·intro _ _ _ _ _ k a _ ih; exact .cons (F := []) (G := []) k a.ow ih
end
set_option genInjectivity false
set_option genSizeOf false
mutual
inductive Ex where
 | var (i : Nat)
 | int (i : Int)
 | str (x : Str)
 | bool (b : Bool)
 | gstr (name x : Str)
 | add (a b : Ex)
 | sub (a b : Ex)
 | mod (a b : Ex)
 | fdiv (a b : Ex)
 | mul (a b : Ex)
 | eq (neg : Bool) (a b : Ex)
 | lt (a b : Ex)
 | gt (a b : Ex)
 | isin (neg : Bool) (a b : Ex)
 | bop (conj : Bool) (es : ExL)
 | not (a : Ex)
 | idx (a i : Ex)
 | cutFrom (a lo : Ex)
 | cutTo (a hi : Ex)
 | cutAll (a : Ex)
 | pair (a b : Ex)
 | lst (es : ExL)
 | dict0
 | call (f : Nat) (es : ExL)
 | len (a : Ex)
 | sorted (a : Ex)
 | all (a : Ex)
 | any (a : Ex)
 | items (a : Ex)
 | dictOf (a : Ex)
 | get (a k d : Ex)
 | join (a : Ex)
 | comp (deep rng : Bool) (x : Nat) (iter : Ex) (ifs : ExL) (elt : Ex)
 | comp2 (x y : Nat) (it1 it2 : Ex) (ifs : ExL) (elt : Ex)
inductive ExL where
 | nil
 | cons (e : Ex) (es : ExL)
end
inductive Kd where
 | bor (n : Nat)
 | fr (k : Nat)
abbrev Sg := List (Option (PyData × Nat))
abbrev Res := PyData × Kd
noncomputable def mkR (d : PyData) (k : Kd) : Res := if leaf d then (d, .fr 9) else (d, k)
noncomputable def Kd.item : Kd → Kd
 | .bor (n + 2) => .bor (n + 1)
 | _ => .fr 0
noncomputable def Kd.sh : Kd → Bool
 | .fr _ => true
 | .bor n => n == 0
noncomputable def Kd.rd1 : Kd → Bool
 | .fr _ => true
 | .bor n => n ≤ 1
noncomputable def Kd.least (k : Nat) : Kd → Bool
 | .fr j => k ≤ j
 | .bor _ => false
noncomputable def Ts : Nat → PyData → Bool
 | _, .none => true
 | _, .bool _ => true
 | _, .int _ => true
 | _, .str _ => true
 | n + 1, .list ds => ds.all (Ts n)
 | n + 1, .tuple ds => ds.all (Ts n)
 | _, _ => false
theorem big_ex : ∃ z : Int, z = 1000000 := ⟨_, rfl⟩
noncomputable def big : Int := Classical.choose big_ex
theorem Uh : big = 1000000 := Classical.choose_spec big_ex
noncomputable def Xq : Res → Res → Option Res
 | (.int x, _), (.int y, _) => some (.int (x + y), .fr 9)
 | (.str x, _), (.str y, _) => if x.length + y.length ≤ lim then some (.str (x ++ y), .fr 9) else none
 | (.list xs, k), (.list ys, j) => if k.rd1 && j.rd1 && xs.length + ys.length ≤ lim then some (.list (xs ++ ys), .fr 1) else none
 | _, _ => none
noncomputable def I0 : Res → Res → Option Res
 | (.int x, _), (.int y, _) => some (.int (x - y), .fr 9)
 | _, _ => none
noncomputable def D0 : Res → Res → Option Res
 | (.int x, _), (.int y, _) => if 0 < y then some (.int (x % y), .fr 9) else none
 | _, _ => none
noncomputable def He : Res → Res → Option Res
 | (.int x, _), (.int y, _) => if 0 < y && y < big then some (.int (x / y), .fr 9) else none
 | _, _ => none
noncomputable def Mg : Res → Res → Option Res
 | (.int x, _), (.int y, _) => if -big < x && x < big then some (.int (x * y), .fr 9) else none
 | (.list xs, k), (.int n, _) => if k.rd1 && 0 ≤ n && n ≤ big && xs.length * n.toNat ≤ lim then some (.list (List.replicate n.toNat xs).flatten, .fr 1) else none
 | _, _ => none
noncomputable def eqD (neg : Bool) (a b : Res) : Option Res := if Ts 4 a.1 && Ts 4 b.1 then some (.bool (neg ^^ PyData.eqv a.1 b.1), .fr 9) else none
noncomputable def ltD : Res → Res → Option Res
 | (.int x, _), (.int y, _) => some (.bool (decide (x < y)), .fr 9)
 | _, _ => none
noncomputable def Ww (y x : Str) : Bool := !(Builtin.Str.occurrences x y 0 x.length 1).isEmpty
noncomputable def Wf (k : Str) : List (PyData × PyData) → Option PyData
 | [] => none
 | (.str j, d) :: r => if j = k then some d else Wf k r
 | _ :: r => Wf k r
noncomputable def inD (neg : Bool) : Res → Res → Option Res
 | (d, _), (.list xs, _) => if Ts 3 d && xs.all (Ts 3) then some (.bool (neg ^^ xs.any fun y => PyData.eqv y d), .fr 9) else none
 | (.str k, _), (.dict kvs, _) => some (.bool (neg ^^ (Wf k kvs).isSome), .fr 9)
 | (.str y, _), (.str x, _) => some (.bool (neg ^^ Ww y x), .fr 9)
 | _, _ => none
noncomputable def Th : Res → Res → Option Res
 | (.list xs, k), (.int n, _) => if 0 ≤ n then (xs[n.toNat]?).map fun d => mkR d k.item else none
 | (.tuple xs, k), (.int n, _) => if 0 ≤ n && k.sh then (xs[n.toNat]?).map fun d => mkR d (.fr 0) else none
 | (.str x, _), (.int n, _) => if 0 ≤ n then (x.cps[n.toNat]?).map fun c => (.str ⟨#[c]⟩, .fr 9) else none
 | (.dict kvs, k), (.str x, _) => (Wf x kvs).map fun d => mkR d k.item
 | _, _ => none
noncomputable def X9 : Res → Res → Option Res
 | (.list xs, k), (.int n, _) => if k.rd1 && 0 ≤ n && n ≤ xs.length then some (.list (xs.drop n.toNat), .fr 1) else none
 | _, _ => none
noncomputable def Jz : Res → Res → Option Res
 | (.list xs, k), (.int n, _) => if k.rd1 && 0 ≤ n && n ≤ big then some (.list (xs.take n.toNat), .fr 1) else none
 | _, _ => none
noncomputable def J4 : Res → Option Res
 | (.list xs, k) => if k.rd1 then some (.list xs, .fr 1) else none
 | _ => none
noncomputable def Mi : Res → Option Res
 | (.list xs, _) => some (.int xs.length, .fr 9)
 | _ => none
noncomputable def Xs : List PyData → Option (List Str)
 | [] => some []
 | .str x :: r => (Xs r).map (x :: ·)
 | _ :: _ => none
noncomputable def Zs : List PyData → Option (List Bool)
 | [] => some []
 | .bool x :: r => (Zs r).map (x :: ·)
 | _ :: _ => none
noncomputable def leS (a b : Str) : Bool := !decide (b.cps.toList < a.cps.toList)
noncomputable def Uj (xs : List Str) : List Str := xs.mergeSort leS
noncomputable def Vu : Res → Option Res
 | (.list xs, _) => if xs.length < 64 then (Xs xs).map fun ss => (.list ((Uj ss).map .str), .fr 1) else none
 | _ => none
noncomputable def Pt : Res → Option Res
 | (.list xs, _) => (Zs xs).map fun bs => (.bool (bs.all id), .fr 9)
 | _ => none
noncomputable def Pr : Res → Option Res
 | (.list xs, _) => (Zs xs).map fun bs => (.bool (bs.any id), .fr 9)
 | _ => none
noncomputable def Km : Res → Option Res
 | (.dict kvs, k) => if k.rd1 then some (.list (kvs.map fun p => .tuple [p.1, p.2]), .fr 1) else none
 | _ => none
noncomputable def Uv (k : Str) (v : PyData) : List (PyData × PyData) → List (PyData × PyData)
 | [] => []
 | (.str j, d) :: r => (if j = k then (.str j, v) else (.str j, d)) :: Uv k v r
 | p :: r => p :: Uv k v r
noncomputable def Xe (kvs : List (PyData × PyData)) (k : Str) (v : PyData) : List (PyData × PyData) :=
 if (Wf k kvs).isSome then Uv k v kvs else kvs ++ [(.str k, v)]
noncomputable def Ug : List PyData → List (PyData × PyData) → Option (List (PyData × PyData))
 | [], acc => some acc
 | .tuple [.str k, v] :: r, acc => Ug r (Xe acc k v)
 | _ :: _, _ => none
noncomputable def J3 : Res → Option Res
 | (.list xs, k) => if k.sh then (Ug xs []).map fun kvs => (.dict kvs, .fr 1) else none
 | _ => none
noncomputable def getD : Res → Res → Res → Option Res
 | (.dict kvs, k), (.str x, _), (d, j) => if k.rd1 && j.sh then some (mkR ((Wf x kvs).getD d) (.fr 0)) else none
 | _, _, _ => none
noncomputable def W8 : List Str → Str
 | [] => ⟨#[]⟩
 | x :: r => x ++ W8 r
noncomputable def Bf : Res → Option Res
 | (.list xs, _) => (Xs xs).bind fun ss => if (W8 ss).length ≤ lim then some (.str (W8 ss), .fr 9) else none
 | _ => none
noncomputable def Lr : Res → Option (List PyData × Nat)
 | (.list xs, .fr _) => some (xs, 0)
 | (.list xs, .bor n) => some (xs, n - 1)
 | _ => none
noncomputable def Zn : Res → Option (List PyData × Nat)
 | (.int n, _) => if 0 ≤ n && n ≤ lim then some ((List.range n.toNat).map fun i => .int (i : Nat), 0) else none
 | _ => none
noncomputable def Y5 (r : Res) : Option (List PyData) := match r with
 | (.list xs, k) => if k.sh then some xs else none
 | _ => none
noncomputable def M8 (rng : Bool) (r : Res) : Option (List PyData) := if rng then (Zn r).map (·.1) else Y5 r
noncomputable def Fc (rng : Bool) (r : Res) : Option (List PyData × Nat) := if rng then Zn r else Lr r
noncomputable def V0 (rs : List Res) : Option Res := if rs.length ≤ lim && rs.all (·.2.sh) then some (.list (rs.map (·.1)), if rs.isEmpty then .fr 9 else .fr 1) else none
noncomputable def Yp : List Res → List Nat → Option (List PyData)
 | [], [] => some []
 | (d, .fr _) :: r, _ :: ns => (Yp r ns).map (d :: ·)
 | (d, .bor n) :: r, m :: ns => if n ≤ m then (Yp r ns).map (d :: ·) else none
 | _, _ => none
structure Fns where
 sem : Nat → List PyData → Option (PyData × Nat)
 kinds : Nat → List Nat
noncomputable def Wm : Res → Option Bool
 | (.bool b, _) => some b
 | _ => none
noncomputable def Qv (f : PyData → Option (Option PyData)) : List PyData → Option (List PyData)
 | [] => some []
 | x :: r => (f x).bind fun y => (Qv f r).map fun ys => (match y with | some y => y :: ys | none => ys)
noncomputable def Wz (f : PyData → Option (List PyData)) : List PyData → Option (List PyData)
 | [] => some []
 | x :: r => (f x).bind fun ys => (Wz f r).map fun zs => ys ++ zs
mutual
noncomputable def evE (Φ : Fns) : Ex → Sg → Option Res
 | .var i, σ => match σ[i]? with
  | some (some (d, n)) => some (mkR d (if n = 0 then .fr 0 else .bor n))
  | _ => none
 | .int i, _ => some (.int i, .fr 9)
 | .str x, _ => if x.length ≤ lim && PyData.strOk x then some (.str x, .fr 9) else none
 | .bool b, _ => some (.bool b, .fr 9)
 | .gstr _ x, _ => if x.length ≤ lim && PyData.strOk x then some (.str x, .fr 9) else none
 | .add a b, σ => (evE Φ a σ).bind fun x => (evE Φ b σ).bind fun y => Xq x y
 | .sub a b, σ => (evE Φ a σ).bind fun x => (evE Φ b σ).bind fun y => I0 x y
 | .mod a b, σ => (evE Φ a σ).bind fun x => (evE Φ b σ).bind fun y => D0 x y
 | .fdiv a b, σ => (evE Φ a σ).bind fun x => (evE Φ b σ).bind fun y => He x y
 | .mul a b, σ => (evE Φ a σ).bind fun x => (evE Φ b σ).bind fun y => Mg x y
 | .eq neg a b, σ => (evE Φ a σ).bind fun x => (evE Φ b σ).bind fun y => eqD neg x y
 | .lt a b, σ => (evE Φ a σ).bind fun x => (evE Φ b σ).bind fun y => ltD x y
 | .gt a b, σ => (evE Φ a σ).bind fun x => (evE Φ b σ).bind fun y => ltD y x
 | .isin neg a b, σ => (evE Φ a σ).bind fun x => (evE Φ b σ).bind fun y => inD neg x y
 | .bop conj es, σ => (X7 Φ conj es σ).map fun b => (.bool b, .fr 9)
 | .not a, σ => ((evE Φ a σ).bind Wm).map fun x => (.bool (!x), .fr 9)
 | .idx a i, σ => (evE Φ a σ).bind fun x => (evE Φ i σ).bind fun y => Th x y
 | .cutFrom a i, σ => (evE Φ a σ).bind fun x => (evE Φ i σ).bind fun y => X9 x y
 | .cutTo a i, σ => (evE Φ a σ).bind fun x => (evE Φ i σ).bind fun y => Jz x y
 | .cutAll a, σ => (evE Φ a σ).bind J4
 | .pair a b, σ => (evE Φ a σ).bind fun x => (evE Φ b σ).bind fun y => if x.2.sh && y.2.sh then some (.tuple [x.1, y.1], .fr 0) else none
 | .lst es, σ => (evL Φ es σ).bind V0
 | .dict0, _ => some (.dict [], .fr 9)
 | .call f es, σ => (evL Φ es σ).bind fun rs => (Yp rs (Φ.kinds f)).bind fun ds => (Φ.sem f ds).map fun r => mkR r.1 (.fr r.2)
 | .len a, σ => (evE Φ a σ).bind Mi
 | .sorted a, σ => (evE Φ a σ).bind Vu
 | .all a, σ => (evE Φ a σ).bind Pt
 | .any a, σ => (evE Φ a σ).bind Pr
 | .items a, σ => (evE Φ a σ).bind Km
 | .dictOf a, σ => (evE Φ a σ).bind J3
 | .get a k d, σ => (evE Φ a σ).bind fun x => (evE Φ k σ).bind fun y => (evE Φ d σ).bind fun z => getD x y z
 | .join a, σ => (evE Φ a σ).bind Bf
 | .comp deep rng x it ifs elt, σ => ((evE Φ it σ).bind (Fc rng)).bind fun p =>
   (Qv (fun d => (Ub Φ ifs (σ.set x (some (d, p.2)))).bind fun ok => if ok then
     (evE Φ elt (σ.set x (some (d, p.2)))).bind fun r => if r.2.sh && (!deep || r.2.least 1) then some (some r.1) else none
    else some none) p.1).map fun ds => (.list ds, .fr (if deep then 2 else 1))
 | .comp2 x y it1 it2 ifs elt, σ => ((evE Φ it1 σ).bind Y5).bind fun p =>
   (Wz (fun d => ((evE Φ it2 (σ.set x (some (d, 0)))).bind Y5).bind fun q =>
    Qv (fun e => (Ub Φ ifs ((σ.set x (some (d, 0))).set y (some (e, 0)))).bind fun ok => if ok then
     (evE Φ elt ((σ.set x (some (d, 0))).set y (some (e, 0)))).bind fun r => if leaf r.1 then some (some r.1) else none
     else some none) q) p).bind fun ds => if ds.length ≤ lim then some (.list ds, .fr 1) else none
noncomputable def evL (Φ : Fns) : ExL → Sg → Option (List Res)
 | .nil, _ => some []
 | .cons e es, σ => (evE Φ e σ).bind fun x => (evL Φ es σ).map fun xs => x :: xs
noncomputable def X7 (Φ : Fns) (conj : Bool) : ExL → Sg → Option Bool
 | .nil, _ => none
 | .cons e .nil, σ => (evE Φ e σ).bind Wm
 | .cons e (.cons f fs), σ => ((evE Φ e σ).bind Wm).bind fun b => if b == conj then X7 Φ conj (.cons f fs) σ else some b
noncomputable def Ub (Φ : Fns) : ExL → Sg → Option Bool
 | .nil, _ => some true
 | .cons e es, σ => ((evE Φ e σ).bind Wm).bind fun b => if b then Ub Φ es σ else some false
end
theorem Sy {da db : PyData} {ka kb : Kd} {r : Res} (ev : I0 (da, ka) (db, kb) = some r) : (∃ x y, da = .int x ∧ db = .int y) := by
 cases da <;> first | exact nj ev | (cases db <;> first | exact nj ev | exact ⟨_, _, rfl, rfl⟩)
theorem Aj {da db : PyData} {ka kb : Kd} {r : Res} (ev : D0 (da, ka) (db, kb) = some r) : (∃ x y, da = .int x ∧ db = .int y) := by
 cases da <;> first | exact nj ev | (cases db <;> first | exact nj ev | exact ⟨_, _, rfl, rfl⟩)
theorem S8 {da db : PyData} {ka kb : Kd} {r : Res} (ev : He (da, ka) (db, kb) = some r) : (∃ x y, da = .int x ∧ db = .int y) := by
 cases da <;> first | exact nj ev | (cases db <;> first | exact nj ev | exact ⟨_, _, rfl, rfl⟩)
theorem B9 {da db : PyData} {ka kb : Kd} {r : Res} (ev : ltD (da, ka) (db, kb) = some r) : (∃ x y, da = .int x ∧ db = .int y) := by
 cases da <;> first | exact nj ev | (cases db <;> first | exact nj ev | exact ⟨_, _, rfl, rfl⟩)
theorem Pw {da db : PyData} {ka kb : Kd} {r : Res} (ev : Xq (da, ka) (db, kb) = some r) : (∃ x y, da = .int x ∧ db = .int y) ∨ (∃ x y, da = .str x ∧ db = .str y) ∨ (∃ x y, da = .list x ∧ db = .list y) := by
 cases da <;> first | exact nj ev | (cases db <;> first | exact nj ev | exact .inl ⟨_, _, rfl, rfl⟩ | exact .inr (.inl ⟨_, _, rfl, rfl⟩) | exact .inr (.inr ⟨_, _, rfl, rfl⟩))
theorem Ai {da db : PyData} {ka kb : Kd} {r : Res} (ev : Mg (da, ka) (db, kb) = some r) : (∃ x y, da = .int x ∧ db = .int y) ∨ (∃ x y, da = .list x ∧ db = .int y) := by
 cases da <;> first | exact nj ev | (cases db <;> first | exact nj ev | exact .inl ⟨_, _, rfl, rfl⟩ | exact .inr ⟨_, _, rfl, rfl⟩)
theorem Av {da db : PyData} {ka kb : Kd} {r : Res} (ev : Th (da, ka) (db, kb) = some r) : (∃ x y, da = .str x ∧ db = .int y) ∨ (∃ x y, da = .list x ∧ db = .int y) ∨ (∃ x y, da = .tuple x ∧ db = .int y) ∨ (∃ x y, da = .dict x ∧ db = .str y) := by
 cases da <;> first | exact nj ev | (cases db <;> first | exact nj ev | exact .inl ⟨_, _, rfl, rfl⟩ | exact .inr (.inl ⟨_, _, rfl, rfl⟩) | exact .inr (.inr (.inl ⟨_, _, rfl, rfl⟩)) | exact .inr (.inr (.inr ⟨_, _, rfl, rfl⟩)))
theorem Dr {da db : PyData} {ka kb : Kd} {r : Res} (ev : X9 (da, ka) (db, kb) = some r) : (∃ x y, da = .list x ∧ db = .int y) := by
 cases da <;> first | exact nj ev | (cases db <;> first | exact nj ev | exact ⟨_, _, rfl, rfl⟩)
theorem Nj {da db : PyData} {ka kb : Kd} {r : Res} (ev : Jz (da, ka) (db, kb) = some r) : (∃ x y, da = .list x ∧ db = .int y) := by
 cases da <;> first | exact nj ev | (cases db <;> first | exact nj ev | exact ⟨_, _, rfl, rfl⟩)
theorem Aw {da db : PyData} {ka kb : Kd} {dc : PyData} {kc : Kd} {r : Res} (ev : getD (da, ka) (db, kb) (dc, kc) = some r) : (∃ x y, da = .dict x ∧ db = .str y) := by
 cases da <;> first | exact nj ev | (cases db <;> first | exact nj ev | exact ⟨_, _, rfl, rfl⟩)
section
variable {Φ : Fns} {σ : Sg} {k j : Kd}
theorem e_add {a b} : evE Φ (.add a b) σ = (evE Φ a σ).bind fun x => (evE Φ b σ).bind fun y => Xq x y := rfl
theorem e_sub {a b} : evE Φ (.sub a b) σ = (evE Φ a σ).bind fun x => (evE Φ b σ).bind fun y => I0 x y := rfl
theorem e_mod {a b} : evE Φ (.mod a b) σ = (evE Φ a σ).bind fun x => (evE Φ b σ).bind fun y => D0 x y := rfl
theorem e_fdiv {a b} : evE Φ (.fdiv a b) σ = (evE Φ a σ).bind fun x => (evE Φ b σ).bind fun y => He x y := rfl
theorem e_mul {a b} : evE Φ (.mul a b) σ = (evE Φ a σ).bind fun x => (evE Φ b σ).bind fun y => Mg x y := rfl
theorem e_idx {a b} : evE Φ (.idx a b) σ = (evE Φ a σ).bind fun x => (evE Φ b σ).bind fun y => Th x y := rfl
theorem Oc {a b} : evE Φ (.cutFrom a b) σ = (evE Φ a σ).bind fun x => (evE Φ b σ).bind fun y => X9 x y := rfl
theorem e_cutTo {a b} : evE Φ (.cutTo a b) σ = (evE Φ a σ).bind fun x => (evE Φ b σ).bind fun y => Jz x y := rfl
theorem e_var {i} : evE Φ (.var i) σ = (match σ[i]? with
  | some (some (d, n)) => some (mkR d (if n = 0 then .fr 0 else .bor n))
  | _ => none) := rfl
theorem e_int {i} : evE Φ (.int i) σ = some (.int i, .fr 9) := rfl
theorem e_str {x} : evE Φ (.str x) σ = if x.length ≤ lim && PyData.strOk x then some (.str x, .fr 9) else none := rfl
theorem e_bool {b} : evE Φ (.bool b) σ = some (.bool b, .fr 9) := rfl
theorem e_gstr {n x} : evE Φ (.gstr n x) σ = if x.length ≤ lim && PyData.strOk x then some (.str x, .fr 9) else none := rfl
theorem e_bop {c es} : evE Φ (.bop c es) σ = (X7 Φ c es σ).map fun b => (.bool b, .fr 9) := rfl
theorem e_not {a} : evE Φ (.not a) σ = ((evE Φ a σ).bind Wm).map fun x => (.bool (!x), .fr 9) := rfl
theorem e_pair {a b} : evE Φ (.pair a b) σ = (evE Φ a σ).bind fun x => (evE Φ b σ).bind fun y => if x.2.sh && y.2.sh then some (.tuple [x.1, y.1], .fr 0) else none := rfl
theorem e_lst {es} : evE Φ (.lst es) σ = (evL Φ es σ).bind V0 := rfl
theorem e_dict0 : evE Φ .dict0 σ = some (.dict [], .fr 9) := rfl
theorem e_call {f es} : evE Φ (.call f es) σ = (evL Φ es σ).bind fun rs => (Yp rs (Φ.kinds f)).bind fun ds => (Φ.sem f ds).map fun r => mkR r.1 (.fr r.2) := rfl
theorem e_get {a b c} : evE Φ (.get a b c) σ = (evE Φ a σ).bind fun x => (evE Φ b σ).bind fun y => (evE Φ c σ).bind fun z => getD x y z := rfl
theorem e_cutAll {a} : evE Φ (.cutAll a) σ = (evE Φ a σ).bind J4 := rfl
theorem e_len {a} : evE Φ (.len a) σ = (evE Φ a σ).bind Mi := rfl
theorem e_sorted {a} : evE Φ (.sorted a) σ = (evE Φ a σ).bind Vu := rfl
theorem e_all {a} : evE Φ (.all a) σ = (evE Φ a σ).bind Pt := rfl
theorem e_any {a} : evE Φ (.any a) σ = (evE Φ a σ).bind Pr := rfl
theorem e_items {a} : evE Φ (.items a) σ = (evE Φ a σ).bind Km := rfl
theorem e_dictOf {a} : evE Φ (.dictOf a) σ = (evE Φ a σ).bind J3 := rfl
theorem e_join {a} : evE Φ (.join a) σ = (evE Φ a σ).bind Bf := rfl
theorem e_comp {deep rng x it ifs elt} : evE Φ (.comp deep rng x it ifs elt) σ = ((evE Φ it σ).bind (Fc rng)).bind fun p =>
   (Qv (fun d => (Ub Φ ifs (σ.set x (some (d, p.2)))).bind fun ok => if ok then
     (evE Φ elt (σ.set x (some (d, p.2)))).bind fun r => if r.2.sh && (!deep || r.2.least 1) then some (some r.1) else none
    else some none) p.1).map fun ds => (.list ds, .fr (if deep then 2 else 1)) := rfl
theorem e_comp2 {x y it1 it2 ifs elt} : evE Φ (.comp2 x y it1 it2 ifs elt) σ = ((evE Φ it1 σ).bind Y5).bind fun p =>
   (Wz (fun d => ((evE Φ it2 (σ.set x (some (d, 0)))).bind Y5).bind fun q =>
    Qv (fun e => (Ub Φ ifs ((σ.set x (some (d, 0))).set y (some (e, 0)))).bind fun ok => if ok then
     (evE Φ elt ((σ.set x (some (d, 0))).set y (some (e, 0)))).bind fun r => if leaf r.1 then some (some r.1) else none
     else some none) q) p).bind fun ds => if ds.length ≤ lim then some (.list ds, .fr 1) else none := rfl
theorem L_n : evL Φ .nil σ = some [] := rfl
theorem L_c {e es} : evL Φ (.cons e es) σ = (evE Φ e σ).bind fun x => (evL Φ es σ).map fun xs => x :: xs := rfl
theorem bop_n {c} : X7 Φ c .nil σ = none := rfl
theorem bop_1 {c e} : X7 Φ c (.cons e .nil) σ = (evE Φ e σ).bind Wm := rfl
theorem Er {c e f fs} : X7 Φ c (.cons e (.cons f fs)) σ = ((evE Φ e σ).bind Wm).bind fun b => if b == c then X7 Φ c (.cons f fs) σ else some b := rfl
theorem ifs_n : Ub Φ .nil σ = some true := rfl
theorem ifs_c {e es} : Ub Φ (.cons e es) σ = ((evE Φ e σ).bind Wm).bind fun b => if b then Ub Φ es σ else some false := rfl
theorem ad_i {x y} : Xq (.int x, k) (.int y, j) = some (.int (x + y), .fr 9) := rfl
theorem ad_s {x y} : Xq (.str x, k) (.str y, j) = if x.length + y.length ≤ lim then some (.str (x ++ y), .fr 9) else none := rfl
theorem ad_l {xs ys} : Xq (.list xs, k) (.list ys, j) = if k.rd1 && j.rd1 && xs.length + ys.length ≤ lim then some (.list (xs ++ ys), .fr 1) else none := rfl
theorem su_i {x y} : I0 (.int x, k) (.int y, j) = some (.int (x - y), .fr 9) := rfl
theorem mo_i {x y} : D0 (.int x, k) (.int y, j) = if 0 < y then some (.int (x % y), .fr 9) else none := rfl
theorem fd_i {x y} : He (.int x, k) (.int y, j) = if 0 < y && y < big then some (.int (x / y), .fr 9) else none := rfl
theorem mu_i {x y} : Mg (.int x, k) (.int y, j) = if -big < x && x < big then some (.int (x * y), .fr 9) else none := rfl
theorem mu_l {xs n} : Mg (.list xs, k) (.int n, j) = if k.rd1 && 0 ≤ n && n ≤ big && xs.length * n.toNat ≤ lim then some (.list (List.replicate n.toNat xs).flatten, .fr 1) else none := rfl
theorem lt_i {x y} : ltD (.int x, k) (.int y, j) = some (.bool (decide (x < y)), .fr 9) := rfl
theorem in_l {neg d xs} : inD neg (d, k) (.list xs, j) = if Ts 3 d && xs.all (Ts 3) then some (.bool (neg ^^ xs.any fun y => PyData.eqv y d), .fr 9) else none := by cases d <;> rfl
theorem in_d {neg x kvs} : inD neg (.str x, k) (.dict kvs, j) = some (.bool (neg ^^ (Wf x kvs).isSome), .fr 9) := rfl
theorem in_s {neg y x} : inD neg (.str y, k) (.str x, j) = some (.bool (neg ^^ Ww y x), .fr 9) := rfl
theorem ix_l {xs n} : Th (.list xs, k) (.int n, j) = if 0 ≤ n then (xs[n.toNat]?).map fun d => mkR d k.item else none := rfl
theorem ix_t {xs n} : Th (.tuple xs, k) (.int n, j) = if 0 ≤ n && k.sh then (xs[n.toNat]?).map fun d => mkR d (.fr 0) else none := rfl
theorem ix_s {x n} : Th (.str x, k) (.int n, j) = if 0 ≤ n then (x.cps[n.toNat]?).map fun c => (.str ⟨#[c]⟩, .fr 9) else none := rfl
theorem ix_d {kvs x} : Th (.dict kvs, k) (.str x, j) = (Wf x kvs).map fun d => mkR d k.item := rfl
theorem cf_l {xs n} : X9 (.list xs, k) (.int n, j) = if k.rd1 && 0 ≤ n && n ≤ xs.length then some (.list (xs.drop n.toNat), .fr 1) else none := rfl
theorem ct_l {xs n} : Jz (.list xs, k) (.int n, j) = if k.rd1 && 0 ≤ n && n ≤ big then some (.list (xs.take n.toNat), .fr 1) else none := rfl
theorem ca_l {xs} : J4 (.list xs, k) = if k.rd1 then some (.list xs, .fr 1) else none := rfl
theorem ln_l {xs} : Mi (.list xs, k) = some (.int xs.length, .fr 9) := rfl
theorem so_l {xs} : Vu (.list xs, k) = if xs.length < 64 then (Xs xs).map fun ss => (.list ((Uj ss).map .str), .fr 1) else none := rfl
theorem al_l {xs} : Pt (.list xs, k) = (Zs xs).map fun bs => (.bool (bs.all id), .fr 9) := rfl
theorem an_l {xs} : Pr (.list xs, k) = (Zs xs).map fun bs => (.bool (bs.any id), .fr 9) := rfl
theorem is_d {kvs} : Km (.dict kvs, k) = if k.rd1 then some (.list (kvs.map fun p => .tuple [p.1, p.2]), .fr 1) else none := rfl
theorem do_l {xs} : J3 (.list xs, k) = if k.sh then (Ug xs []).map fun kvs => (.dict kvs, .fr 1) else none := rfl
theorem ge_d {kvs x d i} : getD (.dict kvs, k) (.str x, j) (d, i) = if k.rd1 && i.sh then some (mkR ((Wf x kvs).getD d) (.fr 0)) else none := rfl
theorem jo_l {xs} : Bf (.list xs, k) = (Xs xs).bind fun ss => if (W8 ss).length ≤ lim then some (.str (W8 ss), .fr 9) else none := rfl
theorem lo_n {x} : Wf x [] = none := rfl
theorem Ak {x y d r} : Wf x ((.str y, d) :: r) = if y = x then some d else Wf x r := rfl
theorem sd_n {x v} : Uv x v [] = [] := rfl
theorem sd_c {x v y d r} : Uv x v ((.str y, d) :: r) = (if y = x then (.str y, v) else (.str y, d)) :: Uv x v r := rfl
theorem st_n : Xs [] = some [] := rfl
theorem st_c {x r} : Xs (.str x :: r) = (Xs r).map (x :: ·) := rfl
theorem bs_n : Zs [] = some [] := rfl
theorem bs_c {x r} : Zs (.bool x :: r) = (Zs r).map (x :: ·) := rfl
theorem pa_n {acc} : Ug [] acc = some acc := rfl
theorem pa_c {x v r acc} : Ug (.tuple [.str x, v] :: r) acc = Ug r (Xe acc x v) := rfl
theorem ar_n : Yp [] [] = some [] := rfl
theorem ar_f {d n r m ns} : Yp ((d, .fr n) :: r) (m :: ns) = (Yp r ns).map (d :: ·) := rfl
theorem ar_b {d n r m ns} : Yp ((d, .bor n) :: r) (m :: ns) = if n ≤ m then (Yp r ns).map (d :: ·) else none := rfl
theorem jS_c {x r} : W8 (x :: r) = x ++ W8 r := rfl
theorem id_f {xs n} : Lr (.list xs, .fr n) = some (xs, 0) := rfl
theorem id_b {xs n} : Lr (.list xs, .bor n) = some (xs, n - 1) := rfl
theorem rg_i {n} : Zn (.int n, k) = if 0 ≤ n && n ≤ lim then some ((List.range n.toNat).map fun i => .int (i : Nat), 0) else none := rfl
theorem iS_l {xs} : Y5 (.list xs, k) = if k.sh then some xs else none := rfl
theorem c2_n {f : PyData → Option (List PyData)} : Wz f [] = some [] := rfl
theorem c2_c {f : PyData → Option (List PyData)} {x r} : Wz f (x :: r) = (f x).bind fun ys => (Wz f r).map fun zs => ys ++ zs := rfl
end
theorem Fn {da : PyData} {ka : Kd} {r : Res} (ev : J4 (da, ka) = some r) : ∃ x, da = .list x := by
 cases da <;> first | exact nj ev | exact ⟨_, rfl⟩
theorem Al {da : PyData} {ka : Kd} {r : Res} (ev : Mi (da, ka) = some r) : ∃ x, da = .list x := by
 cases da <;> first | exact nj ev | exact ⟨_, rfl⟩
theorem F8 {da : PyData} {ka : Kd} {r : Res} (ev : Vu (da, ka) = some r) : ∃ x, da = .list x := by
 cases da <;> first | exact nj ev | exact ⟨_, rfl⟩
theorem Ps {da : PyData} {ka : Kd} {r : Res} (ev : Pt (da, ka) = some r) : ∃ x, da = .list x := by
 cases da <;> first | exact nj ev | exact ⟨_, rfl⟩
theorem Pq {da : PyData} {ka : Kd} {r : Res} (ev : Pr (da, ka) = some r) : ∃ x, da = .list x := by
 cases da <;> first | exact nj ev | exact ⟨_, rfl⟩
theorem N2 {da : PyData} {ka : Kd} {r : Res} (ev : Km (da, ka) = some r) : ∃ x, da = .dict x := by
 cases da <;> first | exact nj ev | exact ⟨_, rfl⟩
theorem Fm {da : PyData} {ka : Kd} {r : Res} (ev : J3 (da, ka) = some r) : ∃ x, da = .list x := by
 cases da <;> first | exact nj ev | exact ⟨_, rfl⟩
theorem Cu {da : PyData} {ka : Kd} {r : Res} (ev : Bf (da, ka) = some r) : ∃ x, da = .list x := by
 cases da <;> first | exact nj ev | exact ⟨_, rfl⟩
theorem No {da : PyData} {ka : Kd} {b : Bool} (ev : Wm (da, ka) = some b) : da = .bool b := by
 cases da <;> first | exact nj ev | (cases ev; rfl)
theorem S0 {da : PyData} {ka : Kd} {r} (ev : Y5 (da, ka) = some r) : ∃ x, da = .list x := by
 cases da <;> first | exact nj ev | exact ⟨_, rfl⟩
theorem Li {da : PyData} {ka : Kd} {r} (ev : Zn (da, ka) = some r) : ∃ x, da = .int x := by
 cases da <;> first | exact nj ev | exact ⟨_, rfl⟩
theorem S1 {da : PyData} {ka : Kd} {r} (ev : Lr (da, ka) = some r) : ∃ x, da = .list x := by
 cases da <;> first | exact nj ev | exact ⟨_, rfl⟩
theorem O8 {neg da ka db kb} {r : Res} (ev : inD neg (da, ka) (db, kb) = some r) : (∃ x, db = .list x) ∨ (∃ x y, da = .str x ∧ db = .dict y) ∨ (∃ x y, da = .str x ∧ db = .str y) := by
 cases db <;> first | exact .inl ⟨_, rfl⟩ | (cases da <;> first | exact nj ev | exact .inr (.inl ⟨_, _, rfl, rfl⟩) | exact .inr (.inr ⟨_, _, rfl, rfl⟩))
structure Cx where
 names : List (Str × NameKind)
 ids : List (Str × Nat)
 fns : List Str
 top : Nat
 fixed : List Str := []
noncomputable def Cx.glob (cx : Cx) (x : Str) : Bool := cx.names.lookup x == some .globalImplicit && !(x == ("__debug__" : Str))
noncomputable def Cx.held (cx : Cx) (x : Str) (i : Nat) : Bool :=
 cx.ids.lookup x == some i && (cx.names.lookup x == some .local || cx.names.lookup x == some .cell || cx.names.lookup x == some .free) && !(x == ("__debug__" : Str)) && !(x == ("__classdict__" : Str))
noncomputable def Cx.turned (cx : Cx) (names : List (Str × NameKind)) : List (Str × NameKind) :=
 names.map fun (n, k) => if (k == .free && cx.names.lookup n == some .cell) then (n, .cell) else (n, k)
noncomputable def Cx.inner (cx : Cx) (scope : Scope) (xs : List (Str × Nat)) : Cx :=
 { cx with names := cx.turned scope.names, ids := xs ++ cx.ids.filter fun p => scope.names.lookup p.1 == some .free }
noncomputable def Cx.scopeOk (cx : Cx) (scope : Scope) : Bool :=
 scope.kind == .function && scope.names.all (fun y => y.2 != .cell && (y.2 != .local || scope.names.lookup y.1 == some .local) &&
  (y.2 != .free || cx.names.lookup y.1 == some .cell || cx.names.lookup y.1 == some .free))
noncomputable def X3 : Expr → Bool
 | .Name .. => true
 | .Constant .. => true
 | _ => false
noncomputable def T0 (e : Expr) : Option (Str × Pos) := Expr.casesOn (motive_1 := fun _ => Option (Str × Pos)) e (fun _ _ _ => none) (fun _ _ _ => none) (fun _ _ _ _ => none) (fun _ _ _ => none) (fun _ _ _ _ => none) (fun _ _ _ _ => none) (fun _ _ _ => none) (fun _ _ _ => none) (fun _ _ _ _ => none) (fun _ _ _ _ => none) (fun _ _ _ _ _ => none) (fun _ _ _ _ => none) (fun _ _ => none) (fun _ _ => none) (fun _ _ => none) (fun _ _ _ _ => none) (fun _ _ _ _ => none) (fun _ _ _ _ => none) (fun _ _ => none) (fun _ _ _ => none) (fun _ _ _ => none) (fun _ _ _ => none) (fun _ _ => none) (fun a0 a1 => some (a0, a1)) (fun _ _ => none) (fun _ _ _ => none) (fun _ _ _ _ => none)
noncomputable def Zl (e : Expr) : Option (Const × Nat × Pos) := Expr.casesOn (motive_1 := fun _ => Option (Const × Nat × Pos)) e (fun _ _ _ => none) (fun _ _ _ => none) (fun _ _ _ _ => none) (fun _ _ _ => none) (fun _ _ _ _ => none) (fun _ _ _ _ => none) (fun _ _ _ => none) (fun _ _ _ => none) (fun _ _ _ _ => none) (fun _ _ _ _ => none) (fun _ _ _ _ _ => none) (fun _ _ _ _ => none) (fun _ _ => none) (fun _ _ => none) (fun _ _ => none) (fun _ _ _ _ => none) (fun _ _ _ _ => none) (fun _ _ _ _ => none) (fun _ _ => none) (fun a0 a1 a2 => some (a0, a1, a2)) (fun _ _ _ => none) (fun _ _ _ => none) (fun _ _ => none) (fun _ _ => none) (fun _ _ => none) (fun _ _ _ => none) (fun _ _ _ _ => none)
noncomputable def Hn (e : Expr) : Option (Expr × Operator × Expr × Pos) := Expr.casesOn (motive_1 := fun _ => Option (Expr × Operator × Expr × Pos)) e (fun _ _ _ => none) (fun _ _ _ => none) (fun a0 a1 a2 a3 => some (a0, a1, a2, a3)) (fun _ _ _ => none) (fun _ _ _ _ => none) (fun _ _ _ _ => none) (fun _ _ _ => none) (fun _ _ _ => none) (fun _ _ _ _ => none) (fun _ _ _ _ => none) (fun _ _ _ _ _ => none) (fun _ _ _ _ => none) (fun _ _ => none) (fun _ _ => none) (fun _ _ => none) (fun _ _ _ _ => none) (fun _ _ _ _ => none) (fun _ _ _ _ => none) (fun _ _ => none) (fun _ _ _ => none) (fun _ _ _ => none) (fun _ _ _ => none) (fun _ _ => none) (fun _ _ => none) (fun _ _ => none) (fun _ _ _ => none) (fun _ _ _ _ => none)
noncomputable def F6 (e : Expr) : Option (Expr × List CmpOp × List Expr × Pos) := Expr.casesOn (motive_1 := fun _ => Option (Expr × List CmpOp × List Expr × Pos)) e (fun _ _ _ => none) (fun _ _ _ => none) (fun _ _ _ _ => none) (fun _ _ _ => none) (fun _ _ _ _ => none) (fun _ _ _ _ => none) (fun _ _ _ => none) (fun _ _ _ => none) (fun _ _ _ _ => none) (fun _ _ _ _ => none) (fun _ _ _ _ _ => none) (fun _ _ _ _ => none) (fun _ _ => none) (fun _ _ => none) (fun _ _ => none) (fun a0 a1 a2 a3 => some (a0, a1, a2, a3)) (fun _ _ _ _ => none) (fun _ _ _ _ => none) (fun _ _ => none) (fun _ _ _ => none) (fun _ _ _ => none) (fun _ _ _ => none) (fun _ _ => none) (fun _ _ => none) (fun _ _ => none) (fun _ _ _ => none) (fun _ _ _ _ => none)
noncomputable def vBoo (e : Expr) : Option (BoolOp × List Expr × Pos) := Expr.casesOn (motive_1 := fun _ => Option (BoolOp × List Expr × Pos)) e (fun a0 a1 a2 => some (a0, a1, a2)) (fun _ _ _ => none) (fun _ _ _ _ => none) (fun _ _ _ => none) (fun _ _ _ _ => none) (fun _ _ _ _ => none) (fun _ _ _ => none) (fun _ _ _ => none) (fun _ _ _ _ => none) (fun _ _ _ _ => none) (fun _ _ _ _ _ => none) (fun _ _ _ _ => none) (fun _ _ => none) (fun _ _ => none) (fun _ _ => none) (fun _ _ _ _ => none) (fun _ _ _ _ => none) (fun _ _ _ _ => none) (fun _ _ => none) (fun _ _ _ => none) (fun _ _ _ => none) (fun _ _ _ => none) (fun _ _ => none) (fun _ _ => none) (fun _ _ => none) (fun _ _ _ => none) (fun _ _ _ _ => none)
noncomputable def vUna (e : Expr) : Option (UnaryOp × Expr × Pos) := Expr.casesOn (motive_1 := fun _ => Option (UnaryOp × Expr × Pos)) e (fun _ _ _ => none) (fun _ _ _ => none) (fun _ _ _ _ => none) (fun a0 a1 a2 => some (a0, a1, a2)) (fun _ _ _ _ => none) (fun _ _ _ _ => none) (fun _ _ _ => none) (fun _ _ _ => none) (fun _ _ _ _ => none) (fun _ _ _ _ => none) (fun _ _ _ _ _ => none) (fun _ _ _ _ => none) (fun _ _ => none) (fun _ _ => none) (fun _ _ => none) (fun _ _ _ _ => none) (fun _ _ _ _ => none) (fun _ _ _ _ => none) (fun _ _ => none) (fun _ _ _ => none) (fun _ _ _ => none) (fun _ _ _ => none) (fun _ _ => none) (fun _ _ => none) (fun _ _ => none) (fun _ _ _ => none) (fun _ _ _ _ => none)
noncomputable def Jn (e : Expr) : Option (Expr × Expr × Pos) := Expr.casesOn (motive_1 := fun _ => Option (Expr × Expr × Pos)) e (fun _ _ _ => none) (fun _ _ _ => none) (fun _ _ _ _ => none) (fun _ _ _ => none) (fun _ _ _ _ => none) (fun _ _ _ _ => none) (fun _ _ _ => none) (fun _ _ _ => none) (fun _ _ _ _ => none) (fun _ _ _ _ => none) (fun _ _ _ _ _ => none) (fun _ _ _ _ => none) (fun _ _ => none) (fun _ _ => none) (fun _ _ => none) (fun _ _ _ _ => none) (fun _ _ _ _ => none) (fun _ _ _ _ => none) (fun _ _ => none) (fun _ _ _ => none) (fun _ _ _ => none) (fun a0 a1 a2 => some (a0, a1, a2)) (fun _ _ => none) (fun _ _ => none) (fun _ _ => none) (fun _ _ _ => none) (fun _ _ _ _ => none)
noncomputable def Ou (e : Expr) : Option (Option Expr × Option Expr × Option Expr × Pos) := Expr.casesOn (motive_1 := fun _ => Option (Option Expr × Option Expr × Option Expr × Pos)) e (fun _ _ _ => none) (fun _ _ _ => none) (fun _ _ _ _ => none) (fun _ _ _ => none) (fun _ _ _ _ => none) (fun _ _ _ _ => none) (fun _ _ _ => none) (fun _ _ _ => none) (fun _ _ _ _ => none) (fun _ _ _ _ => none) (fun _ _ _ _ _ => none) (fun _ _ _ _ => none) (fun _ _ => none) (fun _ _ => none) (fun _ _ => none) (fun _ _ _ _ => none) (fun _ _ _ _ => none) (fun _ _ _ _ => none) (fun _ _ => none) (fun _ _ _ => none) (fun _ _ _ => none) (fun _ _ _ => none) (fun _ _ => none) (fun _ _ => none) (fun _ _ => none) (fun _ _ _ => none) (fun a0 a1 a2 a3 => some (a0, a1, a2, a3))
noncomputable def Ev (e : Expr) : Option (List Expr × Nat × Pos) := Expr.casesOn (motive_1 := fun _ => Option (List Expr × Nat × Pos)) e (fun _ _ _ => none) (fun _ _ _ => none) (fun _ _ _ _ => none) (fun _ _ _ => none) (fun _ _ _ _ => none) (fun _ _ _ _ => none) (fun _ _ _ => none) (fun _ _ _ => none) (fun _ _ _ _ => none) (fun _ _ _ _ => none) (fun _ _ _ _ _ => none) (fun _ _ _ _ => none) (fun _ _ => none) (fun _ _ => none) (fun _ _ => none) (fun _ _ _ _ => none) (fun _ _ _ _ => none) (fun _ _ _ _ => none) (fun _ _ => none) (fun _ _ _ => none) (fun _ _ _ => none) (fun _ _ _ => none) (fun _ _ => none) (fun _ _ => none) (fun _ _ => none) (fun a0 a1 a2 => some (a0, a1, a2)) (fun _ _ _ _ => none)
noncomputable def vLst (e : Expr) : Option (List Expr × Pos) := Expr.casesOn (motive_1 := fun _ => Option (List Expr × Pos)) e (fun _ _ _ => none) (fun _ _ _ => none) (fun _ _ _ _ => none) (fun _ _ _ => none) (fun _ _ _ _ => none) (fun _ _ _ _ => none) (fun _ _ _ => none) (fun _ _ _ => none) (fun _ _ _ _ => none) (fun _ _ _ _ => none) (fun _ _ _ _ _ => none) (fun _ _ _ _ => none) (fun _ _ => none) (fun _ _ => none) (fun _ _ => none) (fun _ _ _ _ => none) (fun _ _ _ _ => none) (fun _ _ _ _ => none) (fun _ _ => none) (fun _ _ _ => none) (fun _ _ _ => none) (fun _ _ _ => none) (fun _ _ => none) (fun _ _ => none) (fun a0 a1 => some (a0, a1)) (fun _ _ _ => none) (fun _ _ _ _ => none)
noncomputable def vDic (e : Expr) : Option (List (Option Expr) × List Expr × Pos) := Expr.casesOn (motive_1 := fun _ => Option (List (Option Expr) × List Expr × Pos)) e (fun _ _ _ => none) (fun _ _ _ => none) (fun _ _ _ _ => none) (fun _ _ _ => none) (fun _ _ _ _ => none) (fun _ _ _ _ => none) (fun a0 a1 a2 => some (a0, a1, a2)) (fun _ _ _ => none) (fun _ _ _ _ => none) (fun _ _ _ _ => none) (fun _ _ _ _ _ => none) (fun _ _ _ _ => none) (fun _ _ => none) (fun _ _ => none) (fun _ _ => none) (fun _ _ _ _ => none) (fun _ _ _ _ => none) (fun _ _ _ _ => none) (fun _ _ => none) (fun _ _ _ => none) (fun _ _ _ => none) (fun _ _ _ => none) (fun _ _ => none) (fun _ _ => none) (fun _ _ => none) (fun _ _ _ => none) (fun _ _ _ _ => none)
noncomputable def Hm (e : Expr) : Option (Expr × List Expr × List Keyword × Pos) := Expr.casesOn (motive_1 := fun _ => Option (Expr × List Expr × List Keyword × Pos)) e (fun _ _ _ => none) (fun _ _ _ => none) (fun _ _ _ _ => none) (fun _ _ _ => none) (fun _ _ _ _ => none) (fun _ _ _ _ => none) (fun _ _ _ => none) (fun _ _ _ => none) (fun _ _ _ _ => none) (fun _ _ _ _ => none) (fun _ _ _ _ _ => none) (fun _ _ _ _ => none) (fun _ _ => none) (fun _ _ => none) (fun _ _ => none) (fun _ _ _ _ => none) (fun a0 a1 a2 a3 => some (a0, a1, a2, a3)) (fun _ _ _ _ => none) (fun _ _ => none) (fun _ _ _ => none) (fun _ _ _ => none) (fun _ _ _ => none) (fun _ _ => none) (fun _ _ => none) (fun _ _ => none) (fun _ _ _ => none) (fun _ _ _ _ => none)
noncomputable def Ew (e : Expr) : Option (Expr × Str × Pos) := Expr.casesOn (motive_1 := fun _ => Option (Expr × Str × Pos)) e (fun _ _ _ => none) (fun _ _ _ => none) (fun _ _ _ _ => none) (fun _ _ _ => none) (fun _ _ _ _ => none) (fun _ _ _ _ => none) (fun _ _ _ => none) (fun _ _ _ => none) (fun _ _ _ _ => none) (fun _ _ _ _ => none) (fun _ _ _ _ _ => none) (fun _ _ _ _ => none) (fun _ _ => none) (fun _ _ => none) (fun _ _ => none) (fun _ _ _ _ => none) (fun _ _ _ _ => none) (fun _ _ _ _ => none) (fun _ _ => none) (fun _ _ _ => none) (fun a0 a1 a2 => some (a0, a1, a2)) (fun _ _ _ => none) (fun _ _ => none) (fun _ _ => none) (fun _ _ => none) (fun _ _ _ => none) (fun _ _ _ _ => none)
noncomputable def Nz (e : Expr) : Option (Expr × List Comprehension × Scope × Pos) := Expr.casesOn (motive_1 := fun _ => Option (Expr × List Comprehension × Scope × Pos)) e (fun _ _ _ => none) (fun _ _ _ => none) (fun _ _ _ _ => none) (fun _ _ _ => none) (fun _ _ _ _ => none) (fun _ _ _ _ => none) (fun _ _ _ => none) (fun _ _ _ => none) (fun a0 a1 a2 a3 => some (a0, a1, a2, a3)) (fun _ _ _ _ => none) (fun _ _ _ _ _ => none) (fun _ _ _ _ => none) (fun _ _ => none) (fun _ _ => none) (fun _ _ => none) (fun _ _ _ _ => none) (fun _ _ _ _ => none) (fun _ _ _ _ => none) (fun _ _ => none) (fun _ _ _ => none) (fun _ _ _ => none) (fun _ _ _ => none) (fun _ _ => none) (fun _ _ => none) (fun _ _ => none) (fun _ _ _ => none) (fun _ _ _ _ => none)
noncomputable def cInt : Const → Option Int | .int i => some i | _ => none
noncomputable def cStr : Const → Option Str | .str i => some i | _ => none
noncomputable def cBool : Const → Option Bool | .bool i => some i | _ => none
noncomputable def l1 {α : Type} : List α → Option α | [x] => some x | _ => none
noncomputable def l2 {α : Type} : List α → Option (α × α) | [x, y] => some (x, y) | _ => none
theorem Wd {e : Expr} {t} (h : T0 e = some t) : e = .Name t.1 t.2 := Expr.casesOn (motive_1 := fun e => T0 e = some t → e = .Name t.1 t.2) e (fun _ _ _ => nj) (fun _ _ _ => nj) (fun _ _ _ _ => nj) (fun _ _ _ => nj) (fun _ _ _ _ => nj) (fun _ _ _ _ => nj) (fun _ _ _ => nj) (fun _ _ _ => nj) (fun _ _ _ _ => nj) (fun _ _ _ _ => nj) (fun _ _ _ _ _ => nj) (fun _ _ _ _ => nj) (fun _ _ => nj) (fun _ _ => nj) (fun _ _ => nj) (fun _ _ _ _ => nj) (fun _ _ _ _ => nj) (fun _ _ _ _ => nj) (fun _ _ => nj) (fun _ _ _ => nj) (fun _ _ _ => nj) (fun _ _ _ => nj) (fun _ _ => nj) (fun a0 a1 h => by cases h; rfl) (fun _ _ => nj) (fun _ _ _ => nj) (fun _ _ _ _ => nj) h
theorem Us {e : Expr} {t} (h : Zl e = some t) : e = .Constant t.1 t.2.1 t.2.2 := Expr.casesOn (motive_1 := fun e => Zl e = some t → e = .Constant t.1 t.2.1 t.2.2) e (fun _ _ _ => nj) (fun _ _ _ => nj) (fun _ _ _ _ => nj) (fun _ _ _ => nj) (fun _ _ _ _ => nj) (fun _ _ _ _ => nj) (fun _ _ _ => nj) (fun _ _ _ => nj) (fun _ _ _ _ => nj) (fun _ _ _ _ => nj) (fun _ _ _ _ _ => nj) (fun _ _ _ _ => nj) (fun _ _ => nj) (fun _ _ => nj) (fun _ _ => nj) (fun _ _ _ _ => nj) (fun _ _ _ _ => nj) (fun _ _ _ _ => nj) (fun _ _ => nj) (fun a0 a1 a2 h => by cases h; rfl) (fun _ _ _ => nj) (fun _ _ _ => nj) (fun _ _ => nj) (fun _ _ => nj) (fun _ _ => nj) (fun _ _ _ => nj) (fun _ _ _ _ => nj) h
theorem V2 {e : Expr} {t} (h : Hn e = some t) : e = .BinOp t.1 t.2.1 t.2.2.1 t.2.2.2 := Expr.casesOn (motive_1 := fun e => Hn e = some t → e = .BinOp t.1 t.2.1 t.2.2.1 t.2.2.2) e (fun _ _ _ => nj) (fun _ _ _ => nj) (fun a0 a1 a2 a3 h => by cases h; rfl) (fun _ _ _ => nj) (fun _ _ _ _ => nj) (fun _ _ _ _ => nj) (fun _ _ _ => nj) (fun _ _ _ => nj) (fun _ _ _ _ => nj) (fun _ _ _ _ => nj) (fun _ _ _ _ _ => nj) (fun _ _ _ _ => nj) (fun _ _ => nj) (fun _ _ => nj) (fun _ _ => nj) (fun _ _ _ _ => nj) (fun _ _ _ _ => nj) (fun _ _ _ _ => nj) (fun _ _ => nj) (fun _ _ _ => nj) (fun _ _ _ => nj) (fun _ _ _ => nj) (fun _ _ => nj) (fun _ _ => nj) (fun _ _ => nj) (fun _ _ _ => nj) (fun _ _ _ _ => nj) h
theorem L8 {e : Expr} {t} (h : F6 e = some t) : e = .Compare t.1 t.2.1 t.2.2.1 t.2.2.2 := Expr.casesOn (motive_1 := fun e => F6 e = some t → e = .Compare t.1 t.2.1 t.2.2.1 t.2.2.2) e (fun _ _ _ => nj) (fun _ _ _ => nj) (fun _ _ _ _ => nj) (fun _ _ _ => nj) (fun _ _ _ _ => nj) (fun _ _ _ _ => nj) (fun _ _ _ => nj) (fun _ _ _ => nj) (fun _ _ _ _ => nj) (fun _ _ _ _ => nj) (fun _ _ _ _ _ => nj) (fun _ _ _ _ => nj) (fun _ _ => nj) (fun _ _ => nj) (fun _ _ => nj) (fun a0 a1 a2 a3 h => by cases h; rfl) (fun _ _ _ _ => nj) (fun _ _ _ _ => nj) (fun _ _ => nj) (fun _ _ _ => nj) (fun _ _ _ => nj) (fun _ _ _ => nj) (fun _ _ => nj) (fun _ _ => nj) (fun _ _ => nj) (fun _ _ _ => nj) (fun _ _ _ _ => nj) h
theorem vBoo_inv {e : Expr} {t} (h : vBoo e = some t) : e = .BoolOp t.1 t.2.1 t.2.2 := Expr.casesOn (motive_1 := fun e => vBoo e = some t → e = .BoolOp t.1 t.2.1 t.2.2) e (fun a0 a1 a2 h => by cases h; rfl) (fun _ _ _ => nj) (fun _ _ _ _ => nj) (fun _ _ _ => nj) (fun _ _ _ _ => nj) (fun _ _ _ _ => nj) (fun _ _ _ => nj) (fun _ _ _ => nj) (fun _ _ _ _ => nj) (fun _ _ _ _ => nj) (fun _ _ _ _ _ => nj) (fun _ _ _ _ => nj) (fun _ _ => nj) (fun _ _ => nj) (fun _ _ => nj) (fun _ _ _ _ => nj) (fun _ _ _ _ => nj) (fun _ _ _ _ => nj) (fun _ _ => nj) (fun _ _ _ => nj) (fun _ _ _ => nj) (fun _ _ _ => nj) (fun _ _ => nj) (fun _ _ => nj) (fun _ _ => nj) (fun _ _ _ => nj) (fun _ _ _ _ => nj) h
theorem Ot {e : Expr} {t} (h : vUna e = some t) : e = .UnaryOp t.1 t.2.1 t.2.2 := Expr.casesOn (motive_1 := fun e => vUna e = some t → e = .UnaryOp t.1 t.2.1 t.2.2) e (fun _ _ _ => nj) (fun _ _ _ => nj) (fun _ _ _ _ => nj) (fun a0 a1 a2 h => by cases h; rfl) (fun _ _ _ _ => nj) (fun _ _ _ _ => nj) (fun _ _ _ => nj) (fun _ _ _ => nj) (fun _ _ _ _ => nj) (fun _ _ _ _ => nj) (fun _ _ _ _ _ => nj) (fun _ _ _ _ => nj) (fun _ _ => nj) (fun _ _ => nj) (fun _ _ => nj) (fun _ _ _ _ => nj) (fun _ _ _ _ => nj) (fun _ _ _ _ => nj) (fun _ _ => nj) (fun _ _ _ => nj) (fun _ _ _ => nj) (fun _ _ _ => nj) (fun _ _ => nj) (fun _ _ => nj) (fun _ _ => nj) (fun _ _ _ => nj) (fun _ _ _ _ => nj) h
theorem Ye {e : Expr} {t} (h : Jn e = some t) : e = .Subscript t.1 t.2.1 t.2.2 := Expr.casesOn (motive_1 := fun e => Jn e = some t → e = .Subscript t.1 t.2.1 t.2.2) e (fun _ _ _ => nj) (fun _ _ _ => nj) (fun _ _ _ _ => nj) (fun _ _ _ => nj) (fun _ _ _ _ => nj) (fun _ _ _ _ => nj) (fun _ _ _ => nj) (fun _ _ _ => nj) (fun _ _ _ _ => nj) (fun _ _ _ _ => nj) (fun _ _ _ _ _ => nj) (fun _ _ _ _ => nj) (fun _ _ => nj) (fun _ _ => nj) (fun _ _ => nj) (fun _ _ _ _ => nj) (fun _ _ _ _ => nj) (fun _ _ _ _ => nj) (fun _ _ => nj) (fun _ _ _ => nj) (fun _ _ _ => nj) (fun a0 a1 a2 h => by cases h; rfl) (fun _ _ => nj) (fun _ _ => nj) (fun _ _ => nj) (fun _ _ _ => nj) (fun _ _ _ _ => nj) h
theorem Ga {e : Expr} {t} (h : Ou e = some t) : e = .Slice t.1 t.2.1 t.2.2.1 t.2.2.2 := Expr.casesOn (motive_1 := fun e => Ou e = some t → e = .Slice t.1 t.2.1 t.2.2.1 t.2.2.2) e (fun _ _ _ => nj) (fun _ _ _ => nj) (fun _ _ _ _ => nj) (fun _ _ _ => nj) (fun _ _ _ _ => nj) (fun _ _ _ _ => nj) (fun _ _ _ => nj) (fun _ _ _ => nj) (fun _ _ _ _ => nj) (fun _ _ _ _ => nj) (fun _ _ _ _ _ => nj) (fun _ _ _ _ => nj) (fun _ _ => nj) (fun _ _ => nj) (fun _ _ => nj) (fun _ _ _ _ => nj) (fun _ _ _ _ => nj) (fun _ _ _ _ => nj) (fun _ _ => nj) (fun _ _ _ => nj) (fun _ _ _ => nj) (fun _ _ _ => nj) (fun _ _ => nj) (fun _ _ => nj) (fun _ _ => nj) (fun _ _ _ => nj) (fun a0 a1 a2 a3 h => by cases h; rfl) h
theorem G9 {e : Expr} {t} (h : Ev e = some t) : e = .Tuple t.1 t.2.1 t.2.2 := Expr.casesOn (motive_1 := fun e => Ev e = some t → e = .Tuple t.1 t.2.1 t.2.2) e (fun _ _ _ => nj) (fun _ _ _ => nj) (fun _ _ _ _ => nj) (fun _ _ _ => nj) (fun _ _ _ _ => nj) (fun _ _ _ _ => nj) (fun _ _ _ => nj) (fun _ _ _ => nj) (fun _ _ _ _ => nj) (fun _ _ _ _ => nj) (fun _ _ _ _ _ => nj) (fun _ _ _ _ => nj) (fun _ _ => nj) (fun _ _ => nj) (fun _ _ => nj) (fun _ _ _ _ => nj) (fun _ _ _ _ => nj) (fun _ _ _ _ => nj) (fun _ _ => nj) (fun _ _ _ => nj) (fun _ _ _ => nj) (fun _ _ _ => nj) (fun _ _ => nj) (fun _ _ => nj) (fun _ _ => nj) (fun a0 a1 a2 h => by cases h; rfl) (fun _ _ _ _ => nj) h
theorem Ov {e : Expr} {t} (h : vLst e = some t) : e = .List t.1 t.2 := Expr.casesOn (motive_1 := fun e => vLst e = some t → e = .List t.1 t.2) e (fun _ _ _ => nj) (fun _ _ _ => nj) (fun _ _ _ _ => nj) (fun _ _ _ => nj) (fun _ _ _ _ => nj) (fun _ _ _ _ => nj) (fun _ _ _ => nj) (fun _ _ _ => nj) (fun _ _ _ _ => nj) (fun _ _ _ _ => nj) (fun _ _ _ _ _ => nj) (fun _ _ _ _ => nj) (fun _ _ => nj) (fun _ _ => nj) (fun _ _ => nj) (fun _ _ _ _ => nj) (fun _ _ _ _ => nj) (fun _ _ _ _ => nj) (fun _ _ => nj) (fun _ _ _ => nj) (fun _ _ _ => nj) (fun _ _ _ => nj) (fun _ _ => nj) (fun _ _ => nj) (fun a0 a1 h => by cases h; rfl) (fun _ _ _ => nj) (fun _ _ _ _ => nj) h
theorem Oz {e : Expr} {t} (h : vDic e = some t) : e = .Dict t.1 t.2.1 t.2.2 := Expr.casesOn (motive_1 := fun e => vDic e = some t → e = .Dict t.1 t.2.1 t.2.2) e (fun _ _ _ => nj) (fun _ _ _ => nj) (fun _ _ _ _ => nj) (fun _ _ _ => nj) (fun _ _ _ _ => nj) (fun _ _ _ _ => nj) (fun a0 a1 a2 h => by cases h; rfl) (fun _ _ _ => nj) (fun _ _ _ _ => nj) (fun _ _ _ _ => nj) (fun _ _ _ _ _ => nj) (fun _ _ _ _ => nj) (fun _ _ => nj) (fun _ _ => nj) (fun _ _ => nj) (fun _ _ _ _ => nj) (fun _ _ _ _ => nj) (fun _ _ _ _ => nj) (fun _ _ => nj) (fun _ _ _ => nj) (fun _ _ _ => nj) (fun _ _ _ => nj) (fun _ _ => nj) (fun _ _ => nj) (fun _ _ => nj) (fun _ _ _ => nj) (fun _ _ _ _ => nj) h
theorem Ut {e : Expr} {t} (h : Hm e = some t) : e = .Call t.1 t.2.1 t.2.2.1 t.2.2.2 := Expr.casesOn (motive_1 := fun e => Hm e = some t → e = .Call t.1 t.2.1 t.2.2.1 t.2.2.2) e (fun _ _ _ => nj) (fun _ _ _ => nj) (fun _ _ _ _ => nj) (fun _ _ _ => nj) (fun _ _ _ _ => nj) (fun _ _ _ _ => nj) (fun _ _ _ => nj) (fun _ _ _ => nj) (fun _ _ _ _ => nj) (fun _ _ _ _ => nj) (fun _ _ _ _ _ => nj) (fun _ _ _ _ => nj) (fun _ _ => nj) (fun _ _ => nj) (fun _ _ => nj) (fun _ _ _ _ => nj) (fun a0 a1 a2 a3 h => by cases h; rfl) (fun _ _ _ _ => nj) (fun _ _ => nj) (fun _ _ _ => nj) (fun _ _ _ => nj) (fun _ _ _ => nj) (fun _ _ => nj) (fun _ _ => nj) (fun _ _ => nj) (fun _ _ _ => nj) (fun _ _ _ _ => nj) h
theorem L9 {e : Expr} {t} (h : Ew e = some t) : e = .Attribute t.1 t.2.1 t.2.2 := Expr.casesOn (motive_1 := fun e => Ew e = some t → e = .Attribute t.1 t.2.1 t.2.2) e (fun _ _ _ => nj) (fun _ _ _ => nj) (fun _ _ _ _ => nj) (fun _ _ _ => nj) (fun _ _ _ _ => nj) (fun _ _ _ _ => nj) (fun _ _ _ => nj) (fun _ _ _ => nj) (fun _ _ _ _ => nj) (fun _ _ _ _ => nj) (fun _ _ _ _ _ => nj) (fun _ _ _ _ => nj) (fun _ _ => nj) (fun _ _ => nj) (fun _ _ => nj) (fun _ _ _ _ => nj) (fun _ _ _ _ => nj) (fun _ _ _ _ => nj) (fun _ _ => nj) (fun _ _ _ => nj) (fun a0 a1 a2 h => by cases h; rfl) (fun _ _ _ => nj) (fun _ _ => nj) (fun _ _ => nj) (fun _ _ => nj) (fun _ _ _ => nj) (fun _ _ _ _ => nj) h
theorem Gc {e : Expr} {t} (h : Nz e = some t) : e = .ListComp t.1 t.2.1 t.2.2.1 t.2.2.2 := Expr.casesOn (motive_1 := fun e => Nz e = some t → e = .ListComp t.1 t.2.1 t.2.2.1 t.2.2.2) e (fun _ _ _ => nj) (fun _ _ _ => nj) (fun _ _ _ _ => nj) (fun _ _ _ => nj) (fun _ _ _ _ => nj) (fun _ _ _ _ => nj) (fun _ _ _ => nj) (fun _ _ _ => nj) (fun a0 a1 a2 a3 h => by cases h; rfl) (fun _ _ _ _ => nj) (fun _ _ _ _ _ => nj) (fun _ _ _ _ => nj) (fun _ _ => nj) (fun _ _ => nj) (fun _ _ => nj) (fun _ _ _ _ => nj) (fun _ _ _ _ => nj) (fun _ _ _ _ => nj) (fun _ _ => nj) (fun _ _ _ => nj) (fun _ _ _ => nj) (fun _ _ _ => nj) (fun _ _ => nj) (fun _ _ => nj) (fun _ _ => nj) (fun _ _ _ => nj) (fun _ _ _ _ => nj) h
theorem cInt_inv {e t} (h : cInt e = some t) : e = .int t := by cases e <;> first | exact nj h | (cases h; rfl)
theorem Sk {e t} (h : cStr e = some t) : e = .str t := by cases e <;> first | exact nj h | (cases h; rfl)
theorem Bs {e t} (h : cBool e = some t) : e = .bool t := by cases e <;> first | exact nj h | (cases h; rfl)
theorem Ry {α : Type} {l : List α} {x : α} (h : l1 l = some x) : l = [x] := by rcases l with _ | ⟨a, _ | ⟨b, l⟩⟩ <;> first | exact nj h | (cases h; rfl)
theorem D4 {α : Type} {l : List α} {x : α × α} (h : l2 l = some x) : l = [x.1, x.2] := by rcases l with _ | ⟨a, _ | ⟨b, _ | ⟨c, l⟩⟩⟩ <;> first | exact nj h | (cases h; rfl)
theorem T8 {α : Type} {l : List α} (h : l.isEmpty = true) : l = [] := List.isEmpty_iff.mp h
noncomputable def J8 (e : Expr) : Option (Str × Pos × Expr × Pos) := (Hm e).bind fun t => (T0 t.1).bind fun n => (l1 t.2.1).bind fun x => if t.2.2.1.isEmpty then some (n.1, n.2, x, t.2.2.2) else none
theorem U3 {e t} (h : J8 e = some t) : e = .Call (.Name t.1 t.2.1) [t.2.2.1] [] t.2.2.2 := by
 unfold J8 at h
 simp only [OE] at h
 obtain ⟨c, h1, n, h2, x, h3, h⟩ := h
 split at h
 ·rename_i h4
  cases h
  rw [Ut h1, Wd h2, Ry h3, T8 h4]
 ·cases h
mutual
noncomputable def okE (gs : Str → Option Str) : Cx → Ex → Expr → Bool
 | cx, .var i, e => (T0 e).any fun t => cx.held t.1 i
 | _, .int i, e => (Zl e).any fun t => (cInt t.1).any fun j => i == j
 | _, .str x, e => (Zl e).any fun t => (cStr t.1).any fun y => x == y
 | _, .bool b, e => (Zl e).any fun t => (cBool t.1).any fun c => b == c
 | cx, .gstr n z, e => (T0 e).any fun t => n == t.1 && cx.glob t.1 && gs n == some z
 | cx, .add a b, e => (Hn e).any fun t => t.2.1 == .Add && (okE gs cx a t.1 && okE gs cx b t.2.2.1)
 | cx, .sub a b, e => (Hn e).any fun t => t.2.1 == .Sub && (okE gs cx a t.1 && okE gs cx b t.2.2.1)
 | cx, .mod a b, e => (Hn e).any fun t => t.2.1 == .Mod && (okE gs cx a t.1 && okE gs cx b t.2.2.1)
 | cx, .fdiv a b, e => (Hn e).any fun t => t.2.1 == .FloorDiv && (okE gs cx a t.1 && okE gs cx b t.2.2.1)
 | cx, .mul a b, e => (Hn e).any fun t => t.2.1 == .Mult && (okE gs cx a t.1 && okE gs cx b t.2.2.1)
 | cx, .eq neg a b, e => (F6 e).any fun t => (l1 t.2.1).any fun op => (l1 t.2.2.1).any fun y => op == (if neg then .NotEq else .Eq) && okE gs cx a t.1 && okE gs cx b y
 | cx, .lt a b, e => (F6 e).any fun t => (l1 t.2.1).any fun op => (l1 t.2.2.1).any fun y => op == .Lt && (okE gs cx a t.1 && okE gs cx b y)
 | cx, .gt a b, e => (F6 e).any fun t => (l1 t.2.1).any fun op => (l1 t.2.2.1).any fun y => op == .Gt && (okE gs cx a t.1 && okE gs cx b y)
 | cx, .isin neg a b, e => (F6 e).any fun t => (l1 t.2.1).any fun op => (l1 t.2.2.1).any fun y => op == (if neg then .NotIn else .In) && okE gs cx a t.1 && okE gs cx b y
 | cx, .bop conj es, e => (vBoo e).any fun t => t.1 == (if conj then .And else .Or) && okL gs cx es t.2.1
 | cx, .not a, e => (vUna e).any fun t => t.1 == .Not && okE gs cx a t.2.1
 | cx, .idx a i, e => (Jn e).any fun t => okE gs cx a t.1 && okE gs cx i t.2.1
 | cx, .cutFrom a i, e => (Jn e).any fun t => (Ou t.2.1).any fun s => s.1.any fun y => s.2.1.isNone && (s.2.2.1.isNone && (okE gs cx a t.1 && okE gs cx i y))
 | cx, .cutTo a i, e => (Jn e).any fun t => (Ou t.2.1).any fun s => s.2.1.any fun y => s.1.isNone && (s.2.2.1.isNone && (okE gs cx a t.1 && okE gs cx i y))
 | cx, .cutAll a, e => (Jn e).any fun t => (Ou t.2.1).any fun s => s.1.isNone && (s.2.1.isNone && (s.2.2.1.isNone && okE gs cx a t.1))
 | cx, .pair a b, e => (Ev e).any fun t => (l2 t.1).any fun p => okE gs cx a p.1 && okE gs cx b p.2
 | cx, .lst es, e => (vLst e).any fun t => okL gs cx es t.1
 | _, .dict0, e => (vDic e).any fun t => t.1.isEmpty && t.2.1.isEmpty
 | cx, .call f es, e => (Hm e).any fun t => (T0 t.1).any fun n => t.2.2.1.isEmpty && (cx.fns[f]? == some n.1 && decide (f < cx.top) && cx.glob n.1 && !t.2.1.isEmpty && okL gs cx es t.2.1)
 | cx, .len a, e => (J8 e).any fun t => t.1 == ("len" : Str) && cx.glob t.1 && okE gs cx a t.2.2.1
 | cx, .sorted a, e => (J8 e).any fun t => t.1 == ("sorted" : Str) && cx.glob t.1 && okE gs cx a t.2.2.1
 | cx, .all a, e => (J8 e).any fun t => t.1 == ("all" : Str) && cx.glob t.1 && okE gs cx a t.2.2.1
 | cx, .any a, e => (J8 e).any fun t => t.1 == ("any" : Str) && cx.glob t.1 && okE gs cx a t.2.2.1
 | cx, .items a, e => (J8 e).any fun t => (Hm t.2.2.1).any fun c => (Ew c.1).any fun u => c.2.1.isEmpty && (c.2.2.1.isEmpty && (t.1 == ("list" : Str) && cx.glob t.1 && u.2.1 == ("items" : Str) && u.2.2.endLine == c.2.2.2.line && X3 u.1 && okE gs cx a u.1))
 | cx, .dictOf a, e => (J8 e).any fun t => t.1 == ("dict" : Str) && cx.glob t.1 && okE gs cx a t.2.2.1
 | cx, .get a k d, e => (Hm e).any fun t => (Ew t.1).any fun u => (l2 t.2.1).any fun p => t.2.2.1.isEmpty && (u.2.1 == ("get" : Str) && u.2.2.endLine == t.2.2.2.line && X3 u.1 && okE gs cx a u.1 && okE gs cx k p.1 && okE gs cx d p.2)
 | cx, .join a, e => (Hm e).any fun t => (Ew t.1).any fun u => (Zl u.1).any fun c => (cStr c.1).any fun s => (l1 t.2.1).any fun y => t.2.2.1.isEmpty && (u.2.1 == ("join" : Str) && s == ("" : Str) && u.2.2.endLine == t.2.2.2.line && okE gs cx a y)
 | cx, .comp _ true n it ifs elt, e => (Nz e).any fun t => (l1 t.2.1).any fun c => (T0 c.target).any fun x => (J8 c.iter).any fun f => c.is_async == 0 && (f.1 == ("range" : Str) && cx.glob f.1 && okE gs cx it f.2.2.1 && cx.scopeOk t.2.2.1 && t.2.2.1.names.lookup x.1 == some .local && cx.ids.all (fun p => p.2 != n) && okL gs (cx.inner t.2.2.1 [(x.1, n)]) ifs c.ifs && okE gs (cx.inner t.2.2.1 [(x.1, n)]) elt t.1)
 | cx, .comp _ false n it ifs elt, e => (Nz e).any fun t => (l1 t.2.1).any fun c => (T0 c.target).any fun x => c.is_async == 0 && (okE gs cx it c.iter && cx.scopeOk t.2.2.1 && t.2.2.1.names.lookup x.1 == some .local && cx.ids.all (fun p => p.2 != n) && okL gs (cx.inner t.2.2.1 [(x.1, n)]) ifs c.ifs && okE gs (cx.inner t.2.2.1 [(x.1, n)]) elt t.1)
 | cx, .comp2 n m it1 it2 ifs elt, e => (Nz e).any fun t => (l2 t.2.1).any fun c => (T0 c.1.target).any fun x => (T0 c.2.target).any fun y => c.1.is_async == 0 && (c.2.is_async == 0 && (c.1.ifs.isEmpty && (okE gs cx it1 c.1.iter && cx.scopeOk t.2.2.1 && t.2.2.1.names.lookup x.1 == some .local && t.2.2.1.names.lookup y.1 == some .local && !(x.1 == y.1) && n != m && cx.ids.all (fun p => p.2 != n && p.2 != m) &&
   okE gs (cx.inner t.2.2.1 [(x.1, n)]) it2 c.2.iter && okL gs (cx.inner t.2.2.1 [(x.1, n), (y.1, m)]) ifs c.2.ifs && okE gs (cx.inner t.2.2.1 [(x.1, n), (y.1, m)]) elt t.1)))
noncomputable def okL (gs : Str → Option Str) : Cx → ExL → List Expr → Bool
 | _, .nil, l => l.isEmpty
 | cx, .cons e es, l => match l with
  | x :: xs => okE gs cx e x && okL gs cx es xs
  | [] => false
end
theorem okE1 {gs : Str → Option Str} {cx : Cx} {i} {x} {u1} : okE gs cx (.var i) (.Name x u1) = (cx.held x i) := rfl
theorem okE2 {gs : Str → Option Str} {cx : Cx} {i} {j} {u1} {u2} : okE gs cx (.int i) (.Constant (.int j) u1 u2) = (i == j) := rfl
theorem okE3 {gs : Str → Option Str} {cx : Cx} {x} {y} {u1} {u2} : okE gs cx (.str x) (.Constant (.str y) u1 u2) = (x == y) := rfl
theorem okE4 {gs : Str → Option Str} {cx : Cx} {b} {c} {u1} {u2} : okE gs cx (.bool b) (.Constant (.bool c) u1 u2) = (b == c) := rfl
theorem okE5 {gs : Str → Option Str} {cx : Cx} {n} {z} {y} {u1} : okE gs cx (.gstr n z) (.Name y u1) = (n == y && cx.glob y && gs n == some z) := rfl
theorem okE6 {gs : Str → Option Str} {cx : Cx} {a} {b} {x} {y} {u1} : okE gs cx (.add a b) (.BinOp x .Add y u1) = (okE gs cx a x && okE gs cx b y) := rfl
theorem okE7 {gs : Str → Option Str} {cx : Cx} {a} {b} {x} {y} {u1} : okE gs cx (.sub a b) (.BinOp x .Sub y u1) = (okE gs cx a x && okE gs cx b y) := rfl
theorem okE8 {gs : Str → Option Str} {cx : Cx} {a} {b} {x} {y} {u1} : okE gs cx (.mod a b) (.BinOp x .Mod y u1) = (okE gs cx a x && okE gs cx b y) := rfl
theorem okE9 {gs : Str → Option Str} {cx : Cx} {a} {b} {x} {y} {u1} : okE gs cx (.fdiv a b) (.BinOp x .FloorDiv y u1) = (okE gs cx a x && okE gs cx b y) := rfl
theorem okE10 {gs : Str → Option Str} {cx : Cx} {a} {b} {x} {y} {u1} : okE gs cx (.mul a b) (.BinOp x .Mult y u1) = (okE gs cx a x && okE gs cx b y) := rfl
theorem okE11 {gs : Str → Option Str} {cx : Cx} {neg} {a} {b} {x} {op} {y} {u1} : okE gs cx (.eq neg a b) (.Compare x [op] [y] u1) = (op == (if neg then .NotEq else .Eq) && okE gs cx a x && okE gs cx b y) := rfl
theorem okE12 {gs : Str → Option Str} {cx : Cx} {a} {b} {x} {y} {u1} : okE gs cx (.lt a b) (.Compare x [.Lt] [y] u1) = (okE gs cx a x && okE gs cx b y) := rfl
theorem okE13 {gs : Str → Option Str} {cx : Cx} {a} {b} {x} {y} {u1} : okE gs cx (.gt a b) (.Compare x [.Gt] [y] u1) = (okE gs cx a x && okE gs cx b y) := rfl
theorem okE14 {gs : Str → Option Str} {cx : Cx} {neg} {a} {b} {x} {op} {y} {u1} : okE gs cx (.isin neg a b) (.Compare x [op] [y] u1) = (op == (if neg then .NotIn else .In) && okE gs cx a x && okE gs cx b y) := rfl
theorem okE15 {gs : Str → Option Str} {cx : Cx} {conj} {es} {op} {xs} {u1} : okE gs cx (.bop conj es) (.BoolOp op xs u1) = (op == (if conj then .And else .Or) && okL gs cx es xs) := rfl
theorem okE16 {gs : Str → Option Str} {cx : Cx} {a} {x} {u1} : okE gs cx (.not a) (.UnaryOp .Not x u1) = (okE gs cx a x) := rfl
theorem okE17 {gs : Str → Option Str} {cx : Cx} {a} {i} {x} {y} {u1} : okE gs cx (.idx a i) (.Subscript x y u1) = (okE gs cx a x && okE gs cx i y) := rfl
theorem okE18 {gs : Str → Option Str} {cx : Cx} {a} {i} {x} {y} {u1} {u2} : okE gs cx (.cutFrom a i) (.Subscript x (.Slice (some y) none none u1) u2) = (okE gs cx a x && okE gs cx i y) := rfl
theorem okE19 {gs : Str → Option Str} {cx : Cx} {a} {i} {x} {y} {u1} {u2} : okE gs cx (.cutTo a i) (.Subscript x (.Slice none (some y) none u1) u2) = (okE gs cx a x && okE gs cx i y) := rfl
theorem okE20 {gs : Str → Option Str} {cx : Cx} {a} {x} {u1} {u2} : okE gs cx (.cutAll a) (.Subscript x (.Slice none none none u1) u2) = (okE gs cx a x) := rfl
theorem okE21 {gs : Str → Option Str} {cx : Cx} {a} {b} {x} {y} {u1} {u2} : okE gs cx (.pair a b) (.Tuple [x, y] u1 u2) = (okE gs cx a x && okE gs cx b y) := rfl
theorem okE22 {gs : Str → Option Str} {cx : Cx} {es} {xs} {u1} : okE gs cx (.lst es) (.List xs u1) = (okL gs cx es xs) := rfl
theorem okE24 {gs : Str → Option Str} {cx : Cx} {f} {es} {g} {u1} {xs} {u2} : okE gs cx (.call f es) (.Call (.Name g u1) xs [] u2) = (cx.fns[f]? == some g && decide (f < cx.top) && cx.glob g && !xs.isEmpty && okL gs cx es xs) := rfl
theorem okE25 {gs : Str → Option Str} {cx : Cx} {a} {g} {u1} {x} {u2} : okE gs cx (.len a) (.Call (.Name g u1) [x] [] u2) = (g == ("len" : Str) && cx.glob g && okE gs cx a x) := rfl
theorem okE26 {gs : Str → Option Str} {cx : Cx} {a} {g} {u1} {x} {u2} : okE gs cx (.sorted a) (.Call (.Name g u1) [x] [] u2) = (g == ("sorted" : Str) && cx.glob g && okE gs cx a x) := rfl
theorem okE27 {gs : Str → Option Str} {cx : Cx} {a} {g} {u1} {x} {u2} : okE gs cx (.all a) (.Call (.Name g u1) [x] [] u2) = (g == ("all" : Str) && cx.glob g && okE gs cx a x) := rfl
theorem okE28 {gs : Str → Option Str} {cx : Cx} {a} {g} {u1} {x} {u2} : okE gs cx (.any a) (.Call (.Name g u1) [x] [] u2) = (g == ("any" : Str) && cx.glob g && okE gs cx a x) := rfl
theorem okE30 {gs : Str → Option Str} {cx : Cx} {a} {g} {u1} {x} {u2} : okE gs cx (.dictOf a) (.Call (.Name g u1) [x] [] u2) = (g == ("dict" : Str) && cx.glob g && okE gs cx a x) := rfl
theorem okE31 {gs : Str → Option Str} {cx : Cx} {a} {k} {d} {x} {m} {apos} {y} {z} {pos} : okE gs cx (.get a k d) (.Call (.Attribute x m apos) [y, z] [] pos) = (m == ("get" : Str) && apos.endLine == pos.line && X3 x && okE gs cx a x && okE gs cx k y && okE gs cx d z) := rfl
theorem okE32 {gs : Str → Option Str} {cx : Cx} {a} {s} {u1} {u2} {m} {apos} {y} {pos} : okE gs cx (.join a) (.Call (.Attribute (.Constant (.str s) u1 u2) m apos) [y] [] pos) = (m == ("join" : Str) && s == ("" : Str) && apos.endLine == pos.line && okE gs cx a y) := rfl
theorem Fh {gs : Str → Option Str} {cx : Cx} : okL gs cx .nil [] = true := rfl
theorem Z5 {gs : Str → Option Str} {cx : Cx} {e es x xs} : okL gs cx (.cons e es) (x :: xs) = (okE gs cx e x && okL gs cx es xs) := rfl
theorem Fg {gs : Str → Option Str} {cx : Cx} {x xs} : okL gs cx .nil (x :: xs) = false := rfl
theorem Ff {gs : Str → Option Str} {cx : Cx} {e es} : okL gs cx (.cons e es) [] = false := rfl
section
variable {gs : Str → Option Str} {cx : Cx} {a b c : Ex} {e : Expr}
theorem Uw {α : Type} {o : Option α} (h : o.isNone = true) : o = none := Option.isNone_iff_eq_none.mp h
theorem iv_var {i} (ok : okE gs cx (.var i) e = true) : ∃ x p, e = .Name x p := by
 refine Qo (o := T0 e) ok fun t h _ => ?_
 exact ⟨_, _, Wd h⟩
theorem iv_gstr {n z} (ok : okE gs cx (.gstr n z) e = true) : ∃ x p, e = .Name x p := by
 refine Qo (o := T0 e) ok fun t h _ => ?_
 exact ⟨_, _, Wd h⟩
theorem iv_int {z} (ok : okE gs cx (.int z) e = true) : ∃ j u p, e = .Constant (.int j) u p := by
 refine Qo (o := Zl e) ok fun t h ok => ?_
 refine Qo ok fun j h2 _ => ?_
 exact ⟨_, _, _, by rw [Us h, cInt_inv h2]⟩
theorem iv_str {z} (ok : okE gs cx (.str z) e = true) : ∃ j u p, e = .Constant (.str j) u p := by
 refine Qo (o := Zl e) ok fun t h ok => ?_
 refine Qo ok fun j h2 _ => ?_
 exact ⟨_, _, _, by rw [Us h, Sk h2]⟩
theorem iv_bool {z} (ok : okE gs cx (.bool z) e = true) : ∃ j u p, e = .Constant (.bool j) u p := by
 refine Qo (o := Zl e) ok fun t h ok => ?_
 refine Qo ok fun j h2 _ => ?_
 exact ⟨_, _, _, by rw [Us h, Bs h2]⟩
theorem iv_add (ok : okE gs cx (.add a b) e = true) : ∃ x y p, e = .BinOp x .Add y p := by
 refine Qo (o := Hn e) ok fun t h ok => ?_
 exact ⟨_, _, _, by rw [V2 h, beq_iff_eq.mp (Bool.and_eq_true_iff.mp ok).1]⟩
theorem iv_sub (ok : okE gs cx (.sub a b) e = true) : ∃ x y p, e = .BinOp x .Sub y p := by
 refine Qo (o := Hn e) ok fun t h ok => ?_
 exact ⟨_, _, _, by rw [V2 h, beq_iff_eq.mp (Bool.and_eq_true_iff.mp ok).1]⟩
theorem iv_mod (ok : okE gs cx (.mod a b) e = true) : ∃ x y p, e = .BinOp x .Mod y p := by
 refine Qo (o := Hn e) ok fun t h ok => ?_
 exact ⟨_, _, _, by rw [V2 h, beq_iff_eq.mp (Bool.and_eq_true_iff.mp ok).1]⟩
theorem iv_fdiv (ok : okE gs cx (.fdiv a b) e = true) : ∃ x y p, e = .BinOp x .FloorDiv y p := by
 refine Qo (o := Hn e) ok fun t h ok => ?_
 exact ⟨_, _, _, by rw [V2 h, beq_iff_eq.mp (Bool.and_eq_true_iff.mp ok).1]⟩
theorem iv_mul (ok : okE gs cx (.mul a b) e = true) : ∃ x y p, e = .BinOp x .Mult y p := by
 refine Qo (o := Hn e) ok fun t h ok => ?_
 exact ⟨_, _, _, by rw [V2 h, beq_iff_eq.mp (Bool.and_eq_true_iff.mp ok).1]⟩
theorem iv_eq {neg} (ok : okE gs cx (.eq neg a b) e = true) : ∃ x op y p, e = .Compare x [op] [y] p := by
 refine Qo (o := F6 e) ok fun t h ok => ?_
 refine Qo ok fun _ h2 ok => ?_
 refine Qo ok fun _ h3 _ => ?_
 exact ⟨_, _, _, _, by rw [L8 h, Ry h2, Ry h3]⟩
theorem iv_isin {neg} (ok : okE gs cx (.isin neg a b) e = true) : ∃ x op y p, e = .Compare x [op] [y] p := by
 refine Qo (o := F6 e) ok fun t h ok => ?_
 refine Qo ok fun _ h2 ok => ?_
 refine Qo ok fun _ h3 _ => ?_
 exact ⟨_, _, _, _, by rw [L8 h, Ry h2, Ry h3]⟩
theorem iv_lt (ok : okE gs cx (.lt a b) e = true) : ∃ x y p, e = .Compare x [.Lt] [y] p := by
 refine Qo (o := F6 e) ok fun t h ok => ?_
 refine Qo ok fun _ h2 ok => ?_
 refine Qo ok fun _ h3 ok => ?_
 exact ⟨_, _, _, by rw [L8 h, Ry h2, Ry h3, beq_iff_eq.mp (Bool.and_eq_true_iff.mp ok).1]⟩
theorem iv_gt (ok : okE gs cx (.gt a b) e = true) : ∃ x y p, e = .Compare x [.Gt] [y] p := by
 refine Qo (o := F6 e) ok fun t h ok => ?_
 refine Qo ok fun _ h2 ok => ?_
 refine Qo ok fun _ h3 ok => ?_
 exact ⟨_, _, _, by rw [L8 h, Ry h2, Ry h3, beq_iff_eq.mp (Bool.and_eq_true_iff.mp ok).1]⟩
theorem iv_bop {cj es} (ok : okE gs cx (.bop cj es) e = true) : ∃ op xs p, e = .BoolOp op xs p := by
 refine Qo (o := vBoo e) ok fun t h _ => ?_
 exact ⟨_, _, _, vBoo_inv h⟩
theorem iv_not (ok : okE gs cx (.not a) e = true) : ∃ x p, e = .UnaryOp .Not x p := by
 refine Qo (o := vUna e) ok fun t h ok => ?_
 exact ⟨_, _, by rw [Ot h, beq_iff_eq.mp (Bool.and_eq_true_iff.mp ok).1]⟩
theorem iv_idx (ok : okE gs cx (.idx a b) e = true) : ∃ x y p, e = .Subscript x y p := by
 refine Qo (o := Jn e) ok fun t h _ => ?_
 exact ⟨_, _, _, Ye h⟩
theorem Ar (ok : okE gs cx (.cutFrom a b) e = true) : ∃ x y q p, e = .Subscript x (.Slice (some y) none none q) p := by
 refine Qo (o := Jn e) ok fun t h ok => ?_
 refine Qo ok fun s h2 ok => ?_
 refine Qo ok fun y h3 ok => ?_
 obtain ⟨h4, ok⟩ := Bool.and_eq_true_iff.mp ok
 exact ⟨_, _, _, _, by rw [Ye h, Ga h2, h3, Uw h4, Uw (Bool.and_eq_true_iff.mp ok).1]⟩
theorem iv_cutTo (ok : okE gs cx (.cutTo a b) e = true) : ∃ x y q p, e = .Subscript x (.Slice none (some y) none q) p := by
 refine Qo (o := Jn e) ok fun t h ok => ?_
 refine Qo ok fun s h2 ok => ?_
 refine Qo ok fun y h3 ok => ?_
 obtain ⟨h4, ok⟩ := Bool.and_eq_true_iff.mp ok
 exact ⟨_, _, _, _, by rw [Ye h, Ga h2, h3, Uw h4, Uw (Bool.and_eq_true_iff.mp ok).1]⟩
theorem O6 (ok : okE gs cx (.cutAll a) e = true) : ∃ x q p, e = .Subscript x (.Slice none none none q) p := by
 refine Qo (o := Jn e) ok fun t h ok => ?_
 refine Qo ok fun s h2 ok => ?_
 obtain ⟨h4, ok⟩ := Bool.and_eq_true_iff.mp ok
 obtain ⟨h5, ok⟩ := Bool.and_eq_true_iff.mp ok
 exact ⟨_, _, _, by rw [Ye h, Ga h2, Uw h4, Uw h5, Uw (Bool.and_eq_true_iff.mp ok).1]⟩
theorem iv_pair (ok : okE gs cx (.pair a b) e = true) : ∃ x y k p, e = .Tuple [x, y] k p := by
 refine Qo (o := Ev e) ok fun t h ok => ?_
 refine Qo ok fun _ h2 _ => ?_
 exact ⟨_, _, _, _, by rw [G9 h, D4 h2]⟩
theorem iv_lst {es} (ok : okE gs cx (.lst es) e = true) : ∃ xs p, e = .List xs p := by
 refine Qo (o := vLst e) ok fun t h _ => ?_
 exact ⟨_, _, Ov h⟩
theorem iv_dict0 (ok : okE gs cx .dict0 e = true) : ∃ p, e = .Dict [] [] p := by
 refine Qo (o := vDic e) ok fun t h ok => ?_
 obtain ⟨h1, h2⟩ := Bool.and_eq_true_iff.mp ok
 exact ⟨_, by rw [Oz h, T8 h1, T8 h2]⟩
theorem iv_call {f es} (ok : okE gs cx (.call f es) e = true) : ∃ g np xs p, e = .Call (.Name g np) xs [] p := by
 refine Qo (o := Hm e) ok fun t h ok => ?_
 refine Qo ok fun _ h2 ok => ?_
 exact ⟨_, _, _, _, by rw [Ut h, Wd h2, T8 (Bool.and_eq_true_iff.mp ok).1]⟩
theorem iv_len (ok : okE gs cx (.len a) e = true) : ∃ g np x p, e = .Call (.Name g np) [x] [] p := by
 refine Qo (o := J8 e) ok fun t h _ => ?_
 exact ⟨_, _, _, _, U3 h⟩
theorem O4 (ok : okE gs cx (.sorted a) e = true) : ∃ g np x p, e = .Call (.Name g np) [x] [] p := by
 refine Qo (o := J8 e) ok fun t h _ => ?_
 exact ⟨_, _, _, _, U3 h⟩
theorem iv_all (ok : okE gs cx (.all a) e = true) : ∃ g np x p, e = .Call (.Name g np) [x] [] p := by
 refine Qo (o := J8 e) ok fun t h _ => ?_
 exact ⟨_, _, _, _, U3 h⟩
theorem iv_any (ok : okE gs cx (.any a) e = true) : ∃ g np x p, e = .Call (.Name g np) [x] [] p := by
 refine Qo (o := J8 e) ok fun t h _ => ?_
 exact ⟨_, _, _, _, U3 h⟩
theorem O5 (ok : okE gs cx (.dictOf a) e = true) : ∃ g np x p, e = .Call (.Name g np) [x] [] p := by
 refine Qo (o := J8 e) ok fun t h _ => ?_
 exact ⟨_, _, _, _, U3 h⟩
theorem Cv (ok : okE gs cx (.items a) e = true) : ∃ g np x m apos q p, e = .Call (.Name g np) [.Call (.Attribute x m apos) [] [] q] [] p := by
 refine Qo (o := J8 e) ok fun t h ok => ?_
 refine Qo ok fun _ h2 ok => ?_
 refine Qo ok fun _ h3 ok => ?_
 obtain ⟨h4, ok⟩ := Bool.and_eq_true_iff.mp ok
 exact ⟨_, _, _, _, _, _, _, by rw [U3 h, Ut h2, L9 h3, T8 h4, T8 (Bool.and_eq_true_iff.mp ok).1]⟩
theorem iv_get (ok : okE gs cx (.get a b c) e = true) : ∃ x m apos y z p, e = .Call (.Attribute x m apos) [y, z] [] p := by
 refine Qo (o := Hm e) ok fun t h ok => ?_
 refine Qo ok fun _ h2 ok => ?_
 refine Qo ok fun _ h3 ok => ?_
 exact ⟨_, _, _, _, _, _, by rw [Ut h, L9 h2, D4 h3, T8 (Bool.and_eq_true_iff.mp ok).1]⟩
theorem iv_join (ok : okE gs cx (.join a) e = true) : ∃ s u q m apos y p, e = .Call (.Attribute (.Constant (.str s) u q) m apos) [y] [] p := by
 refine Qo (o := Hm e) ok fun t h ok => ?_
 refine Qo ok fun _ h2 ok => ?_
 refine Qo ok fun _ h3 ok => ?_
 refine Qo ok fun _ h4 ok => ?_
 refine Qo ok fun _ h5 ok => ?_
 exact ⟨_, _, _, _, _, _, _, by rw [Ut h, L9 h2, Us h3, Sk h4, Ry h5, T8 (Bool.and_eq_true_iff.mp ok).1]⟩
theorem Hy {g : Comprehension} {t i : Expr} {fs : List Expr} (h1 : g.target = t) (h2 : g.iter = i) (h3 : g.ifs = fs) (h4 : (g.is_async == 0) = true) : g = ⟨t, i, fs, 0⟩ := by
 cases g
 simp only at h1 h2 h3 h4
 rw [h1, h2, h3, beq_iff_eq.mp h4]
theorem Cy {d n it ifs elt} (ok : okE gs cx (.comp d true n it ifs elt) e = true) : ∃ xe x px g np z zp fs scope p, e = .ListComp xe [⟨.Name x px, .Call (.Name g np) [z] [] zp, fs, 0⟩] scope p := by
 refine Qo (o := Nz e) ok fun t h ok => ?_
 refine Qo ok fun _ h2 ok => ?_
 refine Qo ok fun _ h3 ok => ?_
 refine Qo ok fun _ h4 ok => ?_
 exact ⟨_, _, _, _, _, _, _, _, _, _, by rw [Gc h, Ry h2, Hy (Wd h3) (U3 h4) rfl (Bool.and_eq_true_iff.mp ok).1]⟩
theorem Cz {d n it ifs elt} (ok : okE gs cx (.comp d false n it ifs elt) e = true) : ∃ xe x px i fs scope p, e = .ListComp xe [⟨.Name x px, i, fs, 0⟩] scope p := by
 refine Qo (o := Nz e) ok fun t h ok => ?_
 refine Qo ok fun _ h2 ok => ?_
 refine Qo ok fun _ h3 ok => ?_
 exact ⟨_, _, _, _, _, _, _, by rw [Gc h, Ry h2, Hy (Wd h3) rfl rfl (Bool.and_eq_true_iff.mp ok).1]⟩
theorem iv_comp2 {n m it1 it2 ifs elt} (ok : okE gs cx (.comp2 n m it1 it2 ifs elt) e = true) : ∃ xe x px i y py j fs scope p, e = .ListComp xe [⟨.Name x px, i, [], 0⟩, ⟨.Name y py, j, fs, 0⟩] scope p := by
 refine Qo (o := Nz e) ok fun t h ok => ?_
 refine Qo ok fun _ h2 ok => ?_
 refine Qo ok fun _ h3 ok => ?_
 refine Qo ok fun _ h4 ok => ?_
 obtain ⟨h5, ok⟩ := Bool.and_eq_true_iff.mp ok
 obtain ⟨h6, ok⟩ := Bool.and_eq_true_iff.mp ok
 exact ⟨_, _, _, _, _, _, _, _, _, _, by rw [Gc h, D4 h2, Hy (Wd h3) rfl (T8 (Bool.and_eq_true_iff.mp ok).1) h5, Hy (Wd h4) rfl rfl h6]⟩
noncomputable def okK : Expr → Bool
 | .Name .. => true
 | .Constant .. => true
 | .BinOp .. => true
 | .Compare .. => true
 | .BoolOp .. => true
 | .UnaryOp .. => true
 | .Subscript .. => true
 | .Tuple .. => true
 | .List .. => true
 | .Dict .. => true
 | .Call .. => true
 | .ListComp .. => true
 | _ => false
theorem Mm {i} {G : Expr → Prop} (ok : okE gs cx (.var i) e = true) (kont : ∀ x p, okE gs cx (.var i) (.Name x p) = true → G (.Name x p)) : G e := by
 obtain ⟨x, p, rfl⟩ := iv_var ok
 exact kont _ _ ok
theorem D7 {n z} {G : Expr → Prop} (ok : okE gs cx (.gstr n z) e = true) (kont : ∀ x p, okE gs cx (.gstr n z) (.Name x p) = true → G (.Name x p)) : G e := by
 obtain ⟨x, p, rfl⟩ := iv_gstr ok
 exact kont _ _ ok
theorem Mu {z} {G : Expr → Prop} (ok : okE gs cx (.int z) e = true) (kont : ∀ j u p, okE gs cx (.int z) (.Constant (.int j) u p) = true → G (.Constant (.int j) u p)) : G e := by
 obtain ⟨j, u, p, rfl⟩ := iv_int ok
 exact kont _ _ _ ok
theorem Mo {z} {G : Expr → Prop} (ok : okE gs cx (.str z) e = true) (kont : ∀ j u p, okE gs cx (.str z) (.Constant (.str j) u p) = true → G (.Constant (.str j) u p)) : G e := by
 obtain ⟨j, u, p, rfl⟩ := iv_str ok
 exact kont _ _ _ ok
theorem Da {z} {G : Expr → Prop} (ok : okE gs cx (.bool z) e = true) (kont : ∀ j u p, okE gs cx (.bool z) (.Constant (.bool j) u p) = true → G (.Constant (.bool j) u p)) : G e := by
 obtain ⟨j, u, p, rfl⟩ := iv_bool ok
 exact kont _ _ _ ok
theorem N1 {G : Expr → Prop} (ok : okE gs cx (.add a b) e = true) (kont : ∀ x y p, okE gs cx (.add a b) (.BinOp x .Add y p) = true → G (.BinOp x .Add y p)) : G e := by
 obtain ⟨x, y, p, rfl⟩ := iv_add ok
 exact kont _ _ _ ok
theorem Mn {G : Expr → Prop} (ok : okE gs cx (.sub a b) e = true) (kont : ∀ x y p, okE gs cx (.sub a b) (.BinOp x .Sub y p) = true → G (.BinOp x .Sub y p)) : G e := by
 obtain ⟨x, y, p, rfl⟩ := iv_sub ok
 exact kont _ _ _ ok
theorem Mr {G : Expr → Prop} (ok : okE gs cx (.mod a b) e = true) (kont : ∀ x y p, okE gs cx (.mod a b) (.BinOp x .Mod y p) = true → G (.BinOp x .Mod y p)) : G e := by
 obtain ⟨x, y, p, rfl⟩ := iv_mod ok
 exact kont _ _ _ ok
theorem D8 {G : Expr → Prop} (ok : okE gs cx (.fdiv a b) e = true) (kont : ∀ x y p, okE gs cx (.fdiv a b) (.BinOp x .FloorDiv y p) = true → G (.BinOp x .FloorDiv y p)) : G e := by
 obtain ⟨x, y, p, rfl⟩ := iv_fdiv ok
 exact kont _ _ _ ok
theorem Mq {G : Expr → Prop} (ok : okE gs cx (.mul a b) e = true) (kont : ∀ x y p, okE gs cx (.mul a b) (.BinOp x .Mult y p) = true → G (.BinOp x .Mult y p)) : G e := by
 obtain ⟨x, y, p, rfl⟩ := iv_mul ok
 exact kont _ _ _ ok
theorem iv_eqC {neg} {G : Expr → Prop} (ok : okE gs cx (.eq neg a b) e = true) (kont : ∀ x op y p, okE gs cx (.eq neg a b) (.Compare x [op] [y] p) = true → G (.Compare x [op] [y] p)) : G e := by
 obtain ⟨x, op, y, p, rfl⟩ := iv_eq ok
 exact kont _ _ _ _ ok
theorem Cw {neg} {G : Expr → Prop} (ok : okE gs cx (.isin neg a b) e = true) (kont : ∀ x op y p, okE gs cx (.isin neg a b) (.Compare x [op] [y] p) = true → G (.Compare x [op] [y] p)) : G e := by
 obtain ⟨x, op, y, p, rfl⟩ := iv_isin ok
 exact kont _ _ _ _ ok
theorem iv_ltC {G : Expr → Prop} (ok : okE gs cx (.lt a b) e = true) (kont : ∀ x y p, okE gs cx (.lt a b) (.Compare x [.Lt] [y] p) = true → G (.Compare x [.Lt] [y] p)) : G e := by
 obtain ⟨x, y, p, rfl⟩ := iv_lt ok
 exact kont _ _ _ ok
theorem iv_gtC {G : Expr → Prop} (ok : okE gs cx (.gt a b) e = true) (kont : ∀ x y p, okE gs cx (.gt a b) (.Compare x [.Gt] [y] p) = true → G (.Compare x [.Gt] [y] p)) : G e := by
 obtain ⟨x, y, p, rfl⟩ := iv_gt ok
 exact kont _ _ _ ok
theorem My {cj es} {G : Expr → Prop} (ok : okE gs cx (.bop cj es) e = true) (kont : ∀ op xs p, okE gs cx (.bop cj es) (.BoolOp op xs p) = true → G (.BoolOp op xs p)) : G e := by
 obtain ⟨op, xs, p, rfl⟩ := iv_bop ok
 exact kont _ _ _ ok
theorem Mp {G : Expr → Prop} (ok : okE gs cx (.not a) e = true) (kont : ∀ x p, okE gs cx (.not a) (.UnaryOp .Not x p) = true → G (.UnaryOp .Not x p)) : G e := by
 obtain ⟨x, p, rfl⟩ := iv_not ok
 exact kont _ _ ok
theorem Mw {G : Expr → Prop} (ok : okE gs cx (.idx a b) e = true) (kont : ∀ x y p, okE gs cx (.idx a b) (.Subscript x y p) = true → G (.Subscript x y p)) : G e := by
 obtain ⟨x, y, p, rfl⟩ := iv_idx ok
 exact kont _ _ _ ok
theorem Vj {G : Expr → Prop} (ok : okE gs cx (.cutFrom a b) e = true) (kont : ∀ x y q p, okE gs cx (.cutFrom a b) (.Subscript x (.Slice (some y) none none q) p) = true → G (.Subscript x (.Slice (some y) none none q) p)) : G e := by
 obtain ⟨x, y, q, p, rfl⟩ := Ar ok
 exact kont _ _ _ _ ok
theorem Kj {G : Expr → Prop} (ok : okE gs cx (.cutTo a b) e = true) (kont : ∀ x y q p, okE gs cx (.cutTo a b) (.Subscript x (.Slice none (some y) none q) p) = true → G (.Subscript x (.Slice none (some y) none q) p)) : G e := by
 obtain ⟨x, y, q, p, rfl⟩ := iv_cutTo ok
 exact kont _ _ _ _ ok
theorem Jx {G : Expr → Prop} (ok : okE gs cx (.cutAll a) e = true) (kont : ∀ x q p, okE gs cx (.cutAll a) (.Subscript x (.Slice none none none q) p) = true → G (.Subscript x (.Slice none none none q) p)) : G e := by
 obtain ⟨x, q, p, rfl⟩ := O6 ok
 exact kont _ _ _ ok
theorem D5 {G : Expr → Prop} (ok : okE gs cx (.pair a b) e = true) (kont : ∀ x y k p, okE gs cx (.pair a b) (.Tuple [x, y] k p) = true → G (.Tuple [x, y] k p)) : G e := by
 obtain ⟨x, y, k, p, rfl⟩ := iv_pair ok
 exact kont _ _ _ _ ok
theorem Ms {es} {G : Expr → Prop} (ok : okE gs cx (.lst es) e = true) (kont : ∀ xs p, okE gs cx (.lst es) (.List xs p) = true → G (.List xs p)) : G e := by
 obtain ⟨xs, p, rfl⟩ := iv_lst ok
 exact kont _ _ ok
theorem Ki {G : Expr → Prop} (ok : okE gs cx .dict0 e = true) (kont : ∀ p, okE gs cx .dict0 (.Dict [] [] p) = true → G (.Dict [] [] p)) : G e := by
 obtain ⟨p, rfl⟩ := iv_dict0 ok
 exact kont _ ok
theorem D9 {f es} {G : Expr → Prop} (ok : okE gs cx (.call f es) e = true) (kont : ∀ g np xs p, okE gs cx (.call f es) (.Call (.Name g np) xs [] p) = true → G (.Call (.Name g np) xs [] p)) : G e := by
 obtain ⟨g, np, xs, p, rfl⟩ := iv_call ok
 exact kont _ _ _ _ ok
theorem Mt {G : Expr → Prop} (ok : okE gs cx (.len a) e = true) (kont : ∀ g np x p, okE gs cx (.len a) (.Call (.Name g np) [x] [] p) = true → G (.Call (.Name g np) [x] [] p)) : G e := by
 obtain ⟨g, np, x, p, rfl⟩ := iv_len ok
 exact kont _ _ _ _ ok
theorem Jv {G : Expr → Prop} (ok : okE gs cx (.sorted a) e = true) (kont : ∀ g np x p, okE gs cx (.sorted a) (.Call (.Name g np) [x] [] p) = true → G (.Call (.Name g np) [x] [] p)) : G e := by
 obtain ⟨g, np, x, p, rfl⟩ := O4 ok
 exact kont _ _ _ _ ok
theorem N0 {G : Expr → Prop} (ok : okE gs cx (.all a) e = true) (kont : ∀ g np x p, okE gs cx (.all a) (.Call (.Name g np) [x] [] p) = true → G (.Call (.Name g np) [x] [] p)) : G e := by
 obtain ⟨g, np, x, p, rfl⟩ := iv_all ok
 exact kont _ _ _ _ ok
theorem Mz {G : Expr → Prop} (ok : okE gs cx (.any a) e = true) (kont : ∀ g np x p, okE gs cx (.any a) (.Call (.Name g np) [x] [] p) = true → G (.Call (.Name g np) [x] [] p)) : G e := by
 obtain ⟨g, np, x, p, rfl⟩ := iv_any ok
 exact kont _ _ _ _ ok
theorem Jw {G : Expr → Prop} (ok : okE gs cx (.dictOf a) e = true) (kont : ∀ g np x p, okE gs cx (.dictOf a) (.Call (.Name g np) [x] [] p) = true → G (.Call (.Name g np) [x] [] p)) : G e := by
 obtain ⟨g, np, x, p, rfl⟩ := O5 ok
 exact kont _ _ _ _ ok
theorem Bg {G : Expr → Prop} (ok : okE gs cx (.items a) e = true) (kont : ∀ g np x m apos q p, okE gs cx (.items a) (.Call (.Name g np) [.Call (.Attribute x m apos) [] [] q] [] p) = true → G (.Call (.Name g np) [.Call (.Attribute x m apos) [] [] q] [] p)) : G e := by
 obtain ⟨g, np, x, m, apos, q, p, rfl⟩ := Cv ok
 exact kont _ _ _ _ _ _ _ ok
theorem Mx {G : Expr → Prop} (ok : okE gs cx (.get a b c) e = true) (kont : ∀ x m apos y z p, okE gs cx (.get a b c) (.Call (.Attribute x m apos) [y, z] [] p) = true → G (.Call (.Attribute x m apos) [y, z] [] p)) : G e := by
 obtain ⟨x, m, apos, y, z, p, rfl⟩ := iv_get ok
 exact kont _ _ _ _ _ _ ok
theorem D6 {G : Expr → Prop} (ok : okE gs cx (.join a) e = true) (kont : ∀ s u q m apos y p, okE gs cx (.join a) (.Call (.Attribute (.Constant (.str s) u q) m apos) [y] [] p) = true → G (.Call (.Attribute (.Constant (.str s) u q) m apos) [y] [] p)) : G e := by
 obtain ⟨s, u, q, m, apos, y, p, rfl⟩ := iv_join ok
 exact kont _ _ _ _ _ _ _ ok
theorem Bh {d n it ifs elt} {G : Expr → Prop} (ok : okE gs cx (.comp d true n it ifs elt) e = true) (kont : ∀ xe x px g np z zp fs scope p, okE gs cx (.comp d true n it ifs elt) (.ListComp xe [⟨.Name x px, .Call (.Name g np) [z] [] zp, fs, 0⟩] scope p) = true → G (.ListComp xe [⟨.Name x px, .Call (.Name g np) [z] [] zp, fs, 0⟩] scope p)) : G e := by
 obtain ⟨xe, x, px, g, np, z, zp, fs, scope, p, rfl⟩ := Cy ok
 exact kont _ _ _ _ _ _ _ _ _ _ ok
theorem Bi {d n it ifs elt} {G : Expr → Prop} (ok : okE gs cx (.comp d false n it ifs elt) e = true) (kont : ∀ xe x px i fs scope p, okE gs cx (.comp d false n it ifs elt) (.ListComp xe [⟨.Name x px, i, fs, 0⟩] scope p) = true → G (.ListComp xe [⟨.Name x px, i, fs, 0⟩] scope p)) : G e := by
 obtain ⟨xe, x, px, i, fs, scope, p, rfl⟩ := Cz ok
 exact kont _ _ _ _ _ _ _ ok
theorem Kl {n m it1 it2 ifs elt} {G : Expr → Prop} (ok : okE gs cx (.comp2 n m it1 it2 ifs elt) e = true) (kont : ∀ xe x px i y py j fs scope p, okE gs cx (.comp2 n m it1 it2 ifs elt) (.ListComp xe [⟨.Name x px, i, [], 0⟩, ⟨.Name y py, j, fs, 0⟩] scope p) = true → G (.ListComp xe [⟨.Name x px, i, [], 0⟩, ⟨.Name y py, j, fs, 0⟩] scope p)) : G e := by
 obtain ⟨xe, x, px, i, y, py, j, fs, scope, p, rfl⟩ := iv_comp2 ok
 exact kont _ _ _ _ _ _ _ _ _ _ ok
noncomputable def Kk (e : Expr) : Prop := okK e = true
theorem X4 : ∀ {a : Ex}, okE gs cx a e = true → okK e = true
 | .var _, ok => Mm (G := Kk) ok fun _ _ _ => rfl
 | .gstr _ _, ok => D7 (G := Kk) ok fun _ _ _ => rfl
 | .int _, ok => Mu (G := Kk) ok fun _ _ _ _ => rfl
 | .str _, ok => Mo (G := Kk) ok fun _ _ _ _ => rfl
 | .bool _, ok => Da (G := Kk) ok fun _ _ _ _ => rfl
 | .add _ _, ok => N1 (G := Kk) ok fun _ _ _ _ => rfl
 | .sub _ _, ok => Mn (G := Kk) ok fun _ _ _ _ => rfl
 | .mod _ _, ok => Mr (G := Kk) ok fun _ _ _ _ => rfl
 | .fdiv _ _, ok => D8 (G := Kk) ok fun _ _ _ _ => rfl
 | .mul _ _, ok => Mq (G := Kk) ok fun _ _ _ _ => rfl
 | .eq _ _ _, ok => iv_eqC (G := Kk) ok fun _ _ _ _ _ => rfl
 | .isin _ _ _, ok => Cw (G := Kk) ok fun _ _ _ _ _ => rfl
 | .lt _ _, ok => iv_ltC (G := Kk) ok fun _ _ _ _ => rfl
 | .gt _ _, ok => iv_gtC (G := Kk) ok fun _ _ _ _ => rfl
 | .bop _ _, ok => My (G := Kk) ok fun _ _ _ _ => rfl
 | .not _, ok => Mp (G := Kk) ok fun _ _ _ => rfl
 | .idx _ _, ok => Mw (G := Kk) ok fun _ _ _ _ => rfl
 | .cutFrom _ _, ok => Vj (G := Kk) ok fun _ _ _ _ _ => rfl
 | .cutTo _ _, ok => Kj (G := Kk) ok fun _ _ _ _ _ => rfl
 | .cutAll _, ok => Jx (G := Kk) ok fun _ _ _ _ => rfl
 | .pair _ _, ok => D5 (G := Kk) ok fun _ _ _ _ _ => rfl
 | .lst _, ok => Ms (G := Kk) ok fun _ _ _ => rfl
 | .dict0, ok => Ki (G := Kk) ok fun _ _ => rfl
 | .call _ _, ok => D9 (G := Kk) ok fun _ _ _ _ _ => rfl
 | .len _, ok => Mt (G := Kk) ok fun _ _ _ _ _ => rfl
 | .sorted _, ok => Jv (G := Kk) ok fun _ _ _ _ _ => rfl
 | .all _, ok => N0 (G := Kk) ok fun _ _ _ _ _ => rfl
 | .any _, ok => Mz (G := Kk) ok fun _ _ _ _ _ => rfl
 | .dictOf _, ok => Jw (G := Kk) ok fun _ _ _ _ _ => rfl
 | .items _, ok => Bg (G := Kk) ok fun _ _ _ _ _ _ _ _ => rfl
 | .get _ _ _, ok => Mx (G := Kk) ok fun _ _ _ _ _ _ _ => rfl
 | .join _, ok => D6 (G := Kk) ok fun _ _ _ _ _ _ _ _ => rfl
 | .comp _ true _ _ _ _, ok => Bh (G := Kk) ok fun _ _ _ _ _ _ _ _ _ _ _ => rfl
 | .comp _ false _ _ _ _, ok => Bi (G := Kk) ok fun _ _ _ _ _ _ _ _ => rfl
 | .comp2 _ _ _ _ _ _, ok => Kl (G := Kk) ok fun _ _ _ _ _ _ _ _ _ _ _ => rfl
end
structure Gd where
 mg : Str → Option Value
 mb : Str → Option Value
 objs : Addr → Option Obj
noncomputable def Kp (s s' : Shared) : Prop := Keeps s s'
structure GOk (Γ : Gd) (h : Heap) : Prop where
 g : h.Ns mainGlobals Γ.mg
 b : h.Ns builtinsNs Γ.mb
 lim : h.NoLimit
 obj : ∀ a o, Γ.objs a = some o → h.get? a = some o
theorem GOk.keeps {Γ : Gd} {h h' : Heap} (x : GOk Γ h) (hk : ∀ b o, h.get? b = some o → h'.get? b = some o) : GOk Γ h' :=
 ⟨x.g.keeps hk, x.b.keeps hk, x.lim.keeps hk, fun a o e => hk a o (x.obj a o e)⟩
structure Std (Γ : Gd) : Prop where
 len : Γ.mg "len" = none ∧ Γ.mb "len" = some (.builtin "len")
 sorted : Γ.mg "sorted" = none ∧ Γ.mb "sorted" = some (.builtin "sorted")
 all : Γ.mg "all" = none ∧ Γ.mb "all" = some (.builtin "all")
 any : Γ.mg "any" = none ∧ Γ.mb "any" = some (.builtin "any")
 list : Γ.mg "list" = none ∧ Γ.mb "list" = some (.type "list")
 dict : Γ.mg "dict" = none ∧ Γ.mb "dict" = some (.type "dict")
 range : Γ.mg "range" = none ∧ Γ.mb "range" = some (.type "range")
structure EnvOk (cx : Cx) (env : Env) : Prop where
 kind : env.scope.kind = .function
 names : env.scope.names = cx.names
 globals : env.globals = mainGlobals
 builtins : env.builtins = builtinsNs
 cells : ∀ n, (cx.names.lookup n = some .cell ∨ cx.names.lookup n = some .free) → ∃ c, env.cells.lookup n = some c
theorem EnvOk.kindOf {cx : Cx} {env : Env} (x : EnvOk cx env) (n : Str) : env.kindOf n = cx.names.lookup n := by unfold Env.kindOf; rw [x.names]
noncomputable def Tq (env : Env) (h : Heap) (x : Str) (v : Value) : Prop :=
 (env.kindOf x = some .local ∧ ∃ m, h.Ns env.locals m ∧ m x = some v) ∨
 ((env.kindOf x = some .cell ∨ env.kindOf x = some .free) ∧ ∃ c, env.cells.lookup x = some c ∧ h.IsCell c (some v))
theorem Tq.keeps {env : Env} {h h' : Heap} {x : Str} {v : Value} (l : Tq env h x v) (hk : ∀ b o, h.get? b = some o → h'.get? b = some o) : Tq env h' x v :=
 l.imp (fun ⟨a, m, n, e⟩ => ⟨a, m, n.keeps hk, e⟩) fun ⟨a, c, e, i⟩ => ⟨a, c, e, i.keeps hk⟩
structure Rm (r : Nat) (A : Around) : Prop where
 handled : A.handled = none
 depth : A.depth + r < recursionLimit
 units : A.units + 10 * r + 100 < cLine
theorem Rm.less {r q : Nat} {A : Around} (x : Rm r A) (h : q ≤ r) : Rm q A := ⟨x.handled, by have := x.depth; lia, by have := x.units; lia⟩
section
variable (prog : Program) (w : World)
noncomputable def Fu (cx : Cx) (env : Env) (P : Addr → Prop) (σ : Sg) (h : Heap) : Prop :=
 ∀ x i d n, cx.held x i = true → σ[i]? = some (some (d, n)) → ∃ v F, Tq env h x v ∧ Ow prog w P h n v d F
noncomputable def W4 (P : Addr → Prop) (h h' : Heap) : Kd → Value → PyData → Prop
 | .bor n, v, d => ∃ F, Ow prog w P h' n v d F
 | .fr k, v, d => ∃ F, Ow prog w P h' k v d F ∧ F.Nodup ∧ ∀ a ∈ F, h.get? a = none
inductive ArgsOk (P : Addr → Prop) (h : Heap) : List Nat → List Value → List PyData → Prop
 | nil : ArgsOk P h [] [] []
 | cons {n ns v vs d ds} : (∃ j F, j ≤ n ∧ Ow prog w P h j v d F) → ArgsOk P h ns vs ds → ArgsOk P h (n :: ns) (v :: vs) (d :: ds)
noncomputable def Oo (Γ : Gd) (Φ : Fns) (fns : List Str) (f : Nat) : Prop :=
 ∀ (g : Str) (a : Addr), fns[f]? = some g → Γ.mg g = some (.ref a) → ∀ (A : Around) (s : Shared) (vals : List Value) (ds : List PyData) (P : Addr → Prop) (d : PyData) (k : Nat),
  Rm (f + 1) A → GOk Γ s.heap → ArgsOk prog w P s.heap (Φ.kinds f) vals ds → Φ.sem f ds = some (d, k) → (∀ a, s.heap.get? a = none → P a) →
  codeAny (model prog w) A (.call (.ref a) ⟨vals, []⟩) (fun r s' => ∃ v, r = .ok (.ret v) ∧ Kp s s' ∧ W4 prog w P s.heap s'.heap (.fr k) v d) s
structure Std' (Γ : Gd) (Φ : Fns) (fns : List Str) (gs : Str → Option Str) : Prop where
 std : Std Γ
 fn : ∀ (f : Nat) (g : Str), fns[f]? = some g → ∃ a o fd, Γ.mg g = some (.ref a) ∧ Γ.objs a = some o ∧ o.data = .func fd
 gs : ∀ n x, gs n = some x → ∃ t, Γ.mg n = some (.str x t)
end
section
variable {prog : Program} {w : World} {Γ : Gd} {Φ : Fns} {gs : Str → Option Str} {P : Addr → Prop} {s s' s'' : Shared} {h h' h'' : Heap}
theorem Kp.refl : Kp s s := ⟨s.heap, s.toks, rfl, fun _ _ e => e⟩
theorem Kp.keep (k : Kp s s') : ∀ b o, s.heap.get? b = some o → s'.heap.get? b = some o := by obtain ⟨h', tk, rfl, x⟩ := k; exact x
theorem Kp.trans (k : Kp s s') (l : Kp s' s'') : Kp s s'' := by
 obtain ⟨h', tk, rfl, x⟩ := k
 obtain ⟨h'', tk', rfl, y⟩ := l
 exact ⟨h'', tk', rfl, fun b o e => y b o (x b o e)⟩
theorem Kp.tok (n : Nat) : Kp s { s with toks := n } := ⟨s.heap, n, rfl, fun _ _ e => e⟩
theorem Kp.push (o : Obj) : Kp s { s with heap := s.heap.push o } := ⟨_, s.toks, rfl, fun _ _ e => Heap.get?_push_of_some o e⟩
theorem Kp.none (k : Kp s s') {a : Addr} (e : s'.heap.get? a = none) : s.heap.get? a = none := by
 cases q : s.heap.get? a with
 | none => rfl
 | some o => rw [k.keep a o q] at e; cases e
theorem Ow.keeps {k v d F} (x : Ow prog w P h k v d F) (hk : ∀ b o, h.get? b = some o → h'.get? b = some o) : Ow prog w P h' k v d F :=
 x.move (fun a o p e => ⟨p, hk a o e⟩) fun a o _ e => hk a o e
theorem Rp.keeps {v d} (x : Rp prog w P h v d) (hk : ∀ b o, h.get? b = some o → h'.get? b = some o) : Rp prog w P h' v d :=
 x.move (fun a o p e => ⟨p, hk a o e⟩)
theorem RpAll.keeps {v d} (x : RpAll prog w P h v d) (hk : ∀ b o, h.get? b = some o → h'.get? b = some o) : RpAll prog w P h' v d :=
 x.move (fun a o p e => ⟨p, hk a o e⟩)
theorem W4.keeps {k v d} (x : W4 prog w P h h' k v d) (hk : ∀ b o, h'.get? b = some o → h''.get? b = some o) : W4 prog w P h h'' k v d := by
 cases k with
 | bor n => exact let ⟨F, o⟩ := x; ⟨F, o.keeps hk⟩
 | fr n => exact let ⟨F, o, r⟩ := x; ⟨F, o.keeps hk, r⟩
theorem W4.from {k v d} (x : W4 prog w P h' h'' k v d) (hk : ∀ a, h'.get? a = none → h.get? a = none) : W4 prog w P h h'' k v d := by
 cases k with
 | bor n => exact x
 | fr n => exact let ⟨F, o, r, q⟩ := x; ⟨F, o, r, fun a m => hk a (q a m)⟩
theorem W4.rd {k v d} (x : W4 prog w P h h' k v d) : Rp prog w All h' v d := by
 cases k with
 | bor n => exact let ⟨_, o⟩ := x; o.rd
 | fr n => exact let ⟨_, o, _⟩ := x; o.rd
theorem W4.share {k v d} (x : W4 prog w P h h' k v d) (hn : ∀ a, h.get? a = none → P a) (hs : k.sh = true) : Rp prog w P h' v d := by
 cases k with
 | bor n =>
  obtain ⟨F, o⟩ := x
  have : n = 0 := by simpa [Kd.sh] using hs
  subst this
  cases o with
  | sh _ r => exact r
 | fr n => exact let ⟨_, o, _, q⟩ := x; o.share (fun _ p => p) fun a m => hn a (q a m)
theorem W4.leaf {d : PyData} {v : Value} (hl : leaf d = true) (x : Rp prog w P h' v d) : W4 prog w P h h' (.fr 9) v d := ⟨[], .sh (.inr hl) x, List.nodup_nil, fun _ m => nomatch m⟩
theorem W4.of_sh {d : PyData} {v : Value} (x : Rp prog w P h' v d) : W4 prog w P h h' (.fr 0) v d := ⟨[], x.ow, List.nodup_nil, fun _ m => nomatch m⟩
theorem Zd {d : PyData} {v : Value} (hl : Mine.leaf d = true) {P' : Addr → Prop} (x : Rp prog w P h v d) : Rp prog w P' h' v d := by
 cases x with
 | none => exact .none
 | bool b => exact .bool b
 | int i t => exact .int i t
 | str x t o => exact .str x t o
 | list => simp [Mine.leaf] at hl
 | tuple => simp [Mine.leaf] at hl
 | dict => simp [Mine.leaf] at hl
theorem W4.mk {d : PyData} {v : Value} {k : Kd} (x : W4 prog w P h h' k v d) : W4 prog w P h h' (mkR d k).2 v (mkR d k).1 := by
 unfold mkR
 by_cases hl : Mine.leaf d = true
 ·rw [if_pos hl]; exact W4.leaf hl (Zd hl x.rd)
 ·rw [if_neg hl]; exact x
theorem rp_int {d : Int} {v : Value} (x : Rp prog w P h v (.int d)) : ∃ t, v = .int d t := by cases x; exact ⟨_, rfl⟩
theorem Lf {d : Bool} {v : Value} (x : Rp prog w P h v (.bool d)) : v = .bool d := by cases x; rfl
theorem Gn {d : Str} {v : Value} (x : Rp prog w P h v (.str d)) : ∃ t, v = .str d t ∧ Ze d := by cases x; exact ⟨_, rfl, by assumption⟩
theorem Zc {ds : List PyData} {v : Value} (x : Rp prog w P h v (.list ds)) : ∃ a vs, v = .ref a ∧ P a ∧ h.PlainList a vs.toArray ∧ ds.length ≤ lim ∧ RpAll prog w P h vs ds := by
 cases x; exact ⟨_, _, rfl, by assumption, by assumption, by assumption, by assumption⟩
theorem Gm {ds : List PyData} {v : Value} (x : Rp prog w P h v (.tuple ds)) : ∃ a vs, v = .ref a ∧ P a ∧ Vq h a vs.toArray ∧ ds.length ≤ lim ∧ RpAll prog w P h vs ds := by
 cases x; exact ⟨_, _, rfl, by assumption, by assumption, by assumption, by assumption⟩
theorem E7 {ds : List (PyData × PyData)} {v : Value} (x : Rp prog w P h v (.dict ds)) : ∃ a kvs, v = .ref a ∧ P a ∧ (a == sysModules) = false ∧ h.DictOf (strKind prog w) a kvs ∧ ds.length ≤ lim ∧ RpKv prog w P h kvs ds := by
 cases x; exact ⟨_, _, rfl, by assumption, by assumption, by assumption, by assumption, by assumption⟩
theorem Wu {d : Int} {v : Value} {G : Value → Prop} (x : Rp prog w P h v (.int d)) (k : ∀ t, G (.int d t)) : G v := (rp_int x).elim fun t e => e ▸ k t
theorem Zb {d : Str} {v : Value} {G : Value → Prop} (x : Rp prog w P h v (.str d)) (k : ∀ t, Ze d → G (.str d t)) : G v := (Gn x).elim fun t e => e.1 ▸ k t e.2
theorem Go {ds : List PyData} {v : Value} {G : Value → Prop} (x : Rp prog w P h v (.list ds)) (k : ∀ a vs, P a → h.PlainList a vs.toArray → ds.length ≤ lim → RpAll prog w P h vs ds → G (.ref a)) : G v := (Zc x).elim fun a e => e.elim fun vs e => e.1 ▸ k a vs e.2.1 e.2.2.1 e.2.2.2.1 e.2.2.2.2
theorem Ih {ds : List PyData} {v : Value} {G : Value → Prop} (x : Rp prog w P h v (.tuple ds)) (k : ∀ a vs, P a → Vq h a vs.toArray → ds.length ≤ lim → RpAll prog w P h vs ds → G (.ref a)) : G v := (Gm x).elim fun a e => e.elim fun vs e => e.1 ▸ k a vs e.2.1 e.2.2.1 e.2.2.2.1 e.2.2.2.2
theorem Cd {ds : List (PyData × PyData)} {v : Value} {G : Value → Prop} (x : Rp prog w P h v (.dict ds)) (k : ∀ a kvs, P a → (a == sysModules) = false → h.DictOf (strKind prog w) a kvs → ds.length ≤ lim → RpKv prog w P h kvs ds → G (.ref a)) : G v := (E7 x).elim fun a e => e.elim fun vs e => e.1 ▸ k a vs e.2.1 e.2.2.1 e.2.2.2.1 e.2.2.2.2.1 e.2.2.2.2.2
theorem Bx {M : Model} {A : Around} {α : Type} {c : Sem α} {E : Value → Shared → Prop} {s : Shared} {P1 P2 : α → Shared → Prop} {Q : α → Shared → Prop} (x : wpAny M A c (fun v s' => P1 v s' ∧ P2 v s') E s) (k : ∀ v s', P1 v s' → P2 v s' → Q v s') : wpAny M A c Q E s := wpAny_mono x (fun v s' q => k v s' q.1 q.2) fun _ _ q => q
theorem Ow.listC {n v ds F} {G : Value → List Addr → Prop} (x : Ow prog w P h (n + 1) v (.list ds) F) (f : ∀ a vs F', h.PlainList a vs.toArray → ds.length ≤ lim → OwAll prog w P h n vs ds F' → G (.ref a) (a :: F')) : G v F := by
 cases x with
 | sh c _ => exact (c.elim (fun c => nomatch c) fun c => Bool.false_ne_true c).elim
 | list g z r => exact f _ _ _ g z r
theorem Ow.dictC {n v ds F} {G : Value → List Addr → Prop} (x : Ow prog w P h (n + 1) v (.dict ds) F) (f : ∀ a kvs F', (a == sysModules) = false → h.DictOf (strKind prog w) a kvs → ds.length ≤ lim → OwKv prog w P h n kvs ds F' → G (.ref a) (a :: F')) : G v F := by
 cases x with
 | sh c _ => exact (c.elim (fun c => nomatch c) fun c => Bool.false_ne_true c).elim
 | dict m g z r => exact f _ _ _ m g z r
theorem Ow.zero {v d F} (x : Ow prog w P h 0 v d F) : Rp prog w P h v d ∧ F = [] :=
 Ow.rec (motive_1 := fun k v d F _ => k = 0 → Rp prog w P h v d ∧ F = []) (motive_2 := fun k vs ds F _ => k = 0 → RpAll prog w P h vs ds ∧ F = []) (motive_3 := fun k vs ds F _ => k = 0 → RpKv prog w P h vs ds ∧ F = [])
  (fun _ r _ => ⟨r, rfl⟩) (fun _ _ _ _ q => nomatch q) (fun _ _ _ _ _ q => nomatch q) (fun _ => ⟨.nil, rfl⟩) (fun _ _ a b q => ⟨.cons (a q).1 (b q).1, by rw [(a q).2, (b q).2]; rfl⟩) (fun _ => ⟨.nil, rfl⟩) (fun k _ _ a b q => ⟨.cons k (a q).1 (b q).1, by rw [(a q).2, (b q).2]; rfl⟩) x rfl
theorem OwAll.zero {vs ds F} (x : OwAll prog w P h 0 vs ds F) : RpAll prog w P h vs ds ∧ F = [] :=
 OwAll.rec (motive_1 := fun k v d F _ => k = 0 → Rp prog w P h v d ∧ F = []) (motive_2 := fun k vs ds F _ => k = 0 → RpAll prog w P h vs ds ∧ F = []) (motive_3 := fun k vs ds F _ => k = 0 → RpKv prog w P h vs ds ∧ F = [])
  (fun _ r _ => ⟨r, rfl⟩) (fun _ _ _ _ q => nomatch q) (fun _ _ _ _ _ q => nomatch q) (fun _ => ⟨.nil, rfl⟩) (fun _ _ a b q => ⟨.cons (a q).1 (b q).1, by rw [(a q).2, (b q).2]; rfl⟩) (fun _ => ⟨.nil, rfl⟩) (fun k _ _ a b q => ⟨.cons k (a q).1 (b q).1, by rw [(a q).2, (b q).2]; rfl⟩) x rfl
theorem OwKv.zero {vs ds F} (x : OwKv prog w P h 0 vs ds F) : RpKv prog w P h vs ds ∧ F = [] :=
 OwKv.rec (motive_1 := fun k v d F _ => k = 0 → Rp prog w P h v d ∧ F = []) (motive_2 := fun k vs ds F _ => k = 0 → RpAll prog w P h vs ds ∧ F = []) (motive_3 := fun k vs ds F _ => k = 0 → RpKv prog w P h vs ds ∧ F = [])
  (fun _ r _ => ⟨r, rfl⟩) (fun _ _ _ _ q => nomatch q) (fun _ _ _ _ _ q => nomatch q) (fun _ => ⟨.nil, rfl⟩) (fun _ _ a b q => ⟨.cons (a q).1 (b q).1, by rw [(a q).2, (b q).2]; rfl⟩) (fun _ => ⟨.nil, rfl⟩) (fun k _ _ a b q => ⟨.cons k (a q).1 (b q).1, by rw [(a q).2, (b q).2]; rfl⟩) x rfl
theorem rd1_no {n : Nat} {G : Prop} (h : (Kd.bor (n + 2)).rd1 = true) : G := absurd (of_decide_eq_true (show decide (n + 2 ≤ 1) = true from h)) (Nat.not_le_of_lt (Nat.lt_of_lt_of_le (Nat.lt_succ_self 1) (Nat.le_add_left 2 n)))
theorem W4.items {ds : List PyData} {k : Kd} {v : Value} {G : Value → Prop} (x : W4 prog w P h h' k v (.list ds)) (hn : ∀ a, h.get? a = none → P a) (hr : k.rd1 = true) (f : ∀ a vs, h'.PlainList a vs.toArray → ds.length ≤ lim → RpAll prog w P h' vs ds → G (.ref a)) : G v := by
 have sh : Rp prog w P h' v (.list ds) → G v := fun r => by apply Go r; intro a vs _ g l q; exact f a vs g l q
 cases k with
 | fr n => exact sh (x.share hn rfl)
 | bor n =>
  cases n with
  | zero => exact sh (x.share hn rfl)
  | succ n =>
   cases n with
   | zero => refine exC x fun F o => ?_; apply Ow.listC o; intro a vs F' g z r; exact f a vs g z r.zero.1
   | succ n => exact rd1_no hr
theorem W4.pairs {ds : List (PyData × PyData)} {k : Kd} {v : Value} {G : Value → Prop} (x : W4 prog w P h h' k v (.dict ds)) (hn : ∀ a, h.get? a = none → P a) (hr : k.rd1 = true) (f : ∀ a kvs, (a == sysModules) = false → h'.DictOf (strKind prog w) a kvs → ds.length ≤ lim → RpKv prog w P h' kvs ds → G (.ref a)) : G v := by
 have sh : Rp prog w P h' v (.dict ds) → G v := fun r => by apply Cd r; intro a vs _ m g l q; exact f a vs m g l q
 cases k with
 | fr n => exact sh (x.share hn rfl)
 | bor n =>
  cases n with
  | zero => exact sh (x.share hn rfl)
  | succ n =>
   cases n with
   | zero => refine exC x fun F o => ?_; apply Ow.dictC o; intro a vs F' m g z r; exact f a vs m g z r.zero.1
   | succ n => exact rd1_no hr
end
section
variable (prog : Program) (w : World) (Γ : Gd) (Φ : Fns) (gs : Str → Option Str)
structure St0 (cx : Cx) (env : Env) (P : Addr → Prop) (σ : Sg) (A : Around) (s : Shared) : Prop where
 envOk : EnvOk cx env
 room : Rm cx.top A
 ground : GOk Γ s.heap
 inv : Fu prog w cx env P σ s.heap
 new : ∀ a, s.heap.get? a = none → P a
 std : Std' Γ Φ cx.fns gs
 fnOk : ∀ f, f < cx.top → Oo prog w Γ Φ cx.fns f
noncomputable def SE (ex : Ex) : Prop := ∀ {cx : Cx} {env : Env} {P : Addr → Prop} {σ : Sg} {A : Around} {s : Shared} {e : Expr} {d : PyData} {k : Kd} {E : Value → Shared → Prop},
 okE gs cx ex e = true → St0 prog w Γ Φ gs cx env P σ A s → evE Φ ex σ = some (d, k) → wpAny (model prog w) A (eval e env) (fun v s' => Kp s s' ∧ W4 prog w P s.heap s'.heap k v d) E s
noncomputable def SB (ex : Ex) : Prop := ∀ {cx : Cx} {env : Env} {P : Addr → Prop} {σ : Sg} {A : Around} {s : Shared} {e : Expr} {b : Bool} {k : Kd} {E : Value → Shared → Prop},
 okE gs cx ex e = true → St0 prog w Γ Φ gs cx env P σ A s → evE Φ ex σ = some (.bool b, k) → wpAny (model prog w) A (isTrue e env (eval e env)) (fun r s' => r = b ∧ Kp s s') E s
end
section
variable {prog : Program} {w : World} {Γ : Gd} {Φ : Fns} {gs : Str → Option Str} {cx : Cx} {env : Env} {P : Addr → Prop} {σ : Sg} {A : Around} {s s' s₁ s₂ : Shared} {E : Value → Shared → Prop} {a b : Ex} {e x y : Expr} {d : PyData} {k : Kd}
theorem Fu.keeps {h h' : Heap} (i : Fu prog w cx env P σ h) (hk : ∀ b o, h.get? b = some o → h'.get? b = some o) : Fu prog w cx env P σ h' :=
 fun x i' d n h1 h2 => let ⟨v, F, l, o⟩ := i x i' d n h1 h2; ⟨v, F, l.keeps hk, o.keeps hk⟩
theorem St0.keeps (S : St0 prog w Γ Φ gs cx env P σ A s) (k : Kp s s') : St0 prog w Γ Φ gs cx env P σ A s' :=
 ⟨S.envOk, S.room, S.ground.keeps k.keep, S.inv.keeps k.keep, fun _ e => S.new _ (k.none e), S.std, S.fnOk⟩
theorem two (ha : SE prog w Γ Φ gs a) (hb : SE prog w Γ Φ gs b) (oa : okE gs cx a x = true) (ob : okE gs cx b y = true) (S : St0 prog w Γ Φ gs cx env P σ A s)
  {da db : PyData} {ka kb : Kd} (ea : evE Φ a σ = some (da, ka)) (eb : evE Φ b σ = some (db, kb)) {Q : Value → Value → Shared → Prop}
  (h : ∀ v u s₂, Kp s s₂ → W4 prog w P s.heap s₂.heap ka v da → W4 prog w P s.heap s₂.heap kb u db → Q v u s₂) :
  wpAny (model prog w) A (eval x env) (fun v s₁ => wpAny (model prog w) A (eval y env) (fun u s₂ => Q v u s₂) E s₁) E s :=
 wpAny_mono (ha oa S ea) (fun v _ ⟨k₁, r₁⟩ => wpAny_mono (hb ob (S.keeps k₁) eb) (fun u _ ⟨k₂, r₂⟩ => h v u _ (k₁.trans k₂) (r₁.keeps k₂.keep) (r₂.from fun _ => k₁.none)) fun _ _ q => q) fun _ _ q => q
theorem bind2 {f : Res → Res → Option Res} {p q : Option Res} {r : Res} (h : (p.bind fun x => q.bind fun y => f x y) = some r) : ∃ x y, p = some x ∧ q = some y ∧ f x y = some r := by
 cases p with
 | none => simp at h
 | some x => cases q with
  | none => simp at h
  | some y => exact ⟨x, y, rfl, rfl, by simpa using h⟩
theorem se_int (i : Int) : SE prog w Γ Φ gs (.int i) := by
 intro cx env P σ A s e d k E ok S ev
 apply Mu ok; intro _ _ _ ok
 simp only [okE2] at ok
 simp only [e_int, OI, Prod.mk.injEq] at ev
 obtain ⟨rfl, rfl⟩ := ev
 have := beq_iff_eq.mp ok
 subst this
 exact wpAny_Constant_int ⟨Kp.tok _, W4.leaf rfl (.int _ _)⟩
theorem se_str (i : Str) : SE prog w Γ Φ gs (.str i) := by
 intro cx env P σ A s e d k E ok S ev
 apply Mo ok; intro _ _ _ ok
 simp only [okE3] at ok
 simp only [e_str] at ev
 split at ev
 ·rename_i h
  apply Xu ev
  have := beq_iff_eq.mp ok
  subst this
  simp only [BA, decide_eq_true_eq] at h
  exact Calls.Constant_str ⟨Kp.tok _, W4.leaf rfl (.str _ _ h)⟩
 ·cases ev
theorem se_bool (i : Bool) : SE prog w Γ Φ gs (.bool i) := by
 intro cx env P σ A s e d k E ok S ev
 apply Da ok; intro _ _ _ ok
 simp only [okE4] at ok
 simp only [e_bool, OI, Prod.mk.injEq] at ev
 obtain ⟨rfl, rfl⟩ := ev
 have := beq_iff_eq.mp ok
 subst this
 rw [eval_Constant]
 exact wpAny_pure ⟨Kp.refl, W4.leaf rfl (.bool _)⟩
theorem Tq.load {v : Value} {x : Str} {pos : Pos} {Q : Value → Shared → Prop} (hk : env.scope.kind = .function) (l : Tq env s.heap x v) (h1 : (x == ("__debug__" : Str)) = false) (h2 : (x == ("__classdict__" : Str)) = false) (h : Q v s) :
  wpAny (model prog w) A (eval (.Name x pos) env) Q E s := by
 refine wpAny_Name ?_ h1
 rcases l with ⟨hl, m, hn, hv⟩ | ⟨hl | hl, c, hc, hv⟩
 ·exact wpAny_loadName_local hk hl hn hv h
 ·exact wpAny_loadName_cell hk hl hc hv h
 ·exact wpAny_loadName_free hk hl hc hv h h2
theorem Z3 {f : Res → Res → Option Res} {p q : Option Res} {r : Res} {G : Prop} (h : (p.bind fun x => q.bind fun y => f x y) = some r) (k : ∀ da ka db kb, p = some (da, ka) → q = some (db, kb) → f (da, ka) (db, kb) = some r → G) : G := Z2 h fun a b e1 h => Z2 h fun c d e2 h => k a b c d e1 e2 h
theorem We {x : Str} {i : Nat} (h : cx.held x i = true) : cx.ids.lookup x = some i ∧ (x == ("__debug__" : Str)) = false ∧ (x == ("__classdict__" : Str)) = false := by
 unfold Cx.held at h
 simp only [BA, Bool.not_eq_true', beq_iff_eq] at h
 exact ⟨h.1.1.1, h.1.2, h.2⟩
theorem se_var (i : Nat) : SE prog w Γ Φ gs (.var i) := by
 intro cx env P σ A s e d k E ok S ev
 apply Mm ok; intro _ _ ok
 simp only [okE1] at ok
 refine Dw (We ok) fun _ h1 h2 => ?_
 simp only [e_var] at ev
 split at ev
 ·rename_i d' n hσ
  simp only [OI] at ev
  refine exxC2 (S.inv _ _ _ _ ok hσ) fun v F l o => ?_
  refine l.load S.envOk.kind h1 h2 ⟨Kp.refl, ?_⟩
  have r : W4 prog w P s.heap s.heap (if n = 0 then .fr 0 else .bor n) v d' := by
   by_cases hn : n = 0
   ·subst hn
    exact W4.of_sh o.zero.1
   ·rw [if_neg hn]; exact ⟨F, o⟩
  have q := r.mk
  rw [ev] at q
  exact q
 ·cases ev
theorem Di {x : Str} (h : cx.glob x = true) : cx.names.lookup x = some .globalImplicit ∧ (x == ("__debug__" : Str)) = false := by
 unfold Cx.glob at h
 simp only [BA, Bool.not_eq_true', beq_iff_eq] at h
 exact h
theorem H8 {x : Str} {pos : Pos} {v : Value} {Q : Value → Shared → Prop} (S : St0 prog w Γ Φ gs cx env P σ A s) (hg : cx.glob x = true) (hv : Γ.mg x = some v) (h : Q v s) :
  wpAny (model prog w) A (eval (.Name x pos) env) Q E s := by
 obtain ⟨h1, h2⟩ := Di hg
 refine Calls.Name_function_global S.envOk.kind (by rw [S.envOk.kindOf]; exact h1) (Calls.loadGlobal_global (mg := Γ.mg) (by rw [S.envOk.globals]; exact S.ground.g) hv h) h2
theorem Lo {x : Str} {pos : Pos} {v : Value} {Q : Value → Shared → Prop} (S : St0 prog w Γ Φ gs cx env P σ A s) (hg : cx.glob x = true) (hv : Γ.mg x = none ∧ Γ.mb x = some v) (h : Q v s) :
  wpAny (model prog w) A (eval (.Name x pos) env) Q E s := by
 obtain ⟨h1, h2⟩ := Di hg
 refine Calls.Name_function_global S.envOk.kind (by rw [S.envOk.kindOf]; exact h1) (Calls.loadGlobal_builtin (mg := Γ.mg) (mb := Γ.mb) (by rw [S.envOk.globals]; exact S.ground.g) hv.1 (by rw [S.envOk.builtins]; exact S.ground.b) hv.2 h) h2
theorem se_gstr (n : Str) (i : Str) : SE prog w Γ Φ gs (.gstr n i) := by
 intro cx env P σ A s e d k E ok S ev
 apply D7 ok; intro _ _ ok
 simp only [okE5] at ok
 simp only [BA, beq_iff_eq] at ok
 obtain ⟨⟨rfl, hg⟩, hx⟩ := ok
 simp only [e_gstr] at ev
 split at ev
 ·rename_i h
  apply Xu ev
  simp only [BA, decide_eq_true_eq] at h
  obtain ⟨t, ht⟩ := S.std.gs _ _ hx
  exact H8 S hg ht ⟨Kp.refl, W4.leaf rfl (.str _ _ h)⟩
 ·cases ev
theorem Xr (a b : List Value) : a.toArray ++ b.toArray = (a ++ b).toArray := by simp
theorem Ln {ds : List PyData} {vs : List Value} (l : ds.length ≤ lim) (r : RpAll prog w P s.heap vs ds) (hn : ∀ a, s₁.heap.get? a = none → P a) (k : Kp s₁ s) :
  Kp s₁ { s with heap := s.heap.push { cls := .type "list", data := .seq vs.toArray } } ∧ W4 prog w P s₁.heap (s.heap.push { cls := .type "list", data := .seq vs.toArray }) (.fr 1) (.ref s.heap.objs.size) (.list ds) := by
 have hnone : s.heap.get? s.heap.objs.size = none := by
  cases q : s.heap.get? s.heap.objs.size with
  | none => rfl
  | some o => exact absurd (Heap.lt_size q) (Nat.lt_irrefl _)
 refine ⟨k.trans (Kp.push _), [s.heap.objs.size], ?_, by simp, fun a m => ?_⟩
 ·have r' := r.keeps (h' := s.heap.push { cls := .type "list", data := .seq vs.toArray }) fun b o e => Heap.get?_push_of_some _ e
  have hl : (s.heap.push { cls := .type "list", data := .seq vs.toArray }).PlainList s.heap.objs.size vs.toArray := ⟨0, Heap.get?_push_size _ rfl⟩
  refine .list hl l ?_
  exact r'.ow0
 ·rw [List.mem_singleton.mp m]; exact k.none hnone
theorem se_add (ha : SE prog w Γ Φ gs a) (hb : SE prog w Γ Φ gs b) : SE prog w Γ Φ gs (.add a b) := by
 intro cx env P σ A s e d k E ok S ev
 apply N1 ok; intro x y pos ok
 simp only [okE6, BA] at ok
 dsimp only [e_add] at ev
 refine Z3 ev fun da ka db kb ea eb ev => ?_
 refine wpAny_BinOp (two ha hb ok.1 ok.2 S ea eb fun v u s₂ k₂ r₁ r₂ => ?_)
 rcases Pw ev with ⟨_, _, rfl, rfl⟩ | ⟨_, _, rfl, rfl⟩ | ⟨_, _, rfl, rfl⟩ <;> simp only [ad_i, ad_s, ad_l, OI, Prod.mk.injEq] at ev
 ·obtain ⟨rfl, rfl⟩ := ev
  apply Wu r₁.rd; intro t
  apply Wu r₂.rd; intro u
  exact PySem.P.add_int ⟨k₂.trans (Kp.tok _), W4.leaf rfl (.int _ _)⟩
 ·split at ev
  ·rename_i hl
   apply Xu ev
   apply Zb r₁.rd; intro t o1
   apply Zb r₂.rd; intro u o2
   refine PyProof.Rows.add_str (fun t' tk => ⟨k₂.trans (Kp.tok _), W4.leaf rfl (.str _ _ ?_)⟩) (Nat.le_trans hl Tw)
   refine ⟨by rw [Str.length_append]; exact hl, ?_⟩
   have a1 := o1.2
   have a2 := o2.2
   unfold PyData.strOk at a1 a2 ⊢
   rw [Str.cps_append, Array.all_append, a1, a2]; rfl
  ·cases ev
 ·split at ev
  ·rename_i hl
   apply Xu ev
   simp only [BA, decide_eq_true_eq] at hl
   apply W4.items r₁ S.new hl.1.1; intro l₁ vs g00 z₁ q₁
   obtain ⟨n, g₁⟩ := g00
   apply W4.items r₂ S.new hl.1.2; intro l₂ us g00 z₂ q₂
   obtain ⟨m, g₂⟩ := g00
   refine PySem.P.add_list g₁ g₂ ?_ ?_
   ·rw [Xr]
    exact Ln (by rw [List.length_append]; exact hl.2) (q₁.append q₂) S.new k₂
   ·have e1 := q₁.length; have e2 := q₂.length
    simp only [List.size_toArray]; rw [e1, e2]; exact Nat.le_trans hl.2 Tw
  ·cases ev
end
section
variable {prog : Program} {w : World} {Γ : Gd} {Φ : Fns} {gs : Str → Option Str} {cx : Cx} {env : Env} {P : Addr → Prop} {σ : Sg} {A : Around} {s s' s₁ s₂ : Shared} {E : Value → Shared → Prop} {a b : Ex} {e x y : Expr} {d : PyData} {k : Kd} {h : Heap}
theorem Rp.reads {n v d} (x : Rp prog w P h v d) (hs : Ts n d = true) : ∃ as, Reads h v d as ∧ d.canLay0 = true ∧ d.depth ≤ n :=
 Rp.rec (motive_1 := fun v d _ => ∀ n, Ts n d = true → ∃ as, Reads h v d as ∧ d.canLay0 = true ∧ d.depth ≤ n) (motive_2 := fun vs ds _ => ∀ n, (∀ d ∈ ds, Ts n d = true) → ∃ as, ReadsAll h vs ds as ∧ PyData.canLayAll0 ds = true ∧ PyData.depthAll ds ≤ n) (motive_3 := fun _ _ _ => True)
  (fun _ _ => ⟨_, .none, rfl, by simp [PyData.depth]⟩) (fun b _ _ => ⟨_, .bool b, rfl, by simp [PyData.depth]⟩) (fun i t _ _ => ⟨_, .int i t, rfl, by simp [PyData.depth]⟩) (fun x t o _ _ => ⟨_, .str x t, by simpa [PyData.canLay0] using o.2, by simp [PyData.depth]⟩)
  (fun _ ⟨_, e⟩ _ _ ih n hs => match n, hs with
   | n + 1, hs => let ⟨_, q, c, dp⟩ := ih n (List.all_eq_true.mp hs); ⟨_, .list e rfl rfl q, by simpa [PyData.canLay0] using c, by simpa [PyData.depth] using dp⟩)
  (fun _ ⟨_, e⟩ _ _ ih n hs => match n, hs with
   | n + 1, hs => let ⟨_, q, c, dp⟩ := ih n (List.all_eq_true.mp hs); ⟨_, .tuple e rfl rfl q, by simpa [PyData.canLay0] using c, by simpa [PyData.depth] using dp⟩)
  (fun _ _ _ _ _ _ n hs => by cases n <;> exact absurd hs Bool.false_ne_true)
  (fun _ _ => ⟨_, .nil, rfl, by simp [PyData.depthAll]⟩)
  (fun _ _ a b n hs => let ⟨_, q, c, dp⟩ := a n (hs _ (.head _)); let ⟨_, q', c', dp'⟩ := b n (fun d m => hs d (.tail _ m)); ⟨_, .cons q q', by simp [PyData.canLayAll0, c, c'], by simp only [PyData.depthAll]; omega⟩)
  trivial (fun _ _ _ _ _ => trivial) x n hs
theorem RpAll.reads {n vs ds} (x : RpAll prog w P h vs ds) (hs : ∀ d ∈ ds, Ts n d = true) : ∃ as, ReadsAll h vs ds as ∧ PyData.canLayAll0 ds = true ∧ PyData.depthAll ds ≤ n := by
 induction vs generalizing ds with
 | nil => cases x; exact ⟨_, .nil, rfl, by simp [PyData.depthAll]⟩
 | cons v vs ih =>
  cases x with
  | cons a b => exact let ⟨_, q, c, dp⟩ := a.reads (hs _ (.head _)); let ⟨_, q', c', dp'⟩ := ih b (fun d m => hs d (.tail _ m)); ⟨_, .cons q q', by simp [PyData.canLayAll0, c, c'], by simp only [PyData.depthAll]; omega⟩
theorem se_sub (ha : SE prog w Γ Φ gs a) (hb : SE prog w Γ Φ gs b) : SE prog w Γ Φ gs (.sub a b) := by
 intro cx env P σ A s e d k E ok S ev
 apply Mn ok; intro x y pos ok
 simp only [okE7, BA] at ok
 dsimp only [e_sub] at ev
 refine Z3 ev fun da ka db kb ea eb ev => ?_
 refine wpAny_BinOp (two ha hb ok.1 ok.2 S ea eb fun v u s₂ k₂ r₁ r₂ => ?_)
 obtain ⟨_, _, rfl, rfl⟩ := Sy ev; simp only [su_i, OI, Prod.mk.injEq] at ev
 obtain ⟨rfl, rfl⟩ := ev
 apply Wu r₁.rd; intro t
 apply Wu r₂.rd; intro u
 exact PySem.P.sub_int ⟨k₂.trans (Kp.tok _), W4.leaf rfl (.int _ _)⟩
theorem se_mod (ha : SE prog w Γ Φ gs a) (hb : SE prog w Γ Φ gs b) : SE prog w Γ Φ gs (.mod a b) := by
 intro cx env P σ A s e d k E ok S ev
 apply Mr ok; intro x y pos ok
 simp only [okE8, BA] at ok
 dsimp only [e_mod] at ev
 refine Z3 ev fun da ka db kb ea eb ev => ?_
 refine wpAny_BinOp (two ha hb ok.1 ok.2 S ea eb fun v u s₂ k₂ r₁ r₂ => ?_)
 obtain ⟨_, _, rfl, rfl⟩ := Aj ev; simp only [mo_i, OI, Prod.mk.injEq] at ev
 split at ev
 ·rename_i hy
  apply Xu ev
  apply Wu r₁.rd; intro t
  apply Wu r₂.rd; intro u
  refine PyProof.Rows.mod_int' (by omega) ⟨k₂.trans (Kp.tok _), W4.leaf rfl ?_⟩
  rw [Int.fmod_eq_emod_of_nonneg _ (by omega)]
  exact .int _ _
 ·cases ev
theorem se_fdiv (ha : SE prog w Γ Φ gs a) (hb : SE prog w Γ Φ gs b) : SE prog w Γ Φ gs (.fdiv a b) := by
 intro cx env P σ A s e d k E ok S ev
 apply D8 ok; intro x y pos ok
 simp only [okE9, BA] at ok
 dsimp only [e_fdiv] at ev
 refine Z3 ev fun da ka db kb ea eb ev => ?_
 refine wpAny_BinOp (two ha hb ok.1 ok.2 S ea eb fun v u s₂ k₂ r₁ r₂ => ?_)
 obtain ⟨_, _, rfl, rfl⟩ := S8 ev; simp only [fd_i, OI, Prod.mk.injEq] at ev
 split at ev
 ·rename_i hy
  simp only [OI, Prod.mk.injEq] at ev
  simp only [BA, decide_eq_true_eq, Uh] at hy
  obtain ⟨rfl, rfl⟩ := ev
  apply Wu r₁.rd; intro t
  apply Wu r₂.rd; intro u
  refine PyProof.Rows.floordiv_int (by omega) ⟨k₂.trans (Kp.tok _), W4.leaf rfl ?_⟩ (.inl (PyProof.noPylong_small (by omega)))
  rw [Int.fdiv_eq_ediv_of_nonneg _ (by omega)]
  exact .int _ _
 ·cases ev
theorem Fi {x : Int} (h : -1000000 < x) (h' : x < 1000000) : Builtin.Int.intBits x ≤ 64 := by
 unfold Builtin.Int.intBits
 split
 ·exact Nat.zero_le _
 ·have h1 : x.natAbs < 2 ^ 63 := by omega
  have h2 : x.natAbs ≠ 0 := by intro q; simp_all
  have := (Nat.log2_lt h2).mpr h1
  omega
theorem Lv (vs : List Value) : ∀ (n : Nat) (acc : Array Value), List.foldl (fun x1 x2 => x1 ++ x2) acc (List.replicate n vs.toArray) = acc ++ ((List.replicate n vs).flatten).toArray
 | 0, acc => by simp
 | n + 1, acc => by
  rw [RS, List.foldl_cons, Lv vs n, RS, List.flatten_cons, ← Xr, Array.append_assoc]
theorem RpAll.rep {vs ds} (r : RpAll prog w P h vs ds) : ∀ n, RpAll prog w P h (List.replicate n vs).flatten (List.replicate n ds).flatten
 | 0 => by simp; exact .nil
 | n + 1 => by rw [RS, RS, List.flatten_cons, List.flatten_cons]; exact r.append (r.rep n)
theorem E8 {α : Type} (l : List α) : ∀ n, (List.replicate n l).flatten.length = l.length * n
 | 0 => by simp
 | n + 1 => by rw [RS, List.flatten_cons, List.length_append, E8 l n, Nat.mul_succ]; omega
theorem se_mul (ha : SE prog w Γ Φ gs a) (hb : SE prog w Γ Φ gs b) : SE prog w Γ Φ gs (.mul a b) := by
 intro cx env P σ A s e d k E ok S ev
 apply Mq ok; intro x y pos ok
 simp only [okE10, BA] at ok
 dsimp only [e_mul] at ev
 refine Z3 ev fun da ka db kb ea eb ev => ?_
 refine wpAny_BinOp (two ha hb ok.1 ok.2 S ea eb fun v u s₂ k₂ r₁ r₂ => ?_)
 rcases Ai ev with ⟨_, _, rfl, rfl⟩ | ⟨_, _, rfl, rfl⟩ <;> simp only [mu_i, mu_l, OI, Prod.mk.injEq] at ev
 ·split at ev
  ·rename_i hy
   simp only [OI, Prod.mk.injEq] at ev
   simp only [BA, decide_eq_true_eq, Uh] at hy
   obtain ⟨rfl, rfl⟩ := ev
   apply Wu r₁.rd; intro t
   apply Wu r₂.rd; intro u
   exact PySem.P.mul_int ⟨k₂.trans (Kp.tok _), W4.leaf rfl (.int _ _)⟩ (IntMulOk.of_left (Fi hy.1 hy.2))
  ·cases ev
 ·split at ev
  ·rename_i ds n hy
   simp only [OI, Prod.mk.injEq] at ev
   simp only [BA, decide_eq_true_eq, Uh] at hy
   obtain ⟨rfl, rfl⟩ := ev
   apply Wu r₂.rd; intro u
   apply W4.items r₁ S.new hy.1.1.1; intro l vs g00 z q
   obtain ⟨c, g⟩ := g00
   have hlen := q.length
   have hn := hy.1.1.2
   have hn' := hy.1.2
   have hz := hy.2
   have lm : lim = 100000 := rfl
   have hz2 : vs.toArray.size * n.toNat ≤ 100000 := by rw [List.size_toArray, hlen]; exact hz
   have hz3 : vs.length * n.toNat ≤ 100000 := by rw [hlen]; exact hz
   refine wpAny_binaryOp_repeat_ref (T := "list") (U := "int") (by decide) ⟨_, g, rfl⟩ (fun s' => typeIs_int s' n u) noFill_list_mul F.fills_int_mul F.slot_int_rmul repeat_list F.slot_int_index.lookup
    (call_meets F.slot_int_rmul (typeIs_int s₂ n u) F.entry_int_rmul (F.args_int_rmul_2 _ _) (int___rmul___int_list n u l vs.toArray c)
     ⟨g, rfl, ⟨_, g, rfl⟩, call_meets F.slot_list_mul ⟨_, g, rfl⟩ F.entry_list_mul (F.args_list_mul_2 _ _)
      (AutoListH.list___mul___list_int_3 l vs.toArray c n u (by simp [Builtin.List.listFitsIndex]; omega) (by omega) (by simp [Builtin.List.listTooLong, sizeLine]; omega))
      ⟨g, ?_⟩⟩)
   have fin := Ln (s := s₂) (s₁ := s) (P := P) (vs := (List.replicate n.toNat vs).flatten) (ds := (List.replicate n.toNat ds).flatten)
    (by rw [E8]; exact hz) (q.rep _) S.new k₂
   have e1 : List.foldl (fun x1 x2 => x1 ++ x2) #[] (List.replicate (if (vs.toArray).isEmpty = true then 0 else n.toNat) vs.toArray) = ((List.replicate n.toNat vs).flatten).toArray := by
    rw [Lv]
    by_cases hv : vs = []
    ·subst hv; simp
    ·rw [if_neg (by simpa using hv)]; simp
   show Kp s _ ∧ _
   simp only [e1]
   exact fin
  ·cases ev
end
section
variable {prog : Program} {w : World} {Γ : Gd} {Φ : Fns} {gs : Str → Option Str} {cx : Cx} {env : Env} {P : Addr → Prop} {σ : Sg} {A : Around} {s s' s₁ s₂ : Shared} {E : Value → Shared → Prop} {a b : Ex} {e x y : Expr} {d : PyData} {k : Kd} {h : Heap}
theorem noMarks0 (op : CmpOp) : ∀ y, okK y = true → behindInMarks op y = false := by
 intro y
 cases y <;> first | (intro _; rfl) | (intro h; exact absurd h Bool.false_ne_true)
theorem Ea (op : CmpOp) (ok : okE gs cx b y = true) : behindInMarks op y = false := noMarks0 op y (X4 ok)
theorem eq_wp {da db : PyData} {ka kb : Kd} {neg : Bool} {op : CmpOp} {v u : Value} {Q : Value → Shared → Prop} (hop : op = if neg then .NotEq else .Eq) (room : A.units + 100 < cLine)
  (r₁ : W4 prog w P h s.heap ka v da) (r₂ : W4 prog w P h s.heap kb u db) (ev : eqD neg (da, ka) (db, kb) = some (d, k)) (hQ : ∀ b, d = .bool b → k = .fr 9 → Q (.bool b) s) : wpAny (model prog w) A (compareOp op v u) Q E s := by
 unfold eqD at ev
 split at ev
 ·rename_i hs
  simp only [BA] at hs
  simp only [OI, Prod.mk.injEq] at ev
  obtain ⟨rfl, rfl⟩ := ev
  refine BC fun nn => ?_
  obtain ⟨as, q, c, dp⟩ := r₁.rd.reads hs.1
  refine nn ?_; clear nn
  refine BC fun nn => ?_
  obtain ⟨bs, q', c', dp'⟩ := r₂.rd.reads hs.2
  refine nn ?_; clear nn
  have hm : A.units + min da.depth db.depth < cLine := by lia
  subst hop
  cases neg with
  | false => exact SeqAt.compareEq_reads q q' c c' hm (by simpa using hQ _ rfl rfl)
  | true => exact SeqAt.compareNe_reads q q' c c' hm (by simpa using hQ _ rfl rfl)
 ·cases ev
theorem Gp {r : Nat} (x : Rm r A) : A.units + 100 < cLine := by have := x.units; lia
theorem Lz {op : CmpOp} {f : Res → Res → Option Res} {ex : Ex} (hev : ∀ σ, evE Φ ex σ = (evE Φ a σ).bind fun x => (evE Φ b σ).bind fun y => f x y)
  (hok : ∀ {gs cx e}, okE gs cx ex e = true → ∃ x y pos, e = .Compare x [op] [y] pos ∧ okE gs cx a x = true ∧ okE gs cx b y = true)
  (ha : SE prog w Γ Φ gs a) (hb : SE prog w Γ Φ gs b)
  (hop : ∀ {A : Around} {s : Shared} {P : Addr → Prop} {h : Heap} {da db : PyData} {ka kb : Kd} {d : PyData} {k : Kd} {v u : Value} {Q : Value → Shared → Prop} {E : Value → Shared → Prop}, A.units + 100 < cLine → W4 prog w P h s.heap ka v da → W4 prog w P h s.heap kb u db →
   f (da, ka) (db, kb) = some (d, k) → (∀ b tk, d = .bool b → k = .fr 9 → Q (.bool b) { s with toks := tk }) → wpAny (model prog w) A (compareOp op v u) Q E s) :
  SE prog w Γ Φ gs ex ∧ SB prog w Γ Φ gs ex := by
 constructor
 ·intro cx env P σ A s e d k E ok S ev
  refine BC fun nn => ?_
  obtain ⟨x, y, pos, rfl, o1, o2⟩ := hok ok
  refine nn ?_; clear nn
  rw [hev] at ev
  refine Z3 ev fun da ka db kb ea eb ev => ?_
  refine wpAny_Compare1 (two ha hb o1 o2 S ea eb fun v u s₂ k₂ r₁ r₂ => ?_) (Ea _ o2)
  refine hop (Gp S.room) r₁ r₂ ev fun b tk e1 e2 => ?_
  subst e1 e2
  exact ⟨k₂.trans (Kp.tok _), W4.leaf rfl (.bool _)⟩
 ·intro cx env P σ A s e b' k E ok S ev
  refine BC fun nn => ?_
  obtain ⟨x, y, pos, rfl, o1, o2⟩ := hok ok
  refine nn ?_; clear nn
  rw [hev] at ev
  refine Z3 ev fun da ka db kb ea eb ev => ?_
  refine wpAny_isTrue_Compare1 (two ha hb o1 o2 S ea eb fun v u s₂ k₂ r₁ r₂ => ?_) (Ea _ o2)
  refine hop (Gp S.room) r₁ r₂ ev fun b tk e1 e2 => ?_
  cases e1
  exact wpAny_truthy_bool ⟨rfl, k₂.trans (Kp.tok _)⟩
theorem s_eq (neg : Bool) (ha : SE prog w Γ Φ gs a) (hb : SE prog w Γ Φ gs b) : SE prog w Γ Φ gs (.eq neg a b) ∧ SB prog w Γ Φ gs (.eq neg a b) := by
 refine Lz (op := if neg then .NotEq else .Eq) (f := eqD neg) (fun σ => rfl) (fun {gs cx e} ok => ?_) ha hb fun hr r1 r2 ev hQ => eq_wp rfl hr r1 r2 ev fun b h1 h2 => hQ b _ h1 h2
 apply iv_eqC ok; intro x op y pos ok
 simp only [okE11, BA, beq_iff_eq] at ok
 refine BC fun nn => ?_
 obtain ⟨⟨rfl, o1⟩, o2⟩ := ok
 refine nn ?_; clear nn
 exact ⟨x, y, pos, rfl, o1, o2⟩
theorem s_lt (ha : SE prog w Γ Φ gs a) (hb : SE prog w Γ Φ gs b) : SE prog w Γ Φ gs (.lt a b) ∧ SB prog w Γ Φ gs (.lt a b) := by
 refine Lz (op := .Lt) (f := ltD) (fun σ => rfl) (fun {gs cx e} ok => ?_) ha hb fun {A s P h da db ka kb d k v u Q E} hr r1 r2 ev hQ => ?_
 ·apply iv_ltC ok; intro x y pos ok
  simp only [okE12, BA] at ok
  exact ⟨x, y, pos, rfl, ok.1, ok.2⟩
 ·refine BC fun nn => ?_
  obtain ⟨_, _, rfl, rfl⟩ := B9 ev; simp only [lt_i, OI, Prod.mk.injEq] at ev
  refine nn ?_; clear nn
  obtain ⟨rfl, rfl⟩ := ev
  apply Wu r1.rd; intro t
  apply Wu r2.rd; intro u
  exact PySem.P.lt_int (hQ _ s.toks rfl rfl)
theorem s_gt (ha : SE prog w Γ Φ gs a) (hb : SE prog w Γ Φ gs b) : SE prog w Γ Φ gs (.gt a b) ∧ SB prog w Γ Φ gs (.gt a b) := by
 refine Lz (op := .Gt) (f := fun x y => ltD y x) (fun σ => rfl) (fun {gs cx e} ok => ?_) ha hb fun {A s P h da db ka kb d k v u Q E} hr r1 r2 ev hQ => ?_
 ·apply iv_gtC ok; intro x y pos ok
  simp only [okE13, BA] at ok
  exact ⟨x, y, pos, rfl, ok.1, ok.2⟩
 ·refine BC fun nn => ?_
  obtain ⟨_, _, rfl, rfl⟩ := B9 ev; simp only [lt_i, OI, Prod.mk.injEq] at ev
  refine nn ?_; clear nn
  obtain ⟨rfl, rfl⟩ := ev
  apply Wu r1.rd; intro t
  apply Wu r2.rd; intro u
  exact PySem.P.gt_int (hQ _ s.toks rfl rfl)
theorem RpKv.look {kvs : List (Str × Value)} {kds : List (PyData × PyData)} (r : RpKv prog w P h kvs kds) (x : Str) :
  (∀ d, Wf x kds = some d → ∃ v, valueAt kvs x = some v ∧ Rp prog w P h v d) ∧ (Wf x kds = none → valueAt kvs x = none) := by
 apply RpKv.ind r
 ·exact ⟨fun _ q => (none_ne q).elim, fun _ => rfl⟩
 ·intro j v kvs d kds hk hv _ ih
  rw [Ak]
  by_cases hx : j = x
  ·rw [if_pos hx]
   have e : valueAt ((j, v) :: kvs) x = some v := by simp [valueAt, hx]
   exact ⟨fun d' q => ⟨v, e, Option.some.inj q ▸ hv⟩, fun q => (none_ne q.symm).elim⟩
  ·rw [if_neg hx]
   have e : valueAt ((j, v) :: kvs) x = valueAt kvs x := by simp [valueAt, List.find?_cons, hx]
   rw [e]; exact ih
theorem in_wp {da db : PyData} {ka kb : Kd} {neg : Bool} {op : CmpOp} {v u : Value} {Q : Value → Shared → Prop} (hop : op = if neg then .NotIn else .In) (room : A.units + 100 < cLine)
  (r₁ : W4 prog w P h s.heap ka v da) (r₂ : W4 prog w P h s.heap kb u db) (ev : inD neg (da, ka) (db, kb) = some (d, k)) (hQ : ∀ b tk, d = .bool b → k = .fr 9 → Q (.bool b) { s with toks := tk }) : wpAny (model prog w) A (compareOp op v u) Q E s := by
 subst hop
 rcases O8 ev with ⟨ds, rfl⟩ | ⟨xs, kvs, rfl, rfl⟩ | ⟨xs, x', rfl, rfl⟩
 ·rw [in_l] at ev
  split at ev
  ·rename_i hs
   simp only [BA, List.all_eq_true] at hs
   simp only [OI, Prod.mk.injEq] at ev
   obtain ⟨rfl, rfl⟩ := ev
   refine BC fun nn => ?_
   obtain ⟨as, q, c, dp⟩ := r₁.rd.reads hs.1
   refine nn ?_; clear nn
   refine BC fun nn => ?_
   obtain ⟨l, vs, rfl, _, ⟨n, g⟩, z, r⟩ := Zc r₂.rd
   refine nn ?_; clear nn
   refine BC fun nn => ?_
   obtain ⟨bs, q', c', dp'⟩ := r.reads hs.2
   refine nn ?_; clear nn
   have hm : A.units + 1 + min (PyData.depthAll ds) da.depth < cLine := by lia
   have rl : Reads s.heap (.ref l) (.list ds) (l :: bs) := .list g rfl rfl q'
   cases neg with
   | false => exact SeqAt.in_list_reads rl q c' c hm (by simpa using hQ _ s.toks rfl rfl)
   | true => exact SeqAt.notIn_list_reads rl q c' c hm (by simpa using hQ _ s.toks rfl rfl)
  ·cases ev
 ·simp only [in_d, OI, Prod.mk.injEq] at ev
  obtain ⟨rfl, rfl⟩ := ev
  refine BC fun nn => ?_
  obtain ⟨t, rfl, _⟩ := Gn r₁.rd
  refine nn ?_; clear nn
  refine BC fun nn => ?_
  obtain ⟨a, kvs', rfl, _, hs, hd, _, r⟩ := E7 r₂.rd
  refine nn ?_; clear nn
  have hl := r.look xs
  have e1 : (Wf xs kvs).isSome = (valueAt kvs' xs).isSome := by
   cases q : Wf xs kvs with
   | none => rw [hl.2 q]; rfl
   | some d => obtain ⟨v, e, _⟩ := hl.1 d q; rw [e]; rfl
  cases neg with
  | false => exact wpAny_in_of (strKind_is prog w xs t) hs hd.mapOf (by rw [← e1]; simpa using hQ _ _ rfl rfl)
  | true => exact wpAny_notIn_of (strKind_is prog w xs t) hs hd.mapOf (by rw [← e1]; simpa using hQ _ _ rfl rfl)
 ·simp only [in_s, OI, Prod.mk.injEq] at ev
  obtain ⟨rfl, rfl⟩ := ev
  refine BC fun nn => ?_
  obtain ⟨t, rfl, _⟩ := Gn r₁.rd
  refine nn ?_; clear nn
  refine BC fun nn => ?_
  obtain ⟨t', rfl, _⟩ := Gn r₂.rd
  refine nn ?_; clear nn
  cases neg with
  | false => exact PySem.P.in_str (by simpa [Ww] using hQ _ s.toks rfl rfl)
  | true => exact PySem.P.notIn_str (by simpa [Ww] using hQ _ s.toks rfl rfl)
theorem s_isin (neg : Bool) (ha : SE prog w Γ Φ gs a) (hb : SE prog w Γ Φ gs b) : SE prog w Γ Φ gs (.isin neg a b) ∧ SB prog w Γ Φ gs (.isin neg a b) := by
 refine Lz (op := if neg then .NotIn else .In) (f := inD neg) (fun σ => rfl) (fun {gs cx e} ok => ?_) ha hb fun hr r1 r2 ev hQ => in_wp rfl hr r1 r2 ev hQ
 apply Cw ok; intro x op y pos ok
 simp only [okE14, BA, beq_iff_eq] at ok
 refine BC fun nn => ?_
 obtain ⟨⟨rfl, o1⟩, o2⟩ := ok
 refine nn ?_; clear nn
 exact ⟨x, y, pos, rfl, o1, o2⟩
theorem Sm {r : Res} {b : Bool} (h : Wm r = some b) : r.1 = .bool b := by
 obtain ⟨d, k⟩ := r
 exact No h
theorem Tp {p : Option Res} {b : Bool} (h : p.bind Wm = some b) : ∃ k, p = some (.bool b, k) := by
 cases p with
 | none => simp at h
 | some r => obtain ⟨d, k⟩ := r; have := Sm (by simpa using h); exact ⟨k, by simp_all⟩
theorem Cc {ex : Ex} (he : SE prog w Γ Φ gs ex) (hp : ∀ {gs cx e env}, okE gs cx ex e = true → isTrue e env (eval e env) = (do let v ← eval e env; standAt e.pos; holding [v] (truthy v))) : SB prog w Γ Φ gs ex := by
 intro cx env P σ A s e b k E ok S ev
 rw [hp ok]
 refine wpAny_bind (wpAny_mono (he ok S ev) (fun v s' q => ?_) fun _ _ x => x)
 have := Lf q.2.rd
 subst this
 exact wpAny_bind (wpAny_standAt (wpAny_holding (wpAny_truthy_bool ⟨rfl, q.1⟩)))
theorem s_not (ha : SE prog w Γ Φ gs a) (hb : SB prog w Γ Φ gs a) : SE prog w Γ Φ gs (.not a) ∧ SB prog w Γ Φ gs (.not a) := by
 constructor
 ·intro cx env P σ A s e d k E ok S ev
  apply Mp ok; intro x pos ok
  simp only [okE16] at ok
  simp only [e_not, Option.map_eq_some_iff, Prod.mk.injEq] at ev
  refine BC fun nn => ?_
  obtain ⟨b, hb', rfl, rfl⟩ := ev
  refine nn ?_; clear nn
  refine exC (Tp hb') fun k' hk => ?_
  show wpAny _ _ (do let v ← eval x env; standAt pos; holding [v] (unaryOp .Not v)) _ _ _
  refine wpAny_bind (wpAny_mono (ha ok S hk) (fun v s' q => ?_) fun _ _ x => x)
  have := Lf q.2.rd
  subst this
  exact wpAny_bind (wpAny_standAt (wpAny_holding (PyProof.Rows.not_of (wpAny_truthy_bool ⟨q.1, W4.leaf rfl (.bool _)⟩))))
 ·intro cx env P σ A s e b k E ok S ev
  apply Mp ok; intro x pos ok
  simp only [okE16] at ok
  simp only [e_not, Option.map_eq_some_iff, Prod.mk.injEq, PyData.bool.injEq] at ev
  refine BC fun nn => ?_
  obtain ⟨c, hb', rfl, rfl⟩ := ev
  refine nn ?_; clear nn
  refine exC (Tp hb') fun k' hk => ?_
  show wpAny _ _ (do return !(← isTrue x env (eval x env))) _ _ _
  refine wpAny_bind (wpAny_mono (hb ok S hk) (fun v s' q => ?_) fun _ _ x => x)
  exact wpAny_pure ⟨by rw [q.1], q.2⟩
variable (prog w Γ Φ gs) in
noncomputable def V1 : ExL → Prop
 | .nil => True
 | .cons e es => (SE prog w Γ Φ gs e ∧ SB prog w Γ Φ gs e) ∧ V1 es
theorem Bt {conj : Bool} {pos : Pos} : ∀ (es : ExL) (xs : List Expr) {s : Shared} {b : Bool}, V1 prog w Γ Φ gs es → okL gs cx es xs = true → St0 prog w Γ Φ gs cx env P σ A s → X7 Φ conj es σ = some b →
  wpAny (model prog w) A (boolOp pos (if conj then .And else .Or) (evalEach xs env)) (fun v s' => v = .bool b ∧ Kp s s') E s
 | .nil, _, _, _, _, _, _, ev => (none_ne ev).elim
 | .cons e .nil, xs, s, b, hs, ok, S, ev => by
  match xs with
  | [x] =>
   simp only [Fh, Z5, BA, and_true] at ok
   simp only [bop_n, bop_1, Er] at ev
   refine exC (Tp ev) fun k hk => ?_
   show wpAny _ _ (eval x env) _ _ _
   exact wpAny_mono (hs.1.1 ok S hk) (fun v s' q => ⟨Lf q.2.rd, q.1⟩) fun _ _ q => q
  | [] | _ :: _ :: _ => simp [Z5, Fg, Ff] at ok
 | .cons e (.cons f fs), xs, s, b, hs, ok, S, ev => by
  match xs with
  | x :: y :: ys =>
   rw [Z5, BA] at ok
   rw [Er, OE] at ev
   refine BC fun nn => ?_
   obtain ⟨c, hc, ev⟩ := ev
   refine nn ?_; clear nn
   refine exC (Tp hc) fun k hk => ?_
   show wpAny _ _ (do let v ← eval x env; standAt pos; let t ← holding [v] (truthy v); match (if conj then BoolOp.And else BoolOp.Or), t with | .And, false | .Or, true => pure v | _, _ => boolOp pos (if conj then .And else .Or) (evalEach (y :: ys) env)) _ _ _
   refine wpAny_bind (wpAny_mono (hs.1.1 ok.1 S hk) (fun v s' q => ?_) fun _ _ q => q)
   have := Lf q.2.rd
   subst this
   refine wpAny_bind (wpAny_standAt (wpAny_bind (wpAny_holding (wpAny_truthy_bool ?_))))
   by_cases hcc : (c == conj) = true
   ·rw [if_pos hcc] at ev
    have ih := Bt (conj := conj) (pos := pos) (.cons f fs) (y :: ys) hs.2 ok.2 (S.keeps q.1) ev
    cases conj <;> cases c <;> simp at hcc <;> exact wpAny_mono ih (fun v s'' r => ⟨r.1, q.1.trans r.2⟩) fun _ _ q => q
   ·rw [if_neg hcc] at ev
    have hcb := Option.some.inj ev
    subst hcb
    cases conj <;> cases c <;> simp at hcc <;> exact wpAny_pure ⟨rfl, q.1⟩
  | [] | [_] => simp [Z5, Fg, Ff] at ok
theorem Sl {conj : Bool} : ∀ (es : ExL) (xs : List Expr) {s : Shared} {b : Bool}, V1 prog w Γ Φ gs es → okL gs cx es xs = true → St0 prog w Γ Φ gs cx env P σ A s → X7 Φ conj es σ = some b →
  wpAny (model prog w) A (allTrue (if conj then .And else .Or) xs env) (fun v s' => v = b ∧ Kp s s') E s
 | .nil, _, _, _, _, _, _, ev => (none_ne ev).elim
 | .cons e .nil, xs, s, b, hs, ok, S, ev => by
  match xs with
  | [x] =>
   simp only [Fh, Z5, BA, and_true] at ok
   simp only [bop_n, bop_1, Er] at ev
   refine exC (Tp ev) fun k hk => ?_
   show wpAny _ _ (do match (if conj then BoolOp.And else BoolOp.Or), ← isTrue x env (eval x env) with | .And, false => pure false | .Or, true => pure true | _, _ => allTrue (if conj then .And else .Or) [] env) _ _ _
   refine wpAny_bind (wpAny_mono (hs.1.2 ok S hk) (fun v s' q => ?_) fun _ _ q => q)
   obtain ⟨rfl, q⟩ := q
   cases conj <;> cases v <;> exact wpAny_pure ⟨rfl, q⟩
  | [] | _ :: _ :: _ => simp [Z5, Fg, Ff] at ok
 | .cons e (.cons f fs), xs, s, b, hs, ok, S, ev => by
  match xs with
  | x :: y :: ys =>
   rw [Z5, BA] at ok
   rw [Er, OE] at ev
   refine BC fun nn => ?_
   obtain ⟨c, hc, ev⟩ := ev
   refine nn ?_; clear nn
   refine exC (Tp hc) fun k hk => ?_
   show wpAny _ _ (do match (if conj then BoolOp.And else BoolOp.Or), ← isTrue x env (eval x env) with | .And, false => pure false | .Or, true => pure true | _, _ => allTrue (if conj then .And else .Or) (y :: ys) env) _ _ _
   refine wpAny_bind (wpAny_mono (hs.1.2 ok.1 S hk) (fun v s' q => ?_) fun _ _ q => q)
   obtain ⟨rfl, q⟩ := q
   by_cases hcc : (v == conj) = true
   ·rw [if_pos hcc] at ev
    have ih := Sl (conj := conj) (.cons f fs) (y :: ys) hs.2 ok.2 (S.keeps q) ev
    cases conj <;> cases v <;> simp at hcc <;> exact wpAny_mono ih (fun v s'' r => ⟨r.1, q.trans r.2⟩) fun _ _ q => q
   ·rw [if_neg hcc] at ev
    have hcb := Option.some.inj ev
    subst hcb
    cases conj <;> cases v <;> simp at hcc <;> exact wpAny_pure ⟨rfl, q⟩
  | [] | [_] => simp [Z5, Fg, Ff] at ok
theorem s_bop (conj : Bool) (es : ExL) (hs : V1 prog w Γ Φ gs es) : SE prog w Γ Φ gs (.bop conj es) ∧ SB prog w Γ Φ gs (.bop conj es) := by
 constructor
 ·intro cx env P σ A s e d k E ok S ev
  apply My ok; intro op xs pos ok
  simp only [okE15, BA, beq_iff_eq] at ok
  obtain ⟨rfl, ok⟩ := ok
  simp only [e_bop, Option.map_eq_some_iff, Prod.mk.injEq] at ev
  refine BC fun nn => ?_
  obtain ⟨b, hb, rfl, rfl⟩ := ev
  refine nn ?_; clear nn
  show wpAny _ _ (boolOp pos _ (evalEach xs env)) _ _ _
  exact wpAny_mono (Bt es xs hs ok S hb) (fun v s' q => ⟨q.2, by rw [q.1]; exact W4.leaf rfl (.bool _)⟩) fun _ _ q => q
 ·intro cx env P σ A s e b k E ok S ev
  apply My ok; intro op xs pos ok
  simp only [okE15, BA, beq_iff_eq] at ok
  obtain ⟨rfl, ok⟩ := ok
  simp only [e_bop, Option.map_eq_some_iff, Prod.mk.injEq, PyData.bool.injEq] at ev
  refine BC fun nn => ?_
  obtain ⟨c, hb, rfl, rfl⟩ := ev
  refine nn ?_; clear nn
  show wpAny _ _ (allTrue _ xs env) _ _ _
  exact Sl es xs hs ok S hb
end
section
variable {prog : Program} {w : World} {Γ : Gd} {Φ : Fns} {gs : Str → Option Str} {cx : Cx} {env : Env} {P : Addr → Prop} {σ : Sg} {A : Around} {s s' s₁ s₂ : Shared} {E : Value → Shared → Prop} {a b : Ex} {e x y : Expr} {d : PyData} {k : Kd} {h h' : Heap}
theorem OwAll.get {n : Nat} {vs : List Value} {ds : List PyData} {F : List Addr} (r : OwAll prog w P h n vs ds F) {i : Nat} (hd : ds[i]? = some d) : ∃ v G, vs[i]? = some v ∧ Ow prog w P h n v d G := by
 revert i; apply OwAll.ind r
 ·intro i hd; exact nj hd
 ·intro v vs d' ds _ _ a _ ih i hd
  cases i with
  | zero => exact ⟨v, _, rfl, Option.some.inj hd ▸ a⟩
  | succ i => exact ih hd
theorem OwKv.look {n : Nat} {kvs : List (Str × Value)} {kds : List (PyData × PyData)} {F : List Addr} (r : OwKv prog w P h n kvs kds F) (x : Str) (hd : Wf x kds = some d) : ∃ v G, valueAt kvs x = some v ∧ Ow prog w P h n v d G := by
 revert hd; apply OwKv.ind r
 ·intro hd; exact nj hd
 ·intro j v kvs d' kds _ _ hk hv _ ih hd
  rw [Ak] at hd
  by_cases hx : j = x
  ·rw [if_pos hx] at hd
   exact ⟨v, _, by simp [valueAt, hx], Option.some.inj hd ▸ hv⟩
  ·rw [if_neg hx] at hd
   have e : valueAt ((j, v) :: kvs) x = valueAt kvs x := by simp [valueAt, List.find?_cons, hx]
   rw [e]; exact ih hd
theorem E9 {n : Nat} {u : Value} {G : List Addr} (o : Ow prog w P h' n u d G) : W4 prog w P h h' (Kd.bor (n + 1)).item u d := by
 cases n with
 | zero => cases o with | sh _ r => exact W4.of_sh r
 | succ n => exact ⟨G, o⟩
theorem W4.item_list {ds : List PyData} {v : Value} (x : W4 prog w P h h' k v (.list ds)) (hn : ∀ a, h.get? a = none → P a) {i : Nat} (hd : ds[i]? = some d) :
  ∃ (a : Addr) (vs : List Value) (u : Value), v = .ref a ∧ h'.PlainList a vs.toArray ∧ vs[i]? = some u ∧ ds.length ≤ lim ∧ W4 prog w P h h' k.item u d := by
 have shared : Rp prog w P h' v (.list ds) → k.item = .fr 0 → ∃ (a : Addr) (vs : List Value) (u : Value), v = .ref a ∧ h'.PlainList a vs.toArray ∧ vs[i]? = some u ∧ ds.length ≤ lim ∧ W4 prog w P h h' k.item u d := by
  intro r hk
  apply Go r; intro a vs _ g l q
  refine BC fun nn => ?_
  obtain ⟨u, hu, ru⟩ := q.get hd
  refine nn ?_; clear nn
  rw [hk]
  exact ⟨a, vs, u, rfl, g, hu, l, W4.of_sh ru⟩
 cases k with
 | fr n => exact shared (x.share hn rfl) rfl
 | bor n =>
  cases n with
  | zero => exact shared (x.share hn rfl) rfl
  | succ n =>
   obtain ⟨F, o⟩ := x
   apply Ow.listC o; intro _ _ _ g l r
   ·refine BC fun nn => ?_
    obtain ⟨u, G, hu, ou⟩ := r.get hd
    refine nn ?_; clear nn
    exact ⟨_, _, u, rfl, g, hu, l, E9 ou⟩
theorem W4.item_dict {ds : List (PyData × PyData)} {v : Value} (x : W4 prog w P h h' k v (.dict ds)) (hn : ∀ a, h.get? a = none → P a) {i : Str} (hd : Wf i ds = some d) :
  ∃ (a : Addr) (kvs : List (Str × Value)) (u : Value), v = .ref a ∧ (a == sysModules) = false ∧ h'.DictOf (strKind prog w) a kvs ∧ valueAt kvs i = some u ∧ W4 prog w P h h' k.item u d := by
 have shared : Rp prog w P h' v (.dict ds) → k.item = .fr 0 → ∃ (a : Addr) (kvs : List (Str × Value)) (u : Value), v = .ref a ∧ (a == sysModules) = false ∧ h'.DictOf (strKind prog w) a kvs ∧ valueAt kvs i = some u ∧ W4 prog w P h h' k.item u d := by
  intro r hk
  apply Cd r; intro a kvs _ hs g _ q
  refine BC fun nn => ?_
  obtain ⟨u, hu, ru⟩ := (q.look i).1 d hd
  refine nn ?_; clear nn
  rw [hk]
  exact ⟨a, kvs, u, rfl, hs, g, hu, W4.of_sh ru⟩
 cases k with
 | fr n => exact shared (x.share hn rfl) rfl
 | bor n =>
  cases n with
  | zero => exact shared (x.share hn rfl) rfl
  | succ n =>
   obtain ⟨F, o⟩ := x
   apply Ow.dictC o; intro _ _ _ hs g l r
   ·refine BC fun nn => ?_
    obtain ⟨u, G, hu, ou⟩ := r.look i hd
    refine nn ?_; clear nn
    exact ⟨_, _, u, rfl, hs, g, hu, E9 ou⟩
theorem noSlice0 (o i : Value) : ∀ y, okK y = true → subscripted y false o i = operate [o, i] (getItem o i) := by
 intro y
 cases y <;> first | (intro _; rfl) | (intro h; exact absurd h Bool.false_ne_true)
theorem Ht (o i : Value) (ok : okE gs cx b y = true) : subscripted y false o i = operate [o, i] (getItem o i) := noSlice0 o i y (X4 ok)
theorem H1 {n : Int} {m : Nat} (h : 0 ≤ n) (h' : n < m) : seqIndex? n m = some n.toNat := by
 have h0 : ¬ n < 0 := by lia
 simp only [seqIndex?, h0, if_false]
 rw [if_pos (by simp [h, h'])]
theorem se_idx (ha : SE prog w Γ Φ gs a) (hb : SE prog w Γ Φ gs b) : SE prog w Γ Φ gs (.idx a b) := by
 intro cx env P σ A s e d k E ok S ev
 apply Mw ok; intro x y pos ok
 simp only [okE17, BA] at ok
 dsimp only [e_idx] at ev
 refine Z3 ev fun da ka db kb ea eb ev => ?_
 refine PyProof.Rows.Subscript_ (two ha hb ok.1 ok.2 S ea eb fun v u s₂ k₂ r₁ r₂ => ?_)
 have hs := fun o i => Ht (gs := gs) (cx := cx) o i ok.2
 rcases Av ev with ⟨_, _, rfl, rfl⟩ | ⟨_, _, rfl, rfl⟩ | ⟨_, _, rfl, rfl⟩ | ⟨_, _, rfl, rfl⟩ <;> simp only [ix_s, ix_l, ix_t, ix_d] at ev
 ·-- a text
  split at ev
  ·rename_i t n hn
   apply Zb r₁.rd; intro t1 o1
   apply Wu r₂.rd; intro t2
   cases hc : t.cps[n.toNat]? with
   | none => rw [hc] at ev; simp at ev
   | some c =>
    rw [hc] at ev
    simp only [OM, OI, Prod.mk.injEq] at ev
    obtain ⟨rfl, rfl⟩ := ev
    have hlt : n.toNat < t.cps.size := by
     rcases Nat.lt_or_ge n.toNat t.cps.size with q | q
     ·exact q
     ·rw [Array.getElem?_eq_none q] at hc; cases hc
    have hl : t.length ≤ lim := o1.1
    have lm : lim = 100000 := rfl
    have e0 : t.length = t.cps.size := rfl
    refine PyProof.Rows.tail_any (typeIs_str _ _ _) F.slot_str_getitem.lookup (PySem.P.getItem_str (c := c) (by simp; lia) ?_ ?_) (hs _ _)
    ·have : seqIndex? n t.length = some n.toNat := by
      exact H1 hn (by lia)
     rw [this]; exact hc
    ·refine ⟨k₂.trans (Kp.tok _), W4.leaf rfl (.str _ _ ⟨?_, ?_⟩)⟩
     ·show 1 ≤ lim; decide
     ·have h1 := o1.2
      unfold PyData.strOk at h1 ⊢
      rw [Array.all_eq_true] at h1
      have h2 := h1 n.toNat hlt
      have h3 : t.cps[n.toNat] = c := by rw [Array.getElem?_eq_getElem hlt] at hc; exact Option.some.inj hc
      rw [h3] at h2
      simpa using h2
  ·cases ev
 ·-- a list
  split at ev
  ·rename_i ds n hn
   apply Wu r₂.rd; intro t2
   cases hc : ds[n.toNat]? with
   | none => rw [hc] at ev; simp at ev
   | some d' =>
    rw [hc] at ev
    simp only [OM, OI] at ev
    refine BC fun nn => ?_
    obtain ⟨l, vs, u, rfl, g, hu, z, ru⟩ := r₁.item_list S.new hc
    refine nn ?_; clear nn
    have lm : lim = 100000 := rfl
    have hlt : n.toNat < ds.length := by
     rcases Nat.lt_or_ge n.toNat ds.length with q | q
     ·exact q
     ·rw [List.getElem?_eq_none q] at hc; cases hc
    refine PyProof.Rows.tail_any g.isList.typeIs slot_list_getitem.lookup (wpAny_getItem_list g.isList hn (by lia) (by simpa using hu) ?_) (hs _ _)
    have q := ru.mk
    rw [ev] at q
    exact ⟨k₂, q⟩
  ·cases ev
 ·-- a tuple
  split at ev
  ·rename_i ds n hn
   simp only [BA, decide_eq_true_eq] at hn
   apply Wu r₂.rd; intro t2
   cases hc : ds[n.toNat]? with
   | none => rw [hc] at ev; simp at ev
   | some d' =>
    rw [hc] at ev
    simp only [OM, OI] at ev
    refine BC fun nn => ?_
    obtain ⟨l, vs, rfl, _, ⟨c, g⟩, z, q⟩ := Gm (r₁.share S.new hn.2)
    refine nn ?_; clear nn
    refine BC fun nn => ?_
    obtain ⟨u, hu, ru⟩ := q.get hc
    refine nn ?_; clear nn
    have lm : lim = 100000 := rfl
    have hlen := q.length
    have hlt : n.toNat < vs.length := by
     rcases Nat.lt_or_ge n.toNat vs.length with q | q
     ·exact q
     ·rw [List.getElem?_eq_none q] at hu; cases hu
    refine PyProof.Rows.item_tupleT (j := n.toNat) (l := vs) ⟨_, g, rfl, _, rfl⟩ (by lia) (by lia) ?_ hu ?_ (hs _ _)
    ·exact H1 hn.1 (by lia)
    ·have q := (W4.of_sh (h := s.heap) ru).mk
     rw [ev] at q
     exact ⟨k₂, q⟩
  ·cases ev
 ·-- a dict
  rename_i kvs xs
  cases hc : Wf xs kvs with
  | none => rw [hc] at ev; simp at ev
  | some d' =>
   rw [hc] at ev
   simp only [OM, OI] at ev
   apply Zb r₂.rd; intro t _
   refine BC fun nn => ?_
   obtain ⟨l, kvs', u, rfl, hsm, g, hu, ru⟩ := r₁.item_dict S.new hc
   refine nn ?_; clear nn
   refine PyProof.Rows.tail_any g.typeIs slot_dict_getitem.lookup (wpAny_getItem_of (strKind_is prog w xs t) g.mapOf hu ?_) (hs _ _)
   have q := ru.mk
   rw [ev] at q
   exact ⟨k₂.trans (Kp.tok _), q⟩
end
section
variable {prog : Program} {w : World} {Γ : Gd} {Φ : Fns} {gs : Str → Option Str} {cx : Cx} {env : Env} {P : Addr → Prop} {σ : Sg} {A : Around} {s s' s₁ s₂ : Shared} {E : Value → Shared → Prop} {a b : Ex} {e x y : Expr} {d : PyData} {k : Kd} {h h' : Heap}
theorem two' (ha : SE prog w Γ Φ gs a) (hb : SE prog w Γ Φ gs b) (oa : okE gs cx a x = true) (ob : okE gs cx b y = true) (S : St0 prog w Γ Φ gs cx env P σ A s)
  {da db : PyData} {ka kb : Kd} (ea : evE Φ a σ = some (da, ka)) (eb : evE Φ b σ = some (db, kb)) :
  wpAny (model prog w) A (eval x env) (fun v s₁ => wpAny (model prog w) A (eval y env) (fun u s₂ => Kp s s₂ ∧ W4 prog w P s.heap s₂.heap ka v da ∧ W4 prog w P s.heap s₂.heap kb u db) E s₁) E s :=
 two ha hb oa ob S ea eb fun _ _ _ k₂ r₁ r₂ => ⟨k₂, r₁, r₂⟩
theorem Hp (items : Array Value) (b : Nat) : slicePick items none (some b) none = (items.toList.take b).toArray := by
 rcases Nat.le_total b items.size with hb | hb
 ·exact slicePick_upto items b hb
 ·have e : sliceBounds none (some (b : Int)) none items.size = (((0 : Nat) : Int), (items.size : Int), 1) := by
   simp only [sliceBounds, Option.getD_none]
   have h2 : ¬ ((b : Int) < 0) := by lia
   simp only [h2, if_false, show (1 : Int) > 0 by decide, if_true]
   congr 1
   congr 1; lia
  unfold slicePick
  rw [e]
  simp only [sliceRange_one, pick_run]
  rw [List.drop_zero, Nat.sub_zero, List.take_of_length_le (by simp), List.take_of_length_le (by simpa using hb)]
theorem Pe {l : Addr} {vs us : List Value} {es : List PyData} {vl vu : Value} {lo hi : Option Int} {value : Expr} {lower upper : Option Expr} {p : Pos} {n : Nat} (k₂ : Kp s s₂) (hn : ∀ a, s.heap.get? a = none → P a)
  (g : s₂.heap.get? l = some { cls := .type "list", data := .seq vs.toArray n }) (hv : vs.length ≤ lim) (pl : IsPart vl lo) (pu : IsPart vu hi) (hp : slicePick vs.toArray lo hi none = us.toArray) (hz : es.length ≤ lim) (r : RpAll prog w P s₂.heap us es) :
  wpAny (model prog w) A (PyProof.Rows.subscriptTail value (.Slice lower upper none p) (.ref l) (.ref s₂.heap.objs.size)) (fun v s' => Kp s s' ∧ W4 prog w P s.heap s'.heap (.fr 1) v (.list es)) E
   { s₂ with heap := s₂.heap.push { cls := .type "slice", data := .fields #[vl, vu, .none] } } := by
 have g' : (s₂.heap.push { cls := .type "slice", data := .fields #[vl, vu, .none] }).IsList l vs.toArray := ⟨_, Heap.get?_push_of_some _ g, rfl, n, rfl⟩
 refine PyProof.Rows.tail_any (o := .ref l) (T := "list") (Heap.IsList.typeIs g') slot_list_getitem.lookup (wpAny_getItem_list_slice g' (Heap.IsSliceOf.new _ _ _ _) pl pu .none (by simp) ?_ (by rw [List.size_toArray]; exact Nat.le_trans hv Tw)) rfl
 rw [hp]
 exact Ln (s := { s₂ with heap := s₂.heap.push { cls := .type "slice", data := .fields #[vl, vu, .none] } }) (s₁ := s) hz (r.keeps fun b o e => Heap.get?_push_of_some _ e) hn (k₂.trans (Kp.push _))
theorem A5 (ha : SE prog w Γ Φ gs a) (hb : SE prog w Γ Φ gs b) : SE prog w Γ Φ gs (.cutFrom a b) := by
 intro cx env P σ A s e d k E ok S ev
 apply Vj ok; intro x y p pos ok
 simp only [okE18, BA] at ok
 dsimp only [Oc] at ev
 refine Z3 ev fun da ka db kb ea eb ev => ?_
 refine PyProof.Rows.Subscript_ (wpAny_mono (two' ha hb ok.1 ok.2 S ea eb) (fun v s₁ q => ?_) fun _ _ q => q)
 refine wpAny_Slice (wpAny_mono q (fun u s₂ qq => ?_) fun _ _ q => q)
 refine BC fun nn => ?_
 obtain ⟨k₂, r₁, r₂⟩ := qq
 refine nn ?_; clear nn
 refine wpAny_pure (wpAny_pure ?_)
 refine BC fun nn => ?_
 obtain ⟨_, _, rfl, rfl⟩ := Dr ev; simp only [cf_l] at ev
 refine nn ?_; clear nn
 split at ev
 ·rename_i ds n hy
  simp only [OI, Prod.mk.injEq] at ev
  simp only [BA, decide_eq_true_eq, Uh] at hy
  obtain ⟨rfl, rfl⟩ := ev
  apply Wu r₂.rd; intro t
  apply W4.items r₁ S.new hy.1.1; intro l vs g00 z q
  obtain ⟨c, g⟩ := g00
  have e1 : n = ((n.toNat : Nat) : Int) := by lia
  have hlen := q.length
  refine Pe k₂ S.new g (by lia) (.int n t) .none (us := vs.drop n.toNat) ?_ (by rw [List.length_drop]; lia) (q.drop _)
  conv => lhs; rw [e1]
  rw [slicePick_from _ _ (by rw [List.size_toArray]; lia)]
 ·cases ev
theorem se_cutTo (ha : SE prog w Γ Φ gs a) (hb : SE prog w Γ Φ gs b) : SE prog w Γ Φ gs (.cutTo a b) := by
 intro cx env P σ A s e d k E ok S ev
 apply Kj ok; intro x y p pos ok
 simp only [okE19, BA] at ok
 dsimp only [e_cutTo] at ev
 refine Z3 ev fun da ka db kb ea eb ev => ?_
 refine PyProof.Rows.Subscript_ (wpAny_mono (two' ha hb ok.1 ok.2 S ea eb) (fun v s₁ q => ?_) fun _ _ q => q)
 refine wpAny_Slice (wpAny_pure (wpAny_mono q (fun u s₂ qq => ?_) fun _ _ q => q))
 refine BC fun nn => ?_
 obtain ⟨k₂, r₁, r₂⟩ := qq
 refine nn ?_; clear nn
 refine wpAny_pure ?_
 refine BC fun nn => ?_
 obtain ⟨_, _, rfl, rfl⟩ := Nj ev; simp only [ct_l] at ev
 refine nn ?_; clear nn
 split at ev
 ·rename_i ds n hy
  simp only [OI, Prod.mk.injEq] at ev
  simp only [BA, decide_eq_true_eq, Uh] at hy
  obtain ⟨rfl, rfl⟩ := ev
  apply Wu r₂.rd; intro t
  apply W4.items r₁ S.new hy.1.1; intro l vs g00 z q
  obtain ⟨c, g⟩ := g00
  have e1 : n = ((n.toNat : Nat) : Int) := by lia
  have hlen := q.length
  refine Pe k₂ S.new g (by lia) .none (.int n t) (us := vs.take n.toNat) ?_ (by rw [List.length_take]; lia) (q.take _)
  conv => lhs; rw [e1]
  rw [Hp]
 ·cases ev
theorem Id (ha : SE prog w Γ Φ gs a) : SE prog w Γ Φ gs (.cutAll a) := by
 intro cx env P σ A s e d k E ok S ev
 apply Jx ok; intro x p pos ok
 simp only [okE20] at ok
 dsimp only [e_cutAll] at ev
 refine Z2 ev fun da ka ea ev => ?_
 refine PyProof.Rows.Subscript_ (wpAny_mono (ha ok S ea) (fun v s₂ ⟨k₂, r₁⟩ => ?_) fun _ _ q => q)
 refine wpAny_Slice (wpAny_pure (wpAny_pure (wpAny_pure ?_)))
 obtain ⟨_, rfl⟩ := Fn ev; simp only [ca_l] at ev
 split at ev
 ·rename_i ds hy
  apply Xu ev
  apply W4.items r₁ S.new hy; intro l vs g00 z q
  obtain ⟨c, g⟩ := g00
  have hlen := q.length
  exact Pe k₂ S.new g (by lia) .none .none (us := vs) (slicePick_all _) z q
 ·cases ev
theorem starE0 {xs : List Expr} : ∀ x, okK x = true → starEach (x :: xs) env = (false, eval x env) :: starEach xs env := by
 intro x
 cases x <;> first | (intro _; rfl) | (intro h; exact absurd h Bool.false_ne_true)
theorem Rv (pos : Pos) : ∀ (es : ExL) (xs : List Expr), okL gs cx es xs = true → backTo pos (starEach xs env) = xs.map fun x => (false, eval x env)
 | .nil, [], _ => rfl
 | .nil, _ :: _, ok => by simp [Z5, Fg, Ff] at ok
 | .cons _ _, [], ok => by simp [Z5, Fg, Ff] at ok
 | .cons e es, x :: xs, ok => by
  simp only [Fh, Z5, BA] at ok
  have ih := Rv pos es xs ok.2
  have hx : starEach (x :: xs) env = (false, eval x env) :: starEach xs env := by
   exact starE0 x (X4 ok.1)
  rw [hx, List.map_cons, ← ih]
  rfl
variable (prog w P) in
inductive ResAll (h h' : Heap) : List Value → List Res → Prop
 | nil : ResAll h h' [] []
 | cons {v vs d k rs} : W4 prog w P h h' k v d → ResAll h h' vs rs → ResAll h h' (v :: vs) ((d, k) :: rs)
theorem ResAll.keeps {h'' : Heap} {vs : List Value} {rs : List Res} (r : ResAll prog w P h h' vs rs) (hk : ∀ b o, h'.get? b = some o → h''.get? b = some o) : ResAll prog w P h h'' vs rs := by
 induction r with
 | nil => exact .nil
 | cons a _ ih => exact .cons (a.keeps hk) ih
theorem ResAll.from {h'' : Heap} {vs : List Value} {rs : List Res} (r : ResAll prog w P h' h'' vs rs) (hk : ∀ a, h'.get? a = none → h.get? a = none) : ResAll prog w P h h'' vs rs := by
 induction r with
 | nil => exact .nil
 | cons a _ ih => exact .cons (a.from hk) ih
theorem ResAll.share {vs : List Value} {rs : List Res} (r : ResAll prog w P h h' vs rs) (hn : ∀ a, h.get? a = none → P a) (hs : rs.all (·.2.sh) = true) : RpAll prog w P h' vs (rs.map (·.1)) := by
 induction r with
 | nil => exact .nil
 | cons a _ ih =>
  simp only [List.all_cons, BA] at hs
  exact .cons (a.share hn hs.1) (ih hs.2)
theorem Jq : ∀ (es : ExL) (xs : List Expr) {s : Shared} {rs : List Res}, V1 prog w Γ Φ gs es → okL gs cx es xs = true → St0 prog w Γ Φ gs cx env P σ A s → evL Φ es σ = some rs →
  wpAny (model prog w) A (spliced (xs.map fun x => (false, eval x env))) (fun vs s' => Kp s s' ∧ ResAll prog w P s.heap s'.heap vs rs) E s
 | .nil, [], s, rs, _, _, _, ev => by
  simp only [L_n, L_c, OI] at ev
  subst ev
  exact Calls.spliced_nil ⟨Kp.refl, .nil⟩
 | .nil, _ :: _, _, _, _, ok, _, _ => by simp [Z5, Fg, Ff] at ok
 | .cons _ _, [], _, _, _, ok, _, _ => by simp [Z5, Fg, Ff] at ok
 | .cons e es, x :: xs, s, rs, hs, ok, S, ev => by
  simp only [Fh, Z5, BA] at ok
  simp only [L_n, L_c, OE, Option.map_eq_some_iff] at ev
  refine BC fun nn => ?_
  obtain ⟨⟨d, k⟩, ex, rs', ers, rfl⟩ := ev
  refine nn ?_; clear nn
  rw [List.map_cons]
  refine Calls.spliced_cons (wpAny_mono (hs.1.1 ok.1 S ex) (fun v s₁ ⟨k₁, r₁⟩ => ?_) fun _ _ q => q)
  exact wpAny_mono (Jq es xs hs.2 ok.2 (S.keeps k₁) ers) (fun vs s₂ ⟨k₂, r₂⟩ => ⟨k₁.trans k₂, .cons (r₁.keeps k₂.keep) (r₂.from fun _ => k₁.none)⟩) fun _ _ q => q
theorem se_lst (es : ExL) (hs : V1 prog w Γ Φ gs es) : SE prog w Γ Φ gs (.lst es) := by
 intro cx env P σ A s e d k E ok S ev
 apply Ms ok; intro xs pos ok
 simp only [okE22] at ok
 dsimp only [e_lst] at ev
 refine bnC ev fun rs ers ev => ?_
 unfold V0 at ev
 split at ev
 ·rename_i hy
  simp only [BA, decide_eq_true_eq, Uh] at hy
  apply Xu ev
  show wpAny _ _ (do standAt pos; newList (← spliced (backTo pos (starEach xs env)))) _ _ _
  rw [Rv pos es xs ok]
  refine wpAny_bind (wpAny_standAt (wpAny_bind (wpAny_mono (Jq es xs hs ok S ers) (fun vs s₂ ⟨k₂, r₂⟩ => ?_) fun _ _ q => q)))
  have q := r₂.share S.new hy.2
  have hlen := q.length
  refine wpAny_newList ?_ (by rw [hlen, List.length_map]; exact Nat.le_trans hy.1 Tw)
  have fin := Ln (s := s₂) (s₁ := s) (by rw [List.length_map]; exact hy.1) q S.new k₂
  refine ⟨fin.1, ?_⟩
  cases rs with
  | nil =>
   cases r₂
   refine BC fun nn => ?_
   obtain ⟨F, o, nd, fr⟩ := fin.2
   refine nn ?_; clear nn
   cases o with
   | sh c _ => rcases c with c | c <;> simp [Mine.leaf] at c
   | list g l r =>
    cases r with
    | nil => exact ⟨_, .list g l .nil, nd, fr⟩
  | cons r rs => exact fin.2
 ·cases ev
theorem se_pair (ha : SE prog w Γ Φ gs a) (hb : SE prog w Γ Φ gs b) : SE prog w Γ Φ gs (.pair a b) := by
 intro cx env P σ A s e d k E ok S ev
 apply D5 ok; intro x y c pos ok
 all_goals
  simp only [okE21, BA] at ok
  dsimp only [e_pair] at ev
  refine Z3 ev fun da ka db kb ea eb ev => ?_
  split at ev
  ·rename_i hy
   simp only [BA] at hy
   apply Xu ev
   show wpAny _ _ (do standAt pos; newTuple (← spliced (backTo pos (starEach [x, y] env)))) _ _ _
   rw [Rv (gs := gs) (cx := cx) pos (.cons a (.cons b .nil)) [x, y] (by simp [Fh, Z5, ok.1, ok.2])]
   refine wpAny_bind (wpAny_standAt (wpAny_bind ?_))
   refine Calls.spliced_cons (wpAny_mono (two' ha hb ok.1 ok.2 S ea eb) (fun v s₁ q => ?_) fun _ _ q => q)
   refine Calls.spliced_cons (wpAny_mono q (fun u s₂ ⟨k₂, r₁, r₂⟩ => ?_) fun _ _ q => q)
   refine Calls.spliced_nil (wpAny_newTuple ⟨k₂.trans (Kp.push _), W4.of_sh ?_⟩ (by show 2 ≤ sizeLine; decide))
   have hnone : s₂.heap.get? s₂.heap.objs.size = none := by
    cases q : s₂.heap.get? s₂.heap.objs.size with
    | none => rfl
    | some o => exact absurd (Heap.lt_size q) (Nat.lt_irrefl _)
   refine .tuple (S.new _ (k₂.none hnone)) ⟨0, Heap.get?_push_size _ rfl⟩ (by show 2 ≤ lim; decide) ?_
   exact .cons ((r₁.share S.new hy.1).keeps fun b o e => Heap.get?_push_of_some _ e) (.cons ((r₂.share S.new hy.2).keeps fun b o e => Heap.get?_push_of_some _ e) .nil)
  ·cases ev
theorem se_dict0 (hlow : ∀ (h : Heap), GOk Γ h → sysModules < h.objs.size) : SE prog w Γ Φ gs .dict0 := by
 intro cx env P σ A s e d k E ok S ev
 apply Ki ok; intro pos ok
 simp only [e_dict0, OI, Prod.mk.injEq] at ev
 obtain ⟨rfl, rfl⟩ := ev
 refine wpAny_Dict_empty ⟨Kp.push _, [s.heap.objs.size], ?_, by simp, fun a m => ?_⟩
 ·refine .dict ?_ (Heap.DictOf.new s.heap) (Nat.zero_le _) .nil
  have := hlow _ S.ground
  simp only [beq_eq_false_iff_ne, ne_eq]
  exact Nat.ne_of_gt this
 ·rw [List.mem_singleton.mp m]
  cases q : s.heap.get? s.heap.objs.size with
  | none => rfl
  | some o => exact absurd (Heap.lt_size q) (Nat.lt_irrefl _)
theorem Du {n : Str} {v : Value} {np pos : Pos} {Q : Value → Shared → Prop} (ha : SE prog w Γ Φ gs a) (oa : okE gs cx a x = true) (S : St0 prog w Γ Φ gs cx env P σ A s) (hg : cx.glob n = true) (hv : Γ.mg n = none ∧ Γ.mb n = some v)
  {da : PyData} {ka : Kd} (ea : evE Φ a σ = some (da, ka)) (hf : (∃ id, v = .builtin id) ∨ ∃ T, v = .type T)
  (h : ∀ u s₂, Kp s s₂ → W4 prog w P s.heap s₂.heap ka u da → wpAny (model prog w) A (call v [u]) Q E s₂) :
  wpAny (model prog w) A (eval (.Call (.Name n np) [x] [] pos) env) Q E s := by
 show wpAny _ _ (do callWith pos (← eval (.Name n np) env) [] (backTo pos (starEach [x] env)) (backToKw pos (keywordEach [] env))) _ _ _
 refine wpAny_bind (Lo S hg hv ?_)
 rw [Rv (gs := gs) (cx := cx) pos (.cons a .nil) [x] (by simp [Fh, Z5, oa])]
 have fin : ∀ f, wpAny (model prog w) A (evalArgs f true ([x].map fun x => (false, eval x env)) []) (fun a s₁ => wpAny (model prog w) A (call v ([] ++ a.pos) a.kw) Q E s₁) E s := fun f =>
  Calls.evalArgs_plain (Calls.spliced_cons (wpAny_mono (ha oa S ea) (fun u s₂ ⟨k₂, r⟩ => Calls.spliced_nil (h u s₂ k₂ r)) fun _ _ q => q))
 rcases hf with ⟨id, rfl⟩ | ⟨T, rfl⟩
 ·exact Calls.callWith_builtin rfl (fin _)
 ·exact callWith_type rfl (fin _)
theorem se_len (ha : SE prog w Γ Φ gs a) : SE prog w Γ Φ gs (.len a) := by
 intro cx env P σ A s e d k E ok S ev
 apply Mt ok; intro n np x pos ok
 all_goals
  simp only [okE25, BA, beq_iff_eq] at ok
  refine BC fun nn => ?_
  obtain ⟨⟨rfl, hg⟩, oa⟩ := ok
  refine nn ?_; clear nn
  dsimp only [e_len] at ev
  refine Z2 ev fun da ka ea ev => ?_
  refine Du ha oa S hg S.std.std.len ea (.inl ⟨_, rfl⟩) fun u s₂ k₂ r => ?_
  obtain ⟨_, rfl⟩ := Al ev; simp only [ln_l, OI, Prod.mk.injEq] at ev
  obtain ⟨rfl, rfl⟩ := ev
  refine BC fun nn => ?_
  obtain ⟨l, vs, rfl, _, ⟨c, g⟩, z, q⟩ := Zc r.rd
  refine nn ?_; clear nn
  have hlen := q.length
  have lm : lim = 100000 := rfl
  refine Calls.call_len_list ⟨_, g, rfl, _, rfl⟩ (by rw [List.size_toArray]; lia) ⟨k₂.trans (Kp.tok _), W4.leaf rfl ?_⟩
  rw [List.size_toArray, hlen]
  exact .int _ _
end
section
variable {prog : Program} {w : World} {Γ : Gd} {Φ : Fns} {gs : Str → Option Str} {cx : Cx} {env : Env} {P : Addr → Prop} {σ : Sg} {A : Around} {s s' s₁ s₂ : Shared} {E : Value → Shared → Prop} {a b c : Ex} {e x y : Expr} {d : PyData} {k : Kd} {h h' : Heap}
theorem RpAll.strs {vs : List Value} {ds : List PyData} (r : RpAll prog w P h vs ds) {ss : List Str} (hs : Xs ds = some ss) : PyProof.Rows.StrsAre vs ss ∧ (∀ x ∈ ss, Ze x) ∧ ds = ss.map .str := by
 induction vs generalizing ds ss with
 | nil => cases r; simp [st_n, st_c] at hs; subst hs; exact ⟨.nil, by simp, rfl⟩
 | cons v vs ih =>
  cases r with
  | cons a b =>
   cases a <;> first | exact nj hs | skip
   rw [st_c, Option.map_eq_some_iff] at hs
   rename_i x t o
   refine BC fun nn => ?_
   obtain ⟨ss', h1, rfl⟩ := hs
   refine nn ?_; clear nn
   refine BC fun nn => ?_
   obtain ⟨i1, i2, i3⟩ := ih b h1
   refine nn ?_; clear nn
   refine ⟨.cons x t i1, ?_, by rw [List.map_cons, ← i3]⟩
   intro y hy
   rcases List.mem_cons.mp hy with rfl | hy
   ·exact o
   ·exact i2 y hy
theorem Fd {vs : List Value} {ss : List Str} (r : PyProof.Rows.StrsAre vs ss) (hs : ∀ x ∈ ss, Ze x) : RpAll prog w P h vs (ss.map .str) := by
 induction r with
 | nil => exact .nil
 | cons y t _ ih => exact .cons (.str y t (hs y (.head _))) (ih fun x m => hs x (.tail _ m))
theorem Bd (a b c : Str) (h1 : leS a b = true) (h2 : leS b c = true) : leS a c = true := by
 unfold leS at *
 simp only [Bool.not_eq_true', decide_eq_false_iff_not] at *
 intro h
 exact h1 (Std.lt_of_le_of_lt (by simpa [List.not_lt] using h2) h)
theorem Iu (a b : Str) : (leS a b || leS b a) = true := by
 unfold leS
 simp only [Bool.or_eq_true, Bool.not_eq_true', decide_eq_false_iff_not]
 by_cases h : b.cps.toList < a.cps.toList
 ·exact .inr fun h' => List.lt_irrefl _ (List.lt_trans h h')
 ·exact .inl h
theorem Mk {a b : Str} (h1 : leS a b = true) (h2 : leS b a = true) : a = b := by
 unfold leS at *
 simp only [Bool.not_eq_true', decide_eq_false_iff_not] at *
 have : a.cps.toList = b.cps.toList := List.le_antisymm (by simpa [List.not_lt] using h1) (by simpa [List.not_lt] using h2)
 obtain ⟨⟨x⟩⟩ := a
 obtain ⟨⟨y⟩⟩ := b
 simp_all
theorem Jc : ∀ (ss : List Str), PyProof.Rows.sortedS ss = true → ss.Pairwise fun a b => leS a b = true
 | [], _ => .nil
 | x :: r, h => by
  have key : ∀ (r : List Str) (p : Str), PyProof.Rows.risingS p r = true → (∀ y ∈ r, leS p y = true) ∧ r.Pairwise fun a b => leS a b = true := by
   intro r
   induction r with
   | nil => intro p _; exact ⟨by simp, .nil⟩
   | cons y r ih =>
    intro p h
    simp only [PyProof.Rows.risingS, BA] at h
    obtain ⟨i1, i2⟩ := ih y h.2
    have hpy : leS p y = true := by
     have h1 := h.1
     rw [PyProof.Rows.ltCps_eq] at h1
     unfold leS
     exact h1
    refine ⟨fun z hz => ?_, List.pairwise_cons.mpr ⟨i1, i2⟩⟩
    rcases List.mem_cons.mp hz with rfl | hz
    ·exact hpy
    ·exact Bd _ _ _ hpy (i1 z hz)
  obtain ⟨h1, h2⟩ := key r x h
  exact List.pairwise_cons.mpr ⟨h1, h2⟩
theorem M5 {ss ss' : List Str} (hp : ss'.Perm ss) (hs : PyProof.Rows.sortedS ss' = true) : ss' = Uj ss :=
 List.Perm.eq_of_pairwise (le := fun a b => leS a b = true) (fun _ _ _ _ => Mk) (Jc _ hs) (List.pairwise_mergeSort Bd Iu ss) (hp.trans (List.mergeSort_perm ss leS).symm)
theorem Ib (ha : SE prog w Γ Φ gs a) : SE prog w Γ Φ gs (.sorted a) := by
 intro cx env P σ A s e d k E ok S ev
 apply Jv ok; intro n np x pos ok
 all_goals
  simp only [okE26, BA, beq_iff_eq] at ok
  refine BC fun nn => ?_
  obtain ⟨⟨rfl, hg⟩, oa⟩ := ok
  refine nn ?_; clear nn
  dsimp only [e_sorted] at ev
  refine Z2 ev fun da ka ea ev => ?_
  refine Du ha oa S hg S.std.std.sorted ea (.inl ⟨_, rfl⟩) fun u s₂ k₂ r => ?_
  obtain ⟨_, rfl⟩ := F8 ev; simp only [so_l] at ev
  split at ev
  ·rename_i ds h64
   rw [Option.map_eq_some_iff] at ev
   refine BC fun nn => ?_
   obtain ⟨ss, hss, ev⟩ := ev
   refine nn ?_; clear nn
   simp only [Prod.mk.injEq] at ev
   obtain ⟨rfl, rfl⟩ := ev
   refine BC fun nn => ?_
   obtain ⟨l, vs, rfl, _, ⟨c, g⟩, z, q⟩ := Zc r.rd
   refine nn ?_; clear nn
   refine BC fun nn => ?_
   obtain ⟨q1, q2, q3⟩ := q.strs hss
   refine nn ?_; clear nn
   have hlen := q.length
   refine PyProof.Rows.sorted_strs ⟨_, g, rfl, _, rfl⟩ q1 (by lia) fun out ss' h1 h2 h3 => ?_
   have e1 := M5 h2 h3
   subst e1
   obtain ⟨ep, he⟩ := PyProof.Rows.sortedAll_at s₂.heap vs out
   have hk : Kp s₂ { s₂ with heap := PyProof.Rows.sortedAll s₂.heap vs out } := ⟨_, _, rfl, fun b o e => PyProof.Rows.sortedAll_old e⟩
   refine ⟨k₂.trans hk, [s₂.heap.objs.size + 1], ?_, by simp, fun a m => ?_⟩
   ·have hall : RpAll prog w P (PyProof.Rows.sortedAll s₂.heap vs out) out.toList ((Uj ss).map .str) := Fd h1 fun x hx => q2 x (h2.mem_iff.mp hx)
    refine .list (vs := out.toList) ⟨ep, by simpa [PyProof.Rows.seqObj] using he⟩ ?_ hall.ow0
    rw [List.length_map, h2.length_eq]
    have e2 : ds.length = ss.length := by rw [q3, List.length_map]
    lia
   ·rw [List.mem_singleton.mp m]
    refine k₂.none ?_
    cases q : s₂.heap.get? (s₂.heap.objs.size + 1) with
    | none => rfl
    | some o => exact absurd (Heap.lt_size q) (Nat.not_lt.mpr (Nat.le_succ _))
  ·cases ev
theorem RpAll.bools {vs : List Value} {ds : List PyData} (r : RpAll prog w P h vs ds) {bs : List Bool} (hs : Zs ds = some bs) : vs = bs.map .bool := by
 induction vs generalizing ds bs with
 | nil => cases r; simp [bs_n, bs_c] at hs; subst hs; rfl
 | cons v vs ih =>
  cases r with
  | cons a b =>
   cases a <;> first | exact nj hs | skip
   rw [bs_c, Option.map_eq_some_iff] at hs
   refine BC fun nn => ?_
   obtain ⟨bs', h1, rfl⟩ := hs
   refine nn ?_; clear nn
   rw [ih b h1]; rfl
theorem Dv {l : Addr} {bs : List Bool} {c : Nat} (hh : A.handled = none) (g : s₂.heap.get? l = some { cls := .type "list", data := .seq (bs.map Value.bool).toArray c })
  {Q : (Nat → Bool) → Nat → Shared → Prop} (hQ : ∀ h' tk, (∀ b o, s₂.heap.get? b = some o → h'.get? b = some o) → Q (fun i => bs.getD i false) bs.length { s₂ with heap := h', toks := tk }) :
  wpAny (model prog w) A.in1 (pyIter (.ref l)) (fun it s₃ => ∃ I fp wr n P St tr, it = .ref I ∧ Walks prog w A.in1 I fp wr n P St ∧ St 0 s₃.heap ∧ TruthOf prog w A.in1 P tr ∧
   ∀ h' tk, (∀ b o, b ∉ wr → s₃.heap.get? b = some o → h'.get? b = some o) → Q tr n { s₃ with heap := h', toks := tk }) E s₂ := by
 have hl : s₂.heap.IsList l (bs.map Value.bool).toArray := ⟨_, g, rfl, _, rfl⟩
 refine wpAny_pyIter_list hl ?_
 have hne : l ≠ s₂.heap.objs.size := Nat.ne_of_lt (Heap.lt_size g)
 refine ⟨_, _, _, _, _, _, fun i => bs.getD i false, rfl, Walks.list (A := A.in1) hh s₂.heap.objs.size l hne (bs.map Value.bool).toArray, ⟨⟨_, Heap.get?_push_size _ rfl, rfl, rfl⟩, hl.push _⟩, ?_, ?_⟩
 ·intro i v s Q E hP hQ
  have : v = .bool (bs.getD i false) := by
   simp only [List.getElem?_toArray, List.getElem?_map, Option.map_eq_some_iff] at hP
   refine BC fun nn => ?_
   obtain ⟨b, hb, rfl⟩ := hP
   refine nn ?_; clear nn
   simp [List.getD, hb]
  subst this
  exact wpAny_truthy_bool hQ
 ·intro h' tk hk
  have := hQ h' tk fun b o e => hk b o (by simp only [List.mem_singleton]; exact Nat.ne_of_lt (Heap.lt_size e)) (Heap.get?_push_of_some _ e)
  simpa using this
theorem B3 : ∀ (bs : List Bool), (List.range bs.length).all (fun i => bs.getD i false) = bs.all id
 | [] => rfl
 | b :: bs => by
  rw [List.length_cons, List.range_succ_eq_map, List.all_cons, List.all_map, List.all_cons]
  have := B3 bs
  simp only [List.getD_cons_zero, id] at this ⊢
  rw [← this]
  congr 1
theorem B2 : ∀ (bs : List Bool), (List.range bs.length).any (fun i => bs.getD i false) = bs.any id
 | [] => rfl
 | b :: bs => by
  rw [List.length_cons, List.range_succ_eq_map, List.any_cons, List.any_map, List.any_cons]
  have := B2 bs
  simp only [List.getD_cons_zero, id] at this ⊢
  rw [← this]
  congr 1
theorem se_all (ha : SE prog w Γ Φ gs a) : SE prog w Γ Φ gs (.all a) := by
 intro cx env P σ A s e d k E ok S ev
 apply N0 ok; intro n np x pos ok
 all_goals
  simp only [okE27, BA, beq_iff_eq] at ok
  refine BC fun nn => ?_
  obtain ⟨⟨rfl, hg⟩, oa⟩ := ok
  refine nn ?_; clear nn
  dsimp only [e_all] at ev
  refine Z2 ev fun da ka ea ev => ?_
  refine Du ha oa S hg S.std.std.all ea (.inl ⟨_, rfl⟩) fun u s₂ k₂ r => ?_
  obtain ⟨_, rfl⟩ := Ps ev; simp only [al_l] at ev
  rw [Option.map_eq_some_iff] at ev
  refine BC fun nn => ?_
  obtain ⟨bs, hbs, ev⟩ := ev
  refine nn ?_; clear nn
  simp only [Prod.mk.injEq] at ev
  obtain ⟨rfl, rfl⟩ := ev
  refine BC fun nn => ?_
  obtain ⟨l, vs, rfl, _, ⟨c, g⟩, z, q⟩ := Zc r.rd
  refine nn ?_; clear nn
  have := q.bools hbs
  subst this
  refine call_all_walk (Dv S.room.handled g (Q := fun tr n s' => Kp s s' ∧ W4 prog w P s.heap s'.heap (.fr 9) (.bool ((List.range n).all tr)) (.bool (bs.all id))) fun h' tk hk => ⟨k₂.trans ⟨_, _, rfl, hk⟩, ?_⟩)
  rw [B3]
  exact W4.leaf rfl (.bool _)
theorem se_any (ha : SE prog w Γ Φ gs a) : SE prog w Γ Φ gs (.any a) := by
 intro cx env P σ A s e d k E ok S ev
 apply Mz ok; intro n np x pos ok
 all_goals
  simp only [okE28, BA, beq_iff_eq] at ok
  refine BC fun nn => ?_
  obtain ⟨⟨rfl, hg⟩, oa⟩ := ok
  refine nn ?_; clear nn
  dsimp only [e_any] at ev
  refine Z2 ev fun da ka ea ev => ?_
  refine Du ha oa S hg S.std.std.any ea (.inl ⟨_, rfl⟩) fun u s₂ k₂ r => ?_
  obtain ⟨_, rfl⟩ := Pq ev; simp only [an_l] at ev
  rw [Option.map_eq_some_iff] at ev
  refine BC fun nn => ?_
  obtain ⟨bs, hbs, ev⟩ := ev
  refine nn ?_; clear nn
  simp only [Prod.mk.injEq] at ev
  obtain ⟨rfl, rfl⟩ := ev
  refine BC fun nn => ?_
  obtain ⟨l, vs, rfl, _, ⟨c, g⟩, z, q⟩ := Zc r.rd
  refine nn ?_; clear nn
  have := q.bools hbs
  subst this
  refine call_any_walk (Dv S.room.handled g (Q := fun tr n s' => Kp s s' ∧ W4 prog w P s.heap s'.heap (.fr 9) (.bool ((List.range n).any tr)) (.bool (bs.any id))) fun h' tk hk => ⟨k₂.trans ⟨_, _, rfl, hk⟩, ?_⟩)
  rw [B2]
  exact W4.leaf rfl (.bool _)
theorem Po {o : Expr} {name : Str} {whole : Sem Value} (hp : X3 o = true) : attributeBase o name env whole = whole := by
 cases o <;> first | rfl | cases hp
theorem se_get (ha : SE prog w Γ Φ gs a) (hb : SE prog w Γ Φ gs b) (hc : SE prog w Γ Φ gs c) : SE prog w Γ Φ gs (.get a b c) := by
 intro cx env P σ A s e d k E ok S ev
 apply Mx ok; intro o m apos y z pos ok
 all_goals
  simp only [okE31, BA, beq_iff_eq] at ok
  refine BC fun nn => ?_
  obtain ⟨⟨⟨⟨⟨rfl, hline⟩, hpb⟩, oa⟩, ob⟩, oc⟩ := ok
  refine nn ?_; clear nn
  dsimp only [e_get] at ev
  refine Z2 ev fun da ka ea ev => ?_
  have ev0 := bind2 ev
  clear ev
  refine BC fun nn => ?_
  obtain ⟨⟨db, kb⟩, ⟨dc, kc⟩, eb, ec, ev⟩ := ev0
  refine nn ?_; clear nn
  refine wpAny_Call_method2_late (Po hpb) (by simpa using hline) (Rv (gs := gs) (cx := cx) pos (.cons b (.cons c .nil)) [y, z] (by simp [Fh, Z5, ob, oc])) ?_
  refine Bx (ha oa S ea) fun v s₁ k₁ r₁ => ?_
  refine BC fun nn => ?_
  obtain ⟨_, _, rfl, rfl⟩ := Aw ev; simp only [ge_d] at ev
  refine nn ?_; clear nn
  split at ev
  ·rename_i kvs xs hy
   simp only [BA] at hy
   simp only [OI] at ev
   apply W4.pairs r₁ S.new hy.1; intro l kvs' hsm hd _ q
   refine ⟨"dict", "dict.get", F.plainAttrs_dict, F.slot_dict_get, F.type_dict_get, hd.typeIs, hd.mapOf.noDict, ?_⟩
   refine wpAny_dict_get2 (knd := strKind prog w) hsm ?_
   refine two hb hc ob oc (S.keeps k₁) eb ec fun u u' s₂ k₂ r₂ r₃ => ?_
   apply Zb r₂.rd; intro t _
   refine ⟨xs, _, strKind_is prog w xs t, (hd.keep k₂.keep).mapOf, ?_⟩
   have hr : Rp prog w P s₂.heap ((valueAt kvs' xs).getD u') ((Wf xs kvs).getD dc) := by
    have hl := q.look xs
    cases hq : Wf xs kvs with
    | none => rw [hl.2 hq]; exact r₃.share (fun a e => S.new a (k₁.none e)) hy.2
    | some d' => obtain ⟨v', e1, r'⟩ := hl.1 d' hq; rw [e1]; exact r'.keeps k₂.keep
   have fin := (W4.of_sh (h := s.heap) hr).mk
   rw [ev] at fin
   exact ⟨(k₁.trans k₂).trans (Kp.tok _), fin⟩
  ·cases ev
theorem Kg : ∀ (ss : List Str), (W8 ss).cps.toList = ss.flatMap (·.cps.toList)
 | [] => rfl
 | x :: r => by
  rw [jS_c, Str.cps_append, Array.toList_append, Kg r, List.flatMap_cons]
theorem Lq : ∀ (ss : List Str), (W8 ss).length = (ss.map (·.length)).sum
 | [] => rfl
 | x :: r => by rw [jS_c, Str.length_append, Lq r, List.map_cons, List.sum_cons]
theorem Dh : ∀ (ss : List Str) (c : Array Nat), (ss.foldl (fun acc p => acc ++ ("" : Str).cps ++ p.cps) c).toList = c.toList ++ ss.flatMap (·.cps.toList)
 | [], c => by simp
 | x :: r, c => by
  rw [List.foldl_cons, Dh r, Array.toList_append, Array.toList_append, List.flatMap_cons]
  have : (("" : Str).cps).toList = [] := by decide
  rw [this]
  simp
theorem S2 : ∀ (ss : List Str), Txt.join ("" : Str) ss = W8 ss := by
 intro ss
 have : (Txt.join ("" : Str) ss).cps.toList = (W8 ss).cps.toList := by
  rw [Kg]
  show ((ss.drop 1).foldl (fun acc p => acc ++ ("" : Str).cps ++ p.cps) (ss.headD Str.empty).cps).toList = _
  rw [Dh]
  cases ss with
  | nil => rfl
  | cons x r => simp
 have h2 : (Txt.join ("" : Str) ss).cps = (W8 ss).cps := Array.toList_inj.mp this
 revert h2
 generalize Txt.join ("" : Str) ss = u
 generalize W8 ss = v
 intro h2
 cases u; cases v; simp_all
theorem se_join (ha : SE prog w Γ Φ gs a) : SE prog w Γ Φ gs (.join a) := by
 intro cx env P σ A s e d k E ok S ev
 apply D6 ok; intro sx kk cpos m apos y pos ok
 all_goals
  simp only [okE32, BA, beq_iff_eq] at ok
  refine BC fun nn => ?_
  obtain ⟨⟨⟨rfl, rfl⟩, hline⟩, oa⟩ := ok
  refine nn ?_; clear nn
  dsimp only [e_join] at ev
  refine Z2 ev fun da ka ea ev => ?_
  refine wpAny_Call_method1_late rfl (by simpa using hline) (Rv (gs := gs) (cx := cx) pos (.cons a .nil) [y] (by simp [Fh, Z5, oa])) ?_
  refine Calls.Constant_str ?_
  refine ⟨"str", "str.join", F.plainAttrs_str, F.slot_str_join, F.type_str_join, typeIs_str _ _ _, fun a q => (nomatch q), ?_⟩
  refine Calls.callWith_builtin rfl (Calls.evalArgs_plain (Calls.spliced_cons (wpAny_mono (ha oa (S.keeps (Kp.tok _)) ea) (fun v s₂ ⟨k₂, r⟩ => Calls.spliced_nil ?_) fun _ _ q => q)))
  obtain ⟨_, rfl⟩ := Cu ev; simp only [jo_l] at ev
  refine bnC ev fun ss hss ev => ?_
  split at ev
  ·rename_i hl
   apply Xu ev
   refine BC fun nn => ?_
   obtain ⟨l, vs, rfl, _, ⟨c, g⟩, z, q⟩ := Zc r.rd
   refine nn ?_; clear nn
   refine BC fun nn => ?_
   obtain ⟨q1, q2, q3⟩ := q.strs hss
   refine nn ?_; clear nn
   refine PyProof.Rows.join_list (ys := ss) ⟨_, g, rfl, _, rfl⟩ q1 ?_ fun t' k => ?_
   ·have h1 := Lq ss
    have h2 : ("" : Str).length = 0 := by decide
    have lm : lim = 100000 := rfl
    rw [h2]
    lia
   ·rw [S2]
    refine ⟨((Kp.tok _).trans k₂).trans (Kp.tok _), W4.leaf rfl (.str _ _ ⟨hl, ?_⟩)⟩
    unfold PyData.strOk
    rw [← Array.all_toList, Kg, List.all_flatMap, List.all_eq_true]
    intro y hy
    have := (q2 y hy).2
    unfold PyData.strOk at this
    rw [← Array.all_toList] at this
    exact this
  ·cases ev
end
theorem Is : typeLookup (.type "list") "keys" = pure none := by rw [typeLookup_type, builtinLookup_eq_fast]; kernel_rfl
theorem O0 {prog : Program} {w : World} {A : Around} {E : Value → Shared → Prop} {s : Shared} {a : Addr} {xs : Array Value} {k : Nat} {Q : Option Value → Shared → Prop}
  (hx : s.heap.get? a = some { cls := .type "list", data := .seq xs k }) (hA : A.handled = none)
  (h : ∀ h' tk, (∀ b o, s.heap.get? b = some o → h'.get? b = some o) → Q none { s with heap := h', toks := tk }) :
  wpAny (model prog w) A (getAttr? (.ref a) "keys") Q E s := by
 refine BC fun nn => ?_
 obtain ⟨hp, g, d, tk, os⟩ := s
 refine nn ?_; clear nn
 have hT : ∀ tk', (⟨hp, g, d, tk', os⟩ : Shared).TypeIs (.ref a) "list" := fun _ => ⟨_, hx, rfl⟩
 have f1 := sub_AttributeError
 have f3 := F.slot_list_getattribute.lookup
 have f4 := F.slot_list_getattribute.bind (.ref a)
 have f5 := am_list_getattr_none
 unfold getAttr? getAttrBy? getAttrBy
 repeat (any_goals (first | assumption | exact hT _ | ((with_reducible show wpAny _ _ (call (Value.builtin "list.__getattribute__") _ _) _ _ _); refine call_meets F.slot_list_getattribute (hT _) am_entry_list_getattribute (F.args_list_getattribute_2 _ _) (meets_getattribute_miss_list a xs k #[] "keys" _ Is (by decide +kernel) (by decide +kernel)) ⟨hx, hA, fun h' tk' e hx' => ?_⟩) | wp_step))
 refine BC fun nn => ?_
 obtain ⟨t', u', he⟩ := hx'.there
 refine nn ?_; clear nn
 show wpAny _ _ (getattributeRaised _ _ _ _ _ _ _) _ _ _
 unfold getattributeRaised
 repeat (any_goals (first | assumption | wp_step))
 exact h _ _ hx'.of.keeps
theorem Xw : entryFor table "dict.update.loop" = some Builtin.«dict.update.loop» := entryFor_of_tree (by kernel_rfl)
theorem Y0 : plainId "dict.update.loop" = true := by decide +kernel
section
variable {prog : Program} {w : World} {A : Around} {E : Value → Shared → Prop} {s : Shared}
theorem Od {h₀ : Heap} {l d I : Addr} {vs : List Value} {pairs : List (Str × Value)} {R : Result → Shared → Prop} (hh : A.handled = none) (hI : h₀.get? I = none) (hd : h₀.get? d = none) (hdI : d ≠ I) (hl : h₀.IsList l vs.toArray)
  (hp : ∀ (j : Nat) (v : Value), vs[j]? = some v → ∃ (k : Str) (tk : Tok) (x : Value) (a : Addr) (n : Nat), pairs[j]? = some (k, x) ∧ v = Value.ref a ∧ h₀.get? a = some { cls := .type "tuple", data := .seq #[.str k tk, x] n }) (hpl : pairs.length = vs.length) :
  ∀ (m i : Nat) (s : Shared) (kvs : List (Str × Value)), m = vs.length - i → i ≤ vs.length → (∀ b o, h₀.get? b = some o → s.heap.get? b = some o) → s.heap.IsListIter I l i → s.heap.DictOf (strKind prog w) d kvs → kvs.length + (vs.length - i) ≤ sizeLine →
   (∀ h' tk, (∀ b o, b ≠ I → b ≠ d → s.heap.get? b = some o → h'.get? b = some o) → h'.DictOf (strKind prog w) d ((pairs.drop i).foldl (fun m p => stored m p.1 p.2) kvs) → R (.ok (.ret .none)) { s with heap := h', toks := tk }) →
   codeAny (model prog w) A (.builtin "dict.update.loop" ⟨[.ref d, .ref I, rawInt i, .none], []⟩) R s := by
 have ne : ∀ {b o}, h₀.get? b = some o → b ≠ I ∧ b ≠ d := fun {b o} e => ⟨(by rintro rfl; rw [hI] at e; cases e), (by rintro rfl; rw [hd] at e; cases e)⟩
 intro m
 induction m with
 | zero =>
  intro i s kvs hm hi hk hit hdict hsz hR
  refine codeAny_builtin Xw ?_
  rw [Around.under_plainId Y0 _]
  unfold Builtin.«dict.update.loop»
  refine wpAny_bind (m := pyNext (.ref I)) (wpAny_pyNext_list_end (A := A.in1) hh hit (hl.at fun o e => hk _ o e) (by simp; lia) fun h' he => ?_)
  show wpAny _ _ (Builtin.Dict.addKeywords d [] >>= _) _ _ _
  refine wpAny_bind (wpAny_pure (wpAny_pure ?_))
  refine hR h' s.toks (fun b o hb _ e => he b o hb e) ?_
  rw [List.drop_of_length_le (by lia)]
  exact Ru hdict fun o e => he _ o hdI e
 | succ m ih =>
  intro i s kvs hm hi hk hit hdict hsz hR
  have hlt : i < vs.length := by lia
  refine BC fun nn => ?_
  obtain ⟨k, tk, x, a, n, e1, e2, e3⟩ := hp i vs[i] (List.getElem?_eq_getElem hlt)
  refine nn ?_; clear nn
  refine codeAny_builtin Xw ?_
  rw [Around.under_plainId Y0 _]
  unfold Builtin.«dict.update.loop»
  refine wpAny_bind (m := pyNext (.ref I)) (wpAny_pyNext_list_item hit (hl.at fun o e => hk _ o e) (x := vs[i]) (by simp [hlt]) fun h₁ hit₁ hs₁ => ?_)
  rw [e2]
  refine wpAny_bind (wpAny_holding ?_)
  have ha : h₁.get? a = some { cls := .type "tuple", data := .seq #[.str k tk, x] n } := by rw [hs₁.2 a (ne e3).1]; exact hk _ _ e3
  refine wpAny_bind (wpAny_tryCatch (m := Builtin.Dict.pairItems (.ref a)) ?_)
  unfold Builtin.Dict.pairItems
  refine wpAny_bind (wpAny_typeOf (s := { s with heap := h₁ }) (T := "tuple") ⟨_, ha, rfl⟩ ?_)
  rw [if_pos (by decide)]
  refine wpAny_bind (wpAny_seqItems (s := { s with heap := h₁ }) ha rfl (wpAny_pure ?_))
  show wpAny _ _ (holding [.str k tk, x] (dictSet d (.str k tk) x)) _ _ _
  refine wpAny_holding (wpAny_dictSet_pairs (s := { s with heap := h₁ }) (strKind_is prog w k tk) (Ru hdict fun o e => by rw [hs₁.2 d hdI]; exact e) (fun h₂ hd₂ hs₂ => ?_) (by lia))
  have eI : rawInt ((i : Int) + 1) = rawInt ((i + 1 : Nat) : Int) := by simp
  refine wpAny_pure ⟨plainId_quiet Y0 _, ?_⟩
  rw [eI]
  refine ih (i + 1) _ (stored kvs k x) (by lia) (by lia) (fun b o e => ?_) ?_ hd₂ ?_ fun h' tk' hk' hd' => ?_
  ·show h₂.get? b = some o
   rw [hs₂.2 b (ne e).2, hs₁.2 b (ne e).1]
   exact hk b o e
  ·refine BC fun nn => ?_
   obtain ⟨o, ho, r⟩ := hit₁
   refine nn ?_; clear nn
   exact ⟨o, by show h₂.get? I = some o; rw [hs₂.2 I (Ne.symm hdI)]; exact ho, r⟩
  ·have : (stored kvs k x).length ≤ kvs.length + 1 := by
    unfold stored
    split
    ·rw [List.length_map]; lia
    ·rw [List.length_append]; simp
   lia
  ·refine hR h' tk' (fun b o h1 h2 e => hk' b o h1 h2 ?_) ?_
   ·show h₂.get? b = some o
    rw [hs₂.2 b h2, hs₁.2 b h1]; exact e
   ·have : pairs.drop i = (k, x) :: pairs.drop (i + 1) := by
     have hlt' : i < pairs.length := by lia
     rw [List.drop_eq_getElem_cons hlt']
     rw [List.getElem?_eq_getElem hlt'] at e1
     rw [Option.some.inj e1]
    rw [this, List.foldl_cons]
    exact hd'
theorem Ni {l : Addr} {vs : List Value} {n : Nat} {pairs : List (Str × Value)} {Q : Value → Shared → Prop} (g : s.heap.get? l = some { cls := .type "list", data := .seq vs.toArray n }) (hA : A.handled = none)
  (hp : ∀ (j : Nat) (v : Value), vs[j]? = some v → ∃ (k : Str) (tk : Tok) (x : Value) (a : Addr) (n : Nat), pairs[j]? = some (k, x) ∧ v = Value.ref a ∧ s.heap.get? a = some { cls := .type "tuple", data := .seq #[.str k tk, x] n }) (hpl : pairs.length = vs.length) (hsz : vs.length ≤ sizeLine)
  (h : ∀ h' tk, (∀ b o, s.heap.get? b = some o → h'.get? b = some o) → h'.DictOf (strKind prog w) s.heap.objs.size (pairs.foldl (fun m p => stored m p.1 p.2) []) → Q (.ref s.heap.objs.size) { s with heap := h', toks := tk }) :
  wpAny (model prog w) A (call (.type "dict") [.ref l]) Q E s := by
 refine callType_codes (Q₁ := fun obj s₁ => obj = .ref s.heap.objs.size ∧ s₁ = { s with heap := s.heap.push { cls := .type "dict", data := .dict #[] } }) F.kt_called_dict (F.kt_typeCall_dict_1 _) F.entry_dict_init (kt_code_dict_new _ ⟨rfl, rfl⟩) ?_
 rintro obj s₁ ⟨rfl, rfl⟩
 have hnew : (s.heap.push { cls := .type "dict", data := .dict #[] }).DictOf (strKind prog w) s.heap.objs.size [] := Heap.DictOf.new s.heap
 refine ⟨hnew.typeIs, F.args_dict_init_2 _ _, ?_⟩
 unfold Builtin.«dict.__init__»
 refine wpAny_bind ?_
 unfold Builtin.Dict.selfAndRest
 refine wpAny_bind (wpAny_notOrdered_dict hnew.typeIs ?_)
 show wpAny _ _ (pure (s.heap.objs.size, [Value.ref l])) _ _ _
 refine wpAny_pure ?_
 show wpAny _ _ (Builtin.Dict.updateFrom "dict.__init__" s.heap.objs.size (.ref l) [] .none) _ _ _
 have g' : (s.heap.push { cls := .type "dict", data := .dict #[] }).get? l = some { cls := .type "list", data := .seq vs.toArray n } := Heap.get?_push_of_some _ g
 have gl : (s.heap.push { cls := .type "dict", data := .dict #[] }).IsList l vs.toArray := ⟨_, g', rfl, n, rfl⟩
 have Tm : ∀ a, s.heap.objs.size ≤ a → s.heap.get? a = none := fun a ha => by
  cases q : s.heap.get? a with
  | none => rfl
  | some o => exact absurd (Heap.lt_size q) (Nat.not_lt.mpr ha)
 unfold Builtin.Dict.updateFrom
 refine wpAny_bind (wpAny_typeOf (Heap.IsList.typeIs gl) ?_)
 rw [if_pos (by decide)]
 refine wpAny_bind (O0 g' hA fun h' tk hk => ?_)
 refine wpAny_ite ?_
 rw [if_pos (show ((none : Option Value).isNone = true) from rfl)]
 refine wpAny_bind (wpAny_rule (wpAny_bind (wpAny_pyIter_list (gl.at fun o e => hk _ o e) (wpAny_pure ⟨plainId_quiet Y0 _, ?_⟩))))
 have hds : s.heap.objs.size < h'.objs.size := by
  have := hk s.heap.objs.size _ (Heap.get?_push_size _ rfl)
  exact Heap.lt_size this
 refine Od (A := A.in1) (h₀ := s.heap) (l := l) (vs := vs) (pairs := pairs) hA (Tm _ (Nat.le_of_lt hds)) (Tm _ (Nat.le_refl _)) (Nat.ne_of_lt hds) ⟨_, g, rfl, n, rfl⟩ hp hpl vs.length 0 _ [] (by lia) (Nat.zero_le _) ?_ ?_ ?_ (by simpa using hsz) ?_
 ·intro b o e
  exact Heap.get?_push_of_some _ (hk b o (Heap.get?_push_of_some _ e))
 ·exact ⟨_, Heap.get?_push_size _ rfl, rfl, rfl⟩
 ·exact Ru hnew fun o e => Heap.get?_push_of_some _ (hk _ o e)
 ·intro h₂ tk₂ hk₂ hd₂
  refine ⟨rfl, h h₂ tk₂ (fun b o e => ?_) (by simpa using hd₂)⟩
  have hlt := Heap.lt_size e
  exact hk₂ b o (Nat.ne_of_lt (Nat.lt_trans hlt hds)) (Nat.ne_of_lt hlt) (Heap.get?_push_of_some _ (hk b o (Heap.get?_push_of_some _ e)))
end
section
variable {prog : Program} {w : World} {Γ : Gd} {Φ : Fns} {gs : Str → Option Str} {cx : Cx} {env : Env} {P : Addr → Prop} {σ : Sg} {A : Around} {s s' s₁ s₂ : Shared} {E : Value → Shared → Prop} {a b c : Ex} {e x y : Expr} {d : PyData} {k : Kd} {h h' : Heap}
theorem any_key (kvs : List (Str × Value)) (kds : List (PyData × PyData)) (r : RpKv prog w P h kvs kds) (k : Str) : kvs.any (fun kv => decide (kv.1 = k)) = (Wf k kds).isSome := by
 apply RpKv.ind r
 ·rfl
 ·intro j v kvs d kds _ _ _ ih
  rw [List.any_cons, ih, Ak]
  by_cases hx : j = k
  ·simp [hx]
  ·simp [hx]
theorem RpKv.set {kvs : List (Str × Value)} {kds : List (PyData × PyData)} (r : RpKv prog w P h kvs kds) {k : Str} {v : Value} (rv : Rp prog w P h v d) :
  RpKv prog w P h (kvs.map fun kv => if kv.1 = k then (kv.1, v) else kv) (Uv k d kds) := by
 apply RpKv.ind r
 ·exact .nil
 ·intro j v' kvs d' kds hk hv _ ih
  rw [List.map_cons, sd_c]
  by_cases hx : j = k
  ·simp only [if_pos hx]; exact .cons hk rv ih
  ·simp only [if_neg hx]; exact .cons hk hv ih
theorem RpKv.snoc {kvs : List (Str × Value)} {kds : List (PyData × PyData)} (r : RpKv prog w P h kvs kds) {k : Str} {v : Value} (hk : Ze k) (rv : Rp prog w P h v d) : RpKv prog w P h (kvs ++ [(k, v)]) (kds ++ [(.str k, d)]) := by
 apply RpKv.ind r
 ·exact .cons hk rv .nil
 ·intro _ _ _ _ _ hj hv _ ih; exact .cons hj hv ih
theorem RpKv.put {kvs : List (Str × Value)} {kds : List (PyData × PyData)} (r : RpKv prog w P h kvs kds) {k : Str} {v : Value} (hk : Ze k) (rv : Rp prog w P h v d) : RpKv prog w P h (stored kvs k v) (Xe kds k d) := by
 unfold stored Xe
 have := any_key kvs kds r k
 by_cases hl : (Wf k kds).isSome = true
 ·rw [if_pos (by rw [this]; exact hl), if_pos hl]; exact r.set rv
 ·rw [if_neg (by rw [this]; exact hl), if_neg hl]; exact r.snoc hk rv
theorem U5 (k : Str) (d : PyData) : ∀ kds, (Uv k d kds).length = kds.length
 | [] => rfl
 | (.str j, e) :: r => congrArg (· + 1) (U5 k d r)
 | (.none, e) :: r | (.bool _, e) :: r | (.int _, e) :: r | (.list _, e) :: r | (.tuple _, e) :: r | (.dict _, e) :: r => congrArg (· + 1) (U5 k d r)
theorem H4 (k : Str) (d : PyData) (kds : List (PyData × PyData)) : (Xe kds k d).length ≤ kds.length + 1 := by
 unfold Xe
 split
 ·rw [U5]; lia
 ·simp
theorem Mb {d : PyData} {r acc kds} (h : Ug (d :: r) acc = some kds) : ∃ k v, d = .tuple [.str k, v] := by
 cases d with
 | tuple l =>
  cases l with
  | nil => exact nj h
  | cons x l =>
   cases x <;> first | exact nj h | skip
   cases l with
   | nil => exact nj h
   | cons v l =>
    cases l with
    | nil => exact ⟨_, _, rfl⟩
    | cons => exact nj h
 | _ => exact nj h
theorem Cj : ∀ (vs : List Value) (ds : List PyData), RpAll prog w P h vs ds → ∀ (acc : List (PyData × PyData)) (kds : List (PyData × PyData)), Ug ds acc = some kds → ∃ pairs : List (Str × Value),
  pairs.length = vs.length ∧ (∀ (j : Nat) (v : Value), vs[j]? = some v → ∃ (k : Str) (tk : Tok) (x : Value) (a : Addr) (n : Nat), pairs[j]? = some (k, x) ∧ v = Value.ref a ∧ h.get? a = some { cls := .type "tuple", data := .seq #[.str k tk, x] n }) ∧
  (∀ h' kvs, (∀ b o, h.get? b = some o → h'.get? b = some o) → RpKv prog w P h' kvs acc → RpKv prog w P h' (pairs.foldl (fun m p => stored m p.1 p.2) kvs) kds) ∧ kds.length ≤ acc.length + ds.length
 | [], _, r, acc, kds, hp => by
  cases r
  simp only [pa_n, pa_c, OI] at hp
  subst hp
  exact ⟨[], rfl, by simp, fun _ _ _ q => q, by simp⟩
 | v :: vs, _, .cons a b, acc, kds, hp => by
  rename_i d ds
  obtain ⟨k, dv, rfl⟩ := Mb hp
  rw [pa_c] at hp
  refine BC fun nn => ?_
  obtain ⟨pairs, h1, h2, h3, h4⟩ := Cj vs ds b _ _ hp
  refine nn ?_; clear nn
  refine BC fun nn => ?_
  obtain ⟨t, us, rfl, _, ⟨n, g⟩, _, q⟩ := Gm a
  refine nn ?_; clear nn
  cases q with
  | cons q1 q2 =>
   cases q2 with
   | cons q3 q4 =>
    cases q4
    refine BC fun nn => ?_
    obtain ⟨tk, rfl, ok⟩ := Gn q1
    refine nn ?_; clear nn
    rename_i x
    refine ⟨(k, x) :: pairs, by simp [h1], fun j v hv => ?_, fun h' kvs hk r => ?_, ?_⟩
    ·cases j with
     | zero => simp only [GZ, OI] at hv; subst hv; exact ⟨k, tk, x, t, n, rfl, rfl, g⟩
     | succ j => simpa using h2 j v (by simpa using hv)
    ·rw [List.foldl_cons]
     exact h3 h' _ hk (r.put ok (q3.keeps hk))
    ·have := H4 k dv acc
     simp only [List.length_cons]
     lia
theorem Ic (hlow : ∀ (h : Heap), GOk Γ h → sysModules < h.objs.size) (ha : SE prog w Γ Φ gs a) : SE prog w Γ Φ gs (.dictOf a) := by
 intro cx env P σ A s e d k E ok S ev
 apply Jw ok; intro n np x pos ok
 all_goals
  simp only [okE30, BA, beq_iff_eq] at ok
  refine BC fun nn => ?_
  obtain ⟨⟨rfl, hg⟩, oa⟩ := ok
  refine nn ?_; clear nn
  dsimp only [e_dictOf] at ev
  refine Z2 ev fun da ka ea ev => ?_
  refine Du ha oa S hg S.std.std.dict ea (.inr ⟨_, rfl⟩) fun u s₂ k₂ r => ?_
  obtain ⟨_, rfl⟩ := Fm ev; simp only [do_l] at ev
  rename_i ds
  split at ev
  ·rename_i hsh
   rw [Option.map_eq_some_iff] at ev
   refine BC fun nn => ?_
   obtain ⟨kds, hkd, ev⟩ := ev
   refine nn ?_; clear nn
   simp only [Prod.mk.injEq] at ev
   obtain ⟨rfl, rfl⟩ := ev
   refine BC fun nn => ?_
   obtain ⟨l, vs, rfl, _, ⟨c, g⟩, z, q⟩ := Zc (r.share S.new hsh)
   refine nn ?_; clear nn
   refine BC fun nn => ?_
   obtain ⟨pairs, h1, h2, h3, h4⟩ := Cj vs ds q [] kds hkd
   refine nn ?_; clear nn
   have hlen := q.length
   refine Ni g S.room.handled h2 h1 (by rw [hlen]; exact Nat.le_trans z Tw) fun h' tk hk hd => ?_
   refine ⟨k₂.trans ⟨h', tk, rfl, hk⟩, [s₂.heap.objs.size], ?_, by simp, fun a m => ?_⟩
   ·refine .dict ?_ hd (by simp at h4; lia) (RpKv.ow0 (h3 h' [] hk .nil))
    have := hlow _ (S.ground.keeps k₂.keep)
    simp only [beq_eq_false_iff_ne, ne_eq]
    exact Nat.ne_of_gt this
   ·rw [List.mem_singleton.mp m]
    refine k₂.none ?_
    cases q : s₂.heap.get? s₂.heap.objs.size with
    | none => rfl
    | some o => exact absurd (Heap.lt_size q) (Nat.lt_irrefl _)
  ·cases ev
theorem RpKv.length {kvs : List (Str × Value)} {kds : List (PyData × PyData)} (r : RpKv prog w P h kvs kds) : kvs.length = kds.length := by
 apply RpKv.ind r
 ·rfl
 ·intro _ _ _ _ _ _ _ _ ih; exact congrArg (· + 1) ih
theorem RpKv.at {kvs : List (Str × Value)} {kds : List (PyData × PyData)} (r : RpKv prog w P h kvs kds) {j : Nat} {p : PyData × PyData} (hp : kds[j]? = some p) :
  ∃ k v, kvs[j]? = some (k, v) ∧ p.1 = .str k ∧ Ze k ∧ Rp prog w P h v p.2 := by
 revert j; apply RpKv.ind r
 ·intro j hp; exact nj hp
 ·intro x v vs d ds hk hv _ ih j hp
  cases j with
  | zero => exact ⟨x, v, rfl, Option.some.inj hp ▸ ⟨rfl, hk, hv⟩⟩
  | succ j => exact ih hp
theorem Ce {vs : List Value} {ds : List PyData} (hl : vs.length = ds.length) (hr : ∀ (j : Nat) d, ds[j]? = some d → ∃ v, vs[j]? = some v ∧ Rp prog w P h v d) : RpAll prog w P h vs ds := by
 induction vs generalizing ds with
 | nil => cases ds with | nil => exact .nil | cons => simp at hl
 | cons v vs ih =>
  cases ds with
  | nil => simp at hl
  | cons d ds =>
   refine BC fun nn => ?_
   obtain ⟨u, e, r⟩ := hr 0 d rfl
   refine nn ?_; clear nn
   simp only [GZ, OI] at e
   subst e
   exact .cons r (ih (by simpa using hl) fun j d hd => by simpa using hr (j + 1) d (by simpa using hd))
theorem se_items (ha : SE prog w Γ Φ gs a) : SE prog w Γ Φ gs (.items a) := by
 intro cx env P σ A s e d k E ok S ev
 refine BC fun nn => ?_
 obtain ⟨n, np, o, m, apos, pos', pos, rfl⟩ := Cv ok
 refine nn ?_; clear nn
 all_goals
   replace ok : (n == ("list" : Str) && cx.glob n && m == ("items" : Str) && apos.endLine == pos'.line && X3 o && okE gs cx a o) = true := ok
   simp only [BA, beq_iff_eq] at ok
   refine BC fun nn => ?_
   obtain ⟨⟨⟨⟨⟨rfl, hg⟩, rfl⟩, hline⟩, hpb⟩, oa⟩ := ok
   refine nn ?_; clear nn
   dsimp only [e_items] at ev
   refine Z2 ev fun da ka ea ev => ?_
   show wpAny _ _ (do callWith pos (← eval (.Name "list" np) env) [] (backTo pos (starEach [.Call (.Attribute o "items" apos) [] [] pos'] env)) (backToKw pos (keywordEach [] env))) _ _ _
   refine wpAny_bind (Lo S hg S.std.std.list ?_)
   refine callWith_type rfl (Calls.evalArgs_plain (Calls.spliced_cons ?_))
   refine wpAny_Call_method0_late (Po hpb) (by simpa using hline) ?_
   refine Bx (ha oa S ea) fun v s₁ k₁ r₁ => ?_
   obtain ⟨_, rfl⟩ := N2 ev; simp only [is_d] at ev
   rename_i kds
   split at ev
   ·rename_i hrd
    simp only [OI, Prod.mk.injEq] at ev
    obtain ⟨rfl, rfl⟩ := ev
    apply W4.pairs r₁ S.new hrd; intro l kvs hsm hd z q
    refine ⟨"dict", "dict.items", F.plainAttrs_dict, F.slot_dict_items, F.type_dict_items, hd.typeIs, hd.mapOf.noDict, ?_⟩
    refine Calls.callWith_builtin rfl (evalArgs_none ?_)
    refine call_meetsIn F.slot_dict_items hd.typeIs F.entry_dict_items (F.args_dict_items_1 _) (meets_dict_items (strKind prog w) l hsm) ⟨⟨kvs, hd⟩, ?_⟩
    refine Calls.spliced_nil ?_
    have hlen := q.length
    obtain ⟨ep, hat⟩ := (hd.push { cls := .type "dict_items", data := .fields #[.ref l] }).dictAt
    refine PySem.W.kdx_call (knd := strKind prog w) (kvs := kvs) (ep := ep) (d := l) S.room.handled ⟨_, Heap.get?_push_size _ rfl, rfl, rfl⟩ hat (by rw [hlen]; exact Nat.le_trans z Tw) fun h' tk acc c as hk hS hl hG hacc => ?_
    have hk' : ∀ b o, s₁.heap.get? b = some o → h'.get? b = some o := fun b o e => hk b o (Heap.get?_push_of_some _ e)
    have hn' : ∀ x, s₁.heap.objs.size ≤ x → s.heap.get? x = none := fun x hx => k₁.none (by
     cases q : s₁.heap.get? x with
     | none => rfl
     | some o => exact absurd (Heap.lt_size q) (Nat.not_lt.mpr hx))
    have hsz : (s₁.heap.push { cls := .type "dict_items", data := .fields #[.ref l] }).objs.size = s₁.heap.objs.size + 1 := Heap.size_push ..
    refine ⟨k₁.trans ⟨h', tk, rfl, hk'⟩, [s₁.heap.objs.size + 1], ?_, by simp, fun a m => ?_⟩
    ·have hS' : h'.get? (s₁.heap.objs.size + 1) = some { cls := .type "list", data := .seq acc c } := by rw [← hsz]; exact hS
     have e0 : (Value.ref (s₁.heap.push { cls := .type "dict_items", data := .fields #[.ref l] }).objs.size) = .ref (s₁.heap.objs.size + 1) := by rw [hsz]
     rw [e0]
     have hacc' : acc = acc.toList.toArray := by simp
     refine .list (vs := acc.toList) ⟨c, by rw [← hacc']; exact hS'⟩ (by rw [List.length_map]; exact z) (RpAll.ow0 (Ce (by rw [hacc, List.length_map, List.length_map, hl, hlen]) fun j d hd' => ?_))
     rw [List.getElem?_map, Option.map_eq_some_iff] at hd'
     refine BC fun nn => ?_
     obtain ⟨p, hp, rfl⟩ := hd'
     refine nn ?_; clear nn
     refine BC fun nn => ?_
     obtain ⟨key, v, e1, e2, e3, e4⟩ := q.at hp
     refine nn ?_; clear nn
     have hj : j < as.length := by
      rw [hl]
      rcases Nat.lt_or_ge j kvs.length with h | h
      ·exact h
      ·rw [List.getElem?_eq_none h] at e1; cases e1
     refine BC fun nn => ?_
     obtain ⟨kv, k', x', f1, f2, f3⟩ := hG.pairs j as[j] (List.getElem?_eq_getElem hj)
     refine nn ?_; clear nn
     rw [e1] at f1
     simp only [OI, Prod.mk.injEq] at f1
     obtain ⟨rfl, rfl⟩ := f1
     obtain ⟨t, rfl⟩ := Value.isStrOf_shape f2
     refine ⟨.ref as[j], by rw [hacc, List.getElem?_map, List.getElem?_eq_getElem hj]; rfl, ?_⟩
     have hab : s₁.heap.objs.size ≤ as[j] := by
      have h1 := hG.above _ (List.getElem_mem hj)
      rw [hsz] at h1
      exact Nat.le_of_lt (Nat.lt_of_succ_lt h1)
     refine .tuple (vs := [.str key t, v]) (S.new _ (hn' _ hab)) ⟨0, f3⟩ (by show 2 ≤ lim; decide) ?_
     refine .cons (by rw [e2]; exact .str _ _ e3) (.cons (e4.keeps hk') .nil)
    ·rw [List.mem_singleton.mp m]; exact hn' _ (Nat.le_succ _)
   ·cases ev
end
section
variable {prog : Program} {w : World} {Γ : Gd} {Φ : Fns} {gs : Str → Option Str} {cx : Cx} {env : Env} {P : Addr → Prop} {σ : Sg} {A : Around} {s s' s₁ s₂ : Shared} {E : Value → Shared → Prop} {a b c : Ex} {e x y : Expr} {d : PyData} {k : Kd} {h h' : Heap}
theorem Nr (hn : ∀ a, h.get? a = none → P a) : ∀ (rs : List Res) (ns : List Nat) (ds : List PyData) (vals : List Value), Yp rs ns = some ds → ResAll prog w P h h' vals rs → ArgsOk prog w P h' ns vals ds
 | [], [], ds, vals, ha, r => by
  simp only [ar_n, OI] at ha
  subst ha
  cases r
  exact .nil
 | [], _ :: _, _, _, ha, _ => (none_ne ha).elim
 | (_, .fr _) :: _, [], _, _, ha, _ => (none_ne ha).elim
 | (_, .bor _) :: _, [], _, _, ha, _ => (none_ne ha).elim
 | (d, .fr j) :: rs, n :: ns, ds, vals, ha, r => by
  simp only [ar_f, Option.map_eq_some_iff] at ha
  refine BC fun nn => ?_
  obtain ⟨ds', h1, rfl⟩ := ha
  refine nn ?_; clear nn
  cases r with
  | cons x r => exact .cons ⟨0, [], Nat.zero_le _, (x.share hn rfl).ow⟩ (Nr hn rs ns ds' _ h1 r)
 | (d, .bor j) :: rs, n :: ns, ds, vals, ha, r => by
  simp only [ar_b] at ha
  split at ha
  ·rename_i hj
   rw [Option.map_eq_some_iff] at ha
   refine BC fun nn => ?_
   obtain ⟨ds', h1, rfl⟩ := ha
   refine nn ?_; clear nn
   cases r with
   | cons x r =>
    obtain ⟨F, o⟩ := x
    exact .cons ⟨j, F, hj, o⟩ (Nr hn rs ns ds' _ h1 r)
  ·cases ha
theorem se_call (f : Nat) (es : ExL) (hs : V1 prog w Γ Φ gs es) : SE prog w Γ Φ gs (.call f es) := by
 intro cx env P σ A s e d k E ok S ev
 apply D9 ok; intro g np xs pos ok
 simp only [okE24, BA, beq_iff_eq, decide_eq_true_eq] at ok
 refine BC fun nn => ?_
 obtain ⟨⟨⟨⟨hf, htop⟩, hg⟩, hne⟩, okl⟩ := ok
 refine nn ?_; clear nn
 dsimp only [e_call] at ev
 refine bnC ev fun rs ers ev => ?_
 refine bnC ev fun ds eds ev => ?_
 rw [Option.map_eq_some_iff] at ev
 refine BC fun nn => ?_
 obtain ⟨⟨d', k'⟩, esem, ev⟩ := ev
 refine nn ?_; clear nn
 refine BC fun nn => ?_
 obtain ⟨a, o, fd, ha, ho, hfd⟩ := S.std.fn f g hf
 refine nn ?_; clear nn
 show wpAny _ _ (do callWith pos (← eval (.Name g np) env) [] (backTo pos (starEach xs env)) (backToKw pos (keywordEach [] env))) _ _ _
 refine wpAny_bind (H8 S hg ha ?_)
 rw [Rv pos es xs okl]
 refine Calls.callWith_function (o := o) (fd := fd) ?_
 have fin : wpAny (model prog w) A (spliced (xs.map fun x => (false, eval x env))) (fun vs s₁ => (s₁.heap.get? a = some o ∧ o.data = .func fd) ∧ wpAny (model prog w) A (call (.ref a) ([] ++ vs) []) (fun v s' => Kp s s' ∧ W4 prog w P s.heap s'.heap k v d) E s₁) E s := by
  refine wpAny_mono (Jq es xs hs okl S ers) (fun vs s₁ ⟨k₁, r₁⟩ => ?_) fun _ _ q => q
  have S₁ := S.keeps k₁
  refine ⟨⟨S₁.ground.obj a o ho, hfd⟩, wpAny_call (codeAny_mono (S.fnOk f htop g a hf ha A s₁ ([] ++ vs) ds P d' k' (S.room.less htop) S₁.ground (Nr S.new rs _ ds vs eds r₁) esem S₁.new) fun r s' q => ?_)⟩
  refine BC fun nn => ?_
  obtain ⟨v, rfl, k₂, r₂⟩ := q
  refine nn ?_; clear nn
  have q := (r₂.from (h := s.heap) fun _ => k₁.none).mk
  rw [ev] at q
  exact ⟨k₁.trans k₂, q⟩
 cases xs with
 | nil => simp at hne
 | cons x xs => exact Calls.evalArgs_plain fin
theorem C1 {xs : List Expr} {cenv : Env} {Q : Bool → Shared → Prop} (hQ : Q false s) :
  wpAny (model prog w) A (forIn xs false fun c r => if r = true then do let ok ← isTrue c cenv (eval c cenv); pure (ForInStep.yield ok) else pure (ForInStep.yield r)) Q E s := by
 induction xs with
 | nil => exact wpAny_pure hQ
 | cons x xs ih =>
  rw [List.forIn_cons]
  exact wpAny_bind (wpAny_pure ih)
theorem Gg : ∀ (es : ExL) (xs : List Expr) {s : Shared} {b : Bool}, V1 prog w Γ Φ gs es → okL gs cx es xs = true → St0 prog w Γ Φ gs cx env P σ A s → Ub Φ es σ = some b →
  wpAny (model prog w) A (forIn xs true fun c r => if r = true then do let ok ← isTrue c env (eval c env); pure (ForInStep.yield ok) else pure (ForInStep.yield r)) (fun ok s' => ok = b ∧ Kp s s') E s
 | .nil, [], s, b, _, _, _, ev => by
  simp only [ifs_n, ifs_c, OI] at ev
  subst ev
  exact wpAny_pure ⟨rfl, Kp.refl⟩
 | .nil, _ :: _, _, _, _, ok, _, _ => by simp [Z5, Fg, Ff] at ok
 | .cons _ _, [], _, _, _, ok, _, _ => by simp [Z5, Fg, Ff] at ok
 | .cons e es, x :: xs, s, b, hs, ok, S, ev => by
  simp only [Fh, Z5, BA] at ok
  rw [ifs_c, OE] at ev
  refine BC fun nn => ?_
  obtain ⟨c, hc, ev⟩ := ev
  refine nn ?_; clear nn
  refine exC (Tp hc) fun k hk => ?_
  rw [List.forIn_cons]
  refine wpAny_bind ?_
  rw [if_pos rfl]
  refine wpAny_bind (wpAny_mono (hs.1.2 ok.1 S hk) (fun r s₁ q => ?_) fun _ _ q => q)
  obtain ⟨rfl, k₁⟩ := q
  refine wpAny_pure ?_
  cases r with
  | true => exact wpAny_mono (Gg es xs hs.2 ok.2 (S.keeps k₁) (by simpa using ev)) (fun r s₂ q => ⟨q.1, k₁.trans q.2⟩) fun _ _ q => q
  | false =>
   have : b = false := by simpa using ev.symm
   subst this
   exact C1 ⟨rfl, k₁⟩
noncomputable def Z7 (cells : List (Str × Addr)) : List (Str × NameKind) → List (Str × Addr) → List (Str × Addr)
 | [], acc => acc
 | (n, k) :: r, acc => if k == .free then Z7 cells r ((n, (cells.lookup n).getD 0) :: acc) else Z7 cells r acc
theorem Pm {cells : List (Str × Addr)} {n k r acc} : Z7 cells ((n, k) :: r) acc = if k == .free then Z7 cells r ((n, (cells.lookup n).getD 0) :: acc) else Z7 cells r acc := rfl
theorem Fr {names : List (Str × NameKind)} (hc : ∀ n, (n, NameKind.free) ∈ names → ∃ c, env.cells.lookup n = some c) : ∀ (acc : List (Str × Addr)),
  (forIn names acc fun (x : Str × NameKind) cs => (if (x.2 == .free) = true then do let c ← cellOf env x.1; pure (ForInStep.yield ((x.1, c) :: cs)) else pure (ForInStep.yield cs) : Sem (ForInStep (List (Str × Addr))))) = pure (Z7 env.cells names acc) := by
 induction names with
 | nil => intro acc; rfl
 | cons x r ih =>
  intro acc
  obtain ⟨n, k⟩ := x
  have ih' := ih fun m hm => hc m (.tail _ hm)
  rw [List.forIn_cons]
  by_cases hk : (k == NameKind.free) = true
  ·have hk' : k = .free := by simpa using hk
   subst hk'
   obtain ⟨c, hcc⟩ := hc n (.head _)
   simp only [Pm, hk, if_true, cellOf, hcc, pure_bind, Option.getD_some]
   exact ih' _
  ·simp only [Pm, hk, if_false, BF, pure_bind]
   exact ih' _
theorem Zj (cells : List (Str × Addr)) : ∀ (names : List (Str × NameKind)) (acc : List (Str × Addr)) (n : Str) (c : Addr), (∀ m, (m, NameKind.free) ∈ names → ∃ e, cells.lookup m = some e) → cells.lookup n = some c → (∀ m e, acc.lookup m = some e → cells.lookup m = some e) →
  ((n, NameKind.free) ∈ names ∨ acc.lookup n = some c) → (Z7 cells names acc).lookup n = some c
 | [], acc, n, c, _, _, _, h => by
  rcases h with h | h
  ·cases h
  ·exact h
 | (m, k) :: r, acc, n, c, hall, hc, ha, h => by
  rw [Pm]
  by_cases hk : (k == NameKind.free) = true
  ·have hk' : k = .free := by simpa using hk
   subst hk'
   rw [if_pos hk]
   obtain ⟨e0, he0⟩ := hall m (.head _)
   refine Zj cells r _ n c (fun p hp => hall p (.tail _ hp)) hc (fun p e he => ?_) ?_
   ·by_cases hp : p = m
    ·subst hp; simp [he0] at he; subst he; exact he0
    ·refine ha p e ?_
     rw [List.lookup_cons] at he
     have : (p == m) = false := by simpa using hp
     simpa [this] using he
   ·by_cases hmn : m = n
    ·subst hmn; right; simp [hc]
    ·rcases h with h | h
     ·rcases List.mem_cons.mp h with h | h
      ·exact absurd (congrArg Prod.fst h).symm hmn
      ·exact .inl h
     ·right
      rw [List.lookup_cons]
      have : (n == m) = false := by simpa using fun q => hmn q.symm
      simpa [this] using h
  ·rw [if_neg hk]
   refine Zj cells r acc n c (fun p hp => hall p (.tail _ hp)) hc ha ?_
   rcases h with h | h
   ·rcases List.mem_cons.mp h with h | h
    ·have : k = .free := (congrArg Prod.snd h).symm
     subst this
     simp at hk
    ·exact .inl h
   ·exact .inr h
theorem Rw {scope : Scope} (hs : cx.scopeOk scope = true) : scope.kind = .function ∧ (∀ y ∈ scope.names, y.2 ≠ .cell) ∧ (∀ y ∈ scope.names, y.2 = .local → scope.names.lookup y.1 = some .local) ∧
  (∀ n, (n, NameKind.free) ∈ scope.names → cx.names.lookup n = some .cell ∨ cx.names.lookup n = some .free) := by
 unfold Cx.scopeOk at hs
 simp only [BA, beq_iff_eq, List.all_eq_true, Bool.or_eq_true, bne_iff_ne, ne_eq] at hs
 refine ⟨hs.1, fun y hy => (hs.2 y hy).1.1, fun y hy hl => ?_, fun n hn => ?_⟩
 ·rcases (hs.2 y hy).1.2 with q | q
  ·exact absurd hl q
  ·exact q
 ·rcases (hs.2 _ hn).2 with (q | q) | q
  ·exact absurd rfl q
  ·exact .inl q
  ·exact .inr q
theorem Y2 {α : Type} {l : List (Str × α)} {n : Str} {c : α} (h : l.lookup n = some c) : (n, c) ∈ l := mem_of_lookup h
theorem Zm {names : List (Str × NameKind)} {n : Str} {k : NameKind} (h : (cx.turned names).lookup n = some k) : ∃ j, names.lookup n = some j ∧ k = if (j == .free && cx.names.lookup n == some .cell) then .cell else j := by
 unfold Cx.turned at h
 induction names with
 | nil => simp at h
 | cons x r ih =>
  obtain ⟨m, j⟩ := x
  rw [List.map_cons] at h
  by_cases hn : n = m
  ·subst hn
   refine ⟨j, by simp, ?_⟩
   by_cases hc : (j == NameKind.free && cx.names.lookup n == some .cell) = true
   ·simp only [hc, if_true, List.lookup_cons, beq_self_eq_true] at h ⊢
    exact (Option.some.inj h).symm
   ·simp only [hc, if_false, BF, List.lookup_cons, beq_self_eq_true] at h ⊢
    exact (Option.some.inj h).symm
  ·have hb : (n == m) = false := by simpa using hn
   have : ∀ z : NameKind, List.lookup n ((m, z) :: r.map fun x => if (x.2 == .free && cx.names.lookup x.1 == some .cell) = true then (x.1, .cell) else (x.1, x.2)) = List.lookup n (r.map fun x => if (x.2 == .free && cx.names.lookup x.1 == some .cell) = true then (x.1, .cell) else (x.1, x.2)) := fun z => by rw [List.lookup_cons, hb]
   obtain ⟨j', h1, h2⟩ := ih (by
    by_cases hc : (j == NameKind.free && cx.names.lookup m == some .cell) = true
    ·simp only [hc, if_true] at h; rw [List.lookup_cons, hb] at h; exact h
    ·simp only [hc, if_false, BF] at h; rw [List.lookup_cons, hb] at h; exact h)
   exact ⟨j', by rw [List.lookup_cons, hb]; exact h1, h2⟩
theorem Fe (he : EnvOk cx env) (scope : Scope) : (relabel scope env).names = cx.turned scope.names := by
 unfold relabel Cx.turned
 simp only
 refine List.map_congr_left fun x _ => ?_
 obtain ⟨n, k⟩ := x
 simp only [he.kind, he.kindOf, beq_self_eq_true, Bool.and_true]
theorem Jk {l : List (Str × Nat)} {p : Str → Bool} {n : Str} {i : Nat} (h : (l.filter fun x => p x.1).lookup n = some i) : l.lookup n = some i ∧ p n = true := by
 induction l with
 | nil => simp at h
 | cons x l ih =>
  obtain ⟨m, j⟩ := x
  rw [List.filter_cons] at h
  by_cases hn : n = m
  ·subst hn
   by_cases hp : p n = true
   ·simp only [hp, if_true, List.lookup_cons, beq_self_eq_true] at h ⊢
    exact ⟨h, trivial⟩
   ·simp only [hp, if_false, BF] at h
    exact absurd (ih h).2 hp
  ·have hb : (n == m) = false := by simpa using hn
   by_cases hp : p m = true
   ·simp only [hp, if_true, List.lookup_cons, hb] at h ⊢
    exact ih h
   ·simp only [hp, if_false, BF] at h
    rw [List.lookup_cons, hb]
    exact ih h
theorem Vz {scope : Scope} {xs : List (Str × Nat)} {C : Addr} (he : EnvOk cx env) (hs : cx.scopeOk scope = true) : EnvOk (cx.inner scope xs) (compEnvC scope (Z7 env.cells scope.names []) C env) := by
 refine Hl (Rw hs) fun h1 h2 h3 h4 => ?_
 have hall : ∀ m, (m, NameKind.free) ∈ scope.names → ∃ e, env.cells.lookup m = some e := fun m hm => he.cells m (h4 m hm)
 refine ⟨h1, Fe he scope, he.globals, he.builtins, fun n hn => ?_⟩
 have hfree : (n, NameKind.free) ∈ scope.names := by
  rcases hn with hn | hn
  ·refine BC fun nn => ?_
   obtain ⟨j, e1, e2⟩ := Zm (cx := cx) (names := scope.names) hn
   refine nn ?_; clear nn
   split at e2
   ·rename_i hc
    simp only [BA, beq_iff_eq] at hc
    rw [hc.1] at e1
    exact Y2 e1
   ·exact absurd e2.symm (h2 _ (Y2 e1))
  ·refine BC fun nn => ?_
   obtain ⟨j, e1, e2⟩ := Zm (cx := cx) (names := scope.names) hn
   refine nn ?_; clear nn
   split at e2
   ·cases e2
   ·rw [← e2] at e1; exact Y2 e1
 obtain ⟨c, hc⟩ := hall n hfree
 exact ⟨c, Zj env.cells scope.names [] n c hall hc (fun m e h => by simp at h) (.inl hfree)⟩
theorem As {scope : Scope} {xs : List (Str × Nat)} {y : Str} {i : Nat} (h : (cx.inner scope xs).held y i = true) (hs : cx.scopeOk scope = true) :
  (xs.lookup y = some i) ∨ (xs.lookup y = none ∧ (y, NameKind.free) ∈ scope.names ∧ cx.held y i = true) := by
 refine Dw (We h) fun h1 h2 h3 => ?_
 have : ((cx.inner scope xs).ids) = xs ++ cx.ids.filter fun p => scope.names.lookup p.1 == some .free := rfl
 rw [this, List.lookup_append] at h1
 cases hx : xs.lookup y with
 | some j => left; rw [hx] at h1; simpa using h1
 | none =>
  right
  rw [hx] at h1
  simp only [Option.none_or] at h1
  obtain ⟨q1, q2⟩ := Jk (p := fun n => scope.names.lookup n == some .free) h1
  have hf : (y, NameKind.free) ∈ scope.names := Y2 (by simpa using q2)
  refine ⟨rfl, hf, ?_⟩
  unfold Cx.held
  refine Hl (Rw hs) fun _ _ _ h4 => ?_
  rcases h4 y hf with q | q <;> simp [q1, q, h2, h3]
theorem Kn {scope : Scope} {xs : List (Str × Nat)} {C : Addr} {σ' : Sg} (he : EnvOk cx env) (hs : cx.scopeOk scope = true) (hi : Fu prog w cx env P σ h) (hk : ∀ b o, h.get? b = some o → h'.get? b = some o)
  (hσ : ∀ y i, cx.held y i = true → σ'[i]? = σ[i]?)
  (hx : ∀ y i d n, xs.lookup y = some i → (cx.inner scope xs).held y i = true → σ'[i]? = some (some (d, n)) → ∃ v F, Tq (compEnvC scope (Z7 env.cells scope.names []) C env) h' y v ∧ Ow prog w P h' n v d F) :
  Fu prog w (cx.inner scope xs) (compEnvC scope (Z7 env.cells scope.names []) C env) P σ' h' := by
 intro y i d n hh hv
 refine Hl (Rw hs) fun h1 h2 h3 h4 => ?_
 have hall : ∀ m, (m, NameKind.free) ∈ scope.names → ∃ e, env.cells.lookup m = some e := fun m hm => he.cells m (h4 m hm)
 rcases As hh hs with q | ⟨q1, q2, q3⟩
 ·exact hx y i d n q hh hv
 ·rw [hσ y i q3] at hv
  refine BC fun nn => ?_
  obtain ⟨v, F, l, o⟩ := hi y i d n q3 hv
  refine nn ?_; clear nn
  refine ⟨v, F, ?_, o.keeps hk⟩
  have l' := l.keeps hk
  have henv := Vz (xs := xs) (C := C) he hs
  have hkind : (compEnvC scope (Z7 env.cells scope.names []) C env).kindOf y = some .cell ∨ (compEnvC scope (Z7 env.cells scope.names []) C env).kindOf y = some .free := by
   unfold Cx.held at hh
   simp only [BA, Bool.or_eq_true, beq_iff_eq] at hh
   rw [henv.kindOf]
   rcases hh.1.1.2 with (q | q) | q
   ·-- a local of the comprehension is no free name
    refine BC fun nn => ?_
    obtain ⟨j, e1, e2⟩ := Zm (cx := cx) (names := scope.names) q
    refine nn ?_; clear nn
    split at e2
    ·cases e2
    ·rw [← e2] at e1
     have hfi := q2
     obtain ⟨r1, r2⟩ := (Jk (l := cx.ids) (p := fun n => scope.names.lookup n == some .free) (n := y) (i := i) (by
      have hids := (We (cx := cx.inner scope xs) (x := y) (i := i) (by unfold Cx.held; simp only [BA, Bool.or_eq_true, beq_iff_eq]; exact hh)).1
      have e : ((cx.inner scope xs).ids) = xs ++ cx.ids.filter fun p => scope.names.lookup p.1 == some .free := rfl
      rw [e, List.lookup_append, q1] at hids
      simpa using hids))
     simp only [beq_iff_eq] at r2
     rw [r2] at e1
     cases e1
   ·exact .inl q
   ·exact .inr q
  rcases l' with ⟨hl, _⟩ | ⟨hl, c, hc, hcell⟩
  ·exfalso
   rw [he.kindOf] at hl
   rcases h4 y q2 with q | q <;> rw [q] at hl <;> cases hl
  ·exact .inr ⟨hkind, c, Zj env.cells scope.names [] y c hall hc (fun m e h => by simp at h) (.inl q2), hcell⟩
end
section
variable {prog : Program} {w : World} {Γ : Gd} {Φ : Fns} {gs : Str → Option Str} {cx : Cx} {env : Env} {P : Addr → Prop} {σ : Sg} {A : Around} {s s' s₁ s₂ : Shared} {E : Value → Shared → Prop} {a b c : Ex} {e x y : Expr} {d : PyData} {k : Kd} {h h' : Heap}
variable (prog w P) in
structure SrcAt (A : Around) (s s₂ : Shared) (shr : Bool) (items : List PyData) (nb : Nat) (I : Addr) (fp wr : List Addr) (Pv : Nat → Value → Prop) (St : Nat → Heap → Prop) (h₁ : Heap) : Prop where
 kp : Kp s s₂
 walks : Walks prog w A I fp wr items.length Pv St
 start : St 0 s₂.heap
 low : ∀ b ∈ fp, b < s₂.heap.objs.size
 fresh : ∀ b ∈ wr, s.heap.get? b = none
 len : items.length ≤ lim
 base : ∀ b o, h₁.get? b = some o → s₂.heap.get? b = some o
 fresh₁ : ∀ b ∈ wr, h₁.get? b = none
 item : ∀ i v d, Pv i v → items[i]? = some d → ∃ F, Ow prog w P h₁ nb v d F
 under : ∀ b o, s.heap.get? b = some o → h₁.get? b = some o
 fpP : shr = true → ∀ b ∈ fp, b ∈ wr ∨ (P b ∧ ∃ o, h₁.get? b = some o)
 there : ∀ i h, St i h → ∀ b ∈ wr, ∃ o, h.get? b = some o
 owned : ∀ target v i (s' : Shared) (Q : Unit → Shared → Prop) (E : Value → Shared → Prop), St i s'.heap → Q () s' → wpAny (model prog w) A (letOwnedTupleGo target (.ref I) v) Q E s'
theorem Tm {h : Heap} {x : Addr} (hx : h.objs.size ≤ x) : h.get? x = none := by
 cases q : h.get? x with
 | none => rfl
 | some o => exact absurd (Heap.lt_size q) (Nat.not_lt.mpr hx)
theorem OwAll.length {n : Nat} {vs : List Value} {ds : List PyData} {F : List Addr} (r : OwAll prog w P h n vs ds F) : vs.length = ds.length := by
 apply OwAll.ind r
 ·rfl
 ·intro _ _ _ _ _ _ _ _ ih; exact congrArg (· + 1) ih
theorem H6 {target : Expr} {I : Addr} {v : Value} {o : Obj} {n : String} {vs : Array Value} {Q : Unit → Shared → Prop} (ho : s.heap.get? I = some o) (hc : o.cls = .type n) (hd : o.data = .fields vs)
  (hn : (["enumerate", "zip", "dict_itemiterator", "dict_reverseitemiterator", "odict_iterator", "itertools.zip_longest", "itertools.pairwise"] : List String).contains n = false) (hQ : Q () s) : wpAny (model prog w) A (letOwnedTupleGo target (.ref I) v) Q E s := by
 have main : ∀ (es : List Expr) (n : Nat) (pos : Pos), wpAny (model prog w) A (letOwnedTupleGo (.Tuple es n pos) (.ref I) v) Q E s := fun es n pos => by
  cases v <;> first | exact wpAny_pure hQ | skip
  refine wpAny_bind (wpAny_load ho ?_)
  rw [hc, hd]
  simp only [hn, Bool.false_and, BF, if_false]
  exact wpAny_pure hQ
 cases target with
 | Tuple es n pos => exact main es n pos
 | List es pos => exact main [] 0 pos
 | _ => exact wpAny_pure hQ
theorem C5 {v : Value} {ds : List PyData} {nb : Nat} {Q : Value → Shared → Prop} (hh : A.handled = none) (k₁ : Kp s s₁) (r : W4 prog w P s.heap s₁.heap k v (.list ds)) (hn : ∀ a, s.heap.get? a = none → P a) (hi : Lr (.list ds, k) = some (ds, nb))
  (hQ : ∀ I fp wr Pv St h₁ s₂, SrcAt prog w P A s s₂ k.sh ds nb I fp wr Pv St h₁ → Q (.ref I) s₂) : wpAny (model prog w) A (pyIter v) Q E s₁ := by
 obtain ⟨l, vs, rfl, g, z, hsh, hit⟩ : ∃ l vs, v = .ref l ∧ s₁.heap.PlainList l (vs : List Value).toArray ∧ ds.length ≤ lim ∧ (k.sh = true → P l) ∧ (vs.length = ds.length ∧ ∀ (i : Nat) (u : Value) (d : PyData), vs[i]? = some u → ds[i]? = some d → ∃ F, Ow prog w P s₁.heap nb u d F) := by
  have shared : nb = 0 → Rp prog w P s₁.heap v (.list ds) → ∃ l vs, v = .ref l ∧ s₁.heap.PlainList l (vs : List Value).toArray ∧ ds.length ≤ lim ∧ (k.sh = true → P l) ∧ (vs.length = ds.length ∧ ∀ (i : Nat) (u : Value) (d : PyData), vs[i]? = some u → ds[i]? = some d → ∃ F, Ow prog w P s₁.heap nb u d F) := by
   intro h0 r
   apply Go r; intro l vs pl g z q
   refine ⟨l, vs, rfl, g, z, fun _ => pl, q.length, fun i u d hu hd => ?_⟩
   refine BC fun nn => ?_
   obtain ⟨u', e1, e2⟩ := q.get hd
   refine nn ?_; clear nn
   rw [hu] at e1
   obtain rfl := Option.some.inj e1
   rw [h0]
   exact ⟨[], e2.ow⟩
  cases k with
  | fr n => exact shared (by simpa [id_f, id_b] using hi.symm) (r.share hn rfl)
  | bor n =>
   cases n with
   | zero => exact shared (by simpa [id_f, id_b] using hi.symm) (r.share hn rfl)
   | succ n =>
    have hnb : nb = n := by simpa [id_f, id_b] using hi.symm
    subst hnb
    obtain ⟨F, o⟩ := r
    apply Ow.listC o; intro l vs F g z q
    ·skip
     refine ⟨l, vs, rfl, g, z, fun hk => by simp [Kd.sh] at hk, ?_, fun i u d hu hd => ?_⟩
     ·exact q.length
     ·refine BC fun nn => ?_
      obtain ⟨u', G, e1, e2⟩ := q.get hd
      refine nn ?_; clear nn
      rw [hu] at e1
      obtain rfl := Option.some.inj e1
      exact ⟨G, e2⟩
 refine wpAny_pyIter_list g.isList ?_
 have hl := g.isList
 obtain ⟨n, g'⟩ := g
 have hne : l ≠ s₁.heap.objs.size := Nat.ne_of_lt (Heap.lt_size g')
 refine hQ s₁.heap.objs.size [s₁.heap.objs.size, l] [s₁.heap.objs.size] (fun i v => vs.toArray[i]? = some v) (fun i h => h.IsListIter s₁.heap.objs.size l i ∧ h.IsList l vs.toArray) s₁.heap _ ⟨k₁.trans (Kp.push _), ?_, ?_, ?_, ?_, z, fun b o e => Heap.get?_push_of_some _ e, ?_, ?_, k₁.keep, ?_, ?_, ?_⟩
 ·have W := Walks.list (prog := prog) (w := w) (A := A) hh s₁.heap.objs.size l hne vs.toArray
  have e : vs.toArray.size = ds.length := by rw [List.size_toArray]; exact hit.1
  rw [e] at W
  exact W
 ·exact ⟨⟨_, Heap.get?_push_size _ rfl, rfl, rfl⟩, hl.push _⟩
 ·intro b hb
  show b < (s₁.heap.push _).objs.size
  rw [Heap.size_push]
  simp only [List.mem_cons, List.mem_singleton, List.not_mem_nil, or_false] at hb
  rcases hb with rfl | rfl
  ·exact Nat.lt_succ_self _
  ·exact Nat.lt_succ_of_lt (Heap.lt_size g')
 ·intro b hb
  rw [List.mem_singleton.mp hb]
  exact k₁.none (Tm (Nat.le_refl _))
 ·intro b hb
  rw [List.mem_singleton.mp hb]
  exact Tm (Nat.le_refl _)
 ·intro i u d hP hd
  exact hit.2 i u d (by simpa using hP) hd
 ·intro hk b hb
  simp only [List.mem_cons, List.not_mem_nil, or_false] at hb
  rcases hb with rfl | rfl
  ·exact .inl (by simp)
  ·exact .inr ⟨hsh hk, _, g'⟩
 ·intro i h hst b hb
  rw [List.mem_singleton.mp hb]
  refine BC fun nn => ?_
  obtain ⟨⟨o, ho, _⟩, _⟩ := hst
  refine nn ?_; clear nn
  exact ⟨o, ho⟩
 ·intro target v i s' Q E hst hQ
  refine BC fun nn => ?_
  obtain ⟨⟨o, ho, hc, hd⟩, _⟩ := hst
  refine nn ?_; clear nn
  exact H6 ho hc hd (by decide) hQ
theorem Fy {n : Int} {t : Tok} {Q : Value → Shared → Prop} (hh : A.handled = none) (k₁ : Kp s s₁) (h0 : 0 ≤ n) (hn : n ≤ lim)
  (hQ : ∀ I fp wr Pv St h₁ s₂, SrcAt prog w P A s s₂ true ((List.range n.toNat).map fun i => .int (i : Nat)) 0 I fp wr Pv St h₁ → Q (.ref I) s₂) :
  wpAny (model prog w) A (call (.type "range") [.int n t]) (fun r s₂ => wpAny (model prog w) A (pyIter r) Q E s₂) E s₁ := by
 have lm : lim = 100000 := rfl
 refine call_range_1 ?_
 have hsz : Builtin.Range.rangeSize 0 n 1 = (n.toNat : Int) := by rw [rangeSize_one]; split <;> lia
 refine wpAny_pyIter_range (IsRange.new _ _ _ _ _ _ _) (small_one (by lia) (by lia) (by lia) (by lia)) ?_
 rw [hsz]
 have hz : (s₁.heap.push { cls := .type "range", data := .fields #[.int 0 s₁.toks, .int n t, .int 1 (s₁.toks + 1)] }).objs.size = s₁.heap.objs.size + 1 := Heap.size_push ..
 refine hQ (s₁.heap.push { cls := .type "range", data := .fields #[.int 0 s₁.toks, .int n t, .int 1 (s₁.toks + 1)] }).objs.size [(s₁.heap.push { cls := .type "range", data := .fields #[.int 0 s₁.toks, .int n t, .int 1 (s₁.toks + 1)] }).objs.size] [(s₁.heap.push { cls := .type "range", data := .fields #[.int 0 s₁.toks, .int n t, .int 1 (s₁.toks + 1)] }).objs.size] (fun i v => ∃ t, v = .int (0 + i * 1) t) (fun i h => IsRangeIter h (s₁.heap.push { cls := .type "range", data := .fields #[.int 0 s₁.toks, .int n t, .int 1 (s₁.toks + 1)] }).objs.size (0 + (i : Nat) * 1) ((n.toNat : Int) - (i : Nat)) 1)
  (s₁.heap.push { cls := .type "range", data := .fields #[.int 0 s₁.toks, .int n t, .int 1 (s₁.toks + 1)] }) _ ⟨?_, ?_, ?_, ?_, ?_, ?_, fun b o e => Heap.get?_push_of_some _ e, ?_, ?_, fun b o e => Heap.get?_push_of_some _ (k₁.keep b o e), fun _ b hb => .inl hb, ?_, ?_⟩
 ·exact k₁.trans ⟨_, _, rfl, fun b o e => Heap.get?_push_of_some _ (Heap.get?_push_of_some _ e)⟩
 ·have W := Walks.range (prog := prog) (w := w) (A := A) hh (s₁.heap.push { cls := .type "range", data := .fields #[.int 0 s₁.toks, .int n t, .int 1 (s₁.toks + 1)] }).objs.size 0 1 n.toNat
  simpa using W
 ·have q := Heap.get?_push_size (s₁.heap.push { cls := .type "range", data := .fields #[.int 0 s₁.toks, .int n t, .int 1 (s₁.toks + 1)] }) (o := { cls := .type "range_iterator", data := .fields #[rawInt 0, rawInt n.toNat, rawInt 1] }) rfl
  simpa using q
 ·intro b hb
  rw [List.mem_singleton.mp hb]
  exact Nat.lt_of_lt_of_le (Nat.lt_succ_self _) (Nat.le_of_eq (Heap.size_push _ _).symm)
 ·intro b hb
  rw [List.mem_singleton.mp hb, hz]
  exact k₁.none (Tm (Nat.le_succ _))
 ·simp; lia
 ·intro b hb
  rw [List.mem_singleton.mp hb]
  exact Tm (Nat.le_refl _)
 ·rintro i v d ⟨t', rfl⟩ hd
  rw [List.getElem?_map, Option.map_eq_some_iff] at hd
  refine BC fun nn => ?_
  obtain ⟨j, hj, rfl⟩ := hd
  refine nn ?_; clear nn
  have : i = j := by
   rw [List.getElem?_range (by
    rcases Nat.lt_or_ge i n.toNat with q | q
    ·exact q
    ·rw [List.getElem?_eq_none (by simpa using q)] at hj; cases hj)] at hj
   exact Option.some.inj hj
  subst this
  have e : (0 : Int) + (i : Int) * 1 = (i : Int) := by lia
  rw [e]
  exact ⟨[], .sh (.inr rfl) (.int _ _)⟩
 ·intro i h hst b hb
  rw [List.mem_singleton.mp hb]
  exact ⟨_, hst⟩
 ·intro target v i s' Q E hst hQ
  exact H6 hst rfl rfl (by decide) hQ
end
section
variable {prog : Program} {w : World} {Γ : Gd} {Φ : Fns} {gs : Str → Option Str} {cx : Cx} {env : Env} {P : Addr → Prop} {σ : Sg} {A : Around} {s s' s₁ s₂ : Shared} {E : Value → Shared → Prop} {a b c : Ex} {e x y : Expr} {d : PyData} {k : Kd} {h h' : Heap}
theorem Zr {f : PyData → Option (Option PyData)} : ∀ {l : List PyData} {outs : List PyData} {x : PyData} {y : Option PyData}, Qv f l = some outs → f x = some y → Qv f (l ++ [x]) = some (outs ++ y.toList)
 | [], outs, x, y, h, hx => by
  simp only [Qv, OI] at h
  subst h
  cases y <;> simp [Qv, hx]
 | z :: l, outs, x, y, h, hx => by
  simp only [Qv, OE, Option.map_eq_some_iff] at h
  refine BC fun nn => ?_
  obtain ⟨y', h1, ys, h2, rfl⟩ := h
  refine nn ?_; clear nn
  have ih := Zr h2 hx
  simp only [List.cons_append, Qv, h1, ih, OB, OM]
  cases y' <;> simp
theorem Vn {f : PyData → Option (Option PyData)} : ∀ {l : List PyData} {outs : List PyData}, Qv f l = some outs → ∀ {i : Nat} {d : PyData}, l[i]? = some d → ∃ y, f d = some y
 | [], _, _, i, d, hd => by simp at hd
 | z :: l, outs, h, i, d, hd => by
  simp only [Qv, OE, Option.map_eq_some_iff] at h
  refine BC fun nn => ?_
  obtain ⟨y', h1, ys, h2, rfl⟩ := h
  refine nn ?_; clear nn
  cases i with
  | zero => simp at hd; subst hd; exact ⟨y', h1⟩
  | succ i => exact Vn h2 (by simpa using hd)
theorem Xk {f : PyData → Option (Option PyData)} : ∀ {l : List PyData} {outs : List PyData}, Qv f l = some outs → outs.length ≤ l.length
 | [], outs, h => by simp only [Qv, OI] at h; subst h; simp
 | z :: l, outs, h => by
  simp only [Qv, OE, Option.map_eq_some_iff] at h
  refine BC fun nn => ?_
  obtain ⟨y', h1, ys, h2, rfl⟩ := h
  refine nn ?_; clear nn
  have := Xk h2
  cases y' <;> simp <;> lia
theorem OwAll.snoc {n : Nat} {vs : List Value} {ds : List PyData} {F G : List Addr} {v : Value} (r : OwAll prog w P h n vs ds F) (o : Ow prog w P h n v d G) : OwAll prog w P h n (vs ++ [v]) (ds ++ [d]) (F ++ G) := by
 apply OwAll.ind r
 ·exact List.append_nil G ▸ OwAll.cons (G := []) o .nil
 ·intro _ _ _ _ _ _ a _ ih; exact List.append_assoc _ _ G ▸ OwAll.cons a ih
theorem Ra {σ : Sg} {n i : Nat} {z : Option (PyData × Nat)} (h : i ≠ n) : (σ.set n z)[i]? = σ[i]? := by
 rw [List.getElem?_set]
 simp [Ne.symm h]
theorem Tb {σ : Sg} {n : Nat} {z : Option (PyData × Nat)} {u : Option (PyData × Nat)} (h : (σ.set n z)[n]? = some u) : u = z := by
 rw [List.getElem?_set] at h
 simp only [if_true] at h
 split at h
 ·exact (Option.some.inj h).symm
 ·cases h
noncomputable def Sc (Φ : Fns) (deep : Bool) (ifs : ExL) (elt : Ex) (σ : Sg) (n nb : Nat) (d : PyData) : Option (Option PyData) :=
 (Ub Φ ifs (σ.set n (some (d, nb)))).bind fun ok => if ok then
  (evE Φ elt (σ.set n (some (d, nb)))).bind fun r => if r.2.sh && (!deep || r.2.least 1) then some (some r.1) else none
 else some none
theorem Vr {i n : Nat} (h : i < n) : n + 1 - (i + 1) < n + 1 - i := by lia
inductive LI (n : Nat) (s₂ : Shared) (J : Nat → Heap → Prop) : Nat → Shared → Prop
 | mk (i : Nat) (hh : Heap) (tk : Nat) : i ≤ n → J i hh → LI n s₂ J (n + 1 - i) { s₂ with heap := hh, toks := tk }
theorem X5 {h : Heap} {a b : Addr} (x : ∃ o, h.get? a = some o) (e : h.get? b = none) : b ≠ a := fun q => x.elim fun o y => none_ne ((q ▸ e).symm.trans y)
theorem Hs {h h' : Heap} {a : Addr} (k : ∀ o, h.get? a = some o → h'.get? a = some o) (e : h'.get? a = none) : h.get? a = none := by
 cases q : h.get? a with
 | none => rfl
 | some o => exact (none_ne (e.symm.trans (k o q))).elim
theorem testsC {M : Model} {c : Sem Bool} {ok : Bool} {h : Heap} {t : Nat} {Q : Bool → Shared → Prop} (x : wpAny M A c (fun b s' => b = ok ∧ Kp { s₂ with heap := h, toks := t } s') E { s₂ with heap := h, toks := t })
  (k : ∀ h' tk, (∀ b o, h.get? b = some o → h'.get? b = some o) → Q ok { s₂ with heap := h', toks := tk }) : wpAny M A c Q E { s₂ with heap := h, toks := t } :=
 wpAny_mono x (fun b s' q => by obtain ⟨rfl, h', tk, rfl, keep⟩ := q; exact k h' tk keep) fun _ _ q => q
theorem seC {M : Model} {c : Sem Value} {h : Heap} {t : Nat} {Q : Value → Shared → Prop} (x : wpAny M A c (fun v s' => Kp { s₂ with heap := h, toks := t } s' ∧ W4 prog w P h s'.heap k v d) E { s₂ with heap := h, toks := t })
  (f : ∀ v h' tk, (∀ b o, h.get? b = some o → h'.get? b = some o) → W4 prog w P h h' k v d → Q v { s₂ with heap := h', toks := tk }) : wpAny M A c Q E { s₂ with heap := h, toks := t } :=
 wpAny_mono x (fun v s' q => by obtain ⟨⟨h', tk, rfl, keep⟩, r⟩ := q; exact f v h' tk keep r) fun _ _ q => q
theorem Oe {elt : Ex} {ifs : ExL} {xe xi : Expr} {xifs : List Expr} {x : Str} {px pos : Pos} {nid nb : Nat} {scope : Scope} {deep : Bool} {items outs : List PyData} {I : Addr} {fp wr : List Addr} {Pv : Nat → Value → Prop} {St : Nat → Heap → Prop} {h₁ : Heap}
  {RR : Value → Addr → Result → Shared → Prop}
  (he : SE prog w Γ Φ gs elt) (hifs : V1 prog w Γ Φ gs ifs) (S : St0 prog w Γ Φ gs cx env P σ A s) (hsc : cx.scopeOk scope = true) (hx : scope.names.lookup x = some .local) (hids : ∀ p ∈ cx.ids, p.2 ≠ nid)
  (okl : okL gs (cx.inner scope [(x, nid)]) ifs xifs = true) (oke : okE gs (cx.inner scope [(x, nid)]) elt xe = true) {shr : Bool} (src : SrcAt prog w P A s s₂ shr items nb I fp wr Pv St h₁)
  (hcol : Qv (Sc Φ deep ifs elt σ nid nb) items = some outs)
  (hRR : ∀ D C h' tk m' F, s₂.heap.get? D = none → s₂.heap.get? C = none → D ≠ C → h'.Ns C m' → Ow prog w (fun a => P a ∧ a ≠ C) h' ((if deep then 1 else 0) + 1) (.ref D) (.list outs) (D :: F) → (D :: F).Nodup → (∀ a ∈ D :: F, s₂.heap.get? a = none ∧ a ≠ C) →
   (∀ b o, b ∉ wr → s₂.heap.get? b = some o → h'.get? b = some o) → RR (.ref D) C (.ok .next) { s₂ with heap := h', toks := tk }) :
  wpAny (model prog w) A (newList []) (fun acc s₃ => wpAny (model prog w) A (newFunctionEnv scope env.globals (Z7 env.cells scope.names []) [] env.qual none .none (some env)) (fun cenv s₄ =>
   codeAny (model prog w) A (.compStart (.ListComp xe [⟨.Name x px, xi, xifs, 0⟩] scope pos) 0 (.ref I) acc { cenv with scope := relabel scope env }) (RR acc cenv.locals) s₄) E s₃) E s₂ := by
 refine Hl (Rw hsc) fun hkind hcell hnames hfree => ?_
 refine wpAny_newObj_type (wpAny_newFunctionEnv hcell (by intro y hy; simp at hy) (fun h₃ hns₁ hsb₁ => ?_) hkind)
 dsimp only at hns₁ hsb₁ ⊢
 generalize hH2 : s₂.heap.push { cls := .type "list", dict := none, data := .seq ([] : List Value).toArray } = H2 at hns₁ hsb₁ ⊢
 generalize hD : s₂.heap.objs.size = D
 have hC : H2.objs.size = D + 1 := by rw [← hH2, Heap.size_push, hD]
 generalize hCC : H2.objs.size = C at hns₁ hsb₁ hC ⊢
 have hDC : D ≠ C := by rw [hC]; exact Nat.ne_of_lt (Nat.lt_succ_self _)
 have nD : s₂.heap.get? D = none := Tm (Nat.le_of_eq hD)
 have nC : s₂.heap.get? C = none := Tm (by rw [hC, hD]; exact Nat.le_succ _)
 have below : ∀ b o, s₂.heap.get? b = some o → b ≠ C ∧ b ≠ D := fun b o e => ⟨(fun q => by rw [q, nC] at e; cases e), (fun q => by rw [q, nD] at e; cases e)⟩
 have hDf : D ∉ fp := fun hm => Nat.lt_irrefl _ (by have := src.low _ hm; rw [hD] at this; exact this)
 have hCf : C ∉ fp := fun hm => by have := src.low _ hm; rw [hD, hC] at this; exact Nat.lt_irrefl _ (Nat.lt_of_succ_lt this)
 have hDw : D ∉ wr := fun hm => hDf (src.walks.sub _ hm)
 have hCw : C ∉ wr := fun hm => hCf (src.walks.sub _ hm)
 have old : ∀ b o, s₂.heap.get? b = some o → h₃.get? b = some o := fun b o e => hsb₁.extBut b o (below b o e).1 (Heap.get?_push_of_some _ (hH2 ▸ Heap.get?_push_of_some _ e))
 have hacc : h₃.PlainList D #[] := ⟨_, hsb₁.extBut _ _ hDC (Heap.get?_push_of_some _ (hH2 ▸ hD ▸ Heap.get?_push_size _ rfl))⟩
 have hst₁ : St 0 h₃ := src.walks.frame _ _ _ src.start fun b _ o e => old b o e
 let P' : Addr → Prop := fun a => P a ∧ a ≠ D ∧ a ≠ C ∧ a ∉ wr
 have hbase : ∀ b o, s.heap.get? b = some o → b ≠ D ∧ b ≠ C ∧ b ∉ wr := fun b o e => by
  have e2 := src.kp.keep b o e
  exact ⟨(below b o e2).2, (below b o e2).1, fun hm => by rw [src.fresh b hm] at e; cases e⟩
 have hbase₁ : ∀ b o, h₁.get? b = some o → b ≠ D ∧ b ≠ C ∧ b ∉ wr := fun b o e => by
  have e2 := src.base b o e
  exact ⟨(below b o e2).2, (below b o e2).1, fun hm => by rw [src.fresh₁ b hm] at e; cases e⟩
 have EI : Fu prog w cx env P' σ s.heap := fun y i d n h1 h2 => by
  refine exxC2 (S.inv y i d n h1 h2) fun v F l o => ?_
  exact ⟨v, F, l, o.move (fun a ob p e => ⟨⟨p, hbase a ob e⟩, e⟩) fun a ob _ e => e⟩
 have loop : ∀ s₃ : Shared, s₃ = { s₂ with heap := h₃, toks := s₂.toks + ([] : List (Str × Value)).length } →
   codeAny (model prog w) A (.compLoop (.ListComp xe [⟨.Name x px, xi, xifs, 0⟩] scope pos) 0 (.ref I) (.ref D) (compEnvC scope (Z7 env.cells scope.names []) C env)) (RR (.ref D) C) s₃ := by
  rintro s₃ rfl
  generalize hcenv : compEnvC scope (Z7 env.cells scope.names []) C env = cenv
  have hcl : cenv.locals = C := by rw [← hcenv]; rfl
  have hck : cenv.kindOf x = some .local := by rw [← hcenv]; exact lookup_relabel_local hx
  have hcp : (cenv.scope.kind == .class || (cenv.scope.kind == .module && cenv.locals != cenv.globals)) = false := by rw [← hcenv]; simp [compEnvC, relabel, hkind]
  obtain ⟨J, hJ⟩ : ∃ J : Nat → Heap → Prop, J = fun i hh => ∃ (m' : Str → Option Value) (ys : List Value) (os : List PyData) (F : List Addr), St i hh ∧ hh.PlainList D ys.toArray ∧ hh.Ns C m' ∧
    Qv (Sc Φ deep ifs elt σ nid nb) (items.take i) = some os ∧ OwAll prog w P' hh (if deep then 1 else 0) ys os F ∧ F.Nodup ∧ (∀ a ∈ F, s₂.heap.get? a = none ∧ a ≠ D ∧ a ≠ C ∧ a ∉ wr) ∧
    (∀ b o, b ∉ wr → s₂.heap.get? b = some o → hh.get? b = some o) := ⟨_, rfl⟩
  refine codeAny_compLoop_tests (LI items.length s₂ J) ?_ (items.length + 1) ?_
  ·intro k s' hqq
   induction hqq with
   | mk i hh tk hi hj =>
   refine BC fun nn => ?_
   rw [hJ] at hj
   obtain ⟨m', ys, os, F, hst, hacc', hn', hos, how, hnd, hFr, hkeep⟩ := hj
   refine nn ?_; clear nn
   by_cases hlt : i < items.length
   ·refine src.walks.item i _ _ _ hlt hst fun v h4 tk₄ hPv hst₄ hk₄ => ?_
    refine wpAny_assign_Name (wpAny_storeName_local hck (by rw [hcl]; exact hn'.at' fun o e => hk₄ _ o hCw e) (fun h5 hn5 hs5 => ?_) hcp)
    rw [hcl] at hn5 hs5
    obtain ⟨d, hd⟩ : ∃ d, items[i]? = some d := ⟨_, List.getElem?_eq_getElem hlt⟩
    refine exC (Vn hcol hd) fun y hy => ?_
    have hos' := Zr hos hy
    have htake : items.take (i + 1) = items.take i ++ [d] := by rw [List.take_add_one, hd]; rfl
    rw [← htake] at hos'
    have up5 : ∀ b o, b ≠ C → b ∉ wr → hh.get? b = some o → h5.get? b = some o := fun b o hb hbw e => hs5.extBut b o hb (hk₄ b o hbw e)
    have kS : ∀ b o, s.heap.get? b = some o → h5.get? b = some o := fun b o e => up5 b o (hbase b o e).2.1 (hbase b o e).2.2 (hkeep b o (hbase b o e).2.2 (src.kp.keep b o e))
    have k1 : ∀ b o, h₁.get? b = some o → h5.get? b = some o := fun b o e => up5 b o (hbase₁ b o e).2.1 (hbase₁ b o e).2.2 (hkeep b o (hbase₁ b o e).2.2 (src.base b o e))
    refine exC (src.item i v d hPv hd) fun G og => ?_
    have og' : Ow prog w P' h5 nb v d G := og.move (fun a ob p e => ⟨⟨p, hbase₁ a ob e⟩, k1 a ob e⟩) fun a ob _ e => k1 a ob e
    have hDh : ∃ o, h5.get? D = some o := let ⟨n, e⟩ := hacc'; ⟨_, up5 D _ hDC hDw e⟩
    have hCh : ∃ o, h5.get? C = some o := let ⟨o, _, _, e, _⟩ := hn5; ⟨o, e⟩
    have hst5 : St (i + 1) h5 := src.walks.frame _ _ _ hst₄ fun b hb o e => hs5.extBut b o (fun q => hCf (q ▸ hb)) e
    have hwh := src.there _ _ hst5
    have S5 : St0 prog w Γ Φ gs (cx.inner scope [(x, nid)]) cenv P' (σ.set nid (some (d, nb))) A { s₂ with heap := h5, toks := tk₄ + 1 } := by
     refine ⟨hcenv ▸ Vz S.envOk hsc, S.room, S.ground.keeps kS, ?_, fun a e => ?_, S.std, S.fnOk⟩
     ·rw [← hcenv]
      refine Kn S.envOk hsc EI kS (fun y i' hh' => Ra fun q => ?_) fun y i' d' n' hl hhe hv => ?_
      ·exact hids _ (Y2 (We hh').1) q
      ·have hyx : y = x ∧ i' = nid := by
        rw [List.lookup_cons] at hl
        by_cases q : y = x
        ·subst q; simp only [beq_self_eq_true, OI] at hl; exact ⟨rfl, hl.symm⟩
        ·have : (y == x) = false := by simpa using q
         rw [this] at hl; simp at hl
       obtain ⟨rfl, rfl⟩ := hyx
       have := Tb hv
       simp only [OI, Prod.mk.injEq] at this
       obtain ⟨rfl, rfl⟩ := this
       exact ⟨v, G, .inl ⟨by rw [hcenv]; exact hck, _, by rw [hcenv, hcl]; exact hn5, by simp⟩, og'⟩
     ·have e' : h5.get? a = none := e
      refine ⟨S.new a ?_, fun q => ?_, fun q => ?_, fun hm => ?_⟩
      ·exact Hs (kS a) e'
      ·exact X5 hDh e' q
      ·exact X5 hCh e' q
      ·exact X5 (hwh a hm) e' rfl
    have hkeep5 : ∀ b o, b ∉ wr → s₂.heap.get? b = some o → h5.get? b = some o := fun b o hb e => up5 b o (below b o e).1 hb (hkeep b o hb e)
    have how5 : OwAll prog w P' h5 (if deep then 1 else 0) ys os F := how.move (fun a ob p e => ⟨p, up5 a ob p.2.2.1 p.2.2.2 e⟩) fun a ob hm e => up5 a ob (hFr a hm).2.2.1 (hFr a hm).2.2.2 e
    have hacc5 : h5.PlainList D ys.toArray := hacc'.at fun o e => up5 D o hDC hDw e
    unfold Sc at hy
    rw [OE] at hy
    refine BC fun nn => ?_
    refine BC fun nn => ?_
    obtain ⟨ok, hok, hy⟩ := hy
    refine nn ?_; clear nn
    refine nn ?_; clear nn
    refine testsC (Gg ifs xifs hifs okl S5 hok) fun h6 tk₆ keep6 => ?_
    cases ok with
    | false =>
     simp only [BF, if_false, OI] at hy ⊢
     subst hy
     simp only [Option.toList_none, List.append_nil] at hos'
     exact ⟨items.length + 1 - (i + 1), Vr hlt, .mk (i + 1) h6 tk₆ hlt <| hJ ▸ ⟨_, ys, os, F, src.walks.frame _ _ _ hst5 fun b _ o e => keep6 b o e, hacc5.at fun o e => keep6 _ o e, hn5.keeps keep6, hos',
      how5.move (fun a ob p e => ⟨p, keep6 a ob e⟩) fun a ob _ e => keep6 a ob e, hnd, hFr, fun b o hb e => keep6 b o (hkeep5 b o hb e)⟩⟩
    | true =>
     simp only [if_true] at hy ⊢
     refine Z2 hy fun dr kr her hy => ?_
     split at hy
     ·rename_i hcond
      simp only [OI] at hy
      subst hy
      simp only [BA, Bool.or_eq_true, Bool.not_eq_true'] at hcond
      have S6 := S5.keeps (s' := { s₂ with heap := h6, toks := tk₆ }) ⟨h6, tk₆, rfl, keep6⟩
      refine seC (he oke S6 her) fun yv h7 tk₇ keep7 r₇ => ?_
      obtain ⟨G', og7, ndG, frG⟩ : ∃ G', Ow prog w P' h7 (if deep then 1 else 0) yv dr G' ∧ G'.Nodup ∧ ∀ a ∈ G', h6.get? a = none := by
       cases deep with
       | false => exact ⟨[], (r₇.share S6.new hcond.1).ow, List.nodup_nil, fun _ m => nomatch m⟩
       | true =>
        have hl := hcond.2.resolve_left (by simp)
        cases kr with
        | bor n => simp [Kd.least] at hl
        | fr j =>
         simp only [Kd.least, decide_eq_true_eq] at hl
         refine BC fun nn => ?_
         refine BC fun nn => ?_
         obtain ⟨F7, o7, nd7, fr7⟩ := r₇
         refine nn ?_; clear nn
         refine nn ?_; clear nn
         refine BC fun nn => ?_
         obtain ⟨G', g1, g2⟩ := o7.less (fun a m => S6.new a (fr7 a m)) hl
         refine nn ?_; clear nn
         exact ⟨G', g1, g2.nodup nd7, fun a m => fr7 a (g2.subset m)⟩
      have hos7 : (os ++ (some dr : Option PyData).toList) = os ++ [dr] := rfl
      rw [hos7] at hos'
      have hlen7 := how5.length
      have hcl7 := Xk hos
      have hysz : ys.toArray.size ≤ sizeLine := by
       rw [List.size_toArray, hlen7]
       have h1 := src.len
       have h2 : (items.take i).length ≤ items.length := by simp; lia
       exact Nat.le_trans (by lia) Tw
      have hacc7 : h7.PlainList D ys.toArray := (hacc5.at fun o e => keep6 _ o e).at fun o e => keep7 _ o e
      refine wpAny_list_append_plain (hsz := hysz) hacc7 fun h8 hl8 hs8 => ?_
      have how7 : OwAll prog w P' h7 (if deep then 1 else 0) ys os F := how5.move (fun a ob p e => ⟨p, keep7 a ob (keep6 a ob e)⟩) fun a ob _ e => keep7 a ob (keep6 a ob e)
      have how8 := (how7.snoc og7).move (P' := P') (h' := h8) (fun a ob p e => ⟨p, hs8.extBut a ob p.2.1 e⟩) fun a ob hm e => hs8.extBut a ob (by
       rcases List.mem_append.mp hm with q | q
       ·exact (hFr a q).2.1
       ·intro q2
        have := frG a q
        obtain ⟨o, ho⟩ := hDh
        rw [q2, keep6 _ _ ho] at this; cases this) e
      have epush : ys.toArray.push yv = (ys ++ [yv]).toArray := by simp
      rw [epush] at hl8
      have up8 : ∀ b o, b ≠ D → h5.get? b = some o → h8.get? b = some o := fun b o hb e => hs8.extBut b o hb (keep7 b o (keep6 b o e))
      refine ⟨items.length + 1 - (i + 1), Vr hlt, .mk (i + 1) h8 tk₇ hlt <| hJ ▸ ⟨_, ys ++ [yv], os ++ [dr], F ++ G', src.walks.frame _ _ _ hst5 fun b hb o e => up8 b o (fun q => hDf (q ▸ hb)) e, hl8, (hn5.at' (h' := h8) fun o e => up8 C o (Ne.symm hDC) e), hos', how8, ?_, ?_, fun b o hb e => up8 b o (below b o e).2 (hkeep5 b o hb e)⟩⟩
      ·rw [List.nodup_append]
       refine ⟨hnd, ndG, fun a ha b hb q => ?_⟩
       subst q
       obtain ⟨o, ho⟩ := how5.dom a ha
       have := frG a hb
       rw [keep6 _ _ ho] at this; cases this
      ·intro a ha
       rcases List.mem_append.mp ha with q | q
       ·exact hFr a q
       ·have hn6 := frG a q
        have hn5' : h5.get? a = none := Hs (keep6 a) hn6
        refine ⟨?_, fun q2 => ?_, fun q2 => ?_, fun hm => ?_⟩
        ·cases q2 : s₂.heap.get? a with
         | none => rfl
         | some o =>
          by_cases hw : a ∈ wr
          ·exact (X5 (hwh a hw) hn5' rfl).elim
          ·exact (none_ne (hn5'.symm.trans (hkeep5 a o hw q2))).elim
        ·exact X5 hDh hn5' q2
        ·exact X5 hCh hn5' q2
        ·exact X5 (hwh a hm) hn5' rfl
     ·cases hy
   ·have hin : i = items.length := Nat.le_antisymm hi (Nat.not_lt.mp hlt)
    subst hin
    rw [List.take_length, hcol] at hos
    obtain rfl := Option.some.inj hos
    refine src.walks.done _ _ _ hst fun h4 tk₄ hk₄ => ?_
    have how4 : OwAll prog w (fun a => P a ∧ a ≠ C) h4 (if deep then 1 else 0) ys outs F := how.move (fun a ob p e => ⟨⟨p.1, p.2.2.1⟩, hk₄ a ob p.2.2.2 e⟩) fun a ob hm e => hk₄ a ob (hFr a hm).2.2.2 e
    have hlen := Xk hcol
    refine hRR D C h4 tk₄ m' F nD nC hDC (hn'.at' fun o e => hk₄ _ o hCw e) (.list (hacc'.at fun o e => hk₄ _ o hDw e) (Nat.le_trans hlen src.len) how4) ?_ ?_ fun b o hb e => hk₄ b o hb (hkeep b o hb e)
    ·exact List.nodup_cons.mpr ⟨fun hm => (hFr D hm).2.1 rfl, hnd⟩
    ·intro a ha
     rcases List.mem_cons.mp ha with rfl | ha
     ·exact ⟨nD, hDC⟩
     ·exact ⟨(hFr a ha).1, (hFr a ha).2.2.1⟩
  ·exact .mk 0 h₃ _ (Nat.zero_le _) <| hJ ▸ ⟨_, [], [], [], hst₁, hacc, hns₁, rfl, .nil, List.nodup_nil, (fun _ m => nomatch m), fun b o _ e => old b o e⟩
 exact codeAny_compStart_list (loop _ rfl) (src.walks.self 0 _ _ _ hst₁ (loop _ rfl))
end
section
variable {prog : Program} {w : World} {Γ : Gd} {Φ : Fns} {gs : Str → Option Str} {cx : Cx} {env : Env} {P : Addr → Prop} {σ : Sg} {A : Around} {s s' s₁ s₂ : Shared} {E : Value → Shared → Prop} {a b c : Ex} {e x y : Expr} {d : PyData} {k : Kd} {h h' : Heap}
theorem noSet0 (v : Value) : ∀ y, okK y = true → foldedSetIterable y env v = pure v := by
 intro y
 cases y <;> first | (intro _; rfl) | (intro h; exact absurd h Bool.false_ne_true)
theorem Cn (v : Value) (ok : okE gs cx b y = true) : foldedSetIterable y env v = pure v := noSet0 v y (X4 ok)
theorem Xx {scope : Scope} (hc : ∀ n, (n, NameKind.free) ∈ scope.names → ∃ c, env.cells.lookup n = some c) : closureFor scope env = pure (Z7 env.cells scope.names []) := by
 have q := Fr (env := env) hc []
 unfold closureFor
 rw [← bind_pure (forIn _ _ _)] at q
 exact q
theorem src_wp {rng : Bool} {it : Ex} {xi : Expr} {items : List PyData} {nb : Nat} {Q : Value → Shared → Prop} (hit : SE prog w Γ Φ gs it) (S : St0 prog w Γ Φ gs cx env P σ A s)
  (ok : if rng then ∃ g np z zp, xi = .Call (.Name g np) [z] [] zp ∧ g = ("range" : Str) ∧ cx.glob g = true ∧ okE gs cx it z = true else okE gs cx it xi = true) (ev : (evE Φ it σ).bind (Fc rng) = some (items, nb))
  (hQ : ∀ shr I fp wr Pv St h₁ s₂, SrcAt prog w P A s s₂ shr items nb I fp wr Pv St h₁ → Q (.ref I) s₂) :
  wpAny (model prog w) A (eval xi env) (fun v s₁ => wpAny (model prog w) A (pyIter v) Q E s₁) E s := by
 rw [OE] at ev
 refine BC fun nn => ?_
 obtain ⟨⟨da, ka⟩, ea, ev⟩ := ev
 refine nn ?_; clear nn
 cases rng with
 | true =>
  simp only [if_true] at ok
  refine BC fun nn => ?_
  obtain ⟨g, np, z, zp, rfl, rfl, hg, oz⟩ := ok
  refine nn ?_; clear nn
  refine Du hit oz S hg S.std.std.range ea (.inr ⟨_, rfl⟩) fun u s₁ k₁ r => ?_
  simp only [Fc, if_true] at ev
  obtain ⟨_, rfl⟩ := Li ev; simp only [rg_i] at ev
  split at ev
  ·rename_i n hn
   simp only [BA, decide_eq_true_eq] at hn
   simp only [OI, Prod.mk.injEq] at ev
   obtain ⟨rfl, rfl⟩ := ev
   obtain ⟨t, rfl⟩ := rp_int r.rd
   exact Fy S.room.handled k₁ hn.1 hn.2 (hQ true)
  ·cases ev
 | false =>
  simp only [BF, if_false] at ok
  refine wpAny_mono (hit ok S ea) (fun v s₁ q => ?_) fun _ _ q => q
  simp only [Fc, BF, if_false] at ev
  obtain ⟨_, rfl⟩ := S1 ev
  rename_i ds
  have hds : ds = items := by cases ka <;> simp only [id_f, id_b, OI, Prod.mk.injEq] at ev <;> exact ev.1
  subst hds
  exact C5 S.room.handled q.1 q.2 S.new ev (hQ _)
theorem Hr {rng : Bool} {it : Ex} {xi : Expr} {items : List PyData} {Q : Value → Shared → Prop} (hit : SE prog w Γ Φ gs it) (S : St0 prog w Γ Φ gs cx env P σ A s)
  (ok : if rng then ∃ g np z zp, xi = .Call (.Name g np) [z] [] zp ∧ g = ("range" : Str) ∧ cx.glob g = true ∧ okE gs cx it z = true else okE gs cx it xi = true) (ev : (evE Φ it σ).bind (M8 rng) = some items)
  (hQ : ∀ I fp wr Pv St h₁ s₂, SrcAt prog w P A s s₂ true items 0 I fp wr Pv St h₁ → Q (.ref I) s₂) :
  wpAny (model prog w) A (eval xi env) (fun v s₁ => wpAny (model prog w) A (pyIter v) Q E s₁) E s := by
 refine Z2 ev fun da ka ea ev => ?_
 cases rng with
 | true =>
  simp only [if_true] at ok
  refine BC fun nn => ?_
  obtain ⟨g, np, z, zp, rfl, rfl, hg, oz⟩ := ok
  refine nn ?_; clear nn
  refine Du hit oz S hg S.std.std.range ea (.inr ⟨_, rfl⟩) fun u s₁ k₁ r => ?_
  simp only [M8, if_true] at ev
  obtain ⟨_, ev2, rfl⟩ := Option.map_eq_some_iff.mp ev
  clear ev; have ev := ev2; clear ev2
  obtain ⟨n, rfl⟩ := Li ev; simp only [rg_i] at ev
  split at ev
  ·rename_i hn
   simp only [BA, decide_eq_true_eq] at hn
   obtain rfl := Option.some.inj ev
   apply Wu r.rd; intro t
   exact Fy S.room.handled k₁ hn.1 hn.2 hQ
  ·cases ev
 | false =>
  simp only [BF, if_false] at ok
  refine wpAny_mono (hit ok S ea) (fun v s₁ q => ?_) fun _ _ q => q
  simp only [M8, BF, if_false] at ev
  obtain ⟨_, rfl⟩ := S0 ev; simp only [iS_l] at ev
  split at ev
  ·rename_i ds hsh
   obtain rfl := Option.some.inj ev
   refine C5 (nb := 0) S.room.handled q.1 q.2 S.new ?_ fun I fp wr Pv St h₁ s₂ src => hQ I fp wr Pv St h₁ s₂ (hsh ▸ src)
   cases ka with
   | fr n => rfl
   | bor n =>
    have : n = 0 := by simpa [Kd.sh] using hsh
    subst this; rfl
  ·cases ev
theorem En {elt it : Ex} {ifs : ExL} {xe xi : Expr} {xifs : List Expr} {x : Str} {px pos pos' : Pos} {nid nb : Nat} {scope : Scope} {deep rng : Bool} {items outs : List PyData} {use : Option (Value → Sem Unit)} {Q : Value → Shared → Prop}
  (hit : SE prog w Γ Φ gs it) (he : SE prog w Γ Φ gs elt) (hifs : V1 prog w Γ Φ gs ifs) (S : St0 prog w Γ Φ gs cx env P σ A s) (hsc : cx.scopeOk scope = true) (hx : scope.names.lookup x = some .local) (hids : ∀ p ∈ cx.ids, p.2 ≠ nid)
  (oki : if rng then ∃ g np z zp, xi = .Call (.Name g np) [z] [] zp ∧ g = ("range" : Str) ∧ cx.glob g = true ∧ okE gs cx it z = true else okE gs cx it xi = true)
  (okl : okL gs (cx.inner scope [(x, nid)]) ifs xifs = true) (oke : okE gs (cx.inner scope [(x, nid)]) elt xe = true) (evi : (evE Φ it σ).bind (Fc rng) = some (items, nb))
  (hcol : Qv (Sc Φ deep ifs elt σ nid nb) items = some outs)
  (hfin : ∀ D C s' m', s.heap.get? C = none → D ≠ C → s'.heap.Ns C m' → Kp s s' → (∃ F, Ow prog w (fun a => P a ∧ a ≠ C) s'.heap ((if deep then 1 else 0) + 1) (.ref D) (.list outs) (D :: F) ∧ (D :: F).Nodup ∧ (∀ a ∈ D :: F, s.heap.get? a = none ∧ a ≠ C)) →
   compPost (model prog w) A E use Q (.ref D) C (.ok .next) s') :
  wpAny (model prog w) A (comprehension (.ListComp xe [⟨.Name x px, xi, xifs, 0⟩] scope pos) scope env pos' (newList []) false (eval xi env) use) Q E s := by
 refine Hl (Rw hsc) fun hkind hcell hnames hfree => ?_
 have hset : ∀ v, foldedSetIterable xi env v = pure v := fun v => by
  cases rng with
  | true => simp only [if_true] at oki; obtain ⟨g, np, z, zp, rfl, _⟩ := oki; rfl
  | false => simp only [BF, if_false] at oki; exact Cn v oki
 refine wpAny_comprehension_free (cl := Z7 env.cells scope.names []) rfl hset (Xx fun n hn => S.envOk.cells n (hfree n hn)) hkind hnames ?_
 refine src_wp hit S oki evi fun shr I fp wr Pv St h₁ s₂ src => ?_
 refine Oe (RR := fun acc C => compPost (model prog w) A E use Q acc C) he hifs S hsc hx hids okl oke src hcol fun D C h' tk m' F n1 n2 n3 n4 n5 n6 n7 n8 => ?_
 refine hfin D C _ m' (src.kp.none n2) n3 n4 ?_ ⟨F, n5, n6, fun a m => ⟨src.kp.none (n7 a m).1, (n7 a m).2⟩⟩
 refine BC fun nn => ?_
 obtain ⟨h2, tk2, e2, k2⟩ := src.kp
 refine nn ?_; clear nn
 subst e2
 exact ⟨h', tk, rfl, fun b o e => n8 b o (fun hm => by rw [src.fresh b hm] at e; cases e) (k2 b o e)⟩
theorem Eo {deep rng : Bool} {nid : Nat} {it elt : Ex} {ifs : ExL} (ok : okE gs cx (.comp deep rng nid it ifs elt) e = true) {GG : Prop} (kont : ∀ xe x px xi xifs scope pos, e = .ListComp xe [⟨.Name x px, xi, xifs, 0⟩] scope pos → cx.scopeOk scope = true → scope.names.lookup x = some .local → (∀ p ∈ cx.ids, p.2 ≠ nid) → ((if rng then ∃ g np z zp, xi = .Call (.Name g np) [z] [] zp ∧ g = ("range" : Str) ∧ cx.glob g = true ∧ okE gs cx it z = true else okE gs cx it xi = true)) → okL gs (cx.inner scope [(x, nid)]) ifs xifs = true → okE gs (cx.inner scope [(x, nid)]) elt xe = true → GG) : GG := by
 cases rng with
 | true =>
  revert kont; apply Bh ok; intro xe x px g np z zp fs scope pos ok kont
  replace ok : (g == ("range" : Str) && cx.glob g && okE gs cx it z && cx.scopeOk scope && scope.names.lookup x == some .local && cx.ids.all (fun p => p.2 != nid) && okL gs (cx.inner scope [(x, nid)]) ifs fs && okE gs (cx.inner scope [(x, nid)]) elt xe) = true := ok
  simp only [BA, beq_iff_eq, List.all_eq_true, bne_iff_ne] at ok
  refine BC fun nn => ?_
  obtain ⟨⟨⟨⟨⟨⟨⟨h1, h2⟩, h3⟩, h4⟩, h5⟩, h6⟩, h7⟩, h8⟩ := ok
  refine nn ?_; clear nn
  exact kont xe x px _ fs scope pos rfl h4 h5 h6 ⟨g, np, z, zp, rfl, h1, h2, h3⟩ h7 h8
 | false =>
  revert kont; apply Bi ok; intro xe x px i fs scope pos ok kont
  replace ok : (okE gs cx it i && cx.scopeOk scope && scope.names.lookup x == some .local && cx.ids.all (fun p => p.2 != nid) && okL gs (cx.inner scope [(x, nid)]) ifs fs && okE gs (cx.inner scope [(x, nid)]) elt xe) = true := ok
  simp only [BA, beq_iff_eq, List.all_eq_true, bne_iff_ne] at ok
  refine BC fun nn => ?_
  obtain ⟨⟨⟨⟨⟨h3, h4⟩, h5⟩, h6⟩, h7⟩, h8⟩ := ok
  refine nn ?_; clear nn
  exact kont xe x px _ fs scope pos rfl h4 h5 h6 h3 h7 h8
theorem Ep {deep rng : Bool} {nid : Nat} {it elt : Ex} {ifs : ExL} (ev : evE Φ (.comp deep rng nid it ifs elt) σ = some (d, k)) {GG : Prop} (kont : ∀ items nb outs, (evE Φ it σ).bind (Fc rng) = some (items, nb) → Qv (Sc Φ deep ifs elt σ nid nb) items = some outs → d = .list outs → k = .fr ((if deep then 1 else 0) + 1) → GG) : GG := by
 dsimp only [e_comp] at ev
 refine Z2 ev fun items nb h1 ev => ?_
 rw [Option.map_eq_some_iff] at ev
 refine BC fun nn => ?_
 obtain ⟨outs, h2, ev⟩ := ev
 refine nn ?_; clear nn
 simp only [Prod.mk.injEq] at ev
 refine kont items nb outs h1 h2 ev.1.symm ?_
 rw [← ev.2]
 cases deep <;> rfl
theorem E5 (deep rng : Bool) (nid : Nat) {it elt : Ex} (ifs : ExL) (hit : SE prog w Γ Φ gs it) (he : SE prog w Γ Φ gs elt) (hifs : V1 prog w Γ Φ gs ifs) : SE prog w Γ Φ gs (.comp deep rng nid it ifs elt) := by
 intro cx env P σ A s e d k E ok S ev
 refine Eo ok fun xe x px xi xifs scope pos hrf0 h1 h2 h3 h4 h5 h6 => ?_
 subst hrf0
 refine Ep ev fun items nb outs e1 e2 hrf0 hrf1 => ?_
 subst hrf0
 subst hrf1
 rw [eval_ListComp]
 refine En (use := none) hit he hifs S h1 h2 h3 h4 h5 h6 e1 e2 fun D C s' m' n1 n2 n3 n4 n5 => ?_
 refine BC fun nn => ?_
 obtain ⟨F, o, nd, fr⟩ := n5
 refine nn ?_; clear nn
 refine ⟨m', n3, fun h' hs' => ⟨?_, D :: F, o.move (fun a ob p e => ⟨p.1, hs'.extBut a ob p.2 e⟩) (fun a ob hm e => hs'.extBut a ob (fr a hm).2 e), nd, fun a m => (fr a m).1⟩⟩
 ·refine BC fun nn => ?_
  obtain ⟨h2, tk2, rfl, k2⟩ := n4
  refine nn ?_; clear nn
  exact ⟨h', tk2, rfl, fun b o e => hs'.extBut b o (fun q => by rw [q, n1] at e; cases e) (k2 b o e)⟩
end
theorem Fp (elt target iter : Expr) (g0 : Comprehension) (ifs : List Expr) (scope : Scope) (pos : Pos) (it acc : Value) (env : Env) :
  compTurn (.ListComp elt [g0, ⟨target, iter, ifs, 0⟩] scope pos) 1 it acc env = (do
   standAt iter.pos
   match ← pyNext it with
   | none => pure (.done .next)
   | some v =>
    letOwnedTupleGo target it v
    assign target env v
    let mut ok := true
    for c in ifs do
     if ok then ok ← isTrue c env (eval c env)
    if ok then
     (do let _ ← call (.builtin "list.append") [acc, ← eval elt env])
    again (.compLoop (.ListComp elt [g0, ⟨target, iter, ifs, 0⟩] scope pos) 1 it acc env)) := by rfl
theorem Fq (elt target iter t2 i2 : Expr) (f2 : List Expr) (scope : Scope) (pos : Pos) (it acc : Value) (env : Env) :
  compTurn (.ListComp elt [⟨target, iter, [], 0⟩, ⟨t2, i2, f2, 0⟩] scope pos) 0 it acc env = (do
   standAt iter.pos
   match ← pyNext it with
   | none => pure (.done .next)
   | some v =>
    letOwnedTupleGo target it v
    assign target env v
    let x ← eval i2 env
    standAt i2.pos
    let x ← foldedSetIterable i2 env x
    let _ ← runOwn (.compStart (.ListComp elt [⟨target, iter, [], 0⟩, ⟨t2, i2, f2, 0⟩] scope pos) 1 (← holding [x] (pyIter x)) acc env) env
    again (.compLoop (.ListComp elt [⟨target, iter, [], 0⟩, ⟨t2, i2, f2, 0⟩] scope pos) 0 it acc env)) := by rfl
section
variable {prog : Program} {w : World} {Γ : Gd} {Φ : Fns} {gs : Str → Option Str} {cx : Cx} {env : Env} {P : Addr → Prop} {σ : Sg} {A : Around} {s s' s₁ s₂ : Shared} {E : Value → Shared → Prop} {R : Result → Shared → Prop} {a b c : Ex} {e x y : Expr} {d : PyData} {k : Kd} {h h' : Heap}
theorem Nl {elt iter : Expr} {g0 : Comprehension} {y : Str} {py : Pos} {ifs : List Expr} {scope : Scope} {pos : Pos} {it acc : Value} (I : Nat → Shared → Prop)
  (turn : ∀ n s, I n s → wpAny (model prog w) A (pyNext it) (fun r s₁ => match r with
   | none => R (.ok .next) s₁
   | some v => wpAny (model prog w) A (assign (.Name y py) env v) (fun _ s₂ =>
     wpAny (model prog w) A (forIn ifs true fun c r => if r = true then do let ok ← isTrue c env (eval c env); pure (ForInStep.yield ok) else pure (ForInStep.yield r)) (fun ok s₃ =>
      if ok = true then wpAny (model prog w) A (eval elt env) (fun x s₄ =>
       wpAny (model prog w) A (call (.builtin "list.append") [acc, x]) (fun _ s₅ => ∃ m, m < n ∧ I m s₅) (notedBy (model prog w) A env fun e s' => R (.error e) s') s₄) (notedBy (model prog w) A env fun e s' => R (.error e) s') s₃
      else ∃ m, m < n ∧ I m s₃) (notedBy (model prog w) A env fun e s' => R (.error e) s') s₂) (notedBy (model prog w) A env fun e s' => R (.error e) s') s₁) (notedBy (model prog w) A env fun e s' => R (.error e) s') s)
  (n : Nat) (h : I n s) : codeAny (model prog w) A (.compLoop (.ListComp elt [g0, ⟨.Name y py, iter, ifs, 0⟩] scope pos) 1 it acc env) R s := by
 refine codeAny_loop rfl I (fun n s hI => ?_) n h
 show wpAny _ A ((compTurn (.ListComp elt [g0, ⟨.Name y py, iter, ifs, 0⟩] scope pos) 1 it acc env).onRaise (fun x => do noteFrame x env; theTreesLotGoes x)) _ _ s
 refine wpAny_noted ?_
 rw [Fp]
 refine wpAny_bind (wpAny_standAt (wpAny_bind (wpAny_mono (turn n s hI) (fun r s₁ h₁ => ?_) fun _ _ h' => h')))
 cases r with
 | none => exact wpAny_pure h₁
 | some v =>
  refine wpAny_bind (wpAny_pure ?_)
  refine wpAny_bind (wpAny_mono h₁ (fun _ s₂ h₂ => wpAny_bind (wpAny_mono h₂ (fun ok s₃ h₃ => ?_) fun _ _ h' => h')) fun _ _ h' => h')
  cases ok with
  | false => exact wpAny_pure ⟨rfl, h₃⟩
  | true =>
   exact wpAny_bind (wpAny_bind (wpAny_mono h₃ (fun x s₄ h₄ => wpAny_bind (wpAny_mono h₄ (fun _ s₅ h₅ => wpAny_pure (wpAny_pure ⟨rfl, h₅⟩)) fun _ _ h' => h')) fun _ _ h' => h'))
theorem Dt {elt : Expr} {g0 : Comprehension} {target iter : Expr} {ifs : List Expr} {scope : Scope} {pos : Pos} {it acc : Value}
  (h0 : codeAny (model prog w) A (.compLoop (.ListComp elt [g0, ⟨target, iter, ifs, 0⟩] scope pos) 1 it acc env) R s)
  (h : wpAny (model prog w) A (pyIter it) (fun it' s' => codeAny (model prog w) A (.compLoop (.ListComp elt [g0, ⟨target, iter, ifs, 0⟩] scope pos) 1 it' acc env) R s')
   (notedBy (model prog w) A env fun x s' => R (.error x) s') s) :
  codeAny (model prog w) A (.compStart (.ListComp elt [g0, ⟨target, iter, ifs, 0⟩] scope pos) 1 it acc env) R s := by
 refine codeAny_of_tree ?_
 show wpAny _ _ ((compStart (.ListComp elt [g0, ⟨target, iter, ifs, 0⟩] scope pos) 1 it acc env).onRaise (fun x => do noteFrame x env; standAt theWindowsPlace)) _ _ s
 refine wpAny_notedAt ?_
 unfold compStart
 show wpAny _ _ (ask >>= _) _ _ s
 refine wpAny_bind (wpAny_askSetting (wpAny_ite ?_))
 split
 ·first
   | exact wpAny_bind (wpAny_pure (wpAny_pure (And.intro rfl h0)))
   | exact wpAny_pure (And.intro rfl h0)
 ·first
   | exact wpAny_bind (wpAny_rule (wpAny_bind (wpAny_standAt (wpAny_bind (wpAny_mono h (fun it' s' h' => wpAny_pure (And.intro rfl h')) fun _ _ x => x)))))
   | (refine wpAny_bind (wpAny_rule ?_); show wpAny _ _ (standAt iter.pos >>= _) _ _ s; exact wpAny_bind (wpAny_standAt (wpAny_bind (wpAny_mono h (fun it' s' h' => wpAny_pure (And.intro rfl h')) fun _ _ x => x))))
theorem Nm {elt iter i2 t2 : Expr} {x : Str} {px : Pos} {f2 : List Expr} {scope : Scope} {pos : Pos} {it acc : Value} (hset : ∀ v, foldedSetIterable i2 env v = pure v) (I : Nat → Shared → Prop)
  (turn : ∀ n s, I n s → wpAny (model prog w) A (pyNext it) (fun r s₁ => match r with
   | none => R (.ok .next) s₁
   | some v => wpAny (model prog w) A (assign (.Name x px) env v) (fun _ s₂ =>
     wpAny (model prog w) A (eval i2 env) (fun u s₃ => wpAny (model prog w) A (pyIter u) (fun it2 s₄ =>
      codeAny (model prog w) A (.compStart (.ListComp elt [⟨.Name x px, iter, [], 0⟩, ⟨t2, i2, f2, 0⟩] scope pos) 1 it2 acc env) (fun r s₅ => match r with | .ok _ => ∃ m, m < n ∧ I m s₅ | .error _ => False) s₄)
      (notedBy (model prog w) A env fun e s' => R (.error e) s') s₃) (notedBy (model prog w) A env fun e s' => R (.error e) s') s₂) (notedBy (model prog w) A env fun e s' => R (.error e) s') s₁) (notedBy (model prog w) A env fun e s' => R (.error e) s') s)
  (n : Nat) (h : I n s) : codeAny (model prog w) A (.compLoop (.ListComp elt [⟨.Name x px, iter, [], 0⟩, ⟨t2, i2, f2, 0⟩] scope pos) 0 it acc env) R s := by
 refine codeAny_loop rfl I (fun n s hI => ?_) n h
 show wpAny _ A ((compTurn (.ListComp elt [⟨.Name x px, iter, [], 0⟩, ⟨t2, i2, f2, 0⟩] scope pos) 0 it acc env).onRaise (fun x => do noteFrame x env; theTreesLotGoes x)) _ _ s
 refine wpAny_noted ?_
 rw [Fq]
 refine wpAny_bind (wpAny_standAt (wpAny_bind (wpAny_mono (turn n s hI) (fun r s₁ h₁ => ?_) fun _ _ h' => h')))
 cases r with
 | none => exact wpAny_pure h₁
 | some v =>
  refine wpAny_bind (wpAny_pure ?_)
  refine wpAny_bind (wpAny_mono h₁ (fun _ s₂ h₂ => wpAny_bind (wpAny_mono h₂ (fun u s₃ h₃ => wpAny_bind (wpAny_standAt ?_)) fun _ _ h' => h')) fun _ _ h' => h')
  refine wpAny_bind (wpAny_of_eq (hset u) (wpAny_bind (wpAny_holding (wpAny_mono h₃ (fun it2 s₄ h₄ => ?_) fun _ _ h' => h'))))
  refine wpAny_bind (wpAny_runOwn (codeAny_mono h₄ fun r s₅ q => ?_))
  cases r with
  | ok f => exact wpAny_pure ⟨rfl, q⟩
  | error e => exact q.elim
theorem Lx {f : PyData → Option (Option PyData)} : ∀ {l : List PyData} {outs os : List PyData} (i : Nat), Qv f l = some outs → Qv f (l.take i) = some os → os.length ≤ outs.length
 | [], outs, os, i, h, h' => by simp only [List.take_nil] at h'; rw [h] at h'; obtain rfl := Option.some.inj h'; exact Nat.le_refl _
 | z :: l, outs, os, 0, h, h' => by simp only [List.take_zero, Qv, OI] at h'; subst h'; exact Nat.zero_le _
 | z :: l, outs, os, i + 1, h, h' => by
  simp only [List.take_succ_cons, Qv, OE, Option.map_eq_some_iff] at h h'
  refine BC fun nn => ?_
  obtain ⟨y', h1, ys, h2, rfl⟩ := h
  refine nn ?_; clear nn
  refine BC fun nn => ?_
  obtain ⟨y'', h3, ys', h4, rfl⟩ := h'
  refine nn ?_; clear nn
  rw [h1] at h3
  obtain rfl := Option.some.inj h3
  have := Lx i h2 h4
  cases y' <;> simp <;> lia
theorem Hg {f : PyData → Option (List PyData)} : ∀ {l : List PyData} {outs pre : List PyData} {i : Nat} {d : PyData}, Wz f l = some outs → Wz f (l.take i) = some pre → l[i]? = some d → ∃ ys, f d = some ys ∧ Wz f (l.take (i + 1)) = some (pre ++ ys) ∧ pre.length + ys.length ≤ outs.length
 | [], _, _, _, _, _, _, hd => by simp at hd
 | z :: l, outs, pre, 0, d, h, h', hd => by
  simp only [List.take_zero, c2_n, c2_c, OI] at h'
  simp only [GZ, OI] at hd
  subst h' hd
  simp only [c2_n, c2_c, OE, Option.map_eq_some_iff] at h
  refine BC fun nn => ?_
  obtain ⟨ys, h1, zs, h2, rfl⟩ := h
  refine nn ?_; clear nn
  exact ⟨ys, h1, by simp [c2_n, c2_c, h1], by simp⟩
 | z :: l, outs, pre, i + 1, d, h, h', hd => by
  simp only [List.take_succ_cons, c2_n, c2_c, OE, Option.map_eq_some_iff] at h h'
  refine BC fun nn => ?_
  obtain ⟨ys, h1, zs, h2, rfl⟩ := h
  refine nn ?_; clear nn
  refine BC fun nn => ?_
  obtain ⟨ys', h3, zs', h4, rfl⟩ := h'
  refine nn ?_; clear nn
  rw [h1] at h3
  obtain rfl := Option.some.inj h3
  refine BC fun nn => ?_
  obtain ⟨us, e1, e2, e3⟩ := Hg h2 h4 (by simpa using hd)
  refine nn ?_; clear nn
  exact ⟨us, e1, by simp [c2_n, c2_c, h1, e2], by simp; lia⟩
variable (prog w) in
noncomputable def Nu (ys : List Value) (os : List PyData) : Prop := ∀ (P : Addr → Prop) (h : Heap), RpAll prog w P h ys os
noncomputable def Nk (Φ : Fns) (ifs : ExL) (elt : Ex) (σ : Sg) (m : Nat) (e : PyData) : Option (Option PyData) :=
 (Ub Φ ifs (σ.set m (some (e, 0)))).bind fun ok => if ok then (evE Φ elt (σ.set m (some (e, 0)))).bind fun r => if leaf r.1 then some (some r.1) else none else some none
theorem Sf {elt : Ex} {ifs : ExL} {xe yi : Expr} {g0 : Comprehension} {yifs : List Expr} {x y : Str} {py pos : Pos} {n m : Nat} {scope : Scope} {items outs : List PyData} {I : Addr} {fp wr : List Addr} {Pv : Nat → Value → Prop} {St : Nat → Heap → Prop} {h₁ : Heap} {D C : Addr} {ys : List Value} {d : PyData} {v : Value} {cenv : Env} {m₀ : Str → Option Value} {s5 : Shared} {P' : Addr → Prop}
  (he : SE prog w Γ Φ gs elt) (hifs : V1 prog w Γ Φ gs ifs) (S : St0 prog w Γ Φ gs cx env P σ A s) (hsc : cx.scopeOk scope = true) (hxl : scope.names.lookup x = some .local) (hyl : scope.names.lookup y = some .local) (hxy : x ≠ y) (hnm : n ≠ m) (hids : ∀ p ∈ cx.ids, p.2 ≠ n ∧ p.2 ≠ m)
  (okl : okL gs (cx.inner scope [(x, n), (y, m)]) ifs yifs = true) (oke : okE gs (cx.inner scope [(x, n), (y, m)]) elt xe = true)
  (hcenv : compEnvC scope (Z7 env.cells scope.names []) C env = cenv)
  (EI : Fu prog w cx env P' σ s.heap) (kS : ∀ b o, s.heap.get? b = some o → s5.heap.get? b = some o ∧ b ≠ D ∧ b ≠ C) (hPD : ∀ a, P' a → P a ∧ a ≠ D ∧ a ≠ C) (hP5 : ∀ a, s5.heap.get? a = none → P' a)
  (hv : Rp prog w P' s5.heap v d) (hD5 : ∃ o, s5.heap.get? D = some o) (hC5 : ∃ o, s5.heap.get? C = some o) (hDC : D ≠ C)
  (src : SrcAt prog w P' A s5 s₂ true items 0 I fp wr Pv St h₁) (hacc : s₂.heap.PlainList D ys.toArray) (hns : s₂.heap.Ns C m₀) (hm0 : m₀ x = some v)
  (hcol : Qv (Nk Φ ifs elt (σ.set n (some (d, 0))) m) items = some outs) (hlen : ys.length + outs.length ≤ lim)
  (hR : ∀ h' tk m' zs, Nu prog w zs outs → h'.PlainList D (ys ++ zs).toArray → h'.Ns C m' → (∀ b o, b ≠ D → b ≠ C → s5.heap.get? b = some o → h'.get? b = some o) → R (.ok .next) { s₂ with heap := h', toks := tk }) :
  codeAny (model prog w) A (.compLoop (.ListComp xe [g0, ⟨.Name y py, yi, yifs, 0⟩] scope pos) 1 (.ref I) (.ref D) cenv) R s₂ := by
 refine Hl (Rw hsc) fun hkind hcell hnames hfree => ?_
 have hcl : cenv.locals = C := by rw [← hcenv]; rfl
 have hckx : cenv.kindOf x = some .local := by rw [← hcenv]; exact lookup_relabel_local hxl
 have hcky : cenv.kindOf y = some .local := by rw [← hcenv]; exact lookup_relabel_local hyl
 have hcp : (cenv.scope.kind == .class || (cenv.scope.kind == .module && cenv.locals != cenv.globals)) = false := by rw [← hcenv]; simp [compEnvC, relabel, hkind]
 have h5w : ∀ b o, s5.heap.get? b = some o → b ∉ wr := fun b o e hm => by rw [src.fresh b hm] at e; cases e
 have hDw : D ∉ wr := fun hm => let ⟨o, e⟩ := hD5; h5w _ o e hm
 have hCw : C ∉ wr := fun hm => let ⟨o, e⟩ := hC5; h5w _ o e hm
 let P'' : Addr → Prop := fun a => P' a ∧ a ∉ wr
 have EI' : Fu prog w cx env P'' σ s.heap := fun y i d n h1 h2 => by
  refine BC fun nn => ?_
  obtain ⟨v, F, l, o⟩ := EI y i d n h1 h2
  refine nn ?_; clear nn
  exact ⟨v, F, l, o.move (fun a ob p e => ⟨⟨p, h5w a ob (kS a ob e).1⟩, e⟩) fun a ob _ e => e⟩
 obtain ⟨J, hJ⟩ : ∃ J : Nat → Heap → Prop, J = fun i hh => ∃ (m' : Str → Option Value) (zs : List Value) (os : List PyData), St i hh ∧ hh.PlainList D (ys ++ zs).toArray ∧ hh.Ns C m' ∧ m' x = some v ∧
   Qv (Nk Φ ifs elt (σ.set n (some (d, 0))) m) (items.take i) = some os ∧ Nu prog w zs os ∧ (∀ b o, b ∉ wr → b ≠ D → b ≠ C → s₂.heap.get? b = some o → hh.get? b = some o) := ⟨_, rfl⟩
 refine Nl (LI items.length s₂ J) ?_ (items.length + 1) ?_
 ·intro k s' hqq
  induction hqq with
  | mk i hh tk hi hj =>
  refine BC fun nn => ?_
  rw [hJ] at hj
  obtain ⟨m', zs, os, hst, hacc', hn', hmx, hos, hlf, hkeep⟩ := hj
  refine nn ?_; clear nn
  by_cases hlt : i < items.length
  ·refine src.walks.item i _ _ _ hlt hst fun u h4 tk₄ hPv hst₄ hk₄ => ?_
   refine wpAny_assign_Name (wpAny_storeName_local hcky (by rw [hcl]; exact hn'.at' fun o e => hk₄ _ o hCw e) (fun h5 hn5 hs5 => ?_) hcp)
   rw [hcl] at hn5 hs5
   obtain ⟨e, hd⟩ : ∃ e, items[i]? = some e := ⟨_, List.getElem?_eq_getElem hlt⟩
   refine exC (Vn hcol hd) fun yy hy => ?_
   have hos' := Zr hos hy
   have htake : items.take (i + 1) = items.take i ++ [e] := by rw [List.take_add_one, hd]; rfl
   rw [← htake] at hos'
   have up5 : ∀ b o, b ≠ C → b ∉ wr → hh.get? b = some o → h5.get? b = some o := fun b o hb hbw q => hs5.extBut b o hb (hk₄ b o hbw q)
   have k5 : ∀ b o, b ≠ D → b ≠ C → s5.heap.get? b = some o → h5.get? b = some o := fun b o h1 h2 q => up5 b o h2 (h5w b o q) (hkeep b o (h5w b o q) h1 h2 (src.kp.keep b o q))
   have kS5 : ∀ b o, s.heap.get? b = some o → h5.get? b = some o := fun b o q => k5 b o (kS b o q).2.1 (kS b o q).2.2 (kS b o q).1
   refine exC (src.item i u e hPv hd) fun G og => ?_
   have ru : Rp prog w P'' h5 u e := by
    have r := og.zero.1
    ·refine r.move fun a ob p q => ?_
     have hpd := hPD a p
     have hw1 : a ∉ wr := fun hm => by rw [src.fresh₁ a hm] at q; cases q
     exact ⟨⟨p, hw1⟩, up5 a ob hpd.2.2 hw1 (hkeep a ob hw1 hpd.2.1 hpd.2.2 (src.base a ob q))⟩
   have rv : Rp prog w P'' h5 v d := hv.move fun a ob p q => ⟨⟨p, h5w a ob q⟩, k5 a ob (hPD a p).2.1 (hPD a p).2.2 q⟩
   have hfpC : ∀ b ∈ fp, b ≠ C ∧ b ≠ D := fun b hb => by
    rcases src.fpP rfl b hb with q | ⟨q, _⟩
    ·exact ⟨fun q2 => hCw (q2 ▸ q), fun q2 => hDw (q2 ▸ q)⟩
    ·exact ⟨(hPD b q).2.2, (hPD b q).2.1⟩
   have hst5 : St (i + 1) h5 := src.walks.frame _ _ _ hst₄ fun b hb o q => hs5.extBut b o (hfpC b hb).1 q
   have hwh := src.there _ _ hst5
   have hDh : ∃ o, h5.get? D = some o := let ⟨n, e⟩ := hacc'; ⟨_, up5 D _ hDC hDw e⟩
   have hCh : ∃ o, h5.get? C = some o := let ⟨o, _, _, e, _⟩ := hn5; ⟨o, e⟩
   have S5 : St0 prog w Γ Φ gs (cx.inner scope [(x, n), (y, m)]) cenv P'' ((σ.set n (some (d, 0))).set m (some (e, 0))) A { s₂ with heap := h5, toks := tk₄ + 1 } := by
    refine ⟨hcenv ▸ Vz S.envOk hsc, S.room, S.ground.keeps kS5, ?_, fun a e => ?_, S.std, S.fnOk⟩
    ·rw [← hcenv]
     refine Kn S.envOk hsc EI' kS5 (fun z i' hh' => ?_) fun z i' d' n' hl hhe hvv => ?_
     ·have hi := hids _ (Y2 (We hh').1)
      rw [Ra hi.2, Ra hi.1]
     ·rw [List.lookup_cons] at hl
      by_cases q : z = x
      ·subst q
       simp only [beq_self_eq_true, OI] at hl
       subst hl
       rw [Ra hnm] at hvv
       have := Tb hvv
       simp only [OI, Prod.mk.injEq] at this
       obtain ⟨rfl, rfl⟩ := this
       exact ⟨v, [], .inl ⟨by rw [hcenv]; exact hckx, _, by rw [hcenv, hcl]; exact hn5, by simp [hxy, hmx]⟩, rv.ow⟩
      ·have hzx : (z == x) = false := by simpa using q
       rw [hzx, List.lookup_cons] at hl
       by_cases q' : z = y
       ·subst q'
        simp only [beq_self_eq_true, OI] at hl
        subst hl
        have := Tb hvv
        simp only [OI, Prod.mk.injEq] at this
        obtain ⟨rfl, rfl⟩ := this
        exact ⟨u, [], .inl ⟨by rw [hcenv]; exact hcky, _, by rw [hcenv, hcl]; exact hn5, by simp⟩, ru.ow⟩
       ·have : (z == y) = false := by simpa using q'
        rw [this] at hl; simp at hl
    ·have e' : h5.get? a = none := e
     exact ⟨hP5 a (Hs (fun o q => k5 a o (X5 hDh e') (X5 hCh e') q) e'), fun hm => X5 (hwh a hm) e' rfl⟩
   have hkeep5 : ∀ b o, b ∉ wr → b ≠ D → b ≠ C → s₂.heap.get? b = some o → h5.get? b = some o := fun b o hb h1 h2 q => up5 b o h2 hb (hkeep b o hb h1 h2 q)
   have hacc5 : h5.PlainList D (ys ++ zs).toArray := hacc'.at fun o q => up5 D o hDC hDw q
   unfold Nk at hy
   refine bnC hy fun ok hok hy => ?_
   refine testsC (Gg ifs yifs hifs okl S5 hok) fun h6 tk₆ keep6 => ?_
   have hmx' : (fun z => if z = y then some u else m' z) x = some v := by simp [hxy, hmx]
   cases ok with
   | false =>
    simp only [BF, if_false, OI] at hy ⊢
    subst hy
    simp only [Option.toList_none, List.append_nil] at hos'
    exact ⟨items.length + 1 - (i + 1), Vr hlt, .mk (i + 1) h6 tk₆ hlt <| hJ ▸ ⟨_, zs, os, src.walks.frame _ _ _ hst5 fun b _ o q => keep6 b o q, hacc5.at fun o q => keep6 _ o q, hn5.keeps keep6, hmx', hos', hlf, fun b o hb h1 h2 q => keep6 b o (hkeep5 b o hb h1 h2 q)⟩⟩
   | true =>
    simp only [if_true] at hy ⊢
    refine Z2 hy fun dr kr her hy => ?_
    split at hy
    ·rename_i hleaf
     simp only [OI] at hy
     subst hy
     have S6 := S5.keeps (s' := { s₂ with heap := h6, toks := tk₆ }) ⟨h6, tk₆, rfl, keep6⟩
     refine seC (he oke S6 her) fun yv h7 tk₇ keep7 r₇ => ?_
     have hos7 : (os ++ (some dr : Option PyData).toList) = os ++ [dr] := rfl
     rw [hos7] at hos'
     have hpre := Lx _ hcol hos'
     have hl1 := (hlf All h7).length
     have hysz : (ys ++ zs).toArray.size ≤ sizeLine := by
      rw [List.size_toArray, List.length_append, hl1]
      rw [List.length_append] at hpre
      exact Nat.le_trans (by lia) Tw
     have hacc7 : h7.PlainList D (ys ++ zs).toArray := (hacc5.at fun o q => keep6 _ o q).at fun o q => keep7 _ o q
     refine wpAny_list_append_plain (hsz := hysz) hacc7 fun h8 hl8 hs8 => ?_
     have epush : (ys ++ zs).toArray.push yv = (ys ++ (zs ++ [yv])).toArray := by simp
     rw [epush] at hl8
     have up8 : ∀ b o, b ≠ D → h5.get? b = some o → h8.get? b = some o := fun b o hb q => hs8.extBut b o hb (keep7 b o (keep6 b o q))
     refine ⟨items.length + 1 - (i + 1), Vr hlt, .mk (i + 1) h8 tk₇ hlt <| hJ ▸ ⟨_, zs ++ [yv], os ++ [dr], src.walks.frame _ _ _ hst5 fun b hb o q => up8 b o (hfpC b hb).2 q, hl8, (hn5.at' (h' := h8) fun o q => up8 C o (Ne.symm hDC) q), hmx', hos', ?_, fun b o hb h1 h2 q => up8 b o h1 (hkeep5 b o hb h1 h2 q)⟩⟩
     intro P2 h2
     exact (hlf P2 h2).append (.cons (Zd hleaf r₇.rd) .nil)
    ·cases hy
  ·have hin : i = items.length := Nat.le_antisymm hi (Nat.not_lt.mp hlt)
   subst hin
   rw [List.take_length, hcol] at hos
   obtain rfl := Option.some.inj hos
   refine src.walks.done _ _ _ hst fun h4 tk₄ hk₄ => ?_
   exact hR h4 tk₄ m' zs hlf (hacc'.at fun o q => hk₄ _ o hDw q) (hn'.at' fun o q => hk₄ _ o hCw q) fun b o h1 h2 q => hk₄ b o (h5w b o q) (hkeep b o (h5w b o q) h1 h2 (src.kp.keep b o q))
 ·exact .mk 0 s₂.heap s₂.toks (Nat.zero_le _) <| hJ ▸ ⟨_, [], [], src.start, by simpa using hacc, hns, hm0, rfl, fun _ _ => .nil, fun b o _ _ _ e => e⟩
end
section
variable {prog : Program} {w : World} {Γ : Gd} {Φ : Fns} {gs : Str → Option Str} {cx : Cx} {env : Env} {P : Addr → Prop} {σ : Sg} {A : Around} {s s' s₁ s₂ : Shared} {E : Value → Shared → Prop} {R : Result → Shared → Prop} {a b c : Ex} {e x y : Expr} {d : PyData} {k : Kd} {h h' : Heap}
noncomputable def Ds (Φ : Fns) (it2 : Ex) (ifs : ExL) (elt : Ex) (σ : Sg) (n m : Nat) (d : PyData) : Option (List PyData) :=
 ((evE Φ it2 (σ.set n (some (d, 0)))).bind Y5).bind fun q => Qv (Nk Φ ifs elt (σ.set n (some (d, 0))) m) q
theorem Pg {elt it2 : Ex} {ifs : ExL} {xe xi yi : Expr} {xifs : List Expr} {x y : Str} {px py pos : Pos} {n m : Nat} {scope : Scope} {items outs : List PyData} {I : Addr} {fp wr : List Addr} {Pv : Nat → Value → Prop} {St : Nat → Heap → Prop} {h₁ : Heap}
  {RR : Value → Addr → Result → Shared → Prop}
  (he : SE prog w Γ Φ gs elt) (hi2 : SE prog w Γ Φ gs it2) (hifs : V1 prog w Γ Φ gs ifs) (S : St0 prog w Γ Φ gs cx env P σ A s) (hsc : cx.scopeOk scope = true) (hx : scope.names.lookup x = some .local) (hy : scope.names.lookup y = some .local) (hxy : x ≠ y) (hnm : n ≠ m) (hids : ∀ p ∈ cx.ids, p.2 ≠ n ∧ p.2 ≠ m)
  (ok2 : okE gs (cx.inner scope [(x, n)]) it2 yi = true) (okl : okL gs (cx.inner scope [(x, n), (y, m)]) ifs xifs = true) (oke : okE gs (cx.inner scope [(x, n), (y, m)]) elt xe = true) {shr : Bool} (src : SrcAt prog w P A s s₂ shr items 0 I fp wr Pv St h₁)
  (hcol : Wz (Ds Φ it2 ifs elt σ n m) items = some outs) (hlen : outs.length ≤ lim)
  (hRR : ∀ D C h' tk m' F, s₂.heap.get? D = none → s₂.heap.get? C = none → D ≠ C → h'.Ns C m' → Ow prog w (fun a => P a ∧ a ≠ C) h' 1 (.ref D) (.list outs) (D :: F) → (D :: F).Nodup → (∀ a ∈ D :: F, s₂.heap.get? a = none ∧ a ≠ C) →
   (∀ b o, b ∉ wr → s₂.heap.get? b = some o → h'.get? b = some o) → RR (.ref D) C (.ok .next) { s₂ with heap := h', toks := tk }) :
  wpAny (model prog w) A (newList []) (fun acc s₃ => wpAny (model prog w) A (newFunctionEnv scope env.globals (Z7 env.cells scope.names []) [] env.qual none .none (some env)) (fun cenv s₄ =>
   codeAny (model prog w) A (.compStart (.ListComp xe [⟨.Name x px, xi, [], 0⟩, ⟨.Name y py, yi, xifs, 0⟩] scope pos) 0 (.ref I) acc { cenv with scope := relabel scope env }) (RR acc cenv.locals) s₄) E s₃) E s₂ := by
 refine Hl (Rw hsc) fun hkind hcell hnames hfree => ?_
 refine wpAny_newObj_type (wpAny_newFunctionEnv hcell (by intro y hy; simp at hy) (fun h₃ hns₁ hsb₁ => ?_) hkind)
 dsimp only at hns₁ hsb₁ ⊢
 generalize hH2 : s₂.heap.push { cls := .type "list", dict := none, data := .seq ([] : List Value).toArray } = H2 at hns₁ hsb₁ ⊢
 generalize hD : s₂.heap.objs.size = D
 have hC : H2.objs.size = D + 1 := by rw [← hH2, Heap.size_push, hD]
 generalize hCC : H2.objs.size = C at hns₁ hsb₁ hC ⊢
 have hDC : D ≠ C := by rw [hC]; exact Nat.ne_of_lt (Nat.lt_succ_self _)
 have nD : s₂.heap.get? D = none := Tm (Nat.le_of_eq hD)
 have nC : s₂.heap.get? C = none := Tm (by rw [hC, hD]; exact Nat.le_succ _)
 have below : ∀ b o, s₂.heap.get? b = some o → b ≠ C ∧ b ≠ D := fun b o e => ⟨(fun q => by rw [q, nC] at e; cases e), (fun q => by rw [q, nD] at e; cases e)⟩
 have hDf : D ∉ fp := fun hm => Nat.lt_irrefl _ (by have := src.low _ hm; rw [hD] at this; exact this)
 have hCf : C ∉ fp := fun hm => by have := src.low _ hm; rw [hD, hC] at this; exact Nat.lt_irrefl _ (Nat.lt_of_succ_lt this)
 have hDw : D ∉ wr := fun hm => hDf (src.walks.sub _ hm)
 have hCw : C ∉ wr := fun hm => hCf (src.walks.sub _ hm)
 have old : ∀ b o, s₂.heap.get? b = some o → h₃.get? b = some o := fun b o e => hsb₁.extBut b o (below b o e).1 (Heap.get?_push_of_some _ (hH2 ▸ Heap.get?_push_of_some _ e))
 have hacc : h₃.PlainList D #[] := ⟨_, hsb₁.extBut _ _ hDC (Heap.get?_push_of_some _ (hH2 ▸ hD ▸ Heap.get?_push_size _ rfl))⟩
 have hst₁ : St 0 h₃ := src.walks.frame _ _ _ src.start fun b _ o e => old b o e
 let P' : Addr → Prop := fun a => P a ∧ a ≠ D ∧ a ≠ C ∧ a ∉ wr
 have hbase : ∀ b o, s.heap.get? b = some o → b ≠ D ∧ b ≠ C ∧ b ∉ wr := fun b o e => by
  have e2 := src.kp.keep b o e
  exact ⟨(below b o e2).2, (below b o e2).1, fun hm => by rw [src.fresh b hm] at e; cases e⟩
 have hbase₁ : ∀ b o, h₁.get? b = some o → b ≠ D ∧ b ≠ C ∧ b ∉ wr := fun b o e => by
  have e2 := src.base b o e
  exact ⟨(below b o e2).2, (below b o e2).1, fun hm => by rw [src.fresh₁ b hm] at e; cases e⟩
 have EI : Fu prog w cx env P' σ s.heap := fun y i d n h1 h2 => by
  refine exxC2 (S.inv y i d n h1 h2) fun v F l o => ?_
  exact ⟨v, F, l, o.move (fun a ob p e => ⟨⟨p, hbase a ob e⟩, e⟩) fun a ob _ e => e⟩
 have loop : ∀ s₃ : Shared, s₃ = { s₂ with heap := h₃, toks := s₂.toks + ([] : List (Str × Value)).length } →
   codeAny (model prog w) A (.compLoop (.ListComp xe [⟨.Name x px, xi, [], 0⟩, ⟨.Name y py, yi, xifs, 0⟩] scope pos) 0 (.ref I) (.ref D) (compEnvC scope (Z7 env.cells scope.names []) C env)) (RR (.ref D) C) s₃ := by
  rintro s₃ rfl
  generalize hcenv : compEnvC scope (Z7 env.cells scope.names []) C env = cenv
  have hcl : cenv.locals = C := by rw [← hcenv]; rfl
  have hck : cenv.kindOf x = some .local := by rw [← hcenv]; exact lookup_relabel_local hx
  have hcp : (cenv.scope.kind == .class || (cenv.scope.kind == .module && cenv.locals != cenv.globals)) = false := by rw [← hcenv]; simp [compEnvC, relabel, hkind]
  obtain ⟨J, hJ⟩ : ∃ J : Nat → Heap → Prop, J = fun i hh => ∃ (m' : Str → Option Value) (ys : List Value) (os : List PyData), St i hh ∧ hh.PlainList D ys.toArray ∧ hh.Ns C m' ∧
    Wz (Ds Φ it2 ifs elt σ n m) (items.take i) = some os ∧ Nu prog w ys os ∧ (∀ b o, b ∉ wr → s₂.heap.get? b = some o → hh.get? b = some o) := ⟨_, rfl⟩
  refine Nm (fun v => Cn v ok2) (LI items.length s₂ J) ?_ (items.length + 1) ?_
  ·intro k s' hqq
   induction hqq with
   | mk i hh tk hi hj =>
   refine BC fun nn => ?_
   rw [hJ] at hj
   obtain ⟨m', ys, os, hst, hacc', hn', hos, hlf, hkeep⟩ := hj
   refine nn ?_; clear nn
   by_cases hlt : i < items.length
   ·refine src.walks.item i _ _ _ hlt hst fun v h4 tk₄ hPv hst₄ hk₄ => ?_
    refine wpAny_assign_Name (wpAny_storeName_local hck (by rw [hcl]; exact hn'.at' fun o e => hk₄ _ o hCw e) (fun h5 hn5 hs5 => ?_) hcp)
    rw [hcl] at hn5 hs5
    obtain ⟨d, hd⟩ : ∃ d, items[i]? = some d := ⟨_, List.getElem?_eq_getElem hlt⟩
    refine BC fun nn => ?_
    obtain ⟨zs, hz, hos', hl'⟩ := Hg hcol hos hd
    refine nn ?_; clear nn
    have up5 : ∀ b o, b ≠ C → b ∉ wr → hh.get? b = some o → h5.get? b = some o := fun b o hb hbw e => hs5.extBut b o hb (hk₄ b o hbw e)
    have kS : ∀ b o, s.heap.get? b = some o → h5.get? b = some o := fun b o e => up5 b o (hbase b o e).2.1 (hbase b o e).2.2 (hkeep b o (hbase b o e).2.2 (src.kp.keep b o e))
    have k1 : ∀ b o, h₁.get? b = some o → h5.get? b = some o := fun b o e => up5 b o (hbase₁ b o e).2.1 (hbase₁ b o e).2.2 (hkeep b o (hbase₁ b o e).2.2 (src.base b o e))
    refine exC (src.item i v d hPv hd) fun G og => ?_
    have og' : Rp prog w P' h5 v d := by
     exact og.zero.1.move fun a ob p e => ⟨⟨p, hbase₁ a ob e⟩, k1 a ob e⟩
    have hDh : ∃ o, h5.get? D = some o := let ⟨n, e⟩ := hacc'; ⟨_, up5 D _ hDC hDw e⟩
    have hCh : ∃ o, h5.get? C = some o := let ⟨o, _, _, e, _⟩ := hn5; ⟨o, e⟩
    have hst5 : St (i + 1) h5 := src.walks.frame _ _ _ hst₄ fun b hb o e => hs5.extBut b o (fun q => hCf (q ▸ hb)) e
    have hwh := src.there _ _ hst5
    have hnew : ∀ a, h5.get? a = none → P' a := fun a e' => by
     refine ⟨S.new a ?_, fun q => ?_, fun q => ?_, fun hm => ?_⟩
     ·exact Hs (kS a) e'
     ·exact X5 hDh e' q
     ·exact X5 hCh e' q
     ·exact X5 (hwh a hm) e' rfl
    have S5 : St0 prog w Γ Φ gs (cx.inner scope [(x, n)]) cenv P' (σ.set n (some (d, 0))) A { s₂ with heap := h5, toks := tk₄ + 1 } := by
     refine ⟨hcenv ▸ Vz S.envOk hsc, S.room, S.ground.keeps kS, ?_, hnew, S.std, S.fnOk⟩
     ·rw [← hcenv]
      refine Kn S.envOk hsc EI kS (fun y i' hh' => Ra fun q => ?_) fun y i' d' n' hl hhe hv => ?_
      ·exact (hids _ (Y2 (We hh').1)).1 q
      ·have hyx : y = x ∧ i' = n := by
        rw [List.lookup_cons] at hl
        by_cases q : y = x
        ·subst q; simp only [beq_self_eq_true, OI] at hl; exact ⟨rfl, hl.symm⟩
        ·have : (y == x) = false := by simpa using q
         rw [this] at hl; simp at hl
       obtain ⟨rfl, rfl⟩ := hyx
       have := Tb hv
       simp only [OI, Prod.mk.injEq] at this
       obtain ⟨rfl, rfl⟩ := this
       exact ⟨v, [], .inl ⟨by rw [hcenv]; exact hck, _, by rw [hcenv, hcl]; exact hn5, by simp⟩, og'.ow⟩
    have hkeep5 : ∀ b o, b ∉ wr → s₂.heap.get? b = some o → h5.get? b = some o := fun b o hb e => up5 b o (below b o e).1 hb (hkeep b o hb e)
    unfold Ds at hz
    refine bnC hz fun q hq hz => ?_
    have hq' : (evE Φ it2 (σ.set n (some (d, 0)))).bind (M8 false) = some q := hq
    refine Hr (rng := false) hi2 S5 ok2 hq' fun I2 fp2 wr2 Pv2 St2 h12 s6 src2 => ?_
    have hacc6 : s6.heap.PlainList D ys.toArray := (hacc'.at fun o e => up5 D o hDC hDw e).at fun o e => src2.kp.keep D o e
    have hn6 := hn5.keeps src2.kp.keep
    have llf := (hlf All h5).length
    have inner := Sf (R := fun r s₅ => match r with | .ok _ => ∃ m_1, m_1 < items.length + 1 - i ∧ LI items.length s₂ J m_1 s₅ | .error _ => False) (g0 := ⟨.Name x px, xi, [], 0⟩) (yi := yi) (py := py) (pos := pos) (D := D) (C := C) (P' := P') he hifs S hsc hx hy hxy hnm hids okl oke hcenv EI (fun b o e => ⟨kS b o e, (hbase b o e).1, (hbase b o e).2.1⟩) (fun a p => ⟨p.1, p.2.1, p.2.2.1⟩) hnew og' hDh hCh hDC src2 hacc6 hn6 (by simp) hz (by lia)
     (fun h' tk' m'' zs' hl hp hns hk' => by
      refine BC fun nn => ?_
      obtain ⟨h6, tk6, rfl, keep6⟩ := src2.kp
      refine nn ?_; clear nn
      have up' : ∀ b o, b ≠ D → b ≠ C → h5.get? b = some o → h'.get? b = some o := fun b o h1 h2 e => hk' b o h1 h2 e
      refine ⟨items.length + 1 - (i + 1), Vr hlt, .mk (i + 1) h' tk' hlt <| hJ ▸ ⟨m'', ys ++ zs', os ++ zs, ?_, hp, hns, hos', fun P2 h2 => (hlf P2 h2).append (hl P2 h2), fun b o hb e => up' b o (below b o e).2 (below b o e).1 (hkeep5 b o hb e)⟩⟩
      exact src.walks.frame _ _ _ hst5 fun b hb o e => up' b o (fun q => hDf (q ▸ hb)) (fun q => hCf (q ▸ hb)) e)
    exact Dt inner (src2.walks.self 0 _ _ _ src2.start inner)
   ·have hin : i = items.length := Nat.le_antisymm hi (Nat.not_lt.mp hlt)
    subst hin
    rw [List.take_length, hcol] at hos
    obtain rfl := Option.some.inj hos
    refine src.walks.done _ _ _ hst fun h4 tk₄ hk₄ => ?_
    have how4 : OwAll prog w (fun a => P a ∧ a ≠ C) h4 0 ys outs [] := RpAll.ow0 (hlf (fun a => P a ∧ a ≠ C) h4)
    refine hRR D C h4 tk₄ m' [] nD nC hDC (hn'.at' fun o e => hk₄ _ o hCw e) (.list (hacc'.at fun o e => hk₄ _ o hDw e) hlen how4) ?_ ?_ fun b o hb e => hk₄ b o hb (hkeep b o hb e)
    ·simp
    ·intro a ha
     rcases List.mem_cons.mp ha with rfl | ha
     ·exact ⟨nD, hDC⟩
     ·cases ha
  ·exact .mk 0 h₃ _ (Nat.zero_le _) <| hJ ▸ ⟨_, [], [], hst₁, hacc, hns₁, rfl, fun _ _ => .nil, fun b o _ e => old b o e⟩
 exact codeAny_compStart_list (loop _ rfl) (src.walks.self 0 _ _ _ hst₁ (loop _ rfl))
theorem Sd {elt it1 it2 : Ex} {ifs : ExL} {xe xi yi : Expr} {xifs : List Expr} {x y : Str} {px py pos pos' : Pos} {n m : Nat} {scope : Scope} {items outs : List PyData} {use : Option (Value → Sem Unit)} {Q : Value → Shared → Prop}
  (hi1 : SE prog w Γ Φ gs it1) (hi2 : SE prog w Γ Φ gs it2) (he : SE prog w Γ Φ gs elt) (hifs : V1 prog w Γ Φ gs ifs) (S : St0 prog w Γ Φ gs cx env P σ A s) (hsc : cx.scopeOk scope = true) (hx : scope.names.lookup x = some .local) (hy : scope.names.lookup y = some .local) (hxy : x ≠ y) (hnm : n ≠ m) (hids : ∀ p ∈ cx.ids, p.2 ≠ n ∧ p.2 ≠ m)
  (ok1 : okE gs cx it1 xi = true) (ok2 : okE gs (cx.inner scope [(x, n)]) it2 yi = true) (okl : okL gs (cx.inner scope [(x, n), (y, m)]) ifs xifs = true) (oke : okE gs (cx.inner scope [(x, n), (y, m)]) elt xe = true) (evi : (evE Φ it1 σ).bind Y5 = some items)
  (hcol : Wz (Ds Φ it2 ifs elt σ n m) items = some outs) (hlen : outs.length ≤ lim)
  (hfin : ∀ D C s' m', s.heap.get? C = none → D ≠ C → s'.heap.Ns C m' → Kp s s' → (∃ F, Ow prog w (fun a => P a ∧ a ≠ C) s'.heap 1 (.ref D) (.list outs) (D :: F) ∧ (D :: F).Nodup ∧ (∀ a ∈ D :: F, s.heap.get? a = none ∧ a ≠ C)) →
   compPost (model prog w) A E use Q (.ref D) C (.ok .next) s') :
  wpAny (model prog w) A (comprehension (.ListComp xe [⟨.Name x px, xi, [], 0⟩, ⟨.Name y py, yi, xifs, 0⟩] scope pos) scope env pos' (newList []) false (eval xi env) use) Q E s := by
 refine Hl (Rw hsc) fun hkind hcell hnames hfree => ?_
 refine wpAny_comprehension_free (cl := Z7 env.cells scope.names []) rfl (fun v => Cn v ok1) (Xx fun n hn => S.envOk.cells n (hfree n hn)) hkind hnames ?_
 refine Hr (rng := false) hi1 S ok1 evi fun I fp wr Pv St h₁ s₂ src => ?_
 refine Pg (RR := fun acc C => compPost (model prog w) A E use Q acc C) he hi2 hifs S hsc hx hy hxy hnm hids ok2 okl oke src hcol hlen fun D C h' tk m' F n1 n2 n3 n4 n5 n6 n7 n8 => ?_
 refine hfin D C _ m' (src.kp.none n2) n3 n4 ?_ ⟨F, n5, n6, fun a m => ⟨src.kp.none (n7 a m).1, (n7 a m).2⟩⟩
 refine BC fun nn => ?_
 obtain ⟨h2, tk2, e2, k2⟩ := src.kp
 refine nn ?_; clear nn
 subst e2
 exact ⟨h', tk, rfl, fun b o e => n8 b o (fun hm => by rw [src.fresh b hm] at e; cases e) (k2 b o e)⟩
theorem Se {n m : Nat} {it1 it2 elt : Ex} {ifs : ExL} (ok : okE gs cx (.comp2 n m it1 it2 ifs elt) e = true) {GG : Prop} (kont : ∀ xe x px xi y py yi xifs scope pos, e = .ListComp xe [⟨.Name x px, xi, [], 0⟩, ⟨.Name y py, yi, xifs, 0⟩] scope pos → cx.scopeOk scope = true → scope.names.lookup x = some .local → scope.names.lookup y = some .local → x ≠ y → n ≠ m → (∀ p ∈ cx.ids, p.2 ≠ n ∧ p.2 ≠ m) → okE gs cx it1 xi = true → okE gs (cx.inner scope [(x, n)]) it2 yi = true → okL gs (cx.inner scope [(x, n), (y, m)]) ifs xifs = true → okE gs (cx.inner scope [(x, n), (y, m)]) elt xe = true → GG) : GG := by
 revert kont; apply Kl ok; intro xe x px i y py i' fs' scope pos ok kont
 replace ok : (okE gs cx it1 i && cx.scopeOk scope && scope.names.lookup x == some .local && scope.names.lookup y == some .local && !(x == y) && n != m && cx.ids.all (fun p => p.2 != n && p.2 != m) && okE gs (cx.inner scope [(x, n)]) it2 i' && okL gs (cx.inner scope [(x, n), (y, m)]) ifs fs' && okE gs (cx.inner scope [(x, n), (y, m)]) elt xe) = true := ok
 simp only [BA, beq_iff_eq, List.all_eq_true, bne_iff_ne, ne_eq, Bool.not_eq_true', beq_eq_false_iff_ne] at ok
 refine BC fun nn => ?_
 obtain ⟨⟨⟨⟨⟨⟨⟨⟨⟨h1, h2⟩, h3⟩, h4⟩, h5⟩, h6⟩, h7⟩, h8⟩, h9⟩, h10⟩ := ok
 refine nn ?_; clear nn
 exact kont xe x px i y py i' fs' scope pos rfl h2 h3 h4 h5 h6 h7 h1 h8 h9 h10
theorem Sh {n m : Nat} {it1 it2 elt : Ex} {ifs : ExL} (ev : evE Φ (.comp2 n m it1 it2 ifs elt) σ = some (d, k)) {GG : Prop} (kont : ∀ items outs, (evE Φ it1 σ).bind Y5 = some items → Wz (Ds Φ it2 ifs elt σ n m) items = some outs → outs.length ≤ lim → d = .list outs → k = .fr 1 → GG) : GG := by
 dsimp only [e_comp2] at ev
 refine bnC ev fun items h1 ev => ?_
 refine bnC ev fun outs h2 ev => ?_
 split at ev
 ·rename_i hl
  simp only [OI, Prod.mk.injEq] at ev
  exact kont items outs h1 h2 hl ev.1.symm ev.2.symm
 ·cases ev
theorem se_comp2 (n m : Nat) {it1 it2 elt : Ex} (ifs : ExL) (hi1 : SE prog w Γ Φ gs it1) (hi2 : SE prog w Γ Φ gs it2) (he : SE prog w Γ Φ gs elt) (hifs : V1 prog w Γ Φ gs ifs) : SE prog w Γ Φ gs (.comp2 n m it1 it2 ifs elt) := by
 intro cx env P σ A s e d k E ok S ev
 refine Se ok fun xe x px xi y py yi xifs scope pos hrf0 h1 h2 h3 h4 h5 h6 h7 h8 h9 h10 => ?_
 subst hrf0
 refine Sh ev fun items outs e1 e2 e3 hrf0 hrf1 => ?_
 subst hrf0
 subst hrf1
 rw [eval_ListComp]
 refine Sd (use := none) hi1 hi2 he hifs S h1 h2 h3 h4 h5 h6 h7 h8 h9 h10 e1 e2 e3 fun D C s' m' n1 n2 n3 n4 n5 => ?_
 refine BC fun nn => ?_
 obtain ⟨F, o, nd, fr⟩ := n5
 refine nn ?_; clear nn
 refine ⟨m', n3, fun h' hs' => ⟨?_, D :: F, o.move (fun a ob p e => ⟨p.1, hs'.extBut a ob p.2 e⟩) (fun a ob hm e => hs'.extBut a ob (fr a hm).2 e), nd, fun a m => (fr a m).1⟩⟩
 ·refine BC fun nn => ?_
  obtain ⟨h2, tk2, rfl, k2⟩ := n4
  refine nn ?_; clear nn
  exact ⟨h', tk2, rfl, fun b o e => hs'.extBut b o (fun q => by rw [q, n1] at e; cases e) (k2 b o e)⟩
end
section
variable {prog : Program} {w : World} {Γ : Gd} {Φ : Fns} {gs : Str → Option Str}
noncomputable def Pl (e : Expr) : Prop := ∀ env, isTrue e env (eval e env) = (do let v ← eval e env; standAt e.pos; holding [v] (truthy v))
theorem Yd {ex : Ex} (he : SE prog w Γ Φ gs ex) (hp : ∀ {gs cx e}, okE gs cx ex e = true → Pl e) : SE prog w Γ Φ gs ex ∧ SB prog w Γ Φ gs ex := ⟨he, Cc he fun ok => hp ok _⟩
mutual
theorem Wx (hlow : ∀ (h : Heap), GOk Γ h → sysModules < h.objs.size) : ∀ ex : Ex, SE prog w Γ Φ gs ex ∧ SB prog w Γ Φ gs ex
 | .var i => Yd (se_var i) fun ok => Mm (G := Pl) ok fun _ _ _ _ => rfl
 | .int i => Yd (se_int i) fun ok => Mu (G := Pl) ok fun _ _ _ _ _ => rfl
 | .str i => Yd (se_str i) fun ok => Mo (G := Pl) ok fun _ _ _ _ _ => rfl
 | .bool i => Yd (se_bool i) fun ok => Da (G := Pl) ok fun _ _ _ _ _ => rfl
 | .gstr n i => Yd (se_gstr n i) fun ok => D7 (G := Pl) ok fun _ _ _ _ => rfl
 | .add a b => Yd (se_add (Wx hlow a).1 (Wx hlow b).1) fun ok => N1 (G := Pl) ok fun _ _ _ _ _ => rfl
 | .sub a b => Yd (se_sub (Wx hlow a).1 (Wx hlow b).1) fun ok => Mn (G := Pl) ok fun _ _ _ _ _ => rfl
 | .mod a b => Yd (se_mod (Wx hlow a).1 (Wx hlow b).1) fun ok => Mr (G := Pl) ok fun _ _ _ _ _ => rfl
 | .fdiv a b => Yd (se_fdiv (Wx hlow a).1 (Wx hlow b).1) fun ok => D8 (G := Pl) ok fun _ _ _ _ _ => rfl
 | .mul a b => Yd (se_mul (Wx hlow a).1 (Wx hlow b).1) fun ok => Mq (G := Pl) ok fun _ _ _ _ _ => rfl
 | .eq neg a b => s_eq neg (Wx hlow a).1 (Wx hlow b).1
 | .lt a b => s_lt (Wx hlow a).1 (Wx hlow b).1
 | .gt a b => s_gt (Wx hlow a).1 (Wx hlow b).1
 | .isin neg a b => s_isin neg (Wx hlow a).1 (Wx hlow b).1
 | .bop conj es => s_bop conj es (H3 hlow es)
 | .not a => s_not (Wx hlow a).1 (Wx hlow a).2
 | .idx a b => Yd (se_idx (Wx hlow a).1 (Wx hlow b).1) fun ok => Mw (G := Pl) ok fun _ _ _ _ _ => rfl
 | .cutFrom a b => Yd (A5 (Wx hlow a).1 (Wx hlow b).1) fun ok => Vj (G := Pl) ok fun _ _ _ _ _ _ => rfl
 | .cutTo a b => Yd (se_cutTo (Wx hlow a).1 (Wx hlow b).1) fun ok => Kj (G := Pl) ok fun _ _ _ _ _ _ => rfl
 | .cutAll a => Yd (Id (Wx hlow a).1) fun ok => Jx (G := Pl) ok fun _ _ _ _ _ => rfl
 | .pair a b => Yd (se_pair (Wx hlow a).1 (Wx hlow b).1) fun ok => D5 (G := Pl) ok fun _ _ _ _ _ _ => rfl
 | .lst es => Yd (se_lst es (H3 hlow es)) fun ok => Ms (G := Pl) ok fun _ _ _ _ => rfl
 | .dict0 => Yd (se_dict0 hlow) fun ok => Ki (G := Pl) ok fun _ _ _ => rfl
 | .call f es => Yd (se_call f es (H3 hlow es)) fun ok => D9 (G := Pl) ok fun _ _ _ _ _ _ => rfl
 | .len a => Yd (se_len (Wx hlow a).1) fun ok => Mt (G := Pl) ok fun _ _ _ _ _ _ => rfl
 | .sorted a => Yd (Ib (Wx hlow a).1) fun ok => Jv (G := Pl) ok fun _ _ _ _ _ _ => rfl
 | .all a => Yd (se_all (Wx hlow a).1) fun ok => N0 (G := Pl) ok fun _ _ _ _ _ _ => rfl
 | .any a => Yd (se_any (Wx hlow a).1) fun ok => Mz (G := Pl) ok fun _ _ _ _ _ _ => rfl
 | .items a => Yd (se_items (Wx hlow a).1) fun ok => Bg (G := Pl) ok fun _ _ _ _ _ _ _ _ _ => rfl
 | .dictOf a => Yd (Ic hlow (Wx hlow a).1) fun ok => Jw (G := Pl) ok fun _ _ _ _ _ _ => rfl
 | .get a b c => Yd (se_get (Wx hlow a).1 (Wx hlow b).1 (Wx hlow c).1) fun ok => Mx (G := Pl) ok fun _ _ _ _ _ _ _ _ => rfl
 | .join a => Yd (se_join (Wx hlow a).1) fun ok => D6 (G := Pl) ok fun _ _ _ _ _ _ _ _ _ => rfl
 | .comp deep rng x it ifs elt => ⟨E5 deep rng x ifs (Wx hlow it).1 (Wx hlow elt).1 (H3 hlow ifs), Cc (E5 deep rng x ifs (Wx hlow it).1 (Wx hlow elt).1 (H3 hlow ifs)) (by intro gs cx e env ok; cases rng <;> first | (obtain ⟨_, _, _, _, _, _, _, rfl⟩ := Cz ok; rfl) | (obtain ⟨_, _, _, _, _, _, _, _, _, _, rfl⟩ := Cy ok; rfl))⟩
 | .comp2 x y it1 it2 ifs elt => Yd (se_comp2 x y ifs (Wx hlow it1).1 (Wx hlow it2).1 (Wx hlow elt).1 (H3 hlow ifs)) fun ok => Kl (G := Pl) ok fun _ _ _ _ _ _ _ _ _ _ _ _ => rfl
theorem H3 (hlow : ∀ (h : Heap), GOk Γ h → sysModules < h.objs.size) : ∀ es : ExL, V1 prog w Γ Φ gs es
 | .nil => trivial
 | .cons e es => ⟨Wx hlow e, H3 hlow es⟩
end
end
set_option genInjectivity false
set_option genSizeOf false
mutual
inductive StL where
 | nil
 | set (i m : Nat) (e : Ex) (r : StL)
 | tup (i j : Nat) (e : Ex) (r : StL)
 | app (i : Nat) (e : Ex) (r : StL)
 | setKey (i : Nat) (k e : Ex) (r : StL)
 | setPath (i : Nat) (k1 k2 k3 : Ex) (b : Bool) (r : StL)
 | ifs (c : Ex) (a b : StL) (r : StL)
 | for1 (rng : Bool) (i : Nat) (it : Ex) (body : StL) (r : StL)
 | for2 (i j : Nat) (it : Ex) (body : StL) (r : StL)
 | while (c : Ex) (body : StL) (r : StL)
 | als (i t : Nat) (k : Ex) (r : StL)
 | share (i : Nat) (r : StL)
 | forget (i : Nat) (r : StL)
 | brk
 | ret (e : Ex)
 | retV (i : Nat)
end
inductive Out where
 | next (σ : Sg)
 | brk (σ : Sg)
 | ret (d : PyData) (k : Nat)
noncomputable def cov : Nat → PyData → Bool
 | _, .none => true
 | _, .bool _ => true
 | _, .int _ => true
 | _, .str _ => true
 | k + 1, .list ds => ds.all (cov k)
 | k + 1, .dict kvs => kvs.all fun p => cov k p.2
 | _, _ => false
noncomputable def Wr (owns : List Nat) (σ : Sg) : Sg := σ.mapIdx fun i z => if owns.contains i then z.map fun p => (p.1, 0) else z
noncomputable def Out.andThen (o : Option Out) (f : Sg → Option Out) : Option Out :=
 match o with
 | some (.next σ) => f σ
 | o => o
noncomputable def Tu (step : Sg → PyData → Option Out) : List PyData → Sg → Option Out
 | [], σ => some (.next σ)
 | x :: r, σ => match step σ x with
  | some (.next σ') => Tu step r σ'
  | some (.brk σ') => some (.next σ')
  | some (.ret d k) => some (.ret d k)
  | none => none
noncomputable def Y1 (cond : Sg → Option Bool) (body : Sg → Option Out) : Nat → Sg → Option Out
 | 0, _ => none
 | n + 1, σ => match cond σ with
  | some true => (match body σ with
   | some (.next σ') => Y1 cond body n σ'
   | some (.brk σ') => some (.next σ')
   | some (.ret d k) => some (.ret d k)
   | none => none)
  | some false => some (.next σ)
  | none => none
theorem Ei : ∃ n : Nat, n = 1000 := ⟨1000, rfl⟩
noncomputable def Hq : Nat := Classical.choose Ei
theorem Ls : Hq = 1000 := Classical.choose_spec Ei
noncomputable def Z4 (m : Nat) (r : Res) : Option (PyData × Nat) :=
 if m = 0 then (if r.2.sh then some (r.1, 0) else none) else if r.2.least m && cov m r.1 && !leaf r.1 then some (r.1, m) else none
noncomputable def shD (r : Res) : Option PyData := if r.2.sh then some r.1 else none
noncomputable def V4 (r : Res) : Option (PyData × PyData) := match r with
 | (.tuple [a, b], k) => if k.sh then some (a, b) else none
 | _ => none
noncomputable def Uf (r : Res) : Option Str := match r with
 | (.str x, _) => some x
 | _ => none
noncomputable def Vc (r : Res) : Option Nat := match r with
 | (.int n, _) => if 0 ≤ n && n ≤ big then some n.toNat else none
 | _ => none
noncomputable def Ft (z : Option (Option (PyData × Nat))) (d : PyData) : Option (PyData × Nat) := match z with
 | some (some (.list ds, 1)) => if ds.length + 1 ≤ lim then some (.list (ds ++ [d]), 1) else none
 | _ => none
noncomputable def U0 (z : Option (Option (PyData × Nat))) (k : Str) (r : Res) : Option (PyData × Nat) := match z with
 | some (some (.dict kvs, 1)) => if kvs.length + 1 ≤ lim && r.2.sh then some (.dict (Xe kvs k r.1), 1) else none
 | some (some (.dict kvs, m + 2)) => if kvs.length + 1 ≤ lim && (Wf k kvs).isNone && r.2.least (m + 1) && cov (m + 1) r.1 then some (.dict (Xe kvs k r.1), m + 2) else none
 | _ => none
noncomputable def V7 (z : Option (Option (PyData × Nat))) (k : Str) (i j : Nat) (b : Bool) : Option (PyData × Nat) := match z with
 | some (some (.dict kvs, 3)) => match Wf k kvs with
  | some (.list rows) => match rows[i]? with
   | some (.list row) => if j < row.length then some (.dict (Uv k (.list (rows.set i (.list (row.set j (.bool b))))) kvs), 3) else none
   | _ => none
  | _ => none
 | _ => none
noncomputable def K1 (z : Option (Option (PyData × Nat))) (k : Str) : Option (List (PyData × PyData) × PyData) := match z with
 | some (some (.dict kvs, 2)) => (Wf k kvs).bind fun d => if leaf d then none else some (kvs, d)
 | _ => none
noncomputable def K0 (i t : Nat) (kvs : List (PyData × PyData)) (k : Str) (σ : Sg) : Option Sg := match σ[i]?, σ[t]? with
 | some (some (d, 1)), some none => some ((σ.set i none).set t (some (.dict (Uv k d kvs), 2)))
 | _, _ => none
noncomputable def Out.als (i t : Nat) (kvs : List (PyData × PyData)) (k : Str) : Option Out → Option Out
 | some (.next σ) => (K0 i t kvs k σ).map .next
 | _ => none
noncomputable def Out.clr (i : Nat) : Out → Out
 | .next σ => .next (σ.set i none)
 | .brk σ => .brk (σ.set i none)
 | .ret d k => .ret d k
noncomputable def evB (Φ : Fns) (owns : List Nat) : StL → Sg → Option Out
 | .nil, σ => some (.next σ)
 | .set i m e r, σ => ((evE Φ e σ).bind (Z4 m)).bind fun p => evB Φ owns r (σ.set i (some p))
 | .tup i j e r, σ => ((evE Φ e σ).bind V4).bind fun p => evB Φ owns r ((σ.set i (some (p.1, 0))).set j (some (p.2, 0)))
 | .app i e r, σ => ((evE Φ e σ).bind shD).bind fun d => (Ft σ[i]? d).bind fun p => evB Φ owns r (σ.set i (some p))
 | .setKey i k e r, σ => (evE Φ e σ).bind fun v => ((evE Φ k σ).bind Uf).bind fun x => (U0 σ[i]? x v).bind fun p => evB Φ owns r (σ.set i (some p))
 | .setPath i k1 k2 k3 b r, σ => ((evE Φ k1 σ).bind Uf).bind fun x => ((evE Φ k2 σ).bind Vc).bind fun n => ((evE Φ k3 σ).bind Vc).bind fun m => (V7 σ[i]? x n m b).bind fun p => evB Φ owns r (σ.set i (some p))
 | .ifs c a b r, σ => ((evE Φ c σ).bind Wm).bind fun t => Out.andThen (if t then evB Φ owns a σ else evB Φ owns b σ) fun σ' => evB Φ owns r σ'
 | .for1 rng i it body r, σ => ((evE Φ it σ).bind (M8 rng)).bind fun xs =>
   Out.andThen (Tu (fun σ x => (evB Φ owns body (σ.set i (some (x, 0)))).map (Out.clr i)) xs σ) fun σ' => evB Φ owns r (σ'.set i none)
 | .for2 i j it body r, σ => ((evE Φ it σ).bind Y5).bind fun xs =>
   Out.andThen (Tu (fun σ x => (V4 (x, .fr 0)).bind fun p => (evB Φ owns body ((σ.set i (some (p.1, 0))).set j (some (p.2, 0)))).map fun o => Out.clr j (Out.clr i o)) xs σ) fun σ' => evB Φ owns r ((σ'.set i none).set j none)
 | .while c body r, σ => Out.andThen (Y1 (fun σ => (evE Φ c σ).bind Wm) (fun σ => evB Φ owns body σ) Hq σ) fun σ' => evB Φ owns r σ'
 | .als i t k r, σ => ((evE Φ k σ).bind Uf).bind fun x => (K1 σ[t]? x).bind fun p => Out.als i t p.1 x (evB Φ owns r ((σ.set t none).set i (some (p.2, 1))))
 | .share i r, σ => match σ[i]? with
  | some (some (d, _)) => evB Φ owns r (σ.set i (some (d, 0)))
  | _ => none
 | .forget i r, σ => evB Φ owns r (σ.set i none)
 | .brk, σ => some (.brk σ)
 | .ret e, σ => (evE Φ e (Wr owns σ)).bind fun r => match r with
  | (d, .fr k) => some (.ret d k)
  | (d, .bor 0) => some (.ret d 0)
  | _ => none
 | .retV i, σ => match σ[i]? with
  | some (some (d, n)) => some (.ret d n)
  | _ => none
section
variable {Φ : Fns} {owns : List Nat} {σ : Sg}
theorem B_nil : evB Φ owns .nil σ = (some (.next σ)) := rfl
theorem B_set {i m e r} : evB Φ owns (.set i m e r) σ = (((evE Φ e σ).bind (Z4 m)).bind fun p => evB Φ owns r (σ.set i (some p))) := rfl
theorem B_tup {i j e r} : evB Φ owns (.tup i j e r) σ = (((evE Φ e σ).bind V4).bind fun p => evB Φ owns r ((σ.set i (some (p.1, 0))).set j (some (p.2, 0)))) := rfl
theorem B_app {i e r} : evB Φ owns (.app i e r) σ = (((evE Φ e σ).bind shD).bind fun d => (Ft σ[i]? d).bind fun p => evB Φ owns r (σ.set i (some p))) := rfl
theorem B_setKey {i k e r} : evB Φ owns (.setKey i k e r) σ = ((evE Φ e σ).bind fun v => ((evE Φ k σ).bind Uf).bind fun x => (U0 σ[i]? x v).bind fun p => evB Φ owns r (σ.set i (some p))) := rfl
theorem Op {i k1 k2 k3 b r} : evB Φ owns (.setPath i k1 k2 k3 b r) σ = (((evE Φ k1 σ).bind Uf).bind fun x => ((evE Φ k2 σ).bind Vc).bind fun n => ((evE Φ k3 σ).bind Vc).bind fun m => (V7 σ[i]? x n m b).bind fun p => evB Φ owns r (σ.set i (some p))) := rfl
theorem B_ifs {c a b r} : evB Φ owns (.ifs c a b r) σ = (((evE Φ c σ).bind Wm).bind fun t => Out.andThen (if t then evB Φ owns a σ else evB Φ owns b σ) fun σ' => evB Φ owns r σ') := rfl
theorem B_for1 {rng i it body r} : evB Φ owns (.for1 rng i it body r) σ = (((evE Φ it σ).bind (M8 rng)).bind fun xs =>
   Out.andThen (Tu (fun σ x => (evB Φ owns body (σ.set i (some (x, 0)))).map (Out.clr i)) xs σ) fun σ' => evB Φ owns r (σ'.set i none)) := rfl
theorem B_for2 {i j it body r} : evB Φ owns (.for2 i j it body r) σ = (((evE Φ it σ).bind Y5).bind fun xs =>
   Out.andThen (Tu (fun σ x => (V4 (x, .fr 0)).bind fun p => (evB Φ owns body ((σ.set i (some (p.1, 0))).set j (some (p.2, 0)))).map fun o => Out.clr j (Out.clr i o)) xs σ) fun σ' => evB Φ owns r ((σ'.set i none).set j none)) := rfl
theorem B_while {c body r} : evB Φ owns (.while c body r) σ = (Out.andThen (Y1 (fun σ => (evE Φ c σ).bind Wm) (fun σ => evB Φ owns body σ) Hq σ) fun σ' => evB Φ owns r σ') := rfl
theorem B_alias {i t k r} : evB Φ owns (.als i t k r) σ = (((evE Φ k σ).bind Uf).bind fun x => (K1 σ[t]? x).bind fun p => Out.als i t p.1 x (evB Φ owns r ((σ.set t none).set i (some (p.2, 1))))) := rfl
theorem B_share {i r} : evB Φ owns (.share i r) σ = (match σ[i]? with
  | some (some (d, _)) => evB Φ owns r (σ.set i (some (d, 0)))
  | _ => none) := rfl
theorem B_forget {i r} : evB Φ owns (.forget i r) σ = (evB Φ owns r (σ.set i none)) := rfl
theorem B_brk : evB Φ owns .brk σ = (some (.brk σ)) := rfl
theorem B_ret {e} : evB Φ owns (.ret e) σ = ((evE Φ e (Wr owns σ)).bind fun r => match r with
  | (d, .fr k) => some (.ret d k)
  | (d, .bor 0) => some (.ret d 0)
  | _ => none) := rfl
theorem B_retV {i} : evB Φ owns (.retV i) σ = (match σ[i]? with
  | some (some (d, n)) => some (.ret d n)
  | _ => none) := rfl
theorem fo_n {step : Sg → PyData → Option Out} : Tu step [] σ = some (.next σ) := rfl
theorem fo_c {step : Sg → PyData → Option Out} {x r} : Tu step (x :: r) σ = (match step σ x with
  | some (.next σ') => Tu step r σ'
  | some (.brk σ') => some (.next σ')
  | some (.ret d k) => some (.ret d k)
  | none => none) := rfl
theorem wh_z {cond : Sg → Option Bool} {body : Sg → Option Out} : Y1 cond body 0 σ = none := rfl
theorem wh_s {cond : Sg → Option Bool} {body : Sg → Option Out} {n : Nat} : Y1 cond body (n + 1) σ = (match cond σ with
  | some true => (match body σ with
   | some (.next σ') => Y1 cond body n σ'
   | some (.brk σ') => some (.next σ')
   | some (.ret d k) => some (.ret d k)
   | none => none)
  | some false => some (.next σ)
  | none => none) := rfl
end
noncomputable def Cx.stor (cx : Cx) (x : Str) (i : Nat) : Bool := cx.held x i && (cx.names.lookup x == some .local || cx.names.lookup x == some .cell) && !cx.fixed.contains x
noncomputable def Cx.fix (cx : Cx) (x y : Str) : Cx := { cx with fixed := x :: y :: cx.fixed }
noncomputable def hdv {α : Type} : List α → Option (α × List α) | x :: r => some (x, r) | _ => none
noncomputable def Sw (e : Stmt) : Option (List Expr × Expr × Pos) := Stmt.casesOn (motive_2 := fun _ => Option (List Expr × Expr × Pos)) e (fun _ _ _ _ _ _ _ _ _ _ => none) (fun _ _ _ _ _ _ _ _ _ _ => none) (fun _ _ _ _ _ _ _ _ _ _ _ => none) (fun _ _ => none) (fun _ _ => none) (fun a0 a1 a2 => some (a0, a1, a2)) (fun _ _ _ _ _ _ _ => none) (fun _ _ _ _ => none) (fun _ _ _ _ _ => none) (fun _ _ _ _ _ => none) (fun _ _ _ _ _ => none) (fun _ _ _ _ => none) (fun _ _ _ _ => none) (fun _ _ _ => none) (fun _ _ _ => none) (fun _ _ _ => none) (fun _ _ _ => none) (fun _ _ _ _ _ => none) (fun _ _ _ _ _ => none) (fun _ _ _ => none) (fun _ _ => none) (fun _ _ _ _ => none) (fun _ _ => none) (fun _ _ => none) (fun _ _ => none) (fun _ => none) (fun _ => none) (fun _ => none)
noncomputable def vExS (e : Stmt) : Option (Expr × Pos) := Stmt.casesOn (motive_2 := fun _ => Option (Expr × Pos)) e (fun _ _ _ _ _ _ _ _ _ _ => none) (fun _ _ _ _ _ _ _ _ _ _ => none) (fun _ _ _ _ _ _ _ _ _ _ _ => none) (fun _ _ => none) (fun _ _ => none) (fun _ _ _ => none) (fun _ _ _ _ _ _ _ => none) (fun _ _ _ _ => none) (fun _ _ _ _ _ => none) (fun _ _ _ _ _ => none) (fun _ _ _ _ _ => none) (fun _ _ _ _ => none) (fun _ _ _ _ => none) (fun _ _ _ => none) (fun _ _ _ => none) (fun _ _ _ => none) (fun _ _ _ => none) (fun _ _ _ _ _ => none) (fun _ _ _ _ _ => none) (fun _ _ _ => none) (fun _ _ => none) (fun _ _ _ _ => none) (fun _ _ => none) (fun _ _ => none) (fun a0 a1 => some (a0, a1)) (fun _ => none) (fun _ => none) (fun _ => none)
noncomputable def vIf (e : Stmt) : Option (Expr × List Stmt × List Stmt × Pos) := Stmt.casesOn (motive_2 := fun _ => Option (Expr × List Stmt × List Stmt × Pos)) e (fun _ _ _ _ _ _ _ _ _ _ => none) (fun _ _ _ _ _ _ _ _ _ _ => none) (fun _ _ _ _ _ _ _ _ _ _ _ => none) (fun _ _ => none) (fun _ _ => none) (fun _ _ _ => none) (fun _ _ _ _ _ _ _ => none) (fun _ _ _ _ => none) (fun _ _ _ _ _ => none) (fun _ _ _ _ _ => none) (fun _ _ _ _ _ => none) (fun _ _ _ _ => none) (fun a0 a1 a2 a3 => some (a0, a1, a2, a3)) (fun _ _ _ => none) (fun _ _ _ => none) (fun _ _ _ => none) (fun _ _ _ => none) (fun _ _ _ _ _ => none) (fun _ _ _ _ _ => none) (fun _ _ _ => none) (fun _ _ => none) (fun _ _ _ _ => none) (fun _ _ => none) (fun _ _ => none) (fun _ _ => none) (fun _ => none) (fun _ => none) (fun _ => none)
noncomputable def Ox (e : Stmt) : Option (Expr × Expr × List Stmt × List Stmt × Pos) := Stmt.casesOn (motive_2 := fun _ => Option (Expr × Expr × List Stmt × List Stmt × Pos)) e (fun _ _ _ _ _ _ _ _ _ _ => none) (fun _ _ _ _ _ _ _ _ _ _ => none) (fun _ _ _ _ _ _ _ _ _ _ _ => none) (fun _ _ => none) (fun _ _ => none) (fun _ _ _ => none) (fun _ _ _ _ _ _ _ => none) (fun _ _ _ _ => none) (fun _ _ _ _ _ => none) (fun a0 a1 a2 a3 a4 => some (a0, a1, a2, a3, a4)) (fun _ _ _ _ _ => none) (fun _ _ _ _ => none) (fun _ _ _ _ => none) (fun _ _ _ => none) (fun _ _ _ => none) (fun _ _ _ => none) (fun _ _ _ => none) (fun _ _ _ _ _ => none) (fun _ _ _ _ _ => none) (fun _ _ _ => none) (fun _ _ => none) (fun _ _ _ _ => none) (fun _ _ => none) (fun _ _ => none) (fun _ _ => none) (fun _ => none) (fun _ => none) (fun _ => none)
noncomputable def vWhi (e : Stmt) : Option (Expr × List Stmt × List Stmt × Pos) := Stmt.casesOn (motive_2 := fun _ => Option (Expr × List Stmt × List Stmt × Pos)) e (fun _ _ _ _ _ _ _ _ _ _ => none) (fun _ _ _ _ _ _ _ _ _ _ => none) (fun _ _ _ _ _ _ _ _ _ _ _ => none) (fun _ _ => none) (fun _ _ => none) (fun _ _ _ => none) (fun _ _ _ _ _ _ _ => none) (fun _ _ _ _ => none) (fun _ _ _ _ _ => none) (fun _ _ _ _ _ => none) (fun _ _ _ _ _ => none) (fun a0 a1 a2 a3 => some (a0, a1, a2, a3)) (fun _ _ _ _ => none) (fun _ _ _ => none) (fun _ _ _ => none) (fun _ _ _ => none) (fun _ _ _ => none) (fun _ _ _ _ _ => none) (fun _ _ _ _ _ => none) (fun _ _ _ => none) (fun _ _ => none) (fun _ _ _ _ => none) (fun _ _ => none) (fun _ _ => none) (fun _ _ => none) (fun _ => none) (fun _ => none) (fun _ => none)
noncomputable def vBrk (e : Stmt) : Option (Pos) := Stmt.casesOn (motive_2 := fun _ => Option (Pos)) e (fun _ _ _ _ _ _ _ _ _ _ => none) (fun _ _ _ _ _ _ _ _ _ _ => none) (fun _ _ _ _ _ _ _ _ _ _ _ => none) (fun _ _ => none) (fun _ _ => none) (fun _ _ _ => none) (fun _ _ _ _ _ _ _ => none) (fun _ _ _ _ => none) (fun _ _ _ _ _ => none) (fun _ _ _ _ _ => none) (fun _ _ _ _ _ => none) (fun _ _ _ _ => none) (fun _ _ _ _ => none) (fun _ _ _ => none) (fun _ _ _ => none) (fun _ _ _ => none) (fun _ _ _ => none) (fun _ _ _ _ _ => none) (fun _ _ _ _ _ => none) (fun _ _ _ => none) (fun _ _ => none) (fun _ _ _ _ => none) (fun _ _ => none) (fun _ _ => none) (fun _ _ => none) (fun _ => none) (fun a0 => some a0) (fun _ => none)
noncomputable def vRet (e : Stmt) : Option (Option Expr × Pos) := Stmt.casesOn (motive_2 := fun _ => Option (Option Expr × Pos)) e (fun _ _ _ _ _ _ _ _ _ _ => none) (fun _ _ _ _ _ _ _ _ _ _ => none) (fun _ _ _ _ _ _ _ _ _ _ _ => none) (fun a0 a1 => some (a0, a1)) (fun _ _ => none) (fun _ _ _ => none) (fun _ _ _ _ _ _ _ => none) (fun _ _ _ _ => none) (fun _ _ _ _ _ => none) (fun _ _ _ _ _ => none) (fun _ _ _ _ _ => none) (fun _ _ _ _ => none) (fun _ _ _ _ => none) (fun _ _ _ => none) (fun _ _ _ => none) (fun _ _ _ => none) (fun _ _ _ => none) (fun _ _ _ _ _ => none) (fun _ _ _ _ _ => none) (fun _ _ _ => none) (fun _ _ => none) (fun _ _ _ _ => none) (fun _ _ => none) (fun _ _ => none) (fun _ _ => none) (fun _ => none) (fun _ => none) (fun _ => none)
theorem To {α : Type} {l : List α} {t} (h : hdv l = some t) : l = t.1 :: t.2 := by cases l <;> first | exact nj h | (cases h; rfl)
theorem V3 {e : Stmt} {t} (h : Sw e = some t) : e = .Assign t.1 t.2.1 t.2.2 := Stmt.casesOn (motive_2 := fun e => Sw e = some t → e = .Assign t.1 t.2.1 t.2.2) e (fun _ _ _ _ _ _ _ _ _ _ => nj) (fun _ _ _ _ _ _ _ _ _ _ => nj) (fun _ _ _ _ _ _ _ _ _ _ _ => nj) (fun _ _ => nj) (fun _ _ => nj) (fun a0 a1 a2 h => by cases h; rfl) (fun _ _ _ _ _ _ _ => nj) (fun _ _ _ _ => nj) (fun _ _ _ _ _ => nj) (fun _ _ _ _ _ => nj) (fun _ _ _ _ _ => nj) (fun _ _ _ _ => nj) (fun _ _ _ _ => nj) (fun _ _ _ => nj) (fun _ _ _ => nj) (fun _ _ _ => nj) (fun _ _ _ => nj) (fun _ _ _ _ _ => nj) (fun _ _ _ _ _ => nj) (fun _ _ _ => nj) (fun _ _ => nj) (fun _ _ _ _ => nj) (fun _ _ => nj) (fun _ _ => nj) (fun _ _ => nj) (fun _ => nj) (fun _ => nj) (fun _ => nj) h
theorem Oy {e : Stmt} {t} (h : vExS e = some t) : e = .Expr t.1 t.2 := Stmt.casesOn (motive_2 := fun e => vExS e = some t → e = .Expr t.1 t.2) e (fun _ _ _ _ _ _ _ _ _ _ => nj) (fun _ _ _ _ _ _ _ _ _ _ => nj) (fun _ _ _ _ _ _ _ _ _ _ _ => nj) (fun _ _ => nj) (fun _ _ => nj) (fun _ _ _ => nj) (fun _ _ _ _ _ _ _ => nj) (fun _ _ _ _ => nj) (fun _ _ _ _ _ => nj) (fun _ _ _ _ _ => nj) (fun _ _ _ _ _ => nj) (fun _ _ _ _ => nj) (fun _ _ _ _ => nj) (fun _ _ _ => nj) (fun _ _ _ => nj) (fun _ _ _ => nj) (fun _ _ _ => nj) (fun _ _ _ _ _ => nj) (fun _ _ _ _ _ => nj) (fun _ _ _ => nj) (fun _ _ => nj) (fun _ _ _ _ => nj) (fun _ _ => nj) (fun _ _ => nj) (fun a0 a1 h => by cases h; rfl) (fun _ => nj) (fun _ => nj) (fun _ => nj) h
theorem vIf_inv {e : Stmt} {t} (h : vIf e = some t) : e = .If t.1 t.2.1 t.2.2.1 t.2.2.2 := Stmt.casesOn (motive_2 := fun e => vIf e = some t → e = .If t.1 t.2.1 t.2.2.1 t.2.2.2) e (fun _ _ _ _ _ _ _ _ _ _ => nj) (fun _ _ _ _ _ _ _ _ _ _ => nj) (fun _ _ _ _ _ _ _ _ _ _ _ => nj) (fun _ _ => nj) (fun _ _ => nj) (fun _ _ _ => nj) (fun _ _ _ _ _ _ _ => nj) (fun _ _ _ _ => nj) (fun _ _ _ _ _ => nj) (fun _ _ _ _ _ => nj) (fun _ _ _ _ _ => nj) (fun _ _ _ _ => nj) (fun a0 a1 a2 a3 h => by cases h; rfl) (fun _ _ _ => nj) (fun _ _ _ => nj) (fun _ _ _ => nj) (fun _ _ _ => nj) (fun _ _ _ _ _ => nj) (fun _ _ _ _ _ => nj) (fun _ _ _ => nj) (fun _ _ => nj) (fun _ _ _ _ => nj) (fun _ _ => nj) (fun _ _ => nj) (fun _ _ => nj) (fun _ => nj) (fun _ => nj) (fun _ => nj) h
theorem Gb {e : Stmt} {t} (h : Ox e = some t) : e = .For t.1 t.2.1 t.2.2.1 t.2.2.2.1 t.2.2.2.2 := Stmt.casesOn (motive_2 := fun e => Ox e = some t → e = .For t.1 t.2.1 t.2.2.1 t.2.2.2.1 t.2.2.2.2) e (fun _ _ _ _ _ _ _ _ _ _ => nj) (fun _ _ _ _ _ _ _ _ _ _ => nj) (fun _ _ _ _ _ _ _ _ _ _ _ => nj) (fun _ _ => nj) (fun _ _ => nj) (fun _ _ _ => nj) (fun _ _ _ _ _ _ _ => nj) (fun _ _ _ _ => nj) (fun _ _ _ _ _ => nj) (fun a0 a1 a2 a3 a4 h => by cases h; rfl) (fun _ _ _ _ _ => nj) (fun _ _ _ _ => nj) (fun _ _ _ _ => nj) (fun _ _ _ => nj) (fun _ _ _ => nj) (fun _ _ _ => nj) (fun _ _ _ => nj) (fun _ _ _ _ _ => nj) (fun _ _ _ _ _ => nj) (fun _ _ _ => nj) (fun _ _ => nj) (fun _ _ _ _ => nj) (fun _ _ => nj) (fun _ _ => nj) (fun _ _ => nj) (fun _ => nj) (fun _ => nj) (fun _ => nj) h
theorem Os {e : Stmt} {t} (h : vWhi e = some t) : e = .While t.1 t.2.1 t.2.2.1 t.2.2.2 := Stmt.casesOn (motive_2 := fun e => vWhi e = some t → e = .While t.1 t.2.1 t.2.2.1 t.2.2.2) e (fun _ _ _ _ _ _ _ _ _ _ => nj) (fun _ _ _ _ _ _ _ _ _ _ => nj) (fun _ _ _ _ _ _ _ _ _ _ _ => nj) (fun _ _ => nj) (fun _ _ => nj) (fun _ _ _ => nj) (fun _ _ _ _ _ _ _ => nj) (fun _ _ _ _ => nj) (fun _ _ _ _ _ => nj) (fun _ _ _ _ _ => nj) (fun _ _ _ _ _ => nj) (fun a0 a1 a2 a3 h => by cases h; rfl) (fun _ _ _ _ => nj) (fun _ _ _ => nj) (fun _ _ _ => nj) (fun _ _ _ => nj) (fun _ _ _ => nj) (fun _ _ _ _ _ => nj) (fun _ _ _ _ _ => nj) (fun _ _ _ => nj) (fun _ _ => nj) (fun _ _ _ _ => nj) (fun _ _ => nj) (fun _ _ => nj) (fun _ _ => nj) (fun _ => nj) (fun _ => nj) (fun _ => nj) h
theorem vBrk_inv {e : Stmt} {t} (h : vBrk e = some t) : e = .Break t := Stmt.casesOn (motive_2 := fun e => vBrk e = some t → e = .Break t) e (fun _ _ _ _ _ _ _ _ _ _ => nj) (fun _ _ _ _ _ _ _ _ _ _ => nj) (fun _ _ _ _ _ _ _ _ _ _ _ => nj) (fun _ _ => nj) (fun _ _ => nj) (fun _ _ _ => nj) (fun _ _ _ _ _ _ _ => nj) (fun _ _ _ _ => nj) (fun _ _ _ _ _ => nj) (fun _ _ _ _ _ => nj) (fun _ _ _ _ _ => nj) (fun _ _ _ _ => nj) (fun _ _ _ _ => nj) (fun _ _ _ => nj) (fun _ _ _ => nj) (fun _ _ _ => nj) (fun _ _ _ => nj) (fun _ _ _ _ _ => nj) (fun _ _ _ _ _ => nj) (fun _ _ _ => nj) (fun _ _ => nj) (fun _ _ _ _ => nj) (fun _ _ => nj) (fun _ _ => nj) (fun _ _ => nj) (fun _ => nj) (fun a0 h => by cases h; rfl) (fun _ => nj) h
theorem Ny {e : Stmt} {t} (h : vRet e = some t) : e = .Return t.1 t.2 := Stmt.casesOn (motive_2 := fun e => vRet e = some t → e = .Return t.1 t.2) e (fun _ _ _ _ _ _ _ _ _ _ => nj) (fun _ _ _ _ _ _ _ _ _ _ => nj) (fun _ _ _ _ _ _ _ _ _ _ _ => nj) (fun a0 a1 h => by cases h; rfl) (fun _ _ => nj) (fun _ _ _ => nj) (fun _ _ _ _ _ _ _ => nj) (fun _ _ _ _ => nj) (fun _ _ _ _ _ => nj) (fun _ _ _ _ _ => nj) (fun _ _ _ _ _ => nj) (fun _ _ _ _ => nj) (fun _ _ _ _ => nj) (fun _ _ _ => nj) (fun _ _ _ => nj) (fun _ _ _ => nj) (fun _ _ _ => nj) (fun _ _ _ _ _ => nj) (fun _ _ _ _ _ => nj) (fun _ _ _ => nj) (fun _ _ => nj) (fun _ _ _ _ => nj) (fun _ _ => nj) (fun _ _ => nj) (fun _ _ => nj) (fun _ => nj) (fun _ => nj) (fun _ => nj) h
noncomputable def okB (gs : Str → Option Str) (cx : Cx) (owns : List Nat) (b : StL) (l : List Stmt) : Bool := match b with
 | .nil => l.isEmpty
 | .set i m e r => (hdv l).any fun c => (Sw c.1).any fun t => (l1 t.1).any fun y => (T0 y).any fun x => cx.stor x.1 i && (m == 0 || owns.contains i) && okE gs cx e t.2.1 && okB gs cx owns r c.2
 | .tup i j e r => (hdv l).any fun c => (Sw c.1).any fun t => (l1 t.1).any fun y => (Ev y).any fun u => (l2 u.1).any fun p => (T0 p.1).any fun x => (T0 p.2).any fun z => (Hm t.2.1).isSome && (cx.stor x.1 i && cx.stor z.1 j && i != j && okE gs cx e t.2.1 && okB gs cx owns r c.2)
 | .app i e r => (hdv l).any fun c => (vExS c.1).any fun t => (Hm t.1).any fun u => (Ew u.1).any fun a => (T0 a.1).any fun x => (l1 u.2.1).any fun v => u.2.2.1.isEmpty && (cx.held x.1 i && owns.contains i && a.2.1 == ("append" : Str) && a.2.2.endLine == u.2.2.2.line && okE gs cx e v && okB gs cx owns r c.2)
 | .setKey i k e r => (hdv l).any fun c => (Sw c.1).any fun t => (l1 t.1).any fun y => (Jn y).any fun u => (T0 u.1).any fun x => cx.held x.1 i && owns.contains i && okE gs cx k u.2.1 && okE gs cx e t.2.1 && okB gs cx owns r c.2
 | .setPath i k1 k2 k3 b r => (hdv l).any fun c => (Sw c.1).any fun t => (l1 t.1).any fun y => (Jn y).any fun u3 => (Jn u3.1).any fun u2 => (Jn u2.1).any fun u1 => (T0 u1.1).any fun x => (Zl t.2.1).any fun n => (cBool n.1).any fun b' =>
   cx.held x.1 i && owns.contains i && b == b' && okE gs cx k1 u1.2.1 && okE gs cx k2 u2.2.1 && okE gs cx k3 u3.2.1 && okB gs cx owns r c.2
 | .ifs e a b r => (hdv l).any fun c => (vIf c.1).any fun t => okE gs cx e t.1 && okB gs cx owns a t.2.1 && okB gs cx owns b t.2.2.1 && okB gs cx owns r c.2
 | .for1 true i it body r => (hdv l).any fun c => (Ox c.1).any fun t => (T0 t.1).any fun x => (J8 t.2.1).any fun f => t.2.2.2.1.isEmpty && (cx.stor x.1 i && f.1 == ("range" : Str) && cx.glob f.1 && okE gs cx it f.2.2.1 && okB gs cx owns body t.2.2.1 && okB gs cx owns r c.2)
 | .for1 false i it body r => (hdv l).any fun c => (Ox c.1).any fun t => (T0 t.1).any fun x => t.2.2.2.1.isEmpty && (cx.stor x.1 i && okE gs cx it t.2.1 && okB gs cx owns body t.2.2.1 && okB gs cx owns r c.2)
 | .for2 i j it body r => (hdv l).any fun c => (Ox c.1).any fun t => (Ev t.1).any fun u => (l2 u.1).any fun p => (T0 p.1).any fun x => (T0 p.2).any fun y => t.2.2.2.1.isEmpty && (cx.stor x.1 i && cx.stor y.1 j && i != j && okE gs cx it t.2.1 && okB gs cx owns body t.2.2.1 && okB gs cx owns r c.2)
 | .while e body r => (hdv l).any fun c => (vWhi c.1).any fun t => t.2.2.1.isEmpty && (okE gs cx e t.1 && okB gs cx owns body t.2.1 && okB gs cx owns r c.2)
 | .als i t k r => (hdv l).any fun c => (Sw c.1).any fun a => (l1 a.1).any fun y => (T0 y).any fun x => (Jn a.2.1).any fun u => (T0 u.1).any fun z => cx.stor x.1 i && owns.contains i && cx.held z.1 t && owns.contains t && i != t && okE gs cx k u.2.1 && okB gs (cx.fix x.1 z.1) owns r c.2
 | .share i r => owns.contains i && okB gs cx owns r l
 | .forget _ r => okB gs cx owns r l
 | .brk => (l1 l).any fun s => (vBrk s).isSome
 | .ret e => (hdv l).any fun c => (vRet c.1).any fun t => t.1.any fun v => okE gs cx e v
 | .retV i => (hdv l).any fun c => (vRet c.1).any fun t => t.1.any fun v => (T0 v).any fun x => cx.held x.1 i && owns.contains i
theorem okB2 {gs : Str → Option Str} {cx : Cx} {owns : List Nat} {i} {m} {e} {r} {x} {u1} {v} {u2} {ss} : okB gs cx owns (.set i m e r) (.Assign [.Name x u1] v u2 :: ss) = (cx.stor x i && (m == 0 || owns.contains i) && okE gs cx e v && okB gs cx owns r ss) := rfl
theorem okB3 {gs : Str → Option Str} {cx : Cx} {owns : List Nat} {i} {j} {e} {r} {x} {u1} {y} {u2} {u3} {u4} {f} {as} {ks} {pos} {u5} {ss} : okB gs cx owns (.tup i j e r) (.Assign [.Tuple [.Name x u1, .Name y u2] u3 u4] (.Call f as ks pos) u5 :: ss) = (cx.stor x i && cx.stor y j && i != j && okE gs cx e (.Call f as ks pos) && okB gs cx owns r ss) := rfl
theorem okB4 {gs : Str → Option Str} {cx : Cx} {owns : List Nat} {i} {e} {r} {x} {u1} {m} {apos} {v} {pos} {u2} {ss} : okB gs cx owns (.app i e r) (.Expr (.Call (.Attribute (.Name x u1) m apos) [v] [] pos) u2 :: ss) = (cx.held x i && owns.contains i && m == ("append" : Str) && apos.endLine == pos.line && okE gs cx e v && okB gs cx owns r ss) := rfl
theorem okB5 {gs : Str → Option Str} {cx : Cx} {owns : List Nat} {i} {k} {e} {r} {x} {u1} {kx} {u2} {v} {u3} {ss} : okB gs cx owns (.setKey i k e r) (.Assign [.Subscript (.Name x u1) kx u2] v u3 :: ss) = (cx.held x i && owns.contains i && okE gs cx k kx && okE gs cx e v && okB gs cx owns r ss) := rfl
theorem okB6 {gs : Str → Option Str} {cx : Cx} {owns : List Nat} {i} {k1} {k2} {k3} {b} {r} {x} {u1} {x1} {u2} {x2} {u3} {x3} {u4} {b'} {u5} {u6} {u7} {ss} : okB gs cx owns (.setPath i k1 k2 k3 b r) (.Assign [.Subscript (.Subscript (.Subscript (.Name x u1) x1 u2) x2 u3) x3 u4] (.Constant (.bool b') u5 u6) u7 :: ss) = (cx.held x i && owns.contains i && b == b' && okE gs cx k1 x1 && okE gs cx k2 x2 && okE gs cx k3 x3 && okB gs cx owns r ss) := rfl
theorem okB7 {gs : Str → Option Str} {cx : Cx} {owns : List Nat} {c} {a} {b} {r} {t} {sa} {sb} {u1} {ss} : okB gs cx owns (.ifs c a b r) (.If t sa sb u1 :: ss) = (okE gs cx c t && okB gs cx owns a sa && okB gs cx owns b sb && okB gs cx owns r ss) := rfl
theorem okB8 {gs : Str → Option Str} {cx : Cx} {owns : List Nat} {i} {it} {body} {r} {x} {u1} {g} {u2} {z} {u3} {sb} {u4} {ss} : okB gs cx owns (.for1 true i it body r) (.For (.Name x u1) (.Call (.Name g u2) [z] [] u3) sb [] u4 :: ss) = (cx.stor x i && g == ("range" : Str) && cx.glob g && okE gs cx it z && okB gs cx owns body sb && okB gs cx owns r ss) := rfl
theorem okB9 {gs : Str → Option Str} {cx : Cx} {owns : List Nat} {i} {it} {body} {r} {x} {u1} {z} {sb} {u2} {ss} : okB gs cx owns (.for1 false i it body r) (.For (.Name x u1) z sb [] u2 :: ss) = (cx.stor x i && okE gs cx it z && okB gs cx owns body sb && okB gs cx owns r ss) := rfl
theorem okB10 {gs : Str → Option Str} {cx : Cx} {owns : List Nat} {i} {j} {it} {body} {r} {x} {u1} {y} {u2} {u3} {u4} {z} {sb} {u5} {ss} : okB gs cx owns (.for2 i j it body r) (.For (.Tuple [.Name x u1, .Name y u2] u3 u4) z sb [] u5 :: ss) = (cx.stor x i && cx.stor y j && i != j && okE gs cx it z && okB gs cx owns body sb && okB gs cx owns r ss) := rfl
theorem okB11 {gs : Str → Option Str} {cx : Cx} {owns : List Nat} {c} {body} {r} {t} {sb} {u1} {ss} : okB gs cx owns (.while c body r) (.While t sb [] u1 :: ss) = (okE gs cx c t && okB gs cx owns body sb && okB gs cx owns r ss) := rfl
theorem okB12 {gs : Str → Option Str} {cx : Cx} {owns : List Nat} {i} {t} {k} {r} {x} {u1} {y} {u2} {kx} {u3} {u4} {ss} : okB gs cx owns (.als i t k r) (.Assign [.Name x u1] (.Subscript (.Name y u2) kx u3) u4 :: ss) = (cx.stor x i && owns.contains i && cx.held y t && owns.contains t && i != t && okE gs cx k kx && okB gs (cx.fix x y) owns r ss) := rfl
theorem okB14 {gs : Str → Option Str} {cx : Cx} {owns : List Nat} {e} {v} {u1} {u2} : okB gs cx owns (.ret e) (.Return (some v) u1 :: u2) = (okE gs cx e v) := rfl
theorem okB15 {gs : Str → Option Str} {cx : Cx} {owns : List Nat} {i} {x} {u1} {u2} {u3} : okB gs cx owns (.retV i) (.Return (some (.Name x u1)) u2 :: u3) = (cx.held x i && owns.contains i) := rfl
theorem okB16 {gs : Str → Option Str} {cx : Cx} {owns : List Nat} {i} {r} {ss0} : okB gs cx owns (.share i r) ss0 = (owns.contains i && okB gs cx owns r ss0) := rfl
theorem okB17 {gs : Str → Option Str} {cx : Cx} {owns : List Nat} {u1} {r} {ss0} : okB gs cx owns (.forget u1 r) ss0 = (okB gs cx owns r ss0) := rfl
section
theorem Tg {c : Prop} [Decidable c] {α : Type} {a b : α} (h : (if c then some a else none) = some b) : c ∧ a = b := by
 by_cases q : c
 ·rw [if_pos q] at h; exact ⟨q, Option.some.inj h⟩
 ·rw [if_neg q] at h; exact nj h
theorem Fx {dd d1 d2 : PyData} {k : Kd} (e : V4 (dd, k) = some (d1, d2)) : dd = .tuple [d1, d2] ∧ k.sh = true := by
 cases dd <;> first | exact nj e | skip
 rename_i l
 rcases l with _ | ⟨a, _ | ⟨b, _ | ⟨c, l⟩⟩⟩ <;> first | exact nj e | skip
 obtain ⟨h, e⟩ := Tg e
 cases e
 exact ⟨rfl, h⟩
theorem Sz {r : Res} {u : Str} (e : Uf r = some u) : r.1 = .str u := by
 obtain ⟨d, k⟩ := r
 cases d <;> first | exact nj e | skip
 exact congrArg PyData.str (Option.some.inj e)
theorem nat_of {r : Res} {n : Nat} (e : Vc r = some n) : r.1 = .int n ∧ n ≤ 1000000 := by
 obtain ⟨d, k⟩ := r
 cases d <;> first | exact nj e | skip
 rename_i z
 obtain ⟨h, e⟩ := Tg e
 simp only [BA, decide_eq_true_eq, Uh] at h
 exact ⟨congrArg PyData.int (by lia), by lia⟩
theorem appD_C {z : Option (Option (PyData × Nat))} {d : PyData} {p} {G : Option (Option (PyData × Nat)) → PyData × Nat → Prop} (e : Ft z d = some p) (f : ∀ ds, ds.length + 1 ≤ lim → G (some (some (.list ds, 1))) (.list (ds ++ [d]), 1)) : G z p := by
 rcases z with _ | _ | ⟨c, n⟩ <;> first | exact nj e | skip
 cases c <;> first | exact nj e | skip
 rcases n with _ | _ | n <;> first | exact nj e | skip
 exact (Tg e).2 ▸ f _ (Tg e).1
theorem I9 {z : Option (Option (PyData × Nat))} {k : Str} {r : Res} {p} {G : Option (Option (PyData × Nat)) → PyData × Nat → Prop} (e : U0 z k r = some p) (f : ∀ kvs n, kvs.length + 1 ≤ lim → ((n = 0 ∧ r.2.sh = true) ∨ (Wf k kvs = none ∧ r.2.least n = true ∧ cov n r.1 = true)) → G (some (some (.dict kvs, n + 1))) (.dict (Xe kvs k r.1), n + 1)) : G z p := by
 rcases z with _ | _ | ⟨c, n⟩ <;> first | exact nj e | skip
 cases c <;> first | exact nj e | skip
 rcases n with _ | _ | n <;> first | exact nj e | skip
 ·have h := Bool.and_eq_true_iff.mp (Tg e).1
  exact (Tg e).2 ▸ f _ _ (of_decide_eq_true h.1) (.inl ⟨rfl, h.2⟩)
 ·have h := Bool.and_eq_true_iff.mp (Tg e).1
  have h1 := Bool.and_eq_true_iff.mp h.1
  have h2 := Bool.and_eq_true_iff.mp h1.1
  exact (Tg e).2 ▸ f _ _ (of_decide_eq_true h2.1) (.inr ⟨Option.isNone_iff_eq_none.mp h2.2, h1.2, h.2⟩)
theorem lst_C {o : Option PyData} {α : Type} {f : List PyData → Option α} {r : α} {G : Option PyData → Prop} (e : (match o with | some (.list l) => f l | _ => none) = some r) (k : ∀ l, f l = some r → G (some (.list l))) : G o := by
 rcases o with _ | c
 ·exact nj e
 ·cases c <;> first | exact nj e | exact k _ e
theorem A3 {z : Option (Option (PyData × Nat))} {k : Str} {i j : Nat} {b : Bool} {p} {G : Option (Option (PyData × Nat)) → PyData × Nat → Prop} (e : V7 z k i j b = some p)
  (f : ∀ kvs rows row, Wf k kvs = some (.list rows) → rows[i]? = some (.list row) → j < row.length → G (some (some (.dict kvs, 3))) (.dict (Uv k (.list (rows.set i (.list (row.set j (.bool b))))) kvs), 3)) : G z p := by
 rcases z with _ | _ | ⟨c, n⟩ <;> first | exact nj e | skip
 cases c <;> first | exact nj e | skip
 rcases n with _ | _ | _ | _ | n <;> first | exact nj e | skip
 refine lst_C (G := fun o => Wf k _ = o → _) e (fun rows e h1 => ?_) rfl
 refine lst_C (G := fun o => rows[i]? = o → _) e (fun row e h2 => ?_) rfl
 exact (Tg e).2 ▸ f _ _ _ h1 h2 (Tg e).1
theorem On {z : Option (Option (PyData × Nat))} {k : Str} {p} {G : Option (Option (PyData × Nat)) → List (PyData × PyData) × PyData → Prop} (e : K1 z k = some p) (f : ∀ kvs d, Wf k kvs = some d → leaf d ≠ true → G (some (some (.dict kvs, 2))) (kvs, d)) : G z p := by
 rcases z with _ | _ | ⟨c, n⟩ <;> first | exact nj e | skip
 cases c <;> first | exact nj e | skip
 rcases n with _ | _ | _ | n <;> first | exact nj e | skip
 refine bnC e fun d h1 e => ?_
 by_cases q : leaf d = true
 ·rw [if_pos q] at e; exact nj e
 ·rw [if_neg q] at e; exact Option.some.inj e ▸ f _ _ h1 q
theorem Pu {i t : Nat} {kvs : List (PyData × PyData)} {k : Str} {σ σ' : Sg} {G : Sg → Prop} (e : K0 i t kvs k σ = some σ') (f : ∀ d, σ[i]? = some (some (d, 1)) → σ[t]? = some none → G ((σ.set i none).set t (some (.dict (Uv k d kvs), 2)))) : G σ' := by
 have e : (match σ[i]?, σ[t]? with
  | some (some (d, 1)), some none => some ((σ.set i none).set t (some (.dict (Uv k d kvs), 2)))
  | _, _ => none) = some σ' := e
 generalize σ[i]? = a at e f
 generalize σ[t]? = b at e f
 rcases a with _ | _ | ⟨d, n⟩ <;> first | exact nj e | skip
 rcases n with _ | _ | n <;> first | exact nj e | skip
 rcases b with _ | _ | b <;> first | exact nj e | skip
 exact Option.some.inj e ▸ f d rfl rfl
theorem alias_C {i t : Nat} {kvs : List (PyData × PyData)} {k : Str} {o : Option Out} {out} {G : Option Out → Out → Prop} (e : Out.als i t kvs k o = some out) (f : ∀ σ σ', K0 i t kvs k σ = some σ' → G (some (.next σ)) (.next σ')) : G o out := by
 rcases o with _ | o
 ·exact nj e
 ·cases o <;> first | exact nj e | skip
  exact (Option.map_eq_some_iff.mp e).elim fun σ' h => h.2 ▸ f _ _ h.1
end
noncomputable def FrA (env : Env) (a : Addr) : Prop := a = env.locals ∨ ∃ n, env.cells.lookup n = some a
noncomputable def upd (Fo : Nat → List Addr) (i : Nat) (F : List Addr) : Nat → List Addr := fun j => if j = i then F else Fo j
noncomputable def Shd (P0 : Addr → Prop) (Fo : Nat → List Addr) (a : Addr) : Prop := P0 a ∧ ∀ i, a ∉ Fo i
section
variable (prog : Program) (w : World) (Γ : Gd) (Φ : Fns) (gs : Str → Option Str)
structure SInv (cx : Cx) (owns : List Nat) (env : Env) (A : Around) (h0 : Heap) (P0 K : Addr → Prop) (Fo : Nat → List Addr) (σ : Sg) (s : Shared) : Prop where
 envOk : EnvOk cx env
 room : Rm cx.top A
 std : Std' Γ Φ cx.fns gs
 fnOk : ∀ f, f < cx.top → Oo prog w Γ Φ cx.fns f
 apart : env.cells.Pairwise fun x y => x.2 ≠ y.2
 above : ∀ n c, (n, c) ∈ env.cells → env.locals < c
 inj : ∀ x y i, cx.held x i = true → cx.held y i = true → x = y
 ground : GOk Γ h0
 keep : ∀ b o, h0.get? b = some o → s.heap.get? b = some o
 base : ∀ b o, h0.get? b = some o → K b
 ns : ∃ m, s.heap.Ns env.locals m
 cell : ∀ n c, env.cells.lookup n = some c → ∃ vo, s.heap.IsCell c vo
 frame : ∀ a, FrA env a → ¬ K a ∧ ¬ P0 a ∧ ∃ o, s.heap.get? a = some o
 own : ∀ i a, a ∈ Fo i → ¬ K a ∧ ¬ FrA env a ∧ P0 a ∧ ∃ o, s.heap.get? a = some o
 nodup : ∀ i, (Fo i).Nodup
 disj : ∀ i j a, a ∈ Fo i → a ∈ Fo j → i = j
 new : ∀ a, s.heap.get? a = none → P0 a
 kdom : ∀ a, K a → ∃ o, s.heap.get? a = some o
 look : ∀ x i d n, cx.held x i = true → σ[i]? = some (some (d, n)) → ∃ v F, Tq env s.heap x v ∧ Ow prog w (Shd P0 Fo) s.heap n v d F ∧ (if owns.contains i then F = Fo i else ∀ a ∈ F, ∃ o, h0.get? a = some o)
structure Mv (cx : Cx) (env : Env) (P0 K : Addr → Prop) (Fo Fo' : Nat → List Addr) (s s' : Shared) : Prop where
 same : ∃ h' tk, s' = { s with heap := h', toks := tk }
 kept : ∀ b o, K b → s.heap.get? b = some o → s'.heap.get? b = some o
 shd : ∀ b o, Shd P0 Fo b → s.heap.get? b = some o → s'.heap.get? b = some o ∧ Shd P0 Fo' b
 names : ∀ y v, (∀ i, cx.stor y i = false) → Tq env s.heap y v → Tq env s'.heap y v
end
section
variable {prog : Program} {w : World} {Γ : Gd} {Φ : Fns} {gs : Str → Option Str} {cx : Cx} {owns : List Nat} {env : Env} {P P0 P0' K K' : Addr → Prop} {Fo Fo' Fo'' : Nat → List Addr} {σ : Sg} {A : Around} {s s' s'' s₀ s₁ s₂ : Shared} {E : Value → Shared → Prop} {d : PyData} {h h' h0 : Heap} {i m : Nat} {v : Value} {F : List Addr} {x : Str}
theorem Mv.trans (a : Mv cx env P0 K Fo Fo' s s') (b : Mv cx env P0 K Fo' Fo'' s' s'') : Mv cx env P0 K Fo Fo'' s s'' := by
 obtain ⟨h1, t1, rfl⟩ := a.same
 refine BC fun nn => ?_
 obtain ⟨h2, t2, rfl⟩ := b.same
 refine nn ?_; clear nn
 exact ⟨⟨h2, t2, rfl⟩, fun b' o q e => b.kept b' o q (a.kept b' o q e), fun b' o q e => let ⟨x, y⟩ := a.shd b' o q e; b.shd b' o y x, fun y v hy l => b.names y v hy (a.names y v hy l)⟩
theorem Mv.of_kp (k : Kp s s') : Mv cx env P0 K Fo Fo s s' := by
 refine BC fun nn => ?_
 obtain ⟨h1, t1, rfl, q⟩ := k
 refine nn ?_; clear nn
 exact ⟨⟨h1, t1, rfl⟩, fun b o _ e => q b o e, fun b o p e => ⟨q b o e, p⟩, fun y v _ l => l.keeps q⟩
theorem Mv.refl : Mv cx env P0 K Fo Fo s s := Mv.of_kp Kp.refl
theorem SInv.st0 (I : SInv prog w Γ Φ gs cx owns env A h0 P0 K Fo σ s) : St0 prog w Γ Φ gs cx env (Shd P0 Fo) σ A s :=
 ⟨I.envOk, I.room, I.ground.keeps I.keep, fun x i d n h1 h2 => let ⟨v, F, l, o, _⟩ := I.look x i d n h1 h2; ⟨v, F, l, o⟩,
  fun a e => ⟨I.new a e, fun i hm => let ⟨_, _, _, o, q⟩ := I.own i a hm; by rw [q] at e; cases e⟩, I.std, I.fnOk⟩
theorem SInv.change (I : SInv prog w Γ Φ gs cx owns env A h0 P0 K Fo σ s) (hs : ∃ h' tk, s' = { s with heap := h', toks := tk }) (hx : cx.held x i = true)
  (stay : ∀ b o, s.heap.get? b = some o → ¬ FrA env b → b ∉ Fo i → s'.heap.get? b = some o)
  (dom : ∀ b o, s.heap.get? b = some o → ∃ o', s'.heap.get? b = some o')
  (ns : ∃ m, s'.heap.Ns env.locals m) (cell : ∀ n c, env.cells.lookup n = some c → ∃ vo, s'.heap.IsCell c vo)
  (others : ∀ y v, y ≠ x → Tq env s.heap y v → Tq env s'.heap y v) (lk : Tq env s'.heap x v)
  (nm : ∀ y v, (∀ i, cx.stor y i = false) → Tq env s.heap y v → Tq env s'.heap y v)
  (ow : Ow prog w (Shd P0 (upd Fo i F)) s'.heap m v d F) (ho : owns.contains i = true ∨ F = [])
  (nd : F.Nodup) (hF : ∀ a ∈ F, a ∈ Fo i ∨ s.heap.get? a = none ∧ ∃ o, s'.heap.get? a = some o) :
  SInv prog w Γ Φ gs cx owns env A h0 P0 K (upd Fo i F) (σ.set i (some (d, m))) s' ∧ Mv cx env P0 K Fo (upd Fo i F) s s' := by
 have hFa : ∀ a ∈ F, ¬ K a ∧ ¬ FrA env a ∧ P0 a ∧ ∃ o, s'.heap.get? a = some o := by
  intro a ha
  rcases hF a ha with q | ⟨q, q'⟩
  ·refine BC fun nn => ?_
   obtain ⟨h1, h2, h3, o, h4⟩ := I.own i a q
   refine nn ?_; clear nn
   exact ⟨h1, h2, h3, dom a o h4⟩
  ·refine ⟨fun hk => ?_, fun hf => ?_, I.new a q, q'⟩
   ·obtain ⟨o, e⟩ := I.kdom a hk; rw [q] at e; cases e
   ·obtain ⟨_, _, o, e⟩ := I.frame a hf; rw [q] at e; cases e
 have hK : ∀ b o, K b → s.heap.get? b = some o → s'.heap.get? b = some o := fun b o hk e => stay b o e (fun hf => (I.frame b hf).1 hk) fun hm => (I.own i b hm).1 hk
 have hS : ∀ b o, Shd P0 Fo b → s.heap.get? b = some o → s'.heap.get? b = some o ∧ Shd P0 (upd Fo i F) b := fun b o hp e => by
  refine ⟨stay b o e (fun hf => (I.frame b hf).2.1 hp.1) (hp.2 i), hp.1, fun j hm => ?_⟩
  unfold upd at hm
  split at hm
  ·rcases hF b hm with q | ⟨q, _⟩
   ·exact hp.2 i q
   ·rw [e] at q; cases q
  ·exact hp.2 j hm
 have hd : ∀ j, j ≠ i → ∀ a, a ∈ F → a ∉ Fo j := fun j hj a ha hm => by
  rcases hF a ha with q | ⟨q, _⟩
  ·exact hj (I.disj j i a hm q)
  ·obtain ⟨_, _, _, o, e⟩ := I.own j a hm; rw [q] at e; cases e
 refine ⟨⟨I.envOk, I.room, I.std, I.fnOk, I.apart, I.above, I.inj, I.ground, fun b o e => hK b o (I.base b o e) (I.keep b o e), I.base, ns, cell, ?_, ?_, ?_, ?_, ?_, ?_, ?_⟩, hs, hK, hS, nm⟩
 ·intro a hf
  refine BC fun nn => ?_
  obtain ⟨h1, h2, o, e⟩ := I.frame a hf
  refine nn ?_; clear nn
  exact ⟨h1, h2, dom a o e⟩
 ·intro j a hm
  unfold upd at hm
  split at hm
  ·exact hFa a hm
  ·refine BC fun nn => ?_
   obtain ⟨h1, h2, h3, o, e⟩ := I.own j a hm
   refine nn ?_; clear nn
   exact ⟨h1, h2, h3, dom a o e⟩
 ·intro j
  unfold upd
  split
  ·exact nd
  ·exact I.nodup j
 ·intro j k a h1 h2
  unfold upd at h1 h2
  split at h1
  ·rename_i e1
   split at h2
   ·rename_i e2; rw [e1, e2]
   ·rename_i e2; exact absurd h2 (hd k e2 a h1)
  ·rename_i e1
   split at h2
   ·exact absurd h1 (hd j e1 a h2)
   ·exact I.disj j k a h1 h2
 ·intro a e
  refine I.new a ?_
  cases q : s.heap.get? a with
  | none => rfl
  | some o => obtain ⟨o', e'⟩ := dom a o q; rw [e] at e'; cases e'
 ·intro a hk
  obtain ⟨o, e⟩ := I.kdom a hk
  exact ⟨o, hK a o hk e⟩
 ·intro y j d' n hy hσ
  by_cases hj : j = i
  ·subst hj
   have := Tb hσ
   simp only [OI, Prod.mk.injEq] at this
   obtain ⟨rfl, rfl⟩ := this
   obtain rfl := I.inj _ _ _ hx hy
   refine ⟨v, F, lk, ow, ?_⟩
   split
   ·simp [upd]
   ·rename_i hno
    rcases ho with q | q
    ·exact absurd q hno
    ·subst q; intro a ha; cases ha
  ·rw [Ra hj] at hσ
   refine Z1 (I.look y j d' n hy hσ) fun v' F' l o c => ?_
   have hyx : y ≠ x := fun q => by
    subst q
    have h1 := (We hx).1
    have h2 := (We hy).1
    rw [h1] at h2
    exact hj (Option.some.inj h2).symm
   refine ⟨v', F', others y v' hyx l, o.move (fun a ob p e => (hS a ob p e).symm) (fun a ob hm e => ?_), ?_⟩
   ·split at c
    ·subst c
     refine BC fun nn => ?_
     obtain ⟨_, h2, _, _⟩ := I.own j a hm
     refine nn ?_; clear nn
     exact stay a ob e h2 fun q => hj (I.disj j i a hm q)
    ·obtain ⟨o', e'⟩ := c a hm
     exact hK a ob (I.base a o' e') e
   ·split
    ·rename_i hown
     rw [if_pos hown] at c
     rw [c]; simp [upd, hj]
    ·rename_i hown
     rw [if_neg hown] at c
     exact c
theorem SInv.keeps (I : SInv prog w Γ Φ gs cx owns env A h0 P0 K Fo σ s) (k : Kp s s') : SInv prog w Γ Φ gs cx owns env A h0 P0 K Fo σ s' :=
 ⟨I.envOk, I.room, I.std, I.fnOk, I.apart, I.above, I.inj, I.ground, fun b o e => k.keep b o (I.keep b o e), I.base, let ⟨m, q⟩ := I.ns; ⟨m, q.keeps k.keep⟩, fun n c e => let ⟨vo, q⟩ := I.cell n c e; ⟨vo, q.keeps k.keep⟩,
  fun a hf => let ⟨h1, h2, o, e⟩ := I.frame a hf; ⟨h1, h2, o, k.keep a o e⟩, fun i a hm => let ⟨h1, h2, h3, o, e⟩ := I.own i a hm; ⟨h1, h2, h3, o, k.keep a o e⟩, I.nodup, I.disj, fun a e => I.new a (k.none e),
  fun a hk => let ⟨o, e⟩ := I.kdom a hk; ⟨o, k.keep a o e⟩, fun y j d n hy hσ => let ⟨v, F, l, o, c⟩ := I.look y j d n hy hσ; ⟨v, F, l.keeps k.keep, o.keeps k.keep, c⟩⟩
theorem SInv.forget (I : SInv prog w Γ Φ gs cx owns env A h0 P0 K Fo σ s) (i : Nat) : SInv prog w Γ Φ gs cx owns env A h0 P0 K Fo (σ.set i none) s :=
 { I with
  look := fun y j d n hy hσ => by
   by_cases hj : j = i
   ·subst hj
    have := Tb hσ
    cases this
   ·rw [Ra hj] at hσ
    exact I.look y j d n hy hσ }
theorem SInv.share (I : SInv prog w Γ Φ gs cx owns env A h0 P0 K Fo σ s) {i n : Nat} (ho : owns.contains i = true) (hσ : σ[i]? = some (some (d, n))) :
  SInv prog w Γ Φ gs cx owns env A h0 P0 K (upd Fo i []) (σ.set i (some (d, 0))) s ∧ Mv cx env P0 K Fo (upd Fo i []) s s := by
 have sub : ∀ j a, a ∈ upd Fo i [] j → a ∈ Fo j ∧ j ≠ i := fun j a hm => by
  unfold upd at hm
  split at hm
  ·cases hm
  ·rename_i q; exact ⟨hm, q⟩
 have hp : ∀ a, Shd P0 Fo a → Shd P0 (upd Fo i []) a := fun a q => ⟨q.1, fun j hm => q.2 j (sub j a hm).1⟩
 refine ⟨{ I with
  own := fun j a hm => I.own j a (sub j a hm).1
  nodup := fun j => by
   unfold upd
   split
   ·exact List.nodup_nil
   ·exact I.nodup j
  disj := fun j k a h1 h2 => I.disj j k a (sub j a h1).1 (sub k a h2).1
  look := fun y j d' n' hy hσ' => by
   by_cases hj : j = i
   ·subst hj
    have := Tb hσ'
    simp only [OI, Prod.mk.injEq] at this
    obtain ⟨rfl, rfl⟩ := this
    refine Z1 (I.look y j d' n hy hσ) fun v F l o c => ?_
    rw [if_pos ho] at c
    refine ⟨v, [], l, (o.share hp fun a hm => ?_).ow, ?_⟩
    ·rw [c] at hm
     exact ⟨(I.own j a hm).2.2.1, fun k hk => (sub k a hk).2 (I.disj k j a (sub k a hk).1 hm)⟩
    ·rw [if_pos ho]; simp [upd]
   ·rw [Ra hj] at hσ'
    refine Z1 (I.look y j d' n' hy hσ') fun v F l o c => ?_
    refine ⟨v, F, l, o.move (fun a ob p e => ⟨hp a p, e⟩) (fun _ _ _ e => e), ?_⟩
    split
    ·rename_i hown
     rw [if_pos hown] at c
     rw [c]; simp [upd, hj]
    ·rename_i hown
     rw [if_neg hown] at c
     exact c }, ⟨⟨_, _, rfl⟩, fun _ _ _ e => e, fun b o p e => ⟨e, hp b p⟩, fun _ _ _ l => l⟩⟩
theorem SInv.frozen (I : SInv prog w Γ Φ gs cx owns env A h0 P0 K Fo σ s) : St0 prog w Γ Φ gs cx env P0 (Wr owns σ) A s :=
 ⟨I.envOk, I.room, I.ground.keeps I.keep, fun x i d n h1 h2 => by
   unfold Wr at h2
   rw [List.getElem?_mapIdx, Option.map_eq_some_iff] at h2
   refine BC fun nn => ?_
   obtain ⟨z, hz, h2⟩ := h2
   refine nn ?_; clear nn
   split at h2
   ·rename_i hown
    cases z with
    | none => simp at h2
    | some p =>
     obtain ⟨d', n'⟩ := p
     simp only [OM, OI, Prod.mk.injEq] at h2
     obtain ⟨rfl, rfl⟩ := h2
     refine Z1 (I.look x i d' n' h1 hz) fun v F l o c => ?_
     rw [if_pos hown] at c
     exact ⟨v, [], l, (o.share (P' := P0) (fun _ q => q.1) fun a hm => (I.own i a (c ▸ hm)).2.2.1).ow⟩
   ·subst h2
    refine Z1 (I.look x i d n h1 hz) fun v F l o c => ?_
    exact ⟨v, F, l, o.move (fun a ob p e => ⟨p.1, e⟩) fun _ _ _ e => e⟩,
  I.new, I.std, I.fnOk⟩
theorem SInv.inner (I : SInv prog w Γ Φ gs cx owns env A h0 P0 K Fo σ s) (wr : Addr → Prop) (hwd : ∀ a, wr a → ∃ o, s.heap.get? a = some o) (hwo : ∀ i a, a ∈ Fo i → ¬ wr a) (hwf : ∀ a, FrA env a → ¬ wr a)
  (hws : ∀ x i d n, cx.held x i = true → σ[i]? = some (some (d, n)) → ∃ v F, Tq env s.heap x v ∧ Ow prog w (Shd (fun a => P0 a ∧ ¬ wr a) Fo) s.heap n v d F ∧ (if owns.contains i then F = Fo i else ∀ a ∈ F, ∃ o, h0.get? a = some o)) :
  SInv prog w Γ Φ gs cx owns env A h0 (fun a => P0 a ∧ ¬ wr a) (fun a => K a ∨ wr a) Fo σ s :=
 { I with
  base := fun b o e => .inl (I.base b o e)
  frame := fun a hf => let ⟨h1, h2, r⟩ := I.frame a hf; ⟨fun q => q.elim h1 (hwf a hf), fun q => h2 q.1, r⟩
  own := fun i a hm => let ⟨h1, h2, h3, r⟩ := I.own i a hm; ⟨fun q => q.elim h1 (hwo i a hm), h2, ⟨h3, hwo i a hm⟩, r⟩
  new := fun a e => ⟨I.new a e, fun q => let ⟨o, q'⟩ := hwd a q; by rw [e] at q'; cases q'⟩
  kdom := fun a q => q.elim (I.kdom a) (hwd a)
  look := hws }
theorem SInv.outer {wr : Addr → Prop} (I : SInv prog w Γ Φ gs cx owns env A h0 (fun a => P0 a ∧ ¬ wr a) (fun a => K a ∨ wr a) Fo σ s) (hb : ∀ b o, h0.get? b = some o → K b) (hf : ∀ a, FrA env a → ¬ P0 a) : SInv prog w Γ Φ gs cx owns env A h0 P0 K Fo σ s :=
 { I with
  base := hb
  frame := fun a q => let ⟨h1, _, r⟩ := I.frame a q; ⟨fun k => h1 (.inl k), hf a q, r⟩
  own := fun i a hm => let ⟨h1, h2, h3, r⟩ := I.own i a hm; ⟨fun k => h1 (.inl k), h2, h3.1, r⟩
  new := fun a e => (I.new a e).1
  kdom := fun a q => I.kdom a (.inl q)
  look := fun y j d n hy hσ => let ⟨v, F, l, o, c⟩ := I.look y j d n hy hσ; ⟨v, F, l, o.move (fun a ob p e => ⟨⟨p.1.1, p.2⟩, e⟩) fun _ _ _ e => e, c⟩ }
theorem Mv.outer {wr : Addr → Prop} (M : Mv cx env (fun a => P0 a ∧ ¬ wr a) (fun a => K a ∨ wr a) Fo Fo' s s') (hw : ∀ a, wr a → s₀.heap.get? a = none) (k : Kp s₀ s) : Mv cx env P0 K Fo Fo' s₀ s' := by
 obtain ⟨h1, t1, rfl, q⟩ := k
 obtain ⟨h2, t2, rfl⟩ := M.same
 refine ⟨⟨h2, t2, rfl⟩, fun b o hk e => M.kept b o (.inl hk) (q b o e), fun b o hp e => ?_, fun y v hy l => M.names y v hy (l.keeps q)⟩
 have hb : ¬ wr b := fun hb => by rw [hw b hb] at e; cases e
 obtain ⟨e', p'⟩ := M.shd b o ⟨⟨hp.1, hb⟩, hp.2⟩ (q b o e)
 exact ⟨e', p'.1.1, p'.2⟩
end
structure Stored (env : Env) (x : Str) (v : Value) (h h' : Heap) : Prop where
 stay : ∀ b o, h.get? b = some o → ¬ FrA env b → h'.get? b = some o
 dom : ∀ b o, h.get? b = some o → ∃ o', h'.get? b = some o'
 ns : ∃ m, h'.Ns env.locals m
 cell : ∀ n c, env.cells.lookup n = some c → ∃ vo, h'.IsCell c vo
 others : ∀ y v', y ≠ x → Tq env h y v' → Tq env h' y v'
 lk : Tq env h' x v
section
variable {prog : Program} {w : World} {Γ : Gd} {Φ : Fns} {gs : Str → Option Str} {cx : Cx} {owns : List Nat} {env : Env} {P P' P0 P0' K K' : Addr → Prop} {Fo Fo' Fo'' : Nat → List Addr} {σ : Sg} {A : Around} {s s' s'' s₀ s₁ s₂ : Shared} {E : Value → Shared → Prop} {d : PyData} {h h' h'' h0 : Heap} {i m : Nat} {v : Value} {F : List Addr} {x : Str} {k : Kd}
theorem cov_list {n : Nat} {ds : List PyData} (c : Mine.cov (n + 1) (.list ds) = true) : ∀ d ∈ ds, Mine.cov n d = true := List.all_eq_true.mp c
theorem cov_dict {n : Nat} {ds : List (PyData × PyData)} (c : Mine.cov (n + 1) (.dict ds) = true) : ∀ a b, (a, b) ∈ ds → Mine.cov n b = true := fun a b m => List.all_eq_true.mp c (a, b) m
theorem Ow.cov {k v d F} (c : cov k d = true) (hF : ∀ a o, a ∈ F → h.get? a = some o → h'.get? a = some o) (x : Ow prog w P h k v d F) : Ow prog w P' h' k v d F :=
 Ow.rec (motive_1 := fun k v d F _ => Mine.cov k d = true → (∀ a o, a ∈ F → h.get? a = some o → h'.get? a = some o) → Ow prog w P' h' k v d F)
  (motive_2 := fun k vs ds F _ => (∀ d ∈ ds, Mine.cov k d = true) → (∀ a o, a ∈ F → h.get? a = some o → h'.get? a = some o) → OwAll prog w P' h' k vs ds F)
  (motive_3 := fun k vs ds F _ => (∀ a b, (a, b) ∈ ds → Mine.cov k b = true) → (∀ a o, a ∈ F → h.get? a = some o → h'.get? a = some o) → OwKv prog w P' h' k vs ds F)
  (fun {k v d} q r c _ => by
   rcases q with rfl | q
   ·refine .sh (.inl rfl) (Zd ?_ r)
    cases d <;> first | rfl | exact (Bool.false_ne_true c).elim
   ·exact .sh (.inr q) (Zd q r))
  (fun ⟨n, e⟩ l _ r c hF => .list ⟨n, hF _ _ (.head _) e⟩ l (r (cov_list c) fun a o m q => hF a o (.tail _ m) q))
  (fun s e l _ r c hF => .dict s (Ru e fun o q => hF _ o (.head _) q) l (r (cov_dict c) fun a o m q => hF a o (.tail _ m) q))
  (fun _ _ => .nil) (fun _ _ a b c hF => .cons (a (c _ (.head _)) fun x o m q => hF x o (List.mem_append_left _ m) q) (b (fun d hd => c d (.tail _ hd)) fun x o m q => hF x o (List.mem_append_right _ m) q))
  (fun _ _ => .nil) (fun k _ _ a b c hF => .cons k (a (c _ _ (.head _)) fun x o m q => hF x o (List.mem_append_left _ m) q) (b (fun d e hd => c d e (.tail _ hd)) fun x o m q => hF x o (List.mem_append_right _ m) q)) x c hF
theorem FrA.cell {n : Str} {c : Addr} (e : env.cells.lookup n = some c) : FrA env c := .inr ⟨n, e⟩
theorem Un (hx : cx.stor x i = true) : cx.held x i = true ∧ (cx.names.lookup x = some .local ∨ cx.names.lookup x = some .cell) := by
 unfold Cx.stor at hx
 simp only [BA, Bool.or_eq_true, beq_iff_eq] at hx
 exact hx.1
theorem V6 (hx : cx.stor x i = true) (S : Stored env x v h h') : ∀ y v, (∀ i, cx.stor y i = false) → Tq env h y v → Tq env h' y v := fun y v hy l =>
 S.others y v (fun q => by have := hy i; rw [q, hx] at this; cases this) l
theorem Lb {Q : Unit → Shared → Prop} (I : SInv prog w Γ Φ gs cx owns env A h0 P0 K Fo σ s₀) (k : Kp s₀ s₁) (hx : cx.stor x i = true)
  (hQ : ∀ h' tk, Stored env x v s₀.heap h' → Stored env x v s₁.heap h' → Q () { s₁ with heap := h', toks := tk }) : wpAny (model prog w) A (storeName env x v) Q E s₁ := by
 obtain ⟨hh, hk⟩ := Un hx
 have I₁ := I.keeps k
 have Yd : ∀ h' tk, Stored env x v s₁.heap h' → Q () { s₁ with heap := h', toks := tk } := fun h' tk S =>
  hQ h' tk ⟨fun b o e => S.stay b o (k.keep b o e), fun b o e => S.dom b o (k.keep b o e), S.ns, S.cell, fun y v' hy l => S.others y v' hy (l.keeps k.keep), S.lk⟩ S
 rcases hk with hk | hk
 ·have hl : env.kindOf x = some .local := by rw [I.envOk.kindOf]; exact hk
  obtain ⟨m, hn⟩ := I₁.ns
  refine wpAny_storeName_local hl hn (fun h' hn' hs' => Yd h' _ ⟨fun b o e hf => hs'.extBut b o (fun q => hf (.inl q)) e, fun b o e => ?_, ⟨_, hn'⟩, fun n c e => ?_, fun y v' hy l => ?_, .inl ⟨hl, _, hn', by simp⟩⟩) (by rw [I.envOk.kind]; rfl)
  ·by_cases hb : b = env.locals
   ·obtain ⟨o', _, _, e', _⟩ := hn'; exact ⟨o', hb ▸ e'⟩
   ·exact ⟨o, hs'.extBut b o hb e⟩
  ·obtain ⟨vo, q⟩ := I₁.cell n c e
   exact ⟨vo, q.sameBut hs' (Nat.ne_of_gt (I.above n c (mem_of_lookup e)))⟩
  ·rcases l with ⟨hl', m', hn2, hv⟩ | ⟨hl', c, hc, hv⟩
   ·refine .inl ⟨hl', _, hn', ?_⟩
    simp only [hy, if_false]
    rw [hn.agree hn2 y]; exact hv
   ·exact .inr ⟨hl', c, hc, hv.sameBut hs' (Nat.ne_of_gt (I.above y c (mem_of_lookup hc)))⟩
 ·have hl : env.kindOf x = some .cell := by rw [I.envOk.kindOf]; exact hk
  obtain ⟨c, hc⟩ := I.envOk.cells x (.inl hk)
  obtain ⟨vo, hv⟩ := I₁.cell x c hc
  have hLc := I.above x c (mem_of_lookup hc)
  refine wpAny_storeName_cell I.envOk.kind hl hc hv fun h' hc' hs' => Yd h' _ ⟨fun b o e hf => hs'.extBut b o (fun q => hf (q ▸ FrA.cell hc)) e, fun b o e => ?_, ?_, fun n c' e => ?_, fun y v' hy l => ?_, .inr ⟨.inl hl, c, hc, hc'⟩⟩
  ·by_cases hb : b = c
   ·obtain ⟨o', e', _⟩ := hc'; exact ⟨o', hb ▸ e'⟩
   ·exact ⟨o, hs'.extBut b o hb e⟩
  ·obtain ⟨m, hn⟩ := I₁.ns
   exact ⟨m, hn.sameBut hs' (Nat.ne_of_lt hLc)⟩
  ·by_cases hb : c' = c
   ·subst hb; exact ⟨_, hc'⟩
   ·obtain ⟨vo', q⟩ := I₁.cell n c' e
    exact ⟨vo', q.sameBut hs' hb⟩
  ·rcases l with ⟨hl', m', hn2, hv⟩ | ⟨hl', c', hc2, hv⟩
   ·exact .inl ⟨hl', m', hn2.sameBut hs' (Nat.ne_of_lt hLc), hv⟩
   ·refine .inr ⟨hl', c', hc2, hv.sameBut hs' fun q => hy ?_⟩
    subst q
    exact name_of_addr I.apart (mem_of_lookup hc2) (mem_of_lookup hc)
theorem Stored.but {C : Addr} (S : Stored env x v h h') (hs : Heap.SameBut C h' h'') (hC : h.get? C = none) (hf : ¬ FrA env C) : Stored env x v h h'' := by
 refine ⟨fun b o e hb => hs.extBut b o (fun q => by rw [q, hC] at e; cases e) (S.stay b o e hb), fun b o e => ?_, ?_, fun n c e => ?_, fun y v' hy l => ?_, ?_⟩
 ·obtain ⟨o', e'⟩ := S.dom b o e
  exact ⟨o', hs.extBut b o' (fun q => by rw [q, hC] at e; cases e) e'⟩
 ·obtain ⟨m, q⟩ := S.ns
  exact ⟨m, q.sameBut hs fun q => hf (q ▸ .inl rfl)⟩
 ·obtain ⟨vo, q⟩ := S.cell n c e
  exact ⟨vo, q.sameBut hs fun q => hf (q ▸ FrA.cell e)⟩
 ·rcases S.others y v' hy l with ⟨a, m, n, e⟩ | ⟨a, c, e, i⟩
  ·exact .inl ⟨a, m, n.sameBut hs fun q => hf (q ▸ .inl rfl), e⟩
  ·exact .inr ⟨a, c, e, i.sameBut hs fun q => hf (q ▸ FrA.cell e)⟩
 ·rcases S.lk with ⟨a, m, n, e⟩ | ⟨a, c, e, i⟩
  ·exact .inl ⟨a, m, n.sameBut hs fun q => hf (q ▸ .inl rfl), e⟩
  ·exact .inr ⟨a, c, e, i.sameBut hs fun q => hf (q ▸ FrA.cell e)⟩
theorem SInv.setSh (I : SInv prog w Γ Φ gs cx owns env A h0 P0 K Fo σ s) (hx : cx.stor x i = true) (hs : ∃ h' tk, s' = { s with heap := h', toks := tk }) (S : Stored env x v s.heap s'.heap) (r : Rp prog w (Shd P0 Fo) s'.heap v d) :
  SInv prog w Γ Φ gs cx owns env A h0 P0 K (upd Fo i []) (σ.set i (some (d, 0))) s' ∧ Mv cx env P0 K Fo (upd Fo i []) s s' := by
 refine I.change hs (Un hx).1 (fun b o e hf _ => S.stay b o e hf) S.dom S.ns S.cell S.others S.lk (V6 hx S) (r.move fun a ob p e => ⟨⟨p.1, fun j hm => ?_⟩, e⟩).ow (.inr rfl) List.nodup_nil (fun a ha => nomatch ha)
 unfold upd at hm
 split at hm
 ·cases hm
 ·exact p.2 j hm
theorem SInv.setOwn (I : SInv prog w Γ Φ gs cx owns env A h0 P0 K Fo σ s) (hx : cx.stor x i = true) (hs : ∃ h' tk, s' = { s with heap := h', toks := tk }) (S : Stored env x v s.heap s'.heap) (ho : owns.contains i = true) (r : Ow prog w P s'.heap m v d F) (hc : cov m d = true)
  (nd : F.Nodup) (hF : ∀ a ∈ F, s.heap.get? a = none) :
  SInv prog w Γ Φ gs cx owns env A h0 P0 K (upd Fo i F) (σ.set i (some (d, m))) s' ∧ Mv cx env P0 K Fo (upd Fo i F) s s' :=
 I.change hs (Un hx).1 (fun b o e hf _ => S.stay b o e hf) S.dom S.ns S.cell S.others S.lk (V6 hx S) (r.cov hc fun _ _ _ e => e) (.inl ho) nd fun a ha => .inr ⟨hF a ha, r.dom a ha⟩
theorem Vl (I : SInv prog w Γ Φ gs cx owns env A h0 P0 K Fo σ s) {a : Addr} (e : s.heap.get? a = none) : ¬ FrA env a := fun hf => let ⟨_, _, o, q⟩ := I.frame a hf; by rw [e] at q; cases q
theorem Z0 (I : SInv prog w Γ Φ gs cx owns env A h0 P0 K Fo σ s) {a : Addr} (e : Shd P0 Fo a) : ¬ FrA env a := fun hf => (I.frame a hf).2.1 e.1
theorem SInv.setv {m' : Nat} {d' : PyData} (I : SInv prog w Γ Φ gs cx owns env A h0 P0 K Fo σ s) (hx : cx.stor x i = true) (hm : m = 0 ∨ owns.contains i = true) (hs : ∃ h' tk, s' = { s with heap := h', toks := tk }) (S : Stored env x v s.heap s'.heap)
  (r : W4 prog w (Shd P0 Fo) s.heap s'.heap k v d) (ev : Z4 m (d, k) = some (d', m')) :
  ∃ Fo', SInv prog w Γ Φ gs cx owns env A h0 P0 K Fo' (σ.set i (some (d', m'))) s' ∧ Mv cx env P0 K Fo Fo' s s' := by
 unfold Z4 at ev
 split at ev
 ·split at ev
  ·rename_i hsh
   apply Xu ev
   exact ⟨_, I.setSh hx hs S (r.share I.st0.new hsh)⟩
  ·cases ev
 ·rename_i hm0
  split at ev
  ·rename_i hc
   apply Xu ev
   simp only [BA, Bool.not_eq_true'] at hc
   cases k with
   | bor n => simp [Kd.least] at hc
   | fr j =>
    obtain ⟨F, o, nd, fr⟩ := r
    obtain ⟨G, g, sl⟩ := o.less (fun a ha => I.st0.new a (fr a ha)) (by simpa [Kd.least] using hc.1.1)
    exact ⟨_, I.setOwn hx hs S (hm.resolve_left hm0) g hc.1.2 (sl.nodup nd) fun a ha => fr a (sl.subset ha)⟩
  ·cases ev
theorem W4.stored (I : SInv prog w Γ Φ gs cx owns env A h0 P0 K Fo σ s) (r : W4 prog w (Shd P0 Fo) s.heap s₁.heap k v d) (hk : k.sh = true) (S : Stored env x v s₁.heap h') : W4 prog w (Shd P0 Fo) s.heap h' k v d := by
 cases k with
 | bor n =>
  obtain ⟨F, o⟩ := r
  have : n = 0 := by simpa [Kd.sh] using hk
  subst this
  exact ⟨[], .sh (.inl rfl) (o.zero.1.move fun a ob p e => ⟨p, S.stay a ob e (Z0 I p)⟩)⟩
 | fr n =>
  obtain ⟨F, o, nd, fr⟩ := r
  exact ⟨F, o.move (fun a ob p e => ⟨p, S.stay a ob e (Z0 I p)⟩) fun a ob hm e => S.stay a ob e (Vl I (fr a hm)), nd, fr⟩
theorem ownD_sh {m : Nat} {r : Res} {p : PyData × Nat} (e : Z4 m r = some p) : r.2.sh = true := by
 unfold Z4 at e
 split at e
 ·split at e
  ·assumption
  ·cases e
 ·split at e
  ·rename_i hc
   simp only [BA] at hc
   obtain ⟨d, k⟩ := r
   cases k with
   | bor n => simp [Kd.least] at hc
   | fr n => rfl
  ·cases e
end
section
variable (prog : Program) (w : World) (Γ : Gd) (Φ : Fns) (gs : Str → Option Str)
noncomputable def Vp (cx : Cx) (owns : List Nat) (env : Env) (A : Around) (h0 : Heap) (P0 K : Addr → Prop) (Fo : Nat → List Addr) (s : Shared) : Out → Flow → Shared → Prop
 | .next σ', f, s' => f = .next ∧ ∃ Fo', SInv prog w Γ Φ gs cx owns env A h0 P0 K Fo' σ' s' ∧ Mv cx env P0 K Fo Fo' s s'
 | .brk σ', f, s' => f = .brk ∧ ∃ Fo', SInv prog w Γ Φ gs cx owns env A h0 P0 K Fo' σ' s' ∧ Mv cx env P0 K Fo Fo' s s'
 | .ret d k, f, s' => ∃ v, f = .ret v ∧ (∃ h' tk, s' = { s with heap := h', toks := tk }) ∧ (∀ b o, h0.get? b = some o → s'.heap.get? b = some o) ∧ W4 prog w P0 h0 s'.heap (.fr k) v d
noncomputable def SBk (b : StL) : Prop := ∀ {cx : Cx} {owns : List Nat} {env : Env} {A : Around} {h0 : Heap} {P0 K : Addr → Prop} {Fo : Nat → List Addr} {σ : Sg} {s : Shared} {stmts : List Stmt} {out : Out} {E : Value → Shared → Prop},
 okB gs cx owns b stmts = true → SInv prog w Γ Φ gs cx owns env A h0 P0 K Fo σ s → evB Φ owns b σ = some out → wpAny (model prog w) A (execs stmts env) (Vp prog w Γ Φ gs cx owns env A h0 P0 K Fo s out) E s
end
section
variable {prog : Program} {w : World} {Γ : Gd} {Φ : Fns} {gs : Str → Option Str} {cx : Cx} {owns : List Nat} {env : Env} {P P' P0 P0' K K' : Addr → Prop} {Fo Fo' Fo'' : Nat → List Addr} {σ : Sg} {A : Around} {s s' s'' s₀ s₁ s₂ : Shared} {E : Value → Shared → Prop} {d : PyData} {h h' h'' h0 : Heap} {i m : Nat} {v : Value} {F : List Addr} {x : Str} {k : Kd} {out : Out} {f : Flow}
theorem Vp.trans (M : Mv cx env P0 K Fo Fo' s s') (p : Vp prog w Γ Φ gs cx owns env A h0 P0 K Fo' s' out f s'') : Vp prog w Γ Φ gs cx owns env A h0 P0 K Fo s out f s'' := by
 cases out with
 | next σ' => exact ⟨p.1, let ⟨Fo'', i, m⟩ := p.2; ⟨Fo'', i, M.trans m⟩⟩
 | brk σ' => exact ⟨p.1, let ⟨Fo'', i, m⟩ := p.2; ⟨Fo'', i, M.trans m⟩⟩
 | ret d k =>
  refine BC fun nn => ?_
  obtain ⟨v, e, ⟨h1, t1, rfl⟩, r⟩ := p
  refine nn ?_; clear nn
  refine BC fun nn => ?_
  obtain ⟨h2, t2, rfl⟩ := M.same
  refine nn ?_; clear nn
  exact ⟨v, e, ⟨h1, t1, rfl⟩, r⟩
theorem Lc {b : StL} {st : Stmt} {ss : List Stmt} {σ' : Sg} (hb : SBk prog w Γ Φ gs b) (ok : okB gs cx owns b ss = true) (ev : evB Φ owns b σ' = some out)
  (h : wpAny (model prog w) A (exec st env) (fun f s' => f = .next ∧ ∃ Fo', SInv prog w Γ Φ gs cx owns env A h0 P0 K Fo' σ' s' ∧ Mv cx env P0 K Fo Fo' s s') E s) :
  wpAny (model prog w) A (execs (st :: ss) env) (Vp prog w Γ Φ gs cx owns env A h0 P0 K Fo s out) E s := by
 refine wpAny_execs_cons (wpAny_mono h (fun f s' q => ?_) fun _ _ q => q)
 refine BC fun nn => ?_
 obtain ⟨rfl, Fo', I', M'⟩ := q
 refine nn ?_; clear nn
 exact wpAny_mono (hb ok I' ev) (fun f s'' q => q.trans M') fun _ _ q => q
theorem swaps0 {p : Pos} {l : Nat} : ∀ y, okK y = true → (∀ xe gens sc ps, y ≠ .ListComp xe gens sc ps) → swapsWith y (some (.Name x p)) l env = pure false := by
 intro y
 cases y <;> first | (intro _ _; rfl) | (intro h; exact absurd h Bool.false_ne_true) | (intro _ hy; exact absurd rfl (hy _ _ _ _))
theorem C2 {y : Expr} {p : Pos} {l : Nat} (hy : ∀ xe gens sc ps, y ≠ .ListComp xe gens sc ps) {e : Ex} (ok : okE gs cx e y = true) : swapsWith y (some (.Name x p)) l env = pure false := swaps0 y (X4 ok) hy
theorem Of {e : Ex} {xe : Expr} {gens : List Comprehension} {sc : Scope} {ps : Pos} (ok : okE gs cx e (.ListComp xe gens sc ps) = true) : (∃ deep rng n it ifs elt, e = .comp deep rng n it ifs elt) ∨ (∃ n m it1 it2 ifs elt, e = .comp2 n m it1 it2 ifs elt) := by
 cases e <;> first | exact .inl ⟨_, _, _, _, _, _, rfl⟩ | exact .inr ⟨_, _, _, _, _, _, rfl⟩ | exact absurd (show false = true from ok) Bool.false_ne_true
theorem Ok {e : Ex} {y : Expr} {p pos : Pos} {q : PyData × Nat} (hall : ∀ ex, SE prog w Γ Φ gs ex ∧ SB prog w Γ Φ gs ex) (halls : ∀ es, V1 prog w Γ Φ gs es) (ok : okE gs cx e y = true) (hx : cx.stor x i = true) (hm : m = 0 ∨ owns.contains i = true)
  (I : SInv prog w Γ Φ gs cx owns env A h0 P0 K Fo σ s) (ev : (evE Φ e σ).bind (Z4 m) = some q) :
  wpAny (model prog w) A (exec (.Assign [.Name x p] y pos) env) (fun f s' => f = .next ∧ ∃ Fo', SInv prog w Γ Φ gs cx owns env A h0 P0 K Fo' (σ.set i (some q)) s' ∧ Mv cx env P0 K Fo Fo' s s') E s := by
 obtain ⟨d', m'⟩ := q
 refine Z2 ev fun d k ev eo => ?_
 have plain : swapsWith y (some (.Name x p)) pos.line env = pure false → wpAny (model prog w) A (exec (.Assign [.Name x p] y pos) env) (fun f s' => f = .next ∧ ∃ Fo', SInv prog w Γ Φ gs cx owns env A h0 P0 K Fo' (σ.set i (some (d', m'))) s' ∧ Mv cx env P0 K Fo Fo' s s') E s := by
  intro hs
  refine wpAny_Assign_Name (wpAny_mono ((hall e).1 ok I.st0 ev) (fun v s₁ q => ?_) fun _ _ q => q) hs
  obtain ⟨k₁, r₁⟩ := q
  refine Lb I k₁ hx fun h' tk S S₁ => ⟨rfl, I.setv hx hm ?_ S (r₁.stored I (ownD_sh eo) S₁) eo⟩
  refine BC fun nn => ?_
  obtain ⟨h1, t1, rfl, _⟩ := k₁
  refine nn ?_; clear nn
  exact ⟨h', tk, rfl⟩
 by_cases hy : ∃ xe gens sc ps, y = .ListComp xe gens sc ps
 ·refine BC fun nn => ?_
  obtain ⟨xe, gens, sc, ps, rfl⟩ := hy
  refine nn ?_; clear nn
  have hsw : ∃ b, swapsWith (.ListComp xe gens sc ps) (some (.Name x p)) pos.line env = pure b := ⟨_, rfl⟩
  obtain ⟨b, hsw⟩ := hsw
  cases b with
  | false => exact plain hsw
  | true =>
   rw [exec_Assign_Name_used _ _ _ _ hsw]
   refine wpAny_bind (wpAny_standAt (wpAny_bind ?_))
   have fin : ∀ (outs : List PyData) (kk : Nat) (D C : Addr) (s' : Shared) (m₁ : Str → Option Value), d = .list outs → k = .fr kk → s.heap.get? C = none → D ≠ C → s'.heap.Ns C m₁ → Kp s s' → (∃ F, Ow prog w (fun a => Shd P0 Fo a ∧ a ≠ C) s'.heap kk (.ref D) (.list outs) (D :: F) ∧ (D :: F).Nodup ∧ (∀ a ∈ D :: F, s.heap.get? a = none ∧ a ≠ C)) →
     compPost (model prog w) A E (some (assign (.Name x p) env)) (fun _ s' => ∃ Fo', SInv prog w Γ Φ gs cx owns env A h0 P0 K Fo' (σ.set i (some (d', m'))) s' ∧ Mv cx env P0 K Fo Fo' s s') (.ref D) C (.ok .next) s' := by
    intro outs kk D C s' m₁ hd hk n1 n2 n3 n4 n5
    subst hd hk
    refine BC fun nn => ?_
    obtain ⟨F, o, nd, fr⟩ := n5
    refine nn ?_; clear nn
    show wpAny (model prog w) A (assign (.Name x p) env (.ref D)) _ _ _
    refine wpAny_assign_Name (Lb I n4 hx fun h' tk S S₁ => ?_)
    have hCf := Vl I n1
    refine ⟨m₁, n3.at' fun o e => S₁.stay _ o e hCf, fun h2 hs2 => ?_⟩
    refine I.setv hx hm ?_ (S.but hs2 n1 hCf) (k := .fr kk) ⟨D :: F, ?_, nd, fun a ha => (fr a ha).1⟩ eo
    ·refine BC fun nn => ?_
     obtain ⟨h1, t1, rfl, _⟩ := n4
     refine nn ?_; clear nn
     exact ⟨h2, tk, rfl⟩
    ·exact o.move (fun a ob p e => ⟨p.1, hs2.extBut a ob p.2 (S₁.stay a ob e (Z0 I p.1))⟩) fun a ob ha e => hs2.extBut a ob (fr a ha).2 (S₁.stay a ob e (Vl I (fr a ha).1))
   have hc : (∃ deep rng n it ifs elt, e = .comp deep rng n it ifs elt) ∨ (∃ n m it1 it2 ifs elt, e = .comp2 n m it1 it2 ifs elt) := Of ok
   rcases hc with ⟨deep, rng, n, it, ifs, elt, rfl⟩ | ⟨n, m2, it1, it2, ifs, elt, rfl⟩
   ·refine Eo ok fun xe' x' px xi xifs scope pos' he h1 h2 h3 h4 h5 h6 => ?_
    refine Ep ev fun items nb outs e1 e2 e3 e4 => ?_
    cases he
    show wpAny _ A (do let _ ← comprehension (.ListComp xe [⟨.Name x' px, xi, xifs, 0⟩] sc ps) sc env _ (newList []) false (eval xi env) (some (assign (.Name x p) env))) _ _ s
    refine wpAny_bind (wpAny_mono (En (use := some (assign (.Name x p) env)) (Q := fun _ s' => ∃ Fo', SInv prog w Γ Φ gs cx owns env A h0 P0 K Fo' (σ.set i (some (d', m'))) s' ∧ Mv cx env P0 K Fo Fo' s s')
     (hall it).1 (hall elt).1 (halls ifs) I.st0 h1 h2 h3 h4 h5 h6 e1 e2 fun D C s' m₁ n1 n2 n3 n4 n5 => fin outs _ D C s' m₁ e3 e4 n1 n2 n3 n4 n5) (fun _ s' hq => wpAny_pure (wpAny_pure ⟨rfl, hq⟩)) fun _ _ e => e)
   ·refine Se ok fun xe' x' px xi y' py yi xifs scope pos' he h1 h2 h3 h4 h5 h6 h7 h8 h9 h10 => ?_
    refine Sh ev fun items outs e1 e2 e3 e4 e5 => ?_
    cases he
    show wpAny _ A (do let _ ← comprehension (.ListComp xe [⟨.Name x' px, xi, [], 0⟩, ⟨.Name y' py, yi, xifs, 0⟩] sc ps) sc env _ (newList []) false (eval xi env) (some (assign (.Name x p) env))) _ _ s
    refine wpAny_bind (wpAny_mono (Sd (use := some (assign (.Name x p) env)) (Q := fun _ s' => ∃ Fo', SInv prog w Γ Φ gs cx owns env A h0 P0 K Fo' (σ.set i (some (d', m'))) s' ∧ Mv cx env P0 K Fo Fo' s s')
     (hall it1).1 (hall it2).1 (hall elt).1 (halls ifs) I.st0 h1 h2 h3 h4 h5 h6 h7 h8 h9 h10 e1 e2 e3 fun D C s' m₁ n1 n2 n3 n4 n5 => fin outs _ D C s' m₁ e4 e5 n1 n2 n3 n4 n5) (fun _ s' hq => wpAny_pure (wpAny_pure ⟨rfl, hq⟩)) fun _ _ e => e)
 ·exact plain (C2 (fun xe gens sc ps q => hy ⟨xe, gens, sc, ps, q⟩) ok)
end
section
variable {gs : Str → Option Str} {cx : Cx} {owns : List Nat} {i j m : Nat} {e k k2 k3 : Ex} {a c r : StL} {stmts : List Stmt} {b : Bool}
theorem okB_set (ok : okB gs cx owns (.set i m e r) stmts = true) : ∃ x p v pos ss, stmts = .Assign [.Name x p] v pos :: ss := by
 refine Qo (o := hdv stmts) ok fun _ h1 ok => ?_
 refine Qo ok fun _ h2 ok => ?_
 refine Qo ok fun _ h3 ok => ?_
 refine Qo ok fun _ h4 ok => ?_
 exact ⟨_, _, _, _, _, by rw [To h1, V3 h2, Ry h3, Wd h4]⟩
theorem okB_tup (ok : okB gs cx owns (.tup i j e r) stmts = true) : ∃ x p1 y p2 kk tp f as ks cp pos ss, stmts = .Assign [.Tuple [.Name x p1, .Name y p2] kk tp] (.Call f as ks cp) pos :: ss := by
 refine Qo (o := hdv stmts) ok fun _ h1 ok => ?_
 refine Qo ok fun _ h2 ok => ?_
 refine Qo ok fun _ h3 ok => ?_
 refine Qo ok fun _ h4 ok => ?_
 refine Qo ok fun _ h5 ok => ?_
 refine Qo ok fun _ h6 ok => ?_
 refine Qo ok fun _ h7 ok => ?_
 obtain ⟨_, hz⟩ := Option.isSome_iff_exists.mp (Bool.and_eq_true_iff.mp ok).1
 exact ⟨_, _, _, _, _, _, _, _, _, _, _, _, by rw [To h1, V3 h2, Ry h3, G9 h4, D4 h5, Wd h6, Wd h7, Ut hz]⟩
theorem okB_app (ok : okB gs cx owns (.app i e r) stmts = true) : ∃ x p mm apos v pos q ss, stmts = .Expr (.Call (.Attribute (.Name x p) mm apos) [v] [] pos) q :: ss := by
 refine Qo (o := hdv stmts) ok fun _ h1 ok => ?_
 refine Qo ok fun _ h2 ok => ?_
 refine Qo ok fun _ h3 ok => ?_
 refine Qo ok fun _ h4 ok => ?_
 refine Qo ok fun _ h5 ok => ?_
 refine Qo ok fun _ h6 ok => ?_
 exact ⟨_, _, _, _, _, _, _, _, by rw [To h1, Oy h2, Ut h3, L9 h4, Wd h5, Ry h6, T8 (Bool.and_eq_true_iff.mp ok).1]⟩
theorem Ae (ok : okB gs cx owns (.setKey i k e r) stmts = true) : ∃ x p kx q v pos ss, stmts = .Assign [.Subscript (.Name x p) kx q] v pos :: ss := by
 refine Qo (o := hdv stmts) ok fun _ h1 ok => ?_
 refine Qo ok fun _ h2 ok => ?_
 refine Qo ok fun _ h3 ok => ?_
 refine Qo ok fun _ h4 ok => ?_
 refine Qo ok fun _ h5 ok => ?_
 exact ⟨_, _, _, _, _, _, _, by rw [To h1, V3 h2, Ry h3, Ye h4, Wd h5]⟩
theorem Cl (ok : okB gs cx owns (.setPath i k k2 k3 b r) stmts = true) : ∃ x p x1 q1 x2 q2 x3 q3 b' kc pc pos ss, stmts = .Assign [.Subscript (.Subscript (.Subscript (.Name x p) x1 q1) x2 q2) x3 q3] (.Constant (.bool b') kc pc) pos :: ss := by
 refine Qo (o := hdv stmts) ok fun _ h1 ok => ?_
 refine Qo ok fun _ h2 ok => ?_
 refine Qo ok fun _ h3 ok => ?_
 refine Qo ok fun _ h4 ok => ?_
 refine Qo ok fun _ h5 ok => ?_
 refine Qo ok fun _ h6 ok => ?_
 refine Qo ok fun _ h7 ok => ?_
 refine Qo ok fun _ h8 ok => ?_
 refine Qo ok fun _ h9 ok => ?_
 exact ⟨_, _, _, _, _, _, _, _, _, _, _, _, _, by rw [To h1, V3 h2, Ry h3, Ye h4, Ye h5, Ye h6, Wd h7, Us h8, Bs h9]⟩
theorem okB_ifs (ok : okB gs cx owns (.ifs e a c r) stmts = true) : ∃ t sa sb pos ss, stmts = .If t sa sb pos :: ss := by
 refine Qo (o := hdv stmts) ok fun _ h1 ok => ?_
 refine Qo ok fun _ h2 ok => ?_
 exact ⟨_, _, _, _, _, by rw [To h1, vIf_inv h2]⟩
theorem Io (ok : okB gs cx owns (.for1 true i e a r) stmts = true) : ∃ x p g q z q2 sb pos ss, stmts = .For (.Name x p) (.Call (.Name g q) [z] [] q2) sb [] pos :: ss := by
 refine Qo (o := hdv stmts) ok fun _ h1 ok => ?_
 refine Qo ok fun _ h2 ok => ?_
 refine Qo ok fun _ h3 ok => ?_
 refine Qo ok fun _ h4 ok => ?_
 exact ⟨_, _, _, _, _, _, _, _, _, by rw [To h1, Gb h2, Wd h3, U3 h4, T8 (Bool.and_eq_true_iff.mp ok).1]⟩
theorem Ip (ok : okB gs cx owns (.for1 false i e a r) stmts = true) : ∃ x p z sb pos ss, stmts = .For (.Name x p) z sb [] pos :: ss := by
 refine Qo (o := hdv stmts) ok fun _ h1 ok => ?_
 refine Qo ok fun _ h2 ok => ?_
 refine Qo ok fun _ h3 ok => ?_
 exact ⟨_, _, _, _, _, _, by rw [To h1, Gb h2, Wd h3, T8 (Bool.and_eq_true_iff.mp ok).1]⟩
theorem okB_for2 (ok : okB gs cx owns (.for2 i j e a r) stmts = true) : ∃ x p1 y p2 kk tp z sb pos ss, stmts = .For (.Tuple [.Name x p1, .Name y p2] kk tp) z sb [] pos :: ss := by
 refine Qo (o := hdv stmts) ok fun _ h1 ok => ?_
 refine Qo ok fun _ h2 ok => ?_
 refine Qo ok fun _ h3 ok => ?_
 refine Qo ok fun _ h4 ok => ?_
 refine Qo ok fun _ h5 ok => ?_
 refine Qo ok fun _ h6 ok => ?_
 exact ⟨_, _, _, _, _, _, _, _, _, _, by rw [To h1, Gb h2, G9 h3, D4 h4, Wd h5, Wd h6, T8 (Bool.and_eq_true_iff.mp ok).1]⟩
theorem Il (ok : okB gs cx owns (.while e a r) stmts = true) : ∃ t sb pos ss, stmts = .While t sb [] pos :: ss := by
 refine Qo (o := hdv stmts) ok fun _ h1 ok => ?_
 refine Qo ok fun _ h2 ok => ?_
 exact ⟨_, _, _, _, by rw [To h1, Os h2, T8 (Bool.and_eq_true_iff.mp ok).1]⟩
theorem Iq (ok : okB gs cx owns (.als i j e r) stmts = true) : ∃ x p y p2 kx q pos ss, stmts = .Assign [.Name x p] (.Subscript (.Name y p2) kx q) pos :: ss := by
 refine Qo (o := hdv stmts) ok fun _ h1 ok => ?_
 refine Qo ok fun _ h2 ok => ?_
 refine Qo ok fun _ h3 ok => ?_
 refine Qo ok fun _ h4 ok => ?_
 refine Qo ok fun _ h5 ok => ?_
 refine Qo ok fun _ h6 ok => ?_
 exact ⟨_, _, _, _, _, _, _, _, by rw [To h1, V3 h2, Ry h3, Wd h4, Ye h5, Wd h6]⟩
theorem okB_brk (ok : okB gs cx owns .brk stmts = true) : ∃ pos, stmts = [.Break pos] := by
 refine Qo (o := l1 stmts) ok fun _ h1 ok => ?_
 obtain ⟨_, h2⟩ := Option.isSome_iff_exists.mp ok
 exact ⟨_, by rw [Ry h1, vBrk_inv h2]⟩
theorem okB_ret (ok : okB gs cx owns (.ret e) stmts = true) : ∃ v pos ss, stmts = .Return (some v) pos :: ss := by
 refine Qo (o := hdv stmts) ok fun _ h1 ok => ?_
 refine Qo ok fun _ h2 ok => ?_
 refine Qo ok fun _ h3 ok => ?_
 exact ⟨_, _, _, by rw [To h1, Ny h2, h3]⟩
theorem okB_retV (ok : okB gs cx owns (.retV i) stmts = true) : ∃ x p pos ss, stmts = .Return (some (.Name x p)) pos :: ss := by
 refine Qo (o := hdv stmts) ok fun _ h1 ok => ?_
 refine Qo ok fun _ h2 ok => ?_
 refine Qo ok fun _ h3 ok => ?_
 refine Qo ok fun _ h4 ok => ?_
 exact ⟨_, _, _, _, by rw [To h1, Ny h2, h3, Wd h4]⟩
theorem okB_setC {G : List Stmt → Prop} (ok : okB gs cx owns (.set i m e r) stmts = true) (kont : ∀ x p v pos ss, okB gs cx owns (.set i m e r) (.Assign [.Name x p] v pos :: ss) = true → G (.Assign [.Name x p] v pos :: ss)) : G stmts := by
 obtain ⟨x, p, v, pos, ss, rfl⟩ := okB_set ok
 exact kont _ _ _ _ _ ok
theorem okB_tupC {G : List Stmt → Prop} (ok : okB gs cx owns (.tup i j e r) stmts = true) (kont : ∀ x p1 y p2 kk tp f as ks cp pos ss, okB gs cx owns (.tup i j e r) (.Assign [.Tuple [.Name x p1, .Name y p2] kk tp] (.Call f as ks cp) pos :: ss) = true → G (.Assign [.Tuple [.Name x p1, .Name y p2] kk tp] (.Call f as ks cp) pos :: ss)) : G stmts := by
 obtain ⟨x, p1, y, p2, kk, tp, f, as, ks, cp, pos, ss, rfl⟩ := okB_tup ok
 exact kont _ _ _ _ _ _ _ _ _ _ _ _ ok
theorem okB_appC {G : List Stmt → Prop} (ok : okB gs cx owns (.app i e r) stmts = true) (kont : ∀ x p mm apos v pos q ss, okB gs cx owns (.app i e r) (.Expr (.Call (.Attribute (.Name x p) mm apos) [v] [] pos) q :: ss) = true → G (.Expr (.Call (.Attribute (.Name x p) mm apos) [v] [] pos) q :: ss)) : G stmts := by
 obtain ⟨x, p, mm, apos, v, pos, q, ss, rfl⟩ := okB_app ok
 exact kont _ _ _ _ _ _ _ _ ok
theorem Cm {G : List Stmt → Prop} (ok : okB gs cx owns (.setKey i k e r) stmts = true) (kont : ∀ x p kx q v pos ss, okB gs cx owns (.setKey i k e r) (.Assign [.Subscript (.Name x p) kx q] v pos :: ss) = true → G (.Assign [.Subscript (.Name x p) kx q] v pos :: ss)) : G stmts := by
 obtain ⟨x, p, kx, q, v, pos, ss, rfl⟩ := Ae ok
 exact kont _ _ _ _ _ _ _ ok
theorem Mc {G : List Stmt → Prop} (ok : okB gs cx owns (.setPath i k k2 k3 b r) stmts = true) (kont : ∀ x p x1 q1 x2 q2 x3 q3 b' kc pc pos ss, okB gs cx owns (.setPath i k k2 k3 b r) (.Assign [.Subscript (.Subscript (.Subscript (.Name x p) x1 q1) x2 q2) x3 q3] (.Constant (.bool b') kc pc) pos :: ss) = true → G (.Assign [.Subscript (.Subscript (.Subscript (.Name x p) x1 q1) x2 q2) x3 q3] (.Constant (.bool b') kc pc) pos :: ss)) : G stmts := by
 obtain ⟨x, p, x1, q1, x2, q2, x3, q3, b', kc, pc, pos, ss, rfl⟩ := Cl ok
 exact kont _ _ _ _ _ _ _ _ _ _ _ _ _ ok
theorem okB_ifsC {G : List Stmt → Prop} (ok : okB gs cx owns (.ifs e a c r) stmts = true) (kont : ∀ t sa sb pos ss, okB gs cx owns (.ifs e a c r) (.If t sa sb pos :: ss) = true → G (.If t sa sb pos :: ss)) : G stmts := by
 obtain ⟨t, sa, sb, pos, ss, rfl⟩ := okB_ifs ok
 exact kont _ _ _ _ _ ok
theorem Af {G : List Stmt → Prop} (ok : okB gs cx owns (.for1 true i e a r) stmts = true) (kont : ∀ x p g q z q2 sb pos ss, okB gs cx owns (.for1 true i e a r) (.For (.Name x p) (.Call (.Name g q) [z] [] q2) sb [] pos :: ss) = true → G (.For (.Name x p) (.Call (.Name g q) [z] [] q2) sb [] pos :: ss)) : G stmts := by
 obtain ⟨x, p, g, q, z, q2, sb, pos, ss, rfl⟩ := Io ok
 exact kont _ _ _ _ _ _ _ _ _ ok
theorem Ag {G : List Stmt → Prop} (ok : okB gs cx owns (.for1 false i e a r) stmts = true) (kont : ∀ x p z sb pos ss, okB gs cx owns (.for1 false i e a r) (.For (.Name x p) z sb [] pos :: ss) = true → G (.For (.Name x p) z sb [] pos :: ss)) : G stmts := by
 obtain ⟨x, p, z, sb, pos, ss, rfl⟩ := Ip ok
 exact kont _ _ _ _ _ _ ok
theorem Ad {G : List Stmt → Prop} (ok : okB gs cx owns (.while e a r) stmts = true) (kont : ∀ t sb pos ss, okB gs cx owns (.while e a r) (.While t sb [] pos :: ss) = true → G (.While t sb [] pos :: ss)) : G stmts := by
 obtain ⟨t, sb, pos, ss, rfl⟩ := Il ok
 exact kont _ _ _ _ ok
theorem Ah {G : List Stmt → Prop} (ok : okB gs cx owns (.als i j e r) stmts = true) (kont : ∀ x p y p2 kx q pos ss, okB gs cx owns (.als i j e r) (.Assign [.Name x p] (.Subscript (.Name y p2) kx q) pos :: ss) = true → G (.Assign [.Name x p] (.Subscript (.Name y p2) kx q) pos :: ss)) : G stmts := by
 obtain ⟨x, p, y, p2, kx, q, pos, ss, rfl⟩ := Iq ok
 exact kont _ _ _ _ _ _ _ _ ok
theorem okB_brkC {G : List Stmt → Prop} (ok : okB gs cx owns .brk stmts = true) (kont : ∀ pos, okB gs cx owns .brk ([.Break pos]) = true → G ([.Break pos])) : G stmts := by
 obtain ⟨pos, rfl⟩ := okB_brk ok
 exact kont _ ok
theorem okB_retC {G : List Stmt → Prop} (ok : okB gs cx owns (.ret e) stmts = true) (kont : ∀ v pos ss, okB gs cx owns (.ret e) (.Return (some v) pos :: ss) = true → G (.Return (some v) pos :: ss)) : G stmts := by
 obtain ⟨v, pos, ss, rfl⟩ := okB_ret ok
 exact kont _ _ _ ok
theorem Im {G : List Stmt → Prop} (ok : okB gs cx owns (.retV i) stmts = true) (kont : ∀ x p pos ss, okB gs cx owns (.retV i) (.Return (some (.Name x p)) pos :: ss) = true → G (.Return (some (.Name x p)) pos :: ss)) : G stmts := by
 obtain ⟨x, p, pos, ss, rfl⟩ := okB_retV ok
 exact kont _ _ _ _ ok
end
section
variable {prog : Program} {w : World} {Γ : Gd} {Φ : Fns} {gs : Str → Option Str} {cx : Cx} {owns : List Nat} {env : Env} {P P' P0 P0' K K' : Addr → Prop} {Fo Fo' Fo'' : Nat → List Addr} {σ : Sg} {A : Around} {s s' s'' s₀ s₁ s₂ : Shared} {E : Value → Shared → Prop} {d : PyData} {h h' h'' h0 : Heap} {i j m : Nat} {v : Value} {F : List Addr} {x y : Str} {k : Kd} {out : Out} {f : Flow}
theorem Jo (I : SInv prog w Γ Φ gs cx owns env A h0 P0 K Fo σ s) (hx : cx.stor x i = true) (r : Rp prog w (Shd P0 Fo) s.heap v d) {Q : Unit → Shared → Prop}
  (hQ : ∀ s', SInv prog w Γ Φ gs cx owns env A h0 P0 K (upd Fo i []) (σ.set i (some (d, 0))) s' → Mv cx env P0 K Fo (upd Fo i []) s s' → Q () s') : wpAny (model prog w) A (storeName env x v) Q E s := by
 refine Lb I Kp.refl hx fun h' tk S _ => ?_
 obtain ⟨I', M'⟩ := I.setSh (s' := { s with heap := h', toks := tk }) hx ⟨h', tk, rfl⟩ S (r.move fun a ob p e => ⟨p, S.stay a ob e (Z0 I p)⟩)
 exact hQ _ I' M'
theorem tup_wp {t : Addr} {v1 v2 : Value} {d1 d2 : PyData} {p1 p2 tp : Pos} {kk} (I : SInv prog w Γ Φ gs cx owns env A h0 P0 K Fo σ s) (hx : cx.stor x i = true) (hy : cx.stor y j = true)
  (ht : Vq s.heap t #[v1, v2]) (r1 : Rp prog w (Shd P0 Fo) s.heap v1 d1) (r2 : Rp prog w (Shd P0 Fo) s.heap v2 d2) :
  wpAny (model prog w) A (assign (.Tuple [.Name x p1, .Name y p2] kk tp) env (.ref t)) (fun _ s' => ∃ Fo', SInv prog w Γ Φ gs cx owns env A h0 P0 K Fo' ((σ.set i (some (d1, 0))).set j (some (d2, 0))) s' ∧ Mv cx env P0 K Fo Fo' s s') E s := by
 obtain ⟨n, et⟩ := ht
 refine PyProof.Rows.assign_Tuple_tuple I.room.handled ⟨_, et, rfl, n, rfl⟩ rfl rfl fun h' hext => ?_
 have kp : Kp s { s with heap := h' } := ⟨h', s.toks, rfl, fun b o e => hext b o (Nat.ne_of_lt (Heap.lt_size e)) e⟩
 have I₁ := I.keeps kp
 show wpAny _ _ (do holding [v2] (assign (.Name x p1) env v1); (do holding [] (assign (.Name y p2) env v2); pure ())) _ _ _
 refine wpAny_bind (wpAny_holding (wpAny_assign_Name (Jo I₁ hx (r1.keeps kp.keep) fun s₂ I₂ M₂ => ?_)))
 refine wpAny_bind (wpAny_holding (wpAny_assign_Name (Jo I₂ hy ((r2.keeps kp.keep).move fun a ob p e => (M₂.shd a ob p e).symm) fun s₃ I₃ M₃ => ?_)))
 exact wpAny_pure ⟨_, I₃, (Mv.of_kp kp).trans (M₂.trans M₃)⟩
theorem E6 {d1 d2 : PyData} (r : Rp prog w P h v (.tuple [d1, d2])) : ∃ t v1 v2, v = .ref t ∧ Vq h t #[v1, v2] ∧ Rp prog w P h v1 d1 ∧ Rp prog w P h v2 d2 := by
 apply Ih r; intro t vs _ ht _ q
 cases q with
 | cons a q => cases q with
  | cons b q => cases q with
   | nil => exact ⟨t, _, _, rfl, ht, a, b⟩
theorem sb_nil : SBk prog w Γ Φ gs .nil := by
 intro cx owns env A h0 P0 K Fo σ s stmts out E ok I ev
 cases stmts with
 | nil =>
  simp only [B_nil, OI] at ev
  subst ev
  exact wpAny_execs_nil ⟨rfl, Fo, I, Mv.refl⟩
 | cons => exact absurd (show false = true from ok) Bool.false_ne_true
theorem sb_set (i m : Nat) (e : Ex) {r : StL} (hall : ∀ ex, SE prog w Γ Φ gs ex ∧ SB prog w Γ Φ gs ex) (halls : ∀ es, V1 prog w Γ Φ gs es) (hr : SBk prog w Γ Φ gs r) : SBk prog w Γ Φ gs (.set i m e r) := by
 intro cx owns env A h0 P0 K Fo σ s stmts out E ok I ev
 apply okB_setC ok; intro x p v pos ss ok
 ·simp only [okB2, BA, Bool.or_eq_true, beq_iff_eq] at ok
  dsimp only [B_set] at ev
  refine bnC ev fun q e1 e2 => ?_
  exact Lc hr ok.2 e2 (Ok hall halls ok.1.2 ok.1.1.1 ok.1.1.2 I e1)
theorem sb_tup (i j : Nat) (e : Ex) {r : StL} (hall : ∀ ex, SE prog w Γ Φ gs ex ∧ SB prog w Γ Φ gs ex) (hr : SBk prog w Γ Φ gs r) : SBk prog w Γ Φ gs (.tup i j e r) := by
 intro cx owns env A h0 P0 K Fo σ s stmts out E ok I ev
 apply okB_tupC ok; intro x p1 y p2 kk tp f as ks cp pos ss ok
 ·simp only [okB3, BA, bne_iff_ne] at ok
  refine BC fun nn => ?_
  obtain ⟨⟨⟨⟨o1, o2⟩, o3⟩, o4⟩, o5⟩ := ok
  refine nn ?_; clear nn
  dsimp only [B_tup] at ev
  refine Z2 ev fun d1 d2 e1 e2 => ?_
  refine Z2 e1 fun dd kd e0 e1 => ?_
  obtain ⟨rfl, hsh⟩ := Fx e1
  refine Lc hr o5 e2 (PyProof.Rows.Assign_Tuple (wpAny_mono ((hall e).1 o4 I.st0 e0) (fun v s₁ q => ?_) fun _ _ q => q))
  obtain ⟨k₁, r₁⟩ := q
  refine BC fun nn => ?_
  obtain ⟨t, v1, v2, rfl, ht, r1, r2⟩ := E6 (r₁.share I.st0.new hsh)
  refine nn ?_; clear nn
  exact wpAny_mono (tup_wp (I.keeps k₁) o1 o2 ht r1 r2) (fun _ s' ⟨Fo', I', M'⟩ => ⟨rfl, Fo', I', (Mv.of_kp k₁).trans M'⟩) fun _ _ q => q
theorem sb_ifs (c : Ex) {a b r : StL} (hall : ∀ ex, SE prog w Γ Φ gs ex ∧ SB prog w Γ Φ gs ex) (ha : SBk prog w Γ Φ gs a) (hb : SBk prog w Γ Φ gs b) (hr : SBk prog w Γ Φ gs r) : SBk prog w Γ Φ gs (.ifs c a b r) := by
 intro cx owns env A h0 P0 K Fo σ s stmts out E ok I ev
 apply okB_ifsC ok; intro t sa sb pos ss ok
 ·simp only [okB7, BA] at ok
  refine BC fun nn => ?_
  obtain ⟨⟨⟨o1, o2⟩, o3⟩, o4⟩ := ok
  refine nn ?_; clear nn
  dsimp only [B_ifs] at ev
  refine bnC ev fun bb e1 e2 => ?_
  refine exC (Tp e1) fun kb eb => ?_
  refine wpAny_execs_cons (wpAny_If (wpAny_mono ((hall c).2 o1 I.st0 eb) (fun z s₁ q => ?_) fun _ _ q => q))
  obtain ⟨rfl, k₁⟩ := q
  have I₁ := I.keeps k₁
  have arm : ∀ (u : StL) (su : List Stmt), SBk prog w Γ Φ gs u → okB gs cx owns u su = true → Out.andThen (evB Φ owns u σ) (fun σ' => evB Φ owns r σ') = some out →
    wpAny (model prog w) A (execs su env) (fun f s' => match f with | .next => wpAny (model prog w) A (execs ss env) (Vp prog w Γ Φ gs cx owns env A h0 P0 K Fo s out) E s' | f => Vp prog w Γ Φ gs cx owns env A h0 P0 K Fo s out f s') E s₁ := by
   intro u su hu ou eu
   cases hev : evB Φ owns u σ with
   | none => rw [hev] at eu; exact nj eu
   | some o =>
    rw [hev] at eu
    refine wpAny_mono (hu ou I₁ hev) (fun f s' q => ?_) fun _ _ q => q
    cases o with
    | next σ' =>
     refine BC fun nn => ?_
     obtain ⟨rfl, Fo', I', M'⟩ := q
     refine nn ?_; clear nn
     exact wpAny_mono (hr o4 I' eu) (fun f s'' q => q.trans ((Mv.of_kp k₁).trans M')) fun _ _ q => q
    | brk σ' =>
     simp only [Out.andThen, OI] at eu
     subst eu
     have hf : f = .brk := q.1
     subst hf
     exact q.trans (Mv.of_kp k₁)
    | ret d k =>
     simp only [Out.andThen, OI] at eu
     subst eu
     refine BC fun nn => ?_
     obtain ⟨v, hf, rest⟩ := q
     refine nn ?_; clear nn
     subst hf
     exact Vp.trans (out := .ret d k) (f := .ret v) (Mv.of_kp k₁) ⟨v, rfl, rest⟩
  cases z with
  | true => exact arm a sa ha o2 e2
  | false => exact arm b sb hb o3 e2
theorem sb_share (i : Nat) {r : StL} (hr : SBk prog w Γ Φ gs r) : SBk prog w Γ Φ gs (.share i r) := by
 intro cx owns env A h0 P0 K Fo σ s stmts out E ok I ev
 simp only [okB16, BA] at ok
 dsimp only [B_share] at ev
 split at ev
 ·rename_i d n hσ
  obtain ⟨I', M'⟩ := I.share ok.1 hσ
  exact wpAny_mono (hr ok.2 I' ev) (fun f s'' q => q.trans M') fun _ _ q => q
 ·cases ev
theorem Ig (i : Nat) {r : StL} (hr : SBk prog w Γ Φ gs r) : SBk prog w Γ Φ gs (.forget i r) := by
 intro cx owns env A h0 P0 K Fo σ s stmts out E ok I ev
 simp only [okB17] at ok
 dsimp only [B_forget] at ev
 exact hr ok (I.forget i) ev
theorem Vp.clr (i : Nat) (p : Vp prog w Γ Φ gs cx owns env A h0 P0 K Fo s out f s') : Vp prog w Γ Φ gs cx owns env A h0 P0 K Fo s (Out.clr i out) f s' := by
 cases out with
 | next σ' => exact ⟨p.1, let ⟨Fo', I, M⟩ := p.2; ⟨Fo', I.forget i, M⟩⟩
 | brk σ' => exact ⟨p.1, let ⟨Fo', I, M⟩ := p.2; ⟨Fo', I.forget i, M⟩⟩
 | ret d k => exact p
theorem sb_brk : SBk prog w Γ Φ gs .brk := by
 intro cx owns env A h0 P0 K Fo σ s stmts out E ok I ev
 apply okB_brkC ok; intro pos ok
 ·simp only [B_brk, OI] at ev
  subst ev
  exact wpAny_execs_cons (wpAny_Break ⟨rfl, Fo, I, Mv.refl⟩)
theorem sb_ret (e : Ex) (hall : ∀ ex, SE prog w Γ Φ gs ex ∧ SB prog w Γ Φ gs ex) : SBk prog w Γ Φ gs (.ret e) := by
 intro cx owns env A h0 P0 K Fo σ s stmts out E ok I ev
 apply okB_retC ok; intro v pos ss ok
 ·simp only [okB14] at ok
  dsimp only [B_ret] at ev
  refine Z2 ev fun d k e1 e2 => ?_
  refine wpAny_execs_cons (wpAny_Return_some (wpAny_mono ((hall e).1 ok I.frozen e1) (fun u s₁ q => ?_) fun _ _ q => q))
  obtain ⟨k₁, r₁⟩ := q
  have hkeep : ∀ b o, h0.get? b = some o → s₁.heap.get? b = some o := fun b o e => k₁.keep b o (I.keep b o e)
  have r₀ := r₁.from (h := h0) fun a e => by
   cases q : h0.get? a with
   | none => rfl
   | some o => rw [I.keep a o q] at e; cases e
  refine BC fun nn => ?_
  obtain ⟨h1, t1, rfl, _⟩ := k₁
  refine nn ?_; clear nn
  split at e2
  ·rename_i dd kk heq
   simp only [Prod.mk.injEq] at heq
   obtain ⟨rfl, rfl⟩ := heq
   obtain rfl := Option.some.inj e2
   exact ⟨u, rfl, ⟨h1, t1, rfl⟩, hkeep, r₀⟩
  ·rename_i dd heq
   simp only [Prod.mk.injEq] at heq
   obtain ⟨rfl, rfl⟩ := heq
   obtain rfl := Option.some.inj e2
   refine ⟨u, rfl, ⟨h1, t1, rfl⟩, hkeep, ?_⟩
   obtain ⟨F, o⟩ := r₀
   cases o with
   | sh _ r => exact W4.of_sh r
  ·cases e2
theorem sb_retV (i : Nat) : SBk prog w Γ Φ gs (.retV i) := by
 intro cx owns env A h0 P0 K Fo σ s stmts out E ok I ev
 apply Im ok; intro x p pos ss ok
 ·simp only [okB15, BA] at ok
  dsimp only [B_retV] at ev
  split at ev
  ·rename_i d n hσ
   obtain rfl := Option.some.inj ev
   refine Z1 (I.look x i d n ok.1 hσ) fun v F l o c => ?_
   rw [if_pos ok.2] at c
   refine Dw (We ok.1) fun _ hd1 hd2 => ?_
   refine wpAny_execs_cons (wpAny_Return_some (l.load I.envOk.kind hd1 hd2 ?_))
   refine ⟨v, rfl, ⟨_, _, rfl⟩, I.keep, F, o.move (fun a ob p e => ⟨p.1, e⟩) (fun _ _ _ e => e), ?_, fun a ha => ?_⟩
   ·rw [c]; exact I.nodup i
   ·cases q : h0.get? a with
    | none => rfl
    | some o => exact absurd (I.base a o q) (I.own i a (c ▸ ha)).1
  ·cases ev
end
structure LMv (cx : Cx) (env : Env) (wr : List Addr) (P0 K : Addr → Prop) (Fo Fo' : Nat → List Addr) (s s' : Shared) : Prop where
 same : ∃ h' tk, s' = { s with heap := h', toks := tk }
 kept : ∀ b o, b ∉ wr → K b → s.heap.get? b = some o → s'.heap.get? b = some o
 shd : ∀ b o, b ∉ wr → Shd P0 Fo b → s.heap.get? b = some o → s'.heap.get? b = some o ∧ Shd P0 Fo' b
 names : ∀ y v, (∀ i, cx.stor y i = false) → Tq env s.heap y v → Tq env s'.heap y v
section
variable {prog : Program} {w : World} {Γ : Gd} {Φ : Fns} {gs : Str → Option Str} {cx : Cx} {owns : List Nat} {env : Env} {P P' P0 P0' K K' : Addr → Prop} {Fo Fo' Fo'' : Nat → List Addr} {σ : Sg} {A : Around} {s s' s'' s₀ s₁ s₂ : Shared} {E : Value → Shared → Prop} {d : PyData} {h h' h'' h0 : Heap} {i j m : Nat} {v : Value} {F : List Addr} {x y : Str} {k : Kd} {out : Out} {f : Flow} {wr : List Addr}
theorem LMv.step (a : LMv cx env wr P0 K Fo Fo' s s') (b : Mv cx env (fun a => P0 a ∧ ¬ a ∈ wr) (fun a => K a ∨ a ∈ wr) Fo' Fo'' s' s'') : LMv cx env wr P0 K Fo Fo'' s s'' := by
 refine BC fun nn => ?_
 obtain ⟨h1, t1, rfl⟩ := a.same
 refine nn ?_; clear nn
 refine BC fun nn => ?_
 obtain ⟨h2, t2, rfl⟩ := b.same
 refine nn ?_; clear nn
 refine ⟨⟨h2, t2, rfl⟩, fun b' o q hk e => b.kept b' o (.inl hk) (a.kept b' o q hk e), fun b' o q hp e => ?_, fun y v hy l => b.names y v hy (a.names y v hy l)⟩
 obtain ⟨e1, p1⟩ := a.shd b' o q hp e
 obtain ⟨e2, p2⟩ := b.shd b' o ⟨⟨p1.1, q⟩, p1.2⟩ e1
 exact ⟨e2, p2.1.1, p2.2⟩
theorem LMv.iter (a : LMv cx env wr P0 K Fo Fo' s s') (hs : ∃ h' tk, s'' = { s' with heap := h', toks := tk }) (hf : ∀ a, FrA env a → a ∉ wr) (b : ∀ b o, b ∉ wr → s'.heap.get? b = some o → s''.heap.get? b = some o) : LMv cx env wr P0 K Fo Fo' s s'' := by
 refine BC fun nn => ?_
 obtain ⟨h1, t1, rfl⟩ := a.same
 refine nn ?_; clear nn
 refine BC fun nn => ?_
 obtain ⟨h2, t2, rfl⟩ := hs
 refine nn ?_; clear nn
 exact ⟨⟨h2, t2, rfl⟩, fun b' o q hk e => b b' o q (a.kept b' o q hk e), fun b' o q hp e => ⟨b b' o q (a.shd b' o q hp e).1, (a.shd b' o q hp e).2⟩, fun y v hy l => by
  rcases a.names y v hy l with ⟨a, m, n, e⟩ | ⟨a, c, e, i⟩
  ·exact .inl ⟨a, m, n.at' fun o q => b _ o (hf _ (.inl rfl)) q, e⟩
  ·refine BC fun nn => ?_
   obtain ⟨o, q, r⟩ := i
   refine nn ?_; clear nn
   exact .inr ⟨a, c, e, o, b _ o (hf _ (FrA.cell e)) q, r⟩⟩
theorem LMv.mv (a : LMv cx env wr P0 K Fo Fo' s s') (k : Kp s₀ s) (hw : ∀ b ∈ wr, s₀.heap.get? b = none) : Mv cx env P0 K Fo Fo' s₀ s' := by
 refine BC fun nn => ?_
 obtain ⟨h1, t1, rfl, q⟩ := k
 refine nn ?_; clear nn
 refine BC fun nn => ?_
 obtain ⟨h2, t2, rfl⟩ := a.same
 refine nn ?_; clear nn
 have hn : ∀ b o, s₀.heap.get? b = some o → b ∉ wr := fun b o e hm => by rw [hw b hm] at e; cases e
 exact ⟨⟨h2, t2, rfl⟩, fun b o hk e => a.kept b o (hn b o e) hk (q b o e), fun b o hp e => a.shd b o (hn b o e) hp (q b o e), fun y v hy l => a.names y v hy (l.keeps q)⟩
theorem SInv.iter (I : SInv prog w Γ Φ gs cx owns env A h0 (fun a => P0 a ∧ ¬ a ∈ wr) (fun a => K a ∨ a ∈ wr) Fo σ s) (hn : ∀ b o, h0.get? b = some o → b ∉ wr)
  (b : ∀ b o, b ∉ wr → s.heap.get? b = some o → s'.heap.get? b = some o) (hw : ∀ b ∈ wr, ∃ o, s'.heap.get? b = some o) :
  SInv prog w Γ Φ gs cx owns env A h0 (fun a => P0 a ∧ ¬ a ∈ wr) (fun a => K a ∨ a ∈ wr) Fo σ s' := by
 have hf : ∀ a, FrA env a → a ∉ wr := fun a q hm => (I.frame a q).1 (.inr hm)
 have hd : ∀ a o, s.heap.get? a = some o → ∃ o', s'.heap.get? a = some o' := fun a o e => by
  by_cases q : a ∈ wr
  ·exact hw a q
  ·exact ⟨o, b a o q e⟩
 have hl : ∀ y v, Tq env s.heap y v → Tq env s'.heap y v := fun y v l => by
  rcases l with ⟨a, m, n, e⟩ | ⟨a, c, e, i⟩
  ·exact .inl ⟨a, m, n.at' fun o q => b _ o (hf _ (.inl rfl)) q, e⟩
  ·refine BC fun nn => ?_
   obtain ⟨o, q, r⟩ := i
   refine nn ?_; clear nn
   exact .inr ⟨a, c, e, o, b _ o (hf _ (FrA.cell e)) q, r⟩
 exact { I with
  keep := fun a o e => b a o (hn a o e) (I.keep a o e)
  ns := let ⟨m, q⟩ := I.ns; ⟨m, q.at' fun o e => b _ o (hf _ (.inl rfl)) e⟩
  cell := fun n c e => let ⟨vo, o, q, r⟩ := I.cell n c e; ⟨vo, o, b _ o (hf _ (FrA.cell e)) q, r⟩
  frame := fun a q => let ⟨h1, h2, o, e⟩ := I.frame a q; ⟨h1, h2, hd a o e⟩
  own := fun j a q => let ⟨h1, h2, h3, o, e⟩ := I.own j a q; ⟨h1, h2, h3, hd a o e⟩
  new := fun a e => I.new a (by
   cases q : s.heap.get? a with
   | none => rfl
   | some o => obtain ⟨o', e'⟩ := hd a o q; rw [e] at e'; cases e')
  kdom := fun a q => let ⟨o, e⟩ := I.kdom a q; hd a o e
  look := fun y j d n hy hσ => by
   refine Z1 (I.look y j d n hy hσ) fun v F l o c => ?_
   refine ⟨v, F, hl y v l, o.move (fun a ob p e => ⟨p, b a ob p.1.2 e⟩) (fun a ob hm e => b a ob ?_ e), c⟩
   split at c
   ·subst c
    exact fun q => (I.own j a hm).1 (.inr q)
   ·obtain ⟨o', e'⟩ := c a hm
    exact hn a o' e' }
theorem SInv.done (I : SInv prog w Γ Φ gs cx owns env A h0 (fun a => P0 a ∧ ¬ a ∈ wr) (fun a => K a ∨ a ∈ wr) Fo σ s) (hn : ∀ b o, h0.get? b = some o → b ∉ wr ∧ K b) (hKw : ∀ a, K a → a ∉ wr) (hfp : ∀ a, FrA env a → ¬ P0 a) (hwp : ∀ a ∈ wr, P0 a)
  (b : ∀ b o, b ∉ wr → s.heap.get? b = some o → s'.heap.get? b = some o) :
  SInv prog w Γ Φ gs cx owns env A h0 P0 K Fo σ s' := by
 have hf : ∀ a, FrA env a → a ∉ wr := fun a q hm => (I.frame a q).1 (.inr hm)
 have hl : ∀ y v, Tq env s.heap y v → Tq env s'.heap y v := fun y v l => by
  rcases l with ⟨a, m, n, e⟩ | ⟨a, c, e, i⟩
  ·exact .inl ⟨a, m, n.at' fun o q => b _ o (hf _ (.inl rfl)) q, e⟩
  ·refine BC fun nn => ?_
   obtain ⟨o, q, r⟩ := i
   refine nn ?_; clear nn
   exact .inr ⟨a, c, e, o, b _ o (hf _ (FrA.cell e)) q, r⟩
 exact { I with
  keep := fun a o e => b a o (hn a o e).1 (I.keep a o e)
  base := fun a o e => (hn a o e).2
  ns := let ⟨m, q⟩ := I.ns; ⟨m, q.at' fun o e => b _ o (hf _ (.inl rfl)) e⟩
  cell := fun n c e => let ⟨vo, o, q, r⟩ := I.cell n c e; ⟨vo, o, b _ o (hf _ (FrA.cell e)) q, r⟩
  frame := fun a q => let ⟨h1, h2, o, e⟩ := I.frame a q; ⟨fun k => h1 (.inl k), hfp a q, o, b a o (hf a q) e⟩
  own := fun j a q => let ⟨h1, h2, h3, o, e⟩ := I.own j a q; ⟨fun k => h1 (.inl k), h2, h3.1, o, b a o h3.2 e⟩
  new := fun a e => by
   by_cases hm : a ∈ wr
   ·exact hwp a hm
   ·refine (I.new a ?_).1
    cases q : s.heap.get? a with
    | none => rfl
    | some o => rw [b a o hm q] at e; cases e
  kdom := fun a q => let ⟨o, e⟩ := I.kdom a (.inl q); ⟨o, b a o (hKw a q) e⟩
  look := fun y j d n hy hσ => by
   refine Z1 (I.look y j d n hy hσ) fun v F l o c => ?_
   refine ⟨v, F, hl y v l, o.move (fun a ob p e => ⟨⟨p.1.1, p.2⟩, b a ob p.1.2 e⟩) (fun a ob hm e => b a ob ?_ e), c⟩
   split at c
   ·subst c
    exact fun q => (I.own j a hm).1 (.inr q)
   ·obtain ⟨o', e'⟩ := c a hm
    exact (hn a o' e').1 }
theorem N6 {step : Sg → PyData → Option Out} : ∀ {xs : List PyData} {σ σ' : Sg}, Tu step xs σ ≠ some (.brk σ')
 | [], σ, σ', h => by simp [fo_n] at h
 | x :: r, σ, σ', h => by
  rw [fo_c] at h
  split at h
  ·exact N6 h
  ·cases h
  ·cases h
  ·cases h
theorem for_wp {target : Expr} {sb : List Stmt} {step : Sg → PyData → Option Out} {items : List PyData} {outL : Out} {Ia : Addr} {fp : List Addr} {Pv : Nat → Value → Prop} {St : Nat → Heap → Prop} {h₁ : Heap} {X : Value → Shared → Prop}
  (turn : ∀ {P0 K : Addr → Prop} {Fo : Nat → List Addr} {σ : Sg} {s : Shared} {d : PyData} {v : Value} {out : Out} {E : Value → Shared → Prop}, SInv prog w Γ Φ gs cx owns env A h0 P0 K Fo σ s → Rp prog w (Shd P0 Fo) s.heap v d → step σ d = some out →
   wpAny (model prog w) A (assign target env v) (fun _ s₂ => wpAny (model prog w) A (execs sb env) (fun f s₃ => Vp prog w Γ Φ gs cx owns env A h0 P0 K Fo s out f s₃) E s₂) E s)
  (I : SInv prog w Γ Φ gs cx owns env A h0 P0 K Fo σ s) (src : SrcAt prog w (Shd P0 Fo) A s s₂ true items 0 Ia fp wr Pv St h₁) (ev : Tu step items σ = some outL) :
  codeAny (model prog w) A (.forLoop target (.ref Ia) sb [] env) (fun r s' => match r with | .ok f => Vp prog w Γ Φ gs cx owns env A h0 P0 K Fo s outL f s' | .error e => X e s') s₂ := by
 have I₂ := I.keeps src.kp
 have hwn : ∀ b o, s.heap.get? b = some o → b ∉ wr := fun b o e hm => by rw [src.fresh b hm] at e; cases e
 have h0n : ∀ b o, h0.get? b = some o → b ∉ wr := fun b o e => hwn b o (I.keep b o e)
 have hfw : ∀ a, FrA env a → a ∉ wr := fun a q => let ⟨_, _, o, e⟩ := I.frame a q; hwn a o e
 have how : ∀ i a, a ∈ Fo i → a ∉ wr := fun i a q => let ⟨_, _, _, o, e⟩ := I.own i a q; hwn a o e
 have I₂' : SInv prog w Γ Φ gs cx owns env A h0 (fun a => P0 a ∧ ¬ a ∈ wr) (fun a => K a ∨ a ∈ wr) Fo σ s₂ := by
  refine I₂.inner (fun a => a ∈ wr) (src.there 0 _ src.start) how hfw fun y j d n hy hσ => ?_
  refine Z1 (I.look y j d n hy hσ) fun v F l o c => ?_
  exact ⟨v, F, l.keeps src.kp.keep, o.move (fun a ob p e => ⟨⟨⟨p.1, hwn a ob e⟩, p.2⟩, src.kp.keep a ob e⟩) (fun a ob _ e => src.kp.keep a ob e), c⟩
 have fin : ∀ {Fo' : Nat → List Addr} {σ' : Sg} {s' : Shared}, SInv prog w Γ Φ gs cx owns env A h0 (fun a => P0 a ∧ ¬ a ∈ wr) (fun a => K a ∨ a ∈ wr) Fo' σ' s' → LMv cx env wr P0 K Fo Fo' s₂ s' →
   ∃ Fo', SInv prog w Γ Φ gs cx owns env A h0 P0 K Fo' σ' s' ∧ Mv cx env P0 K Fo Fo' s s' := fun I' M' => ⟨_, I'.outer I.base fun a q => (I.frame a q).2.1, M'.mv src.kp src.fresh⟩
 obtain ⟨J, hJ⟩ : ∃ J : Nat → Shared → Prop, J = fun n s' => ∃ (i : Nat) (Fo' : Nat → List Addr) (σ' : Sg), i ≤ items.length ∧ n = items.length + 1 - i ∧ St i s'.heap ∧ Tu step (items.drop i) σ' = some outL ∧
  SInv prog w Γ Φ gs cx owns env A h0 (fun a => P0 a ∧ ¬ a ∈ wr) (fun a => K a ∨ a ∈ wr) Fo' σ' s' ∧ LMv cx env wr P0 K Fo Fo' s₂ s' := ⟨_, rfl⟩
 refine codeAny_forLoop_any J ?_ (items.length + 1) ?_
 ·intro n s' hqq
  refine BC fun nn => ?_
  rw [hJ] at hqq
  obtain ⟨i, Fo', σ', hi, hn, hst, hev, I', M'⟩ := hqq
  refine nn ?_; clear nn
  by_cases hlt : i < items.length
  ·obtain ⟨d, hd⟩ : ∃ d, items[i]? = some d := ⟨_, List.getElem?_eq_getElem hlt⟩
   have hdrop : items.drop i = d :: items.drop (i + 1) := by
    rw [List.drop_eq_getElem_cons hlt]
    rw [List.getElem?_eq_getElem hlt] at hd
    rw [Option.some.inj hd]
   rw [hdrop, fo_c] at hev
   cases hstep : step σ' d with
   | none => rw [hstep] at hev; exact nj hev
   | some out =>
    rw [hstep] at hev
    refine src.walks.item i _ _ _ hlt hst fun v h4 tk₄ hPv hst₄ hk₄ => ?_
    refine src.owned target v (i + 1) _ _ _ hst₄ ?_
    have I4 : SInv prog w Γ Φ gs cx owns env A h0 (fun a => P0 a ∧ ¬ a ∈ wr) (fun a => K a ∨ a ∈ wr) Fo' σ' { s' with heap := h4, toks := tk₄ } := I'.iter h0n (fun b o hb e => hk₄ b o hb e) (src.there _ _ hst₄)
    have M4 : LMv cx env wr P0 K Fo Fo' s₂ { s' with heap := h4, toks := tk₄ } := M'.iter ⟨_, _, rfl⟩ hfw fun b o hb e => hk₄ b o hb e
    refine exC (src.item i v d hPv hd) fun G og => ?_
    have rv : Rp prog w (Shd (fun a => P0 a ∧ ¬ a ∈ wr) Fo') h4 v d := by
     have r := og.zero.1
     ·refine r.move fun a ob p e => ?_
      have hw1 : a ∉ wr := fun hm => by rw [src.fresh₁ a hm] at e; cases e
      obtain ⟨e', p'⟩ := M4.shd a ob hw1 p (src.base a ob e)
      exact ⟨⟨⟨p'.1, hw1⟩, p'.2⟩, e'⟩
    refine wpAny_mono (turn I4 rv hstep) (fun _ s5 q => wpAny_mono q (fun f s6 q => ?_) fun _ _ q => q) fun _ _ q => q
    cases out with
    | next σ'' =>
     obtain ⟨rfl, Fo'', I6, M6⟩ := q
     refine ⟨items.length + 1 - (i + 1), by rw [hn]; exact Vr hlt, hJ ▸ ⟨i + 1, Fo'', σ'', hlt, rfl, ?_, hev, I6, M4.step M6⟩⟩
     refine src.walks.frame _ _ _ hst₄ fun b hb o e => ?_
     rcases src.fpP rfl b hb with q | ⟨q, o1, q1⟩
     ·exact M6.kept b o (.inr q) e
     ·have hw1 : b ∉ wr := fun hm => by rw [src.fresh₁ b hm] at q1; cases q1
      obtain ⟨e', p'⟩ := M4.shd b o1 hw1 q (src.base b o1 q1)
      exact (M6.shd b o ⟨⟨p'.1, hw1⟩, p'.2⟩ e).1
    | brk σ'' =>
     obtain ⟨rfl, Fo'', I6, M6⟩ := q
     obtain rfl := Option.some.inj hev
     exact ⟨rfl, fin I6 (M4.step M6)⟩
    | ret dd kk =>
     refine BC fun nn => ?_
     obtain ⟨u, rfl, ⟨h6, t6, hs6⟩, hk6, r6⟩ := q
     refine nn ?_; clear nn
     obtain rfl := Option.some.inj hev
     refine ⟨u, rfl, ?_, hk6, ?_⟩
     ·refine BC fun nn => ?_
      obtain ⟨h2, t2, e2, _⟩ := src.kp
      refine nn ?_; clear nn
      refine BC fun nn => ?_
      obtain ⟨h3, t3, e3⟩ := M'.same
      refine nn ?_; clear nn
      exact ⟨h6, t6, by rw [hs6, e3, e2]⟩
     ·refine BC fun nn => ?_
      obtain ⟨F, o, r⟩ := r6
      refine nn ?_; clear nn
      exact ⟨F, o.move (fun a ob p e => ⟨p.1, e⟩) (fun _ _ _ e => e), r⟩
  ·have hin : i = items.length := Nat.le_antisymm hi (Nat.not_lt.mp hlt)
   subst hin
   rw [List.drop_length, fo_n] at hev
   obtain rfl := Option.some.inj hev
   refine src.walks.done _ _ _ hst fun h4 tk₄ hk₄ => ?_
   refine wpAny_execs_nil ⟨rfl, Fo', I'.done (fun b o e => ⟨h0n b o e, I.base b o e⟩) (fun a q => let ⟨o, e⟩ := I.kdom a q; hwn a o e) (fun a q => (I.frame a q).2.1) (fun a q => I.new a (src.fresh a q)) (fun b o hb e => hk₄ b o hb e), (M'.iter ⟨_, _, rfl⟩ hfw fun b o hb e => hk₄ b o hb e).mv src.kp src.fresh⟩
 ·exact hJ ▸ ⟨0, Fo, σ, Nat.zero_le _, rfl, src.start, ev, I₂', ⟨⟨_, _, rfl⟩, fun _ _ _ _ e => e, fun _ _ _ p e => ⟨e, p⟩, fun _ _ _ l => l⟩⟩
theorem Dx {r : StL} {ss : List Stmt} {o : Option Out} {g : Sg → Sg} (hr : SBk prog w Γ Φ gs r) (okr : okB gs cx owns r ss = true) (hg : ∀ {P0 K : Addr → Prop} {Fo : Nat → List Addr} {σ : Sg} {s : Shared}, SInv prog w Γ Φ gs cx owns env A h0 P0 K Fo σ s → SInv prog w Γ Φ gs cx owns env A h0 P0 K Fo (g σ) s)
  (ev : Out.andThen o (fun σ' => evB Φ owns r (g σ')) = some out) : ∃ outL, o = some outL ∧ ((∃ σ', outL = .brk σ') ∨ ∀ f s', Vp prog w Γ Φ gs cx owns env A h0 P0 K Fo s outL f s' →
   (match f with | .next => wpAny (model prog w) A (execs ss env) (Vp prog w Γ Φ gs cx owns env A h0 P0 K Fo s out) E s' | f => Vp prog w Γ Φ gs cx owns env A h0 P0 K Fo s out f s')) := by
 cases o with
 | none => exact nj ev
 | some outL =>
  refine ⟨outL, rfl, ?_⟩
  cases outL with
  | brk σ' => exact .inl ⟨σ', rfl⟩
  | next σ' =>
   refine .inr fun f s' q => ?_
   refine BC fun nn => ?_
   obtain ⟨rfl, Fo', I', M'⟩ := q
   refine nn ?_; clear nn
   exact wpAny_mono (hr okr (hg I') ev) (fun f s'' q => q.trans M') fun _ _ q => q
  | ret d k =>
   refine .inr fun f s' q => ?_
   simp only [Out.andThen, OI] at ev
   subst ev
   refine BC fun nn => ?_
   obtain ⟨v, rfl, rest⟩ := q
   refine nn ?_; clear nn
   exact ⟨v, rfl, rest⟩
theorem sb_for1 (rng : Bool) (i : Nat) (it : Ex) {body r : StL} (hall : ∀ ex, SE prog w Γ Φ gs ex ∧ SB prog w Γ Φ gs ex) (hb : SBk prog w Γ Φ gs body) (hr : SBk prog w Γ Φ gs r) : SBk prog w Γ Φ gs (.for1 rng i it body r) := by
 intro cx owns env A h0 P0 K Fo σ s stmts out E ok I ev
 dsimp only [B_for1] at ev
 refine bnC ev fun xs e1 e2 => ?_
 have shape : ∃ x p z sb pos ss, stmts = .For (.Name x p) z sb [] pos :: ss ∧ cx.stor x i = true ∧ okB gs cx owns body sb = true ∧ okB gs cx owns r ss = true ∧
   (if rng then ∃ g np z' zp, z = .Call (.Name g np) [z'] [] zp ∧ g = ("range" : Str) ∧ cx.glob g = true ∧ okE gs cx it z' = true else okE gs cx it z = true) := by
  cases rng with
  | true =>
   apply Af ok; intro x p g q z q2 sb pos ss ok
   simp only [okB8, BA, beq_iff_eq] at ok
   refine BC fun nn => ?_
   obtain ⟨⟨⟨⟨⟨o1, o2⟩, o3⟩, o4⟩, o5⟩, o6⟩ := ok
   refine nn ?_; clear nn
   exact ⟨x, p, _, sb, pos, ss, rfl, o1, o5, o6, ⟨g, q, z, q2, rfl, o2, o3, o4⟩⟩
  | false =>
   apply Ag ok; intro x p z sb pos ss ok
   simp only [okB9, BA] at ok
   refine BC fun nn => ?_
   obtain ⟨⟨⟨o1, o4⟩, o5⟩, o6⟩ := ok
   refine nn ?_; clear nn
   exact ⟨x, p, _, sb, pos, ss, rfl, o1, o5, o6, o4⟩
 refine BC fun nn => ?_
 obtain ⟨x, p, z, sb, pos, ss, rfl, hx, okb, okr, okz⟩ := shape
 refine nn ?_; clear nn
 refine BC fun nn => ?_
 obtain ⟨outL, eL, aft⟩ := Dx (prog := prog) (w := w) (Γ := Γ) (Φ := Φ) (gs := gs) (A := A) (h0 := h0) (P0 := P0) (K := K) (Fo := Fo) (s := s) (E := E) (g := fun σ => σ.set i none) (env := env) hr okr (fun I => I.forget i) e2
 refine nn ?_; clear nn
 have aft := aft.resolve_left fun ⟨σ', q⟩ => by subst q; exact N6 eL
 have hset : ∀ v, foldedSetIterable z env v = pure v := fun v => by
  cases rng with
  | true => simp only [if_true] at okz; obtain ⟨g, np, z', zp, rfl, _⟩ := okz; rfl
  | false => simp only [BF, if_false] at okz; exact Cn v okz
 refine wpAny_execs_cons (wpAny_For ?_ hset)
 refine Hr (hall it).1 I.st0 okz e1 fun Ia fp wr Pv St h₁ s₂ src => ?_
 refine codeAny_mono (for_wp (X := fun e s' => cameBackBy (model prog w) A env E e s') (fun {P0 K Fo σ s d v out E} I rv hs => ?_) I src eL) (fun r s' q => ?_)
 ·rw [Option.map_eq_some_iff] at hs
  refine BC fun nn => ?_
  obtain ⟨o0, hs, rfl⟩ := hs
  refine nn ?_; clear nn
  refine wpAny_assign_Name (Jo I hx rv fun s₃ I₃ M₃ => ?_)
  exact wpAny_mono (hb okb I₃ hs) (fun f s'' q => (q.trans M₃).clr i) fun _ _ q => q
 ·cases r with
  | ok f => exact aft f s' q
  | error e => exact q
theorem sb_for2 (i j : Nat) (it : Ex) {body r : StL} (hall : ∀ ex, SE prog w Γ Φ gs ex ∧ SB prog w Γ Φ gs ex) (hb : SBk prog w Γ Φ gs body) (hr : SBk prog w Γ Φ gs r) : SBk prog w Γ Φ gs (.for2 i j it body r) := by
 intro cx owns env A h0 P0 K Fo σ s stmts out E ok I ev
 dsimp only [B_for2] at ev
 rw [OE] at ev
 refine BC fun nn => ?_
 obtain ⟨xs, e1, e2⟩ := ev
 refine nn ?_; clear nn
 refine BC fun nn => ?_
 obtain ⟨x, p1, y, p2, kk, tp, z, sb, pos, ss, rfl⟩ := okB_for2 ok
 refine nn ?_; clear nn
 simp only [okB10, BA] at ok
 refine BC fun nn => ?_
 obtain ⟨⟨⟨⟨⟨hx, hy⟩, _⟩, okz⟩, okb⟩, okr⟩ := ok
 refine nn ?_; clear nn
 refine BC fun nn => ?_
 obtain ⟨outL, eL, aft⟩ := Dx (prog := prog) (w := w) (Γ := Γ) (Φ := Φ) (gs := gs) (A := A) (h0 := h0) (P0 := P0) (K := K) (Fo := Fo) (s := s) (E := E) (g := fun σ => (σ.set i none).set j none) (env := env) hr okr (fun I => (I.forget i).forget j) e2
 refine nn ?_; clear nn
 have aft := aft.resolve_left fun ⟨σ', q⟩ => by subst q; exact N6 eL
 refine wpAny_execs_cons (wpAny_For ?_ (fun v => Cn v okz))
 refine Hr (rng := false) (hall it).1 I.st0 okz e1 fun Ia fp wr Pv St h₁ s₂ src => ?_
 refine codeAny_mono (for_wp (X := fun e s' => cameBackBy (model prog w) A env E e s') (fun {P0 K Fo σ s d v out E} I rv hs => ?_) I src eL) (fun r s' q => ?_)
 ·rw [OE] at hs
  refine BC fun nn => ?_
  obtain ⟨⟨d1, d2⟩, t1, hs⟩ := hs
  refine nn ?_; clear nn
  obtain ⟨rfl, _⟩ := Fx t1
  refine BC fun nn => ?_
  obtain ⟨t, v1, v2, rfl, ht, r1, r2⟩ := E6 rv
  refine nn ?_; clear nn
  rw [Option.map_eq_some_iff] at hs
  refine BC fun nn => ?_
  obtain ⟨o0, hs, rfl⟩ := hs
  refine nn ?_; clear nn
  refine wpAny_mono (tup_wp I hx hy ht r1 r2) (fun _ s₃ ⟨Fo₃, I₃, M₃⟩ => ?_) fun _ _ q => q
  exact wpAny_mono (hb okb I₃ hs) (fun f s'' q => ((q.trans M₃).clr i).clr j) fun _ _ q => q
 ·cases r with
  | ok f => exact aft f s' q
  | error e => exact q
theorem Fw {c : Sg → Option Bool} {b : Sg → Option Out} : ∀ {n : Nat} {σ σ' : Sg}, Y1 c b n σ ≠ some (.brk σ')
 | 0, σ, σ', h => by simp [wh_z] at h
 | n + 1, σ, σ', h => by
  rw [wh_s] at h
  split at h
  ·split at h
   ·exact Fw h
   ·cases h
   ·cases h
   ·cases h
  ·cases h
  ·cases h
theorem sb_while (c : Ex) {body r : StL} (hall : ∀ ex, SE prog w Γ Φ gs ex ∧ SB prog w Γ Φ gs ex) (hb : SBk prog w Γ Φ gs body) (hr : SBk prog w Γ Φ gs r) : SBk prog w Γ Φ gs (.while c body r) := by
 intro cx owns env A h0 P0 K Fo σ s stmts out E ok I ev
 dsimp only [B_while] at ev
 apply Ad ok; intro t sb pos ss ok
 simp only [okB11, BA] at ok
 refine BC fun nn => ?_
 obtain ⟨⟨okc, okb⟩, okr⟩ := ok
 refine nn ?_; clear nn
 refine BC fun nn => ?_
 obtain ⟨outL, eL, aft⟩ := Dx (prog := prog) (w := w) (Γ := Γ) (Φ := Φ) (gs := gs) (A := A) (h0 := h0) (P0 := P0) (K := K) (Fo := Fo) (s := s) (E := E) (g := fun σ => σ) (env := env) hr okr (fun I => I) ev
 refine nn ?_; clear nn
 have aft := aft.resolve_left fun ⟨σ', q⟩ => by subst q; exact Fw eL
 refine wpAny_execs_cons (wpAny_While ?_)
 obtain ⟨J, hJ⟩ : ∃ J : Nat → Shared → Prop, J = fun n s' => ∃ (Fo' : Nat → List Addr) (σ' : Sg), Y1 (fun σ => (evE Φ c σ).bind Wm) (fun σ => evB Φ owns body σ) n σ' = some outL ∧ SInv prog w Γ Φ gs cx owns env A h0 P0 K Fo' σ' s' ∧ Mv cx env P0 K Fo Fo' s s' := ⟨_, rfl⟩
 refine codeAny_whileLoop J ?_ Hq (hJ ▸ ⟨Fo, σ, eL, I, Mv.refl⟩)
 intro n s' hqq
 refine BC fun nn => ?_
 rw [hJ] at hqq
 obtain ⟨Fo', σ', hev, I', M'⟩ := hqq
 refine nn ?_; clear nn
 cases n with
 | zero => exact nj hev
 | succ n =>
  rw [wh_s] at hev
  cases hc : (evE Φ c σ').bind Wm with
  | none => rw [hc] at hev; cases hev
  | some bb =>
   rw [hc] at hev
   refine exC (Tp hc) fun kb eb => ?_
   refine wpAny_mono ((hall c).2 okc I'.st0 eb) (fun z s₁ q => ?_) fun _ _ q => q
   obtain ⟨rfl, k₁⟩ := q
   have I₁ := I'.keeps k₁
   have M₁ := M'.trans (Mv.of_kp (P0 := P0) (K := K) (Fo := Fo') k₁)
   cases z with
   | false =>
    obtain rfl := Option.some.inj hev
    exact wpAny_execs_nil (aft .next s₁ ⟨rfl, Fo', I₁, M₁⟩)
   | true =>
    simp only [if_true]
    cases hbody : evB Φ owns body σ' with
    | none => rw [hbody] at hev; cases hev
    | some o =>
     rw [hbody] at hev
     refine wpAny_mono (hb okb I₁ hbody) (fun f s'' q => ?_) fun _ _ q => q
     cases o with
     | next σ'' =>
      obtain ⟨rfl, Fo'', I'', M''⟩ := q
      exact ⟨n, Nat.lt_succ_self _, hJ ▸ ⟨Fo'', σ'', hev, I'', M₁.trans M''⟩⟩
     | brk σ'' =>
      obtain ⟨rfl, Fo'', I'', M''⟩ := q
      obtain rfl := Option.some.inj hev
      exact aft .next s'' ⟨rfl, Fo'', I'', M₁.trans M''⟩
     | ret d k =>
      obtain rfl := Option.some.inj hev
      have q' := Vp.trans M₁ q
      obtain ⟨v, rfl, rest⟩ := q
      exact aft (.ret v) s'' q'
end
section
variable {prog : Program} {w : World} {Γ : Gd} {Φ : Fns} {gs : Str → Option Str} {cx : Cx} {owns : List Nat} {env : Env} {P P' P0 P0' K K' : Addr → Prop} {Fo Fo' Fo'' : Nat → List Addr} {σ : Sg} {A : Around} {s s' s'' s₀ s₁ s₂ : Shared} {E : Value → Shared → Prop} {d : PyData} {h h' h'' h0 : Heap} {i j m : Nat} {v : Value} {F : List Addr} {x y : Str} {k : Kd} {out : Out} {f : Flow} {wr : List Addr} {D : Addr} {tk : Nat}
theorem SInv.mut (I : SInv prog w Γ Φ gs cx owns env A h0 P0 K Fo σ s) (kp : Kp s s₂) (hs : Heap.SameBut D s₂.heap h') (hD : D ∈ Fo i) (hDo : ∃ o, h'.get? D = some o) (hx : cx.held x i = true) (ho : owns.contains i = true) (l : Tq env s.heap x v)
  (ow : Ow prog w (Shd P0 (upd Fo i F)) h' m v d F) (nd : F.Nodup) (hF : ∀ a ∈ F, a ∈ Fo i ∨ s.heap.get? a = none ∧ ∃ o, h'.get? a = some o) :
  ∃ Fo', SInv prog w Γ Φ gs cx owns env A h0 P0 K Fo' (σ.set i (some (d, m))) { s₂ with heap := h', toks := tk } ∧ Mv cx env P0 K Fo Fo' s { s₂ with heap := h', toks := tk } := by
 have hDf := (I.own i D hD).2.1
 have up : ∀ b o, b ≠ D → s.heap.get? b = some o → h'.get? b = some o := fun b o hb e => hs.extBut b o hb (kp.keep b o e)
 have lk : ∀ y v, Tq env s.heap y v → Tq env h' y v := fun y v l => by
  rcases l with ⟨a, m, n, e⟩ | ⟨a, c, e, q⟩
  ·exact .inl ⟨a, m, n.at' fun o q => up _ o (fun q => hDf (q ▸ .inl rfl)) q, e⟩
  ·refine BC fun nn => ?_
   obtain ⟨o, q, r⟩ := q
   refine nn ?_; clear nn
   exact .inr ⟨a, c, e, o, up _ o (fun q => hDf (q ▸ FrA.cell e)) q, r⟩
 refine ⟨upd Fo i F, I.change (s' := { s₂ with heap := h', toks := tk }) ?_ hx (fun b o e _ hb => up b o (fun q => hb (q ▸ hD)) e) (fun b o e => ?_) ?_ (fun n c e => ?_) (fun y v _ l => lk y v l) (lk x v l) (fun y v _ l => lk y v l) ow (.inl ho) nd hF⟩
 ·refine BC fun nn => ?_
  obtain ⟨h1, t1, rfl, _⟩ := kp
  refine nn ?_; clear nn
  exact ⟨h', tk, rfl⟩
 ·by_cases q : b = D
  ·subst q; exact hDo
  ·exact ⟨o, up b o q e⟩
 ·obtain ⟨m, q⟩ := I.ns
  exact ⟨m, q.at' fun o q => up _ o (fun q => hDf (q ▸ .inl rfl)) q⟩
 ·refine BC fun nn => ?_
  obtain ⟨vo, o, q, r⟩ := I.cell n c e
  refine nn ?_; clear nn
  exact ⟨vo, o, up _ o (fun q => hDf (q ▸ FrA.cell e)) q, r⟩
theorem OwKv.snoc {n : Nat} {kvs : List (Str × Value)} {kds : List (PyData × PyData)} {F G : List Addr} {u : Str} (r : OwKv prog w P h n kvs kds F) (hu : Ze u) (o : Ow prog w P h n v d G) : OwKv prog w P h n (kvs ++ [(u, v)]) (kds ++ [(.str u, d)]) (F ++ G) := by
 apply OwKv.ind r
 ·exact List.append_nil G ▸ OwKv.cons (G := []) hu o .nil
 ·intro _ _ _ _ _ _ _ q a _ ih; exact List.append_assoc _ _ G ▸ OwKv.cons q a ih
theorem OwKv.miss {n : Nat} {kvs : List (Str × Value)} {kds : List (PyData × PyData)} {F : List Addr} {u : Str} (r : OwKv prog w P h n kvs kds F) (e : Wf u kds = none) : kvs.any (fun kv => kv.1 = u) = false := by
 revert e; apply OwKv.ind r
 ·exact fun _ => rfl
 ·intro j v vs d ds _ _ _ _ _ ih e
  rw [Ak] at e
  by_cases q : j = u
  ·rw [if_pos q] at e; exact (none_ne e.symm).elim
  ·rw [if_neg q] at e; rw [List.any_cons, ih e, decide_eq_false q]; rfl
theorem OwKv.length {n : Nat} {kvs : List (Str × Value)} {kds : List (PyData × PyData)} {F : List Addr} (r : OwKv prog w P h n kvs kds F) : kvs.length = kds.length := by
 apply OwKv.ind r
 ·rfl
 ·intro _ _ _ _ _ _ _ _ _ _ ih; exact congrArg (· + 1) ih
theorem Shd.upd {a : Addr} (p : Shd P0 Fo a) (e : a ∉ F) : Shd P0 (upd Fo i F) a := ⟨p.1, fun j hm => by
 unfold Mine.upd at hm
 split at hm
 ·exact e hm
 ·exact p.2 j hm⟩
theorem sb_app (i : Nat) (e : Ex) {r : StL} (hall : ∀ ex, SE prog w Γ Φ gs ex ∧ SB prog w Γ Φ gs ex) (hr : SBk prog w Γ Φ gs r) : SBk prog w Γ Φ gs (.app i e r) := by
 intro cx owns env A h0 P0 K Fo σ s stmts out E ok I ev
 apply okB_appC ok; intro x p mm apos v pos q ss ok
 simp only [okB4, BA, beq_iff_eq] at ok
 refine BC fun nn => ?_
 obtain ⟨⟨⟨⟨⟨hx, ho⟩, rfl⟩, hline⟩, oke⟩, okr⟩ := ok
 refine nn ?_; clear nn
 dsimp only [B_app] at ev
 refine bnC ev fun d e1 e2 => ?_
 refine Z2 e1 fun d' k e0 e1 => ?_
 refine bnC e2 fun pz e2 e3 => ?_
 obtain ⟨hsh, rfl⟩ := Tg e1
 generalize hσ : σ[i]? = z at e2
 revert hσ e3; apply appD_C e2; intro ds hlen e3 hσ
 ·skip
  ·skip
   ·skip
    refine Dw (We hx) fun _ hd1 hd2 => ?_
    refine Z1 (I.look x i _ _ hx hσ) fun u F l o c => ?_
    rw [if_pos ho] at c
    revert l c; apply Ow.listC o; intro D vs F g z rr l c
    ·skip
     have hD : D ∈ Fo i := c ▸ List.mem_cons_self
     obtain ⟨rall, rfl⟩ := rr.zero
     refine Lc hr okr e3 (wpAny_Expr_any ?_ (by simp [interactive, I.envOk.kind]))
     have htr := Rv (gs := gs) (cx := cx) (env := env) pos (.cons e .nil) [v] (by simp [Fh, Z5, oke])
     refine wpAny_Call_append (Po rfl) (by rw [htr]; rfl) (by simpa using hline) htr ?_
     refine l.load I.envOk.kind hd1 hd2 ⟨D, vs.toArray, rfl, ?_, ?_⟩
     ·obtain ⟨n, gg⟩ := g
      exact ⟨_, n, gg, rfl, rfl, rfl⟩
     refine Bx ((hall e).1 oke I.st0 e0) fun yv s₂ k₂ r₂ => ?_
     have g2 := g.at fun o e => k₂.keep _ o e
     have lm := Tw
     have hsz : vs.toArray.size ≤ sizeLine := by rw [List.size_toArray, rall.length]; exact Nat.le_trans (by lia) lm
     refine wpAny_list_append_plain (hsz := hsz) g2 fun h8 hl8 hs8 => ⟨rfl, ?_⟩
     have ry := r₂.share I.st0.new hsh
     have hDs : ∀ a, Shd P0 Fo a → a ≠ D := fun a p q => p.2 i (q ▸ hD)
     have epush : vs.toArray.push yv = (vs ++ [yv]).toArray := by simp
     rw [epush] at hl8
     refine I.mut (F := [D]) k₂ hs8 hD (let ⟨n, e⟩ := hl8; ⟨_, e⟩) hx ho l (.list (F := []) hl8 (by simpa using hlen) ?_) (by simp) fun a ha => .inl (by rw [List.mem_singleton.mp ha]; exact hD)
     refine RpAll.ow0 ((rall.move fun a ob p e => ?_).append (.cons (ry.move fun a ob p e => ?_) .nil))
     ·exact ⟨p.upd (by simpa using hDs a p), hs8.extBut a ob (hDs a p) (k₂.keep a ob e)⟩
     ·exact ⟨p.upd (by simpa using hDs a p), hs8.extBut a ob (hDs a p) e⟩
theorem swapsS0 {x : Str} {p q : Pos} {kxe : Expr} {l : Nat} : ∀ v, okK v = true → swapsWith v (some (.Subscript (.Name x p) kxe q)) l env = pure false := by
 intro v
 cases v <;> first | (intro _; rfl) | (intro h; exact absurd h Bool.false_ne_true)
theorem Ie (i : Nat) (kx e : Ex) {r : StL} (hall : ∀ ex, SE prog w Γ Φ gs ex ∧ SB prog w Γ Φ gs ex) (hr : SBk prog w Γ Φ gs r) : SBk prog w Γ Φ gs (.setKey i kx e r) := by
 intro cx owns env A h0 P0 K Fo σ s stmts out E ok I ev
 apply Cm ok; intro x p kxe q v pos ss ok
 simp only [okB5, BA] at ok
 refine BC fun nn => ?_
 obtain ⟨⟨⟨⟨hx, ho⟩, okk⟩, oke⟩, okr⟩ := ok
 refine nn ?_; clear nn
 dsimp only [B_setKey] at ev
 refine Z2 ev fun d k e0 ev => ?_
 refine bnC ev fun key e1 ev => ?_
 refine Z2 e1 fun dk kk ek e1 => ?_
 refine bnC ev fun pz e2 e3 => ?_
 have hdk : dk = .str key := by
  exact Sz e1
 subst hdk
 have hsw : swapsWith v (some (.Subscript (.Name x p) kxe q)) pos.line env = pure false := by
  exact swapsS0 v (X4 oke)
 refine Dw (We hx) fun _ hd1 hd2 => ?_
 refine Lc hr okr e3 (wpAny_Assign_Subscript ?_ hsw)
 refine Bx ((hall e).1 oke I.st0 e0) fun yv s₁ k₁ r₁ => ?_
 have I₁ := I.keeps k₁
 have main : ∀ (n : Nat) (kvs : List (PyData × PyData)), σ[i]? = some (some (.dict kvs, n + 1)) → kvs.length + 1 ≤ lim → pz = (.dict (Xe kvs key d), n + 1) →
   ((n = 0 ∧ k.sh = true) ∨ (Wf key kvs = none ∧ k.least n = true ∧ cov n d = true)) →
   wpAny (model prog w) A (eval (.Name x p) env) (fun ov s₂ => wpAny (model prog w) A (eval kxe env) (fun iv s₃ => wpAny (model prog w) A (setItem ov iv yv) (fun _ s' => Flow.next = .next ∧ ∃ Fo', SInv prog w Γ Φ gs cx owns env A h0 P0 K Fo' (σ.set i (some pz)) s' ∧ Mv cx env P0 K Fo Fo' s s') E s₃) E s₂) E s₁ := by
  intro n kvs hσ hlen hpz hcase
  subst hpz
  refine Z1 (I.look x i _ _ hx hσ) fun u F l o c => ?_
  rw [if_pos ho] at c
  revert l c; apply Ow.dictC o; intro D kvl F hsm g z rr l c
  ·skip
   have hD : D ∈ Fo i := c ▸ List.mem_cons_self
   refine (l.keeps k₁.keep).load I.envOk.kind hd1 hd2 ?_
   refine Bx ((hall kx).1 okk I₁.st0 ek) fun kv s₃ k₂ r₂ => ?_
   apply Zb r₂.rd; intro t okey
   have k₃ := k₁.trans k₂
   have g3 := Ru g fun o e => k₃.keep _ o e
   have lm := Tw
   have hl := rr.length
   refine wpAny_setItem_pairs (hsz := Nat.le_trans (by lia) lm) (strKind_is prog w key t) g3 fun h8 hl8 hs8 => ⟨rfl, ?_⟩
   have hDs : ∀ a, Shd P0 Fo a → a ≠ D := fun a p q => p.2 i (q ▸ hD)
   have hlen' := H4 key d kvs
   have hnd := I.nodup i
   rw [← c] at hnd
   rcases hcase with ⟨rfl, hsh⟩ | ⟨hnone, hleast, hcov⟩
   ·obtain ⟨rall, rfl⟩ := rr.zero
    have ry := (r₁.share I.st0.new hsh).keeps k₂.keep
    refine I.mut (F := [D]) k₃ hs8 hD (Zi hl8) hx ho l (.dict (F := []) hsm hl8 (by lia) ?_) (by simp) fun a ha => .inl (by rw [List.mem_singleton.mp ha]; exact hD)
    refine RpKv.ow0 (RpKv.put (rall.move fun a ob p e => ?_) okey (ry.move fun a ob p e => ?_))
    ·exact ⟨p.upd (by simpa using hDs a p), hs8.extBut a ob (hDs a p) (k₃.keep a ob e)⟩
    ·exact ⟨p.upd (by simpa using hDs a p), hs8.extBut a ob (hDs a p) e⟩
   ·cases k with
    | bor j => simp [Kd.least] at hleast
    | fr j =>
     refine BC fun nn => ?_
     obtain ⟨G0, o0, nd0, fr0⟩ := r₁
     refine nn ?_; clear nn
     refine BC fun nn => ?_
     obtain ⟨G, og, sl⟩ := o0.less (fun a ha => I.st0.new a (fr0 a ha)) (by simpa [Kd.least] using hleast)
     refine nn ?_; clear nn
     have frG : ∀ a ∈ G, s.heap.get? a = none := fun a ha => fr0 a (sl.subset ha)
     have hGD : ∀ a ∈ D :: F, a ∉ G := fun a ha hg => by
      refine BC fun nn => ?_
      obtain ⟨_, _, _, o', e'⟩ := I.own i a (c ▸ ha)
      refine nn ?_; clear nn
      rw [frG a hg] at e'; cases e'
     have hst : stored kvl key yv = kvl ++ [(key, yv)] := by unfold stored; rw [rr.miss hnone]; rfl
     have hpt : Xe kvs key d = kvs ++ [(.str key, d)] := by unfold Xe; rw [hnone]; rfl
     rw [hst] at hl8
     rw [hpt]
     have ex8 : ∀ a o, a ≠ D → s₁.heap.get? a = some o → h8.get? a = some o := fun a o ha e => hs8.extBut a o ha (k₂.keep a o e)
     refine I.mut (F := D :: (F ++ G)) k₃ hs8 hD (Zi hl8) hx ho l (.dict hsm hl8 (by simp; lia) (OwKv.snoc (rr.move (fun a ob p e => ?_) fun a ob ha e => ?_) okey (og.cov hcov fun a ob ha e => ?_))) ?_ fun a ha => ?_
     ·refine ⟨p.upd fun hm => ?_, hs8.extBut a ob (hDs a p) (k₃.keep a ob e)⟩
      rcases List.mem_cons.mp hm with q | q
      ·exact hDs a p q
      ·rcases List.mem_append.mp q with q | q
       ·exact p.2 i (c ▸ List.mem_cons_of_mem _ q)
       ·rw [frG a q] at e; cases e
     ·exact hs8.extBut a ob (fun q => (List.nodup_cons.mp hnd).1 (q ▸ ha)) (k₃.keep a ob e)
     ·exact ex8 a ob (fun q => hGD D List.mem_cons_self (q ▸ ha)) e
     ·rw [← List.cons_append, List.nodup_append]
      exact ⟨hnd, sl.nodup nd0, fun a ha b hb q => hGD a ha (q ▸ hb)⟩
     ·rw [← List.cons_append] at ha
      rcases List.mem_append.mp ha with q | q
      ·exact .inl (c ▸ q)
      ·obtain ⟨o', e'⟩ := og.dom a q
       exact .inr ⟨frG a q, o', ex8 a o' (fun q' => hGD D List.mem_cons_self (q' ▸ q)) e'⟩
 exact I9 (G := fun z p => σ[i]? = z → pz = p → _) e2 (fun kvs n h1 h3 hσ hp => main n kvs hσ h1 hp h3) rfl rfl
end
section
variable {prog : Program} {w : World} {Γ : Gd} {Φ : Fns} {gs : Str → Option Str} {cx : Cx} {owns : List Nat} {env : Env} {P P' P0 P0' K K' : Addr → Prop} {Fo Fo' Fo'' : Nat → List Addr} {σ : Sg} {A : Around} {s s' s'' s₀ s₁ s₂ : Shared} {E : Value → Shared → Prop} {d : PyData} {h h' h'' h0 : Heap} {i j m : Nat} {v : Value} {F : List Addr} {x y : Str} {k : Kd} {out : Out} {f : Flow} {wr : List Addr} {D : Addr} {tk : Nat}
theorem F9 {l : Addr} {items : Array Value} {n : Nat} {z : Int} {t : Tok} {Q : Unit → Shared → Prop} (hl : s.heap.PlainList l items) (hz : z = n) (hfit : n ≤ 1000000) (hn : n < items.size)
  (hQ : ∀ h', h'.PlainList l (items.setIfInBounds n v) → Heap.SameBut l s.heap h' → Q () { s with heap := h' }) :
  wpAny (model prog w) A (setItem (.ref l) (.int z t) v) Q E s := by
 obtain ⟨c, ho⟩ := id hl
 have ti := hl.isList.typeIs
 have h0 : (0 : Int) ≤ z := by lia
 have h63 : z < 2 ^ 63 := by lia
 unfold setItem
 try with_reducible refine wpAny_holding ?_
 first | refine wpAny_bind (wpAny_pure ?_) | skip
 refine wpAny_bind (wpAny_sequenceKey ti (by decide) ?_)
 refine wpAny_bind (wpAny_callSpecial?_slot (name := Str.ofString "__setitem__") ti slot_list_setitem (wpAny_call_entry slot_list_setitem ti entry_list_setitem ?_ (args_list_setitem _ _ _)))
 show wpAny _ _ (Builtin.List.listSubscript? (.int z t) >>= _) _ _ s
 refine wpAny_bind (wpAny_listSubscript_int (fitsIndex_of h0 h63) ?_)
 clear h63 h0
 subst hz
 have hx' : items[n]? = some items[n] := Array.getElem?_eq_getElem hn
 show wpAny _ _ ((seqItemAt l n >>= fun r => pure (r.map (n, ·))) >>= _) _ _ s
 refine wpAny_bind (wpAny_bind (wpAny_seqItemAt ho rfl (wpAny_pure ?_)))
 rw [hx']
 show wpAny _ _ (setSeqItemAt l n v >>= _) _ _ s
 have hm : Obj.mapSeq (·.setIfInBounds n v) { cls := .type "list", data := .seq items c } = { cls := .type "list", data := .seq (items.setIfInBounds n v) c } := by simp [Obj.mapSeq]
 have hfin : (s.heap.update l (Obj.mapSeq (·.setIfInBounds n v))).PlainList l (items.setIfInBounds n v) := ⟨c, by rw [Heap.get?_update_self _ ho (by rw [hm]; rfl), hm]⟩
 refine wpAny_bind (wpAny_setSeqItemAt ho rfl ?_)
 first
  | exact wpAny_bind (wpAny_pure (wpAny_pure ⟨.none, rfl, wpAny_pure (hQ _ hfin (Heap.SameBut.update ..))⟩))
  | exact wpAny_pure ⟨.none, rfl, wpAny_pure (hQ _ hfin (Heap.SameBut.update ..))⟩
theorem app4 (a b c d : List Addr) : a ++ (b ++ c ++ d) = a ++ b ++ c ++ d := by simp only [List.append_assoc]
theorem OwAll.split {n : Nat} {vs : List Value} {ds : List PyData} {F : List Addr} (r : OwAll prog w P h n vs ds F) {i : Nat} (hd : ds[i]? = some d) {GG : Prop}
  (kont : ∀ F1 v G F2, F = F1 ++ G ++ F2 → vs[i]? = some v → Ow prog w P h n v d G →
   (∀ (P' : Addr → Prop) (h' : Heap) (d' : PyData) (G' : List Addr), (∀ a o, P a → h.get? a = some o → P' a ∧ h'.get? a = some o) → (∀ a o, a ∈ F1 ∨ a ∈ F2 → h.get? a = some o → h'.get? a = some o) → Ow prog w P' h' n v d' G' → OwAll prog w P' h' n vs (ds.set i d') (F1 ++ G' ++ F2)) → GG) : GG := by
 revert i; apply OwAll.ind r
 ·intro i hd _; exact nj hd
 ·intro v vs d0 ds Fa Fb a b ih i hd kont
  cases i with
  | zero => exact kont [] v Fa Fb rfl rfl (Option.some.inj hd ▸ a) fun P' h' d' G' hp hF o => OwAll.cons o (b.move hp fun a ob ha e => hF a ob (.inr ha) e)
  | succ i =>
   exact ih hd fun F1 u G F2 e1 e2 e3 e4 => kont (Fa ++ F1) u G F2 (by rw [e1, app4]) e2 e3 fun P' h' d' G' hp hF o =>
    app4 Fa F1 G' F2 ▸ OwAll.cons (a.move hp fun a ob ha e => hF a ob (.inl (List.mem_append_left _ ha)) e) (e4 P' h' d' G' hp (fun a ob ha e => hF a ob (ha.imp (List.mem_append_right _) id) e) o)
theorem K6 {u : Str} {d' : PyData} : ∀ {kds : List (PyData × PyData)}, Wf u kds = none → Uv u d' kds = kds
 | [], _ => rfl
 | (.str j, e) :: r, q => by
  simp only [lo_n, Ak] at q
  split at q
  ·cases q
  ·rename_i hj; simp [sd_n, sd_c, hj, K6 q]
 | (.none, e) :: r, q | (.bool _, e) :: r, q | (.int _, e) :: r, q | (.list _, e) :: r, q | (.tuple _, e) :: r, q | (.dict _, e) :: r, q => congrArg (_ :: ·) (K6 (kds := r) q)
theorem OwKv.none {n : Nat} {kvs : List (Str × Value)} {kds : List (PyData × PyData)} {F : List Addr} {u : Str} (r : OwKv prog w P h n kvs kds F) (e : u ∉ kvs.map (·.1)) : Wf u kds = none := by
 revert e; apply OwKv.ind r
 ·exact fun _ => rfl
 ·intro j v vs d ds _ _ _ _ _ ih e
  rw [Ak, if_neg (fun q : j = u => e (List.mem_cons.mpr (.inl q.symm)))]
  exact ih fun m => e (.tail _ m)
theorem OwKv.split {n : Nat} {vs : List (Str × Value)} {ds : List (PyData × PyData)} {F : List Addr} {u : Str} (r : OwKv prog w P h n vs ds F) (hnd : (vs.map (·.1)).Nodup) (hd : Wf u ds = some d) {GG : Prop}
  (kont : ∀ F1 v G F2, F = F1 ++ G ++ F2 → valueAt vs u = some v → Ow prog w P h n v d G →
   (∀ (P' : Addr → Prop) (h' : Heap) (d' : PyData) (G' : List Addr), (∀ a o, P a → h.get? a = some o → P' a ∧ h'.get? a = some o) → (∀ a o, a ∈ F1 ∨ a ∈ F2 → h.get? a = some o → h'.get? a = some o) → Ow prog w P' h' n v d' G' → OwKv prog w P' h' n vs (Uv u d' ds) (F1 ++ G' ++ F2)) → GG) : GG := by
 revert hnd hd kont; apply OwKv.ind r
 ·intro _ hd _; exact nj hd
 ·intro j v vs d0 ds Fa Fb hk a b ih hnd hd kont
  have hn := List.nodup_cons.mp hnd
  rw [Ak] at hd
  by_cases hx : j = u
  ·subst hx
   rw [if_pos rfl] at hd
   refine kont [] v Fa Fb rfl (by simp [valueAt]) (Option.some.inj hd ▸ a) fun P' h' d' G' hp hF o => ?_
   rw [sd_c, if_pos rfl, K6 (b.none hn.1)]
   exact OwKv.cons hk o (b.move hp fun a ob ha e => hF a ob (.inr ha) e)
  ·rw [if_neg hx] at hd
   have ev : valueAt ((j, v) :: vs) u = valueAt vs u := by simp [valueAt, List.find?_cons, hx]
   refine ih hn.2 hd fun F1 u' G F2 e1 e2 e3 e4 => kont (Fa ++ F1) u' G F2 (by rw [e1, app4]) (ev.trans e2) e3 fun P' h' d' G' hp hF o => ?_
   rw [sd_c, if_neg hx]
   exact app4 Fa F1 G' F2 ▸ OwKv.cons hk (a.move hp fun a ob ha e => hF a ob (.inl (List.mem_append_left _ ha)) e) (e4 P' h' d' G' hp (fun a ob ha e => hF a ob (ha.imp (List.mem_append_right _) id) e) o)
theorem Lw {a : Addr} {kvs : List (Str × Value)} (x : h.DictOf (strKind prog w) a kvs) : (kvs.map (·.1)).Nodup := by
 refine BC fun nn => ?_
 obtain ⟨o, es, ep, ho, r⟩ := x
 refine nn ?_; clear nn
 first | exact r.2.2.1 | exact r.2.1 | exact r.2.2.2 | exact r.2.2.2.1 | exact r.2.2.2.2 | exact r.1
end
section
variable {prog : Program} {w : World} {Γ : Gd} {Φ : Fns} {gs : Str → Option Str} {cx : Cx} {owns : List Nat} {env : Env} {P P' P0 P0' K K' : Addr → Prop} {Fo Fo' Fo'' : Nat → List Addr} {σ : Sg} {A : Around} {s s' s'' s₀ s₁ s₂ : Shared} {E : Value → Shared → Prop} {d : PyData} {h h' h'' h0 : Heap} {i j m : Nat} {v : Value} {F : List Addr} {x y : Str} {k : Kd} {out : Out} {f : Flow} {wr : List Addr} {D : Addr} {tk : Nat}
theorem nd_facts {D L1 L2 : Addr} {F1 F2 F3 F4 : List Addr} (h : (D :: (F1 ++ L1 :: (F3 ++ [L2] ++ F4) ++ F2)).Nodup) : L2 ≠ D ∧ L2 ≠ L1 ∧ L2 ∉ F1 ∧ L2 ∉ F2 ∧ L2 ∉ F3 ∧ L2 ∉ F4 := by
 rw [show D :: (F1 ++ L1 :: (F3 ++ [L2] ++ F4) ++ F2) = (D :: F1 ++ L1 :: F3) ++ L2 :: (F4 ++ F2) by simp] at h
 have h1 := List.nodup_append.mp h
 have n1 : L2 ∉ D :: F1 ++ L1 :: F3 := fun m => h1.2.2 _ m _ (.head _) rfl
 have n2 := (List.nodup_cons.mp h1.2.1).1
 exact ⟨fun e => n1 (e ▸ .head _), fun e => n1 (e ▸ List.mem_append_right _ (.head _)), fun m => n1 (.tail _ (List.mem_append_left _ m)), fun m => n2 (List.mem_append_right _ m), fun m => n1 (List.mem_append_right _ (.tail _ m)), fun m => n2 (List.mem_append_left _ m)⟩
theorem RpAll.set_leaf {vs : List Value} {ds : List PyData} (r : RpAll prog w P h vs ds) {n : Nat} (rv : Rp prog w P h v d) : RpAll prog w P h (vs.set n v) (ds.set n d) := by
 revert n; apply RpAll.ind r
 ·intro n; exact .nil
 ·intro _ _ _ _ a b ih n
  cases n with
  | zero => exact .cons rv b
  | succ n => exact .cons a ih
theorem A7 (i : Nat) (k1 k2 k3 : Ex) (b : Bool) {r : StL} (hall : ∀ ex, SE prog w Γ Φ gs ex ∧ SB prog w Γ Φ gs ex) (hr : SBk prog w Γ Φ gs r) : SBk prog w Γ Φ gs (.setPath i k1 k2 k3 b r) := by
 intro cx owns env A h0 P0 K Fo σ s stmts out E ok I ev
 apply Mc ok; intro x p x1 q1 x2 q2 x3 q3 b' kc pc pos ss ok
 simp only [okB6, BA, beq_iff_eq] at ok
 refine BC fun nn => ?_
 obtain ⟨⟨⟨⟨⟨⟨hx, ho⟩, rfl⟩, ok1⟩, ok2⟩, ok3⟩, okr⟩ := ok
 refine nn ?_; clear nn
 dsimp only [Op] at ev
 refine bnC ev fun key e1 ev => ?_
 refine bnC ev fun n2 e2 ev => ?_
 refine bnC ev fun n3 e3 ev => ?_
 refine bnC ev fun pz ep ev => ?_
 rw [OE] at e1 e2 e3
 refine BC fun nn => ?_
 obtain ⟨⟨d1, kd1⟩, ee1, e1⟩ := e1
 refine nn ?_; clear nn
 refine BC fun nn => ?_
 obtain ⟨⟨d2, kd2⟩, ee2, e2⟩ := e2
 refine nn ?_; clear nn
 refine BC fun nn => ?_
 obtain ⟨⟨d3, kd3⟩, ee3, e3⟩ := e3
 refine nn ?_; clear nn
 obtain rfl : d1 = .str key := Sz e1
 obtain ⟨h2, hn2⟩ := nat_of e2
 obtain rfl : d2 = .int n2 := h2
 obtain ⟨h3, hn3⟩ := nat_of e3
 obtain rfl : d3 = .int n3 := h3
 generalize hσ : σ[i]? = z at ep
 revert hσ ev; apply A3 ep; intro kvs rows row hrows hrow hj ev hσ
 ·skip
  ·skip
   ·skip
    ·skip
     refine Dw (We hx) fun _ hd1 hd2 => ?_
     refine Z1 (I.look x i _ _ hx hσ) fun u F l o c => ?_
     rw [if_pos ho] at c
     revert l c; apply Ow.dictC o; intro D kvl Fk hsm g z rr l c
     ·skip
      refine rr.split (Lw g) hrows fun F1 vL1 G1 F2 hF hv1 ow1 re1 => ?_
      revert hF hv1 re1; apply Ow.listC ow1; intro L1 vs1 G1 g1 z1 rr1 hF hv1 re1
      ·skip
       refine rr1.split hrow fun F3 vL2 G2 F4 hG1 hv2 ow2 re2 => ?_
       revert hG1 hv2 re2; apply Ow.listC ow2; intro L2 vs2 G2 g2 z2 rr2 hG1 hv2 re2
       ·skip
        obtain ⟨rall, rfl⟩ := rr2.zero
        subst hG1 hF
        have hnd := I.nodup i
        rw [← c] at hnd
        have hL2 : L2 ∈ Fo i := by rw [← c]; simp
        refine Lc hr okr ev (wpAny_Assign_Subscript (wpAny_of_eq (eval_Constant ..) ?_) (by rfl))
        refine PyProof.Rows.Subscript_ (PyProof.Rows.Subscript_ (l.load I.envOk.kind hd1 hd2 ?_))
        refine Bx ((hall k1).1 ok1 I.st0 ee1) fun v1 s₁ kp1 r1 => ?_
        apply Zb r1.rd; intro t1 _
        have gD := Ru g fun o e => kp1.keep _ o e
        refine PyProof.Rows.tail_any gD.typeIs slot_dict_getitem.lookup (wpAny_getItem_of (strKind_is prog w key t1) gD.mapOf hv1 ?_) (Ht _ _ ok1)
        have kp1' := kp1.trans (Kp.tok (s := s₁) (s₁.toks + 1))
        refine Bx ((hall k2).1 ok2 (I.keeps kp1').st0 ee2) fun v2 s₂ kp2 r2 => ?_
        apply Wu r2.rd; intro t2
        have kp2' := kp1'.trans kp2
        have gL1 := g1.at fun o e => kp2'.keep _ o e
        refine PyProof.Rows.tail_any gL1.isList.typeIs slot_list_getitem.lookup (wpAny_getItem_list gL1.isList (Int.natCast_nonneg _) (by omega) (by simpa using hv2) ?_) (Ht _ _ ok2)
        refine Bx ((hall k3).1 ok3 (I.keeps kp2').st0 ee3) fun v3 s₃ kp3 r3 => ?_
        apply Wu r3.rd; intro t3
        have kp3' := kp2'.trans kp3
        have gL2 := g2.at fun o e => kp3'.keep _ o e
        have hlen := rall.length
        refine F9 gL2 rfl hn3 (by simpa [hlen] using hj) fun h8 hl8 hs8 => ⟨rfl, ?_⟩
        have hDs : ∀ a, Shd P0 Fo a → a ≠ L2 ∧ a ∉ D :: (F1 ++ L1 :: (F3 ++ [L2] ++ F4) ++ F2) := fun a p => ⟨fun q => p.2 i (q ▸ hL2), fun q => p.2 i (c ▸ q)⟩
        have hp : ∀ a ob, Shd P0 Fo a → s.heap.get? a = some ob → Shd P0 (upd Fo i (D :: (F1 ++ L1 :: (F3 ++ [L2] ++ F4) ++ F2))) a ∧ h8.get? a = some ob := fun a ob p e =>
         ⟨p.upd (hDs a p).2, hs8.extBut a ob (hDs a p).1 (kp3'.keep a ob e)⟩
        have hset : vs2.toArray.setIfInBounds n3 (.bool b) = (vs2.set n3 (.bool b)).toArray := by simp
        rw [hset] at hl8
        have up : ∀ a ob, a ≠ L2 → s.heap.get? a = some ob → h8.get? a = some ob := fun a ob ha e => hs8.extBut a ob ha (kp3'.keep a ob e)
        have nL2 := nd_facts hnd
        have dom2 : ∃ o, h8.get? L2 = some o := let ⟨n, e⟩ := hl8; ⟨_, e⟩
        have ow2' : Ow prog w (Shd P0 (upd Fo i (D :: (F1 ++ L1 :: (F3 ++ [L2] ++ F4) ++ F2)))) h8 1 (.ref L2) (.list (row.set n3 (.bool b))) [L2] := by
         refine .list (F := []) hl8 (by simpa using z2) (RpAll.ow0 ?_)
         exact (rall.move hp).set_leaf (.bool b)
        have ow1' := Ow.list (h := h8) (g1.at fun o e => up _ o (Ne.symm nL2.2.1) e) (by simpa using z1) (re2 _ h8 _ [L2] hp (fun a ob ha e => up a ob (fun q => by subst q; rcases ha with q | q; exact nL2.2.2.2.2.1 q; exact nL2.2.2.2.2.2 q) e) ow2')
        have hlen' : (Uv key (.list (rows.set n2 (.list (row.set n3 (.bool b))))) kvs).length ≤ lim := by rw [U5]; exact z
        have ow0' := Ow.dict (h := h8) hsm (Ru g fun o e => up _ o (Ne.symm nL2.1) e) hlen' (re1 _ h8 _ _ hp (fun a ob ha e => up a ob (fun q => by subst q; rcases ha with q | q; exact nL2.2.2.1 q; exact nL2.2.2.2.1 q) e) ow1')
        refine I.mut kp3' hs8 hL2 dom2 hx ho l ow0' (by have := I.nodup i; rw [← c] at this; exact this) fun a ha => .inl (c ▸ ha)
end
section
variable {prog : Program} {w : World} {Γ : Gd} {Φ : Fns} {gs : Str → Option Str} {cx : Cx} {owns : List Nat} {env : Env} {P P' P0 P0' K K' : Addr → Prop} {Fo Fo' Fo'' : Nat → List Addr} {σ : Sg} {A : Around} {s s' s'' s₀ s₁ s₂ : Shared} {E : Value → Shared → Prop} {d : PyData} {h h' h'' h0 : Heap} {i j m : Nat} {v : Value} {F : List Addr} {x y : Str} {k : Kd} {out : Out} {f : Flow} {wr : List Addr} {D : Addr} {tk : Nat}
theorem Tq.agree {v v' : Value} (a : Tq env h x v) (b : Tq env h x v') : v = v' := by
 rcases a with ⟨a1, m, n, e⟩ | ⟨a1, c, e, o, q, r⟩ <;> rcases b with ⟨b1, m', n', e'⟩ | ⟨b1, c', e', o', q', r'⟩
 ·have := n.agree n' x
  rw [e, e'] at this
  exact Option.some.inj this
 ·rcases b1 with b1 | b1 <;> rw [a1] at b1 <;> cases b1
 ·rcases a1 with b1' | b1' <;> rw [b1] at b1' <;> cases b1'
 ·rw [e] at e'
  obtain rfl := Option.some.inj e'
  rw [q] at q'
  obtain rfl := Option.some.inj q'
  rw [r] at r'
  cases r'; rfl
theorem Gj {z : Str} {n : Nat} (hz : (cx.fix x y).stor z n = true) : cx.stor z n = true ∧ z ≠ x ∧ z ≠ y := by
 unfold Cx.stor Cx.fix at hz
 simp only [List.contains_cons, BA, Bool.not_eq_true', Bool.or_eq_false_iff, beq_eq_false_iff_ne, ne_eq] at hz
 unfold Cx.stor
 simp only [BA, Bool.not_eq_true']
 exact ⟨⟨hz.1, hz.2.2.2⟩, hz.2.1, hz.2.2.1⟩
theorem SInv.hole {t : Nat} {GG : List Addr} {H : Addr → Prop} (I : SInv prog w Γ Φ gs cx owns env A h0 P0 K Fo σ s) (hit : i ≠ t) (hH : ∀ a, H a → a ∈ Fo t) (hG : ∀ a, a ∈ GG → a ∈ Fo t ∧ ¬ H a) (nd : GG.Nodup) :
  SInv prog w Γ Φ gs cx owns env A h0 (fun a => P0 a ∧ ¬ H a) (fun a => K a ∨ H a) (upd (upd Fo t []) i GG) ((σ.set t none).set i none) s := by
 have sub : ∀ j a, a ∈ upd (upd Fo t []) i GG j → (j = i ∧ a ∈ GG) ∨ (j ≠ i ∧ j ≠ t ∧ a ∈ Fo j) := fun j a hm => by
  unfold upd at hm
  split at hm
  ·exact .inl ⟨by assumption, hm⟩
  ·split at hm
   ·cases hm
   ·exact .inr ⟨by assumption, by assumption, hm⟩
 have notH : ∀ j a, j ≠ t → a ∈ Fo j → ¬ H a := fun j a hj hm q => hj (I.disj j t a hm (hH a q))
 exact { I with
  base := fun b o e => .inl (I.base b o e)
  frame := fun a hf => by
   refine BC fun nn => ?_
   obtain ⟨h1, h2, r⟩ := I.frame a hf
   refine nn ?_; clear nn
   exact ⟨fun q => q.elim h1 fun q => (I.own t a (hH a q)).2.1 hf, fun q => h2 q.1, r⟩
  own := fun j a hm => by
   rcases sub j a hm with ⟨_, hg⟩ | ⟨_, hj, hm⟩
   ·refine BC fun nn => ?_
    obtain ⟨h1, h2, h3, r⟩ := I.own t a (hG a hg).1
    refine nn ?_; clear nn
    exact ⟨fun q => q.elim h1 (hG a hg).2, h2, ⟨h3, (hG a hg).2⟩, r⟩
   ·refine BC fun nn => ?_
    obtain ⟨h1, h2, h3, r⟩ := I.own j a hm
    refine nn ?_; clear nn
    exact ⟨fun q => q.elim h1 (notH j a hj hm), h2, ⟨h3, notH j a hj hm⟩, r⟩
  nodup := fun j => by
   unfold upd
   split
   ·exact nd
   ·split
    ·exact List.nodup_nil
    ·exact I.nodup j
  disj := fun j k a h1 h2 => by
   rcases sub j a h1 with ⟨e1, g1⟩ | ⟨n1, t1, m1⟩ <;> rcases sub k a h2 with ⟨e2, g2⟩ | ⟨n2, t2, m2⟩
   ·rw [e1, e2]
   ·exact absurd (I.disj k t a m2 (hG a g1).1) t2
   ·exact absurd (I.disj j t a m1 (hG a g2).1) t1
   ·exact I.disj j k a m1 m2
  new := fun a e => ⟨I.new a e, fun q => by
   refine BC fun nn => ?_
   obtain ⟨_, _, _, o, e'⟩ := I.own t a (hH a q)
   refine nn ?_; clear nn
   rw [e] at e'; cases e'⟩
  kdom := fun a q => q.elim (I.kdom a) fun q => (I.own t a (hH a q)).2.2.2
  look := fun z j d n hz hσ => by
   by_cases hji : j = i
   ·subst hji; cases Tb hσ
   ·rw [Ra hji] at hσ
    by_cases hjt : j = t
    ·subst hjt; cases Tb hσ
    ·rw [Ra hjt] at hσ
     refine Z1 (I.look z j d n hz hσ) fun v F l o c => ?_
     refine ⟨v, F, l, o.move (fun a ob p e => ⟨⟨⟨p.1, fun q => p.2 t (hH a q)⟩, fun j' hm => ?_⟩, e⟩) (fun _ _ _ e => e), ?_⟩
     rotate_left
     ·rcases sub j' a hm with ⟨_, hg⟩ | ⟨_, _, hm⟩
      ·exact p.2 t (hG a hg).1
      ·exact p.2 j' hm
     ·split
      ·rename_i hown
       rw [if_pos hown] at c
       rw [c]; simp [upd, hji, hjt]
      ·rename_i hown
       rw [if_neg hown] at c
       exact c }
theorem SInv.refix (I : SInv prog w Γ Φ gs cx owns env A h0 P0 K Fo σ s) (x y : Str) : SInv prog w Γ Φ gs (cx.fix x y) owns env A h0 P0 K Fo σ s :=
 ⟨⟨I.envOk.kind, I.envOk.names, I.envOk.globals, I.envOk.builtins, I.envOk.cells⟩, I.room, I.std, I.fnOk, I.apart, I.above, I.inj, I.ground, I.keep, I.base, I.ns, I.cell, I.frame, I.own, I.nodup, I.disj, I.new, I.kdom, I.look⟩
theorem SInv.unfix {x y : Str} (I : SInv prog w Γ Φ gs (cx.fix x y) owns env A h0 P0 K Fo σ s) : SInv prog w Γ Φ gs cx owns env A h0 P0 K Fo σ s :=
 ⟨⟨I.envOk.kind, I.envOk.names, I.envOk.globals, I.envOk.builtins, I.envOk.cells⟩, I.room, I.std, I.fnOk, I.apart, I.above, I.inj, I.ground, I.keep, I.base, I.ns, I.cell, I.frame, I.own, I.nodup, I.disj, I.new, I.kdom, I.look⟩
theorem SInv.unhole {t : Nat} {H : Addr → Prop} {R : List Addr} {v : Value} {d' : PyData} (I : SInv prog w Γ Φ gs cx owns env A h0 (fun a => P0 a ∧ ¬ H a) (fun a => K a ∨ H a) Fo σ s) (hit : i ≠ t) (hi : σ[i]? = some (some (d, m))) (ht : σ[t]? = some none)
  (hb : ∀ b o, h0.get? b = some o → K b) (hf : ∀ a, FrA env a → ¬ P0 a) (hHp : ∀ a, H a → ¬ K a ∧ P0 a) (hoi : owns.contains i = true) (hot : owns.contains t = true) (hyt : cx.held y t = true) (ly : Tq env s.heap y v)
  (hR : ∀ a, a ∈ R → H a ∨ a ∈ Fo i) (ndR : R.Nodup) (ow : Ow prog w (Shd P0 (upd (upd Fo i []) t R)) s.heap 2 v d' R) :
  SInv prog w Γ Φ gs cx owns env A h0 P0 K (upd (upd Fo i []) t R) ((σ.set i none).set t (some (d', 2))) s := by
 have sub : ∀ j a, a ∈ upd (upd Fo i []) t R j → (j = t ∧ a ∈ R) ∨ (j ≠ i ∧ j ≠ t ∧ a ∈ Fo j) := fun j a hm => by
  unfold upd at hm
  split at hm
  ·exact .inl ⟨by assumption, hm⟩
  ·split at hm
   ·cases hm
   ·exact .inr ⟨by assumption, by assumption, hm⟩
 have hRa : ∀ a, a ∈ R → ¬ K a ∧ ¬ FrA env a ∧ P0 a ∧ ∃ o, s.heap.get? a = some o := fun a ha => by
  rcases hR a ha with q | q
  ·refine ⟨(hHp a q).1, fun hfr => (I.frame a hfr).1 (.inr q), (hHp a q).2, I.kdom a (.inr q)⟩
  ·refine BC fun nn => ?_
   obtain ⟨h1, h2, h3, r⟩ := I.own i a q
   refine nn ?_; clear nn
   exact ⟨fun k => h1 (.inl k), h2, h3.1, r⟩
 have hRd : ∀ j a, j ≠ i → a ∈ Fo j → a ∉ R := fun j a hj hm ha => by
  rcases hR a ha with q | q
  ·exact (I.own j a hm).1 (.inr q)
  ·exact hj (I.disj j i a hm q)
 exact { I with
  base := hb
  frame := fun a q => let ⟨h1, _, r⟩ := I.frame a q; ⟨fun k => h1 (.inl k), hf a q, r⟩
  own := fun j a hm => by
   rcases sub j a hm with ⟨_, hr⟩ | ⟨_, _, hm⟩
   ·exact hRa a hr
   ·refine BC fun nn => ?_
    obtain ⟨h1, h2, h3, r⟩ := I.own j a hm
    refine nn ?_; clear nn
    exact ⟨fun k => h1 (.inl k), h2, h3.1, r⟩
  nodup := fun j => by
   unfold upd
   split
   ·exact ndR
   ·split
    ·exact List.nodup_nil
    ·exact I.nodup j
  disj := fun j k a h1 h2 => by
   rcases sub j a h1 with ⟨e1, g1⟩ | ⟨n1, t1, m1⟩ <;> rcases sub k a h2 with ⟨e2, g2⟩ | ⟨n2, t2, m2⟩
   ·rw [e1, e2]
   ·exact absurd g1 (hRd k a n2 m2)
   ·exact absurd g2 (hRd j a n1 m1)
   ·exact I.disj j k a m1 m2
  new := fun a e => (I.new a e).1
  kdom := fun a q => I.kdom a (.inl q)
  look := fun z j d0 n hz hσ => by
   by_cases hjt : j = t
   ·subst hjt
    have := Tb hσ
    simp only [OI, Prod.mk.injEq] at this
    obtain ⟨rfl, rfl⟩ := this
    obtain rfl := I.inj _ _ _ hyt hz
    exact ⟨v, R, ly, ow, by rw [if_pos hot]; simp [upd]⟩
   ·rw [Ra hjt] at hσ
    by_cases hji : j = i
    ·subst hji; cases Tb hσ
    ·rw [Ra hji] at hσ
     refine Z1 (I.look z j d0 n hz hσ) fun v F l o c => ?_
     refine ⟨v, F, l, o.move (fun a ob p e => ⟨⟨p.1.1, fun j' hm => ?_⟩, e⟩) (fun _ _ _ e => e), ?_⟩
     rotate_left
     ·rcases sub j' a hm with ⟨_, hr⟩ | ⟨_, _, hm⟩
      ·rcases hR a hr with q | q
       ·exact p.1.2 q
       ·exact p.2 i q
      ·exact p.2 j' hm
     ·split
      ·rename_i hown
       rw [if_pos hown] at c
       rw [c]; simp [upd, hji, hjt]
      ·rename_i hown
       rw [if_neg hown] at c
       exact c }
theorem alias_nd {D : Addr} {F1 G F2 : List Addr} (h : (D :: (F1 ++ G ++ F2)).Nodup) : G.Nodup ∧ ∀ a ∈ G, ¬ (a = D ∨ a ∈ F1 ∨ a ∈ F2) :=
 have h0 := List.nodup_cons.mp h
 have h1 := List.nodup_append.mp h0.2
 have h2 := List.nodup_append.mp h1.1
 ⟨h2.2.1, fun a ha q => q.elim (fun e => h0.1 (e ▸ List.mem_append_left _ (List.mem_append_right _ ha))) fun q => q.elim (fun m => h2.2.2 a m a ha rfl) fun m => h1.2.2 a (List.mem_append_right _ ha) a m rfl⟩
theorem Ol {D : Addr} {F1 G F2 G' : List Addr} (h : (D :: (F1 ++ G ++ F2)).Nodup) (h' : G'.Nodup) (hd : ∀ a ∈ G', ¬ (a = D ∨ a ∈ F1 ∨ a ∈ F2)) : (D :: (F1 ++ G' ++ F2)).Nodup :=
 have h0 := List.nodup_cons.mp h
 have h1 := List.nodup_append.mp h0.2
 have h2 := List.nodup_append.mp h1.1
 List.nodup_cons.mpr ⟨fun m => (List.mem_append.mp m).elim (fun m => (List.mem_append.mp m).elim (fun m => h0.1 (List.mem_append_left _ (List.mem_append_left _ m))) fun m => hd _ m (.inl rfl)) fun m => h0.1 (List.mem_append_right _ m),
  List.nodup_append.mpr ⟨List.nodup_append.mpr ⟨h2.1, h', fun a m b mb e => hd b mb (.inr (.inl (e ▸ m)))⟩, h1.2.1, fun a m b mb e => (List.mem_append.mp m).elim (fun m => h1.2.2 a (List.mem_append_left _ m) b mb e) fun m => hd a m (.inr (.inr (e ▸ mb)))⟩⟩
theorem sb_alias (i t : Nat) (ke : Ex) {r : StL} (hall : ∀ ex, SE prog w Γ Φ gs ex ∧ SB prog w Γ Φ gs ex) (hr : SBk prog w Γ Φ gs r) : SBk prog w Γ Φ gs (.als i t ke r) := by
 intro cx owns env A h0 P0 K Fo σ s stmts out E ok I ev
 apply Ah ok; intro x p y p2 kx q pos ss ok
 simp only [okB12, BA, bne_iff_ne, ne_eq] at ok
 refine BC fun nn => ?_
 obtain ⟨⟨⟨⟨⟨⟨hx, hoi⟩, hy⟩, hot⟩, hit⟩, okk⟩, okr⟩ := ok
 refine nn ?_; clear nn
 dsimp only [B_alias] at ev
 refine bnC ev fun key e1 ev => ?_
 refine Z2 e1 fun dk kk ek e1 => ?_
 obtain rfl : dk = .str key := Sz e1
 refine bnC ev fun pI ea ev => ?_
 generalize hσ : σ[t]? = z at ea
 revert hσ ev; apply On ea; intro kvs' dI' hlk hlf ev hσ
 dsimp only at ev
 generalize hrest : evB Φ owns r _ = o at ev
 revert hrest; apply alias_C ev; intro σ2 σ3 hout hrest
 apply Pu hout; intro d2 h2i h2t
 ·skip
  ·skip
   ·skip
    ·skip
     refine Dw (We hy) fun _ hd1 hd2 => ?_
     refine Z1 (I.look y t _ _ hy hσ) fun u F l o c => ?_
     rw [if_pos hot] at c
     revert l c; apply Ow.dictC o; intro D kvl Fk hsm g z rr l c
     ·skip
      refine rr.split (Lw g) hlk fun F1 vL GG F2 hF hvL owL re => ?_
      subst hF
      have hnd := I.nodup t
      rw [← c] at hnd
      obtain ⟨ndG, hGH⟩ := alias_nd hnd
      let H : Addr → Prop := fun a => a = D ∨ a ∈ F1 ∨ a ∈ F2
      have hH : ∀ a, H a → a ∈ Fo t := fun a ha => by
       rw [← c]
       rcases ha with rfl | ha | ha
       ·exact List.mem_cons_self
       ·simp [ha]
       ·simp [ha]
      have hG : ∀ a, a ∈ GG → a ∈ Fo t ∧ ¬ H a := fun a ha => ⟨by rw [← c]; simp [ha], hGH a ha⟩
      have IA := I.hole (GG := GG) (H := H) hit hH hG ndG
      refine wpAny_execs_cons (wpAny_Assign_Name (PyProof.Rows.Subscript_ (l.load I.envOk.kind hd1 hd2 ?_)))
      refine Bx ((hall ke).1 okk I.st0 ek) fun v1 s₁ kp1 r1 => ?_
      apply Zb r1.rd; intro t1 _
      have gD := Ru g fun o e => kp1.keep _ o e
      refine PyProof.Rows.tail_any gD.typeIs slot_dict_getitem.lookup (wpAny_getItem_of (strKind_is prog w key t1) gD.mapOf hvL ?_) (Ht _ _ okk)
      have kp1' := kp1.trans (Kp.tok (s := s₁) (s₁.toks + 1))
      refine Lb IA kp1' hx fun h' tk S S₁ => ?_
      have hsame : ∃ h'' tk', ({ { s₁ with toks := s₁.toks + 1 } with heap := h', toks := tk } : Shared) = { s with heap := h'', toks := tk' } := by
       refine BC fun nn => ?_
       obtain ⟨h1, t1, rfl, _⟩ := kp1
       refine nn ?_; clear nn
       exact ⟨h', tk, rfl⟩
      have hmove : ∀ a ob, Shd P0 Fo a → s.heap.get? a = some ob → Shd (fun a => P0 a ∧ ¬ H a) (upd (upd (upd Fo t []) i GG) i GG) a ∧ h'.get? a = some ob := fun a ob p e => by
       refine ⟨⟨⟨p.1, fun q => p.2 t (hH a q)⟩, fun j' hm => ?_⟩, S.stay a ob e (Z0 I p)⟩
       by_cases h1 : j' = i
       ·simp only [upd, h1, if_true] at hm
        exact p.2 t (hG a hm).1
       ·by_cases h2 : j' = t
        ·simp [upd, h1, h2] at hm
         split at hm
         ·exact p.2 t (hG a hm).1
         ·cases hm
        ·simp only [upd, h1, h2, if_false] at hm
         exact p.2 j' hm
      obtain ⟨IB, MB⟩ := IA.change hsame (Un hx).1 (fun b o e hf _ => S.stay b o e hf) S.dom S.ns S.cell S.others S.lk (V6 hx S)
       (owL.move hmove fun a ob ha e => S.stay a ob e (I.own t a (hG a ha).1).2.1) (.inl hoi) ndG (fun a ha => .inl (by simp [upd, ha]))
      rw [List.set_set] at IB
      refine wpAny_mono (hr okr (IB.refix x y) hrest) (fun f s2 q => ?_) fun _ _ q => q
      refine BC fun nn => ?_
      obtain ⟨rfl, Fo2, I2, M2⟩ := q
      refine nn ?_; clear nn
      have hxf : ∀ n, (cx.fix x y).stor x n = false := fun n => by
       cases q : (cx.fix x y).stor x n with
       | false => rfl
       | true => exact absurd rfl (Gj q).2.1
      have hyf : ∀ n, (cx.fix x y).stor y n = false := fun n => by
       cases q : (cx.fix x y).stor y n with
       | false => rfl
       | true => exact absurd rfl (Gj q).2.2
      have hyx : y ≠ x := fun q => by
       subst q
       have h1 := (We (Un hx).1).1
       have h2 := (We hy).1
       rw [h1] at h2
       exact hit (Option.some.inj h2)
      have ly2 := M2.names y _ hyf (S.others y _ hyx l)
      have lx2 := M2.names x _ hxf S.lk
      refine BC fun nn => ?_
      obtain ⟨v2, F', l2, o2, c2⟩ := I2.look x i d2 1 (Un hx).1 h2i
      refine nn ?_; clear nn
      obtain rfl := l2.agree lx2
      rw [if_pos hoi] at c2
      have hF2 : ∀ a ∈ F', ¬ H a := fun a ha hh => (I2.own i a (c2 ▸ ha)).1 (.inr hh)
      have hR : ∀ a, a ∈ D :: (F1 ++ F' ++ F2) → H a ∨ a ∈ Fo2 i := fun a ha => by
       rcases List.mem_cons.mp ha with q | q
       ·exact .inl (.inl q)
       ·rcases List.mem_append.mp q with q | q
        ·rcases List.mem_append.mp q with q | q
         ·exact .inl (.inr (.inl q))
         ·exact .inr (c2 ▸ q)
        ·exact .inl (.inr (.inr q))
      have hHkept : ∀ a ob, H a → s.heap.get? a = some ob → s2.heap.get? a = some ob := fun a ob ha e => M2.kept a ob (.inr ha) (S.stay a ob e (I.own t a (hH a ha)).2.1)
      have hshd : ∀ a, Shd (fun a => P0 a ∧ ¬ H a) Fo2 a → Shd P0 (upd (upd Fo2 i []) t (D :: (F1 ++ F' ++ F2))) a := fun a p => by
       refine ⟨p.1.1, fun j' hm => ?_⟩
       unfold upd at hm
       split at hm
       ·rcases hR a hm with q | q
        ·exact p.1.2 q
        ·exact p.2 i q
       ·split at hm
        ·cases hm
        ·exact p.2 j' hm
      have owT : Ow prog w (Shd P0 (upd (upd Fo2 i []) t (D :: (F1 ++ F' ++ F2)))) s2.heap 2 (.ref D) (.dict (Uv key d2 kvs')) (D :: (F1 ++ F' ++ F2)) := by
       refine .dict hsm (Ru g fun o e => hHkept _ o (.inl rfl) e) (by rw [U5]; exact z) (re _ s2.heap d2 F' (fun a ob p e => ?_) (fun a ob ha e => hHkept a ob (.inr ha) e) (o2.move (fun a ob p e => ⟨hshd a p, e⟩) fun _ _ _ e => e))
       obtain ⟨p', e'⟩ := hmove a ob p e
       obtain ⟨e2, p2⟩ := M2.shd a ob p' e'
       exact ⟨hshd a p2, e2⟩
      have I3 := I2.unfix.unhole hit h2i h2t I.base (fun a q => (I.frame a q).2.1) (fun a ha => ⟨(I.own t a (hH a ha)).1, (I.own t a (hH a ha)).2.2.1⟩) hoi hot hy ly2 hR (Ol hnd (by rw [c2]; exact I2.nodup i) hF2) owT
      refine ⟨rfl, _, I3, ?_⟩
      refine ⟨?_, fun b ob hk e => M2.kept b ob (.inl hk) (MB.kept b ob (.inl hk) e), fun b ob p e => ?_, fun z v hz lz => ?_⟩
      ·refine BC fun nn => ?_
       obtain ⟨h1, t1, e1⟩ := MB.same
       refine nn ?_; clear nn
       refine BC fun nn => ?_
       obtain ⟨h2, t2, e2⟩ := M2.same
       refine nn ?_; clear nn
       exact ⟨h2, t2, by rw [e2, e1]⟩
      ·obtain ⟨p', e'⟩ := hmove b ob p e
       obtain ⟨e2, p2⟩ := M2.shd b ob p' e'
       exact ⟨e2, hshd b p2⟩
      ·refine M2.names z v (fun n => ?_) (MB.names z v hz lz)
       cases q : (cx.fix x y).stor z n with
       | false => rfl
       | true => have := (Gj q).1; rw [hz n] at this; cases this
theorem Ys (hlow : ∀ (h : Heap), GOk Γ h → sysModules < h.objs.size) : ∀ b : StL, SBk prog w Γ Φ gs b
 | .nil => sb_nil
 | .set i m e r => sb_set i m e (Wx hlow) (H3 hlow) (Ys hlow r)
 | .tup i j e r => sb_tup i j e (Wx hlow) (Ys hlow r)
 | .app i e r => sb_app i e (Wx hlow) (Ys hlow r)
 | .setKey i k e r => Ie i k e (Wx hlow) (Ys hlow r)
 | .setPath i k1 k2 k3 b r => A7 i k1 k2 k3 b (Wx hlow) (Ys hlow r)
 | .ifs c a b r => sb_ifs c (Wx hlow) (Ys hlow a) (Ys hlow b) (Ys hlow r)
 | .for1 rng i it body r => sb_for1 rng i it (Wx hlow) (Ys hlow body) (Ys hlow r)
 | .for2 i j it body r => sb_for2 i j it (Wx hlow) (Ys hlow body) (Ys hlow r)
 | .while c body r => sb_while c (Wx hlow) (Ys hlow body) (Ys hlow r)
 | .als i t k r => sb_alias i t k (Wx hlow) (Ys hlow r)
 | .share i r => sb_share i (Ys hlow r)
 | .forget i r => Ig i (Ys hlow r)
 | .brk => sb_brk
 | .ret e => sb_ret e (Wx hlow)
 | .retV i => sb_retV i
end
theorem Jm {α : Type} : ∀ {ps : List Str} {vs : List α} {n : Str} {i : Nat}, ps.Nodup → ps[i]? = some n → (ps.zip vs).lookup n = vs[i]?
 | [], _, _, _, _, h => by simp at h
 | p :: ps, [], n, i, _, h => by simp
 | p :: ps, v :: vs, n, 0, _, h => by simp at h; subst h; simp
 | p :: ps, v :: vs, n, i + 1, nd, h => by
  have hne : (n == p) = false := by
   rw [beq_eq_false_iff_ne]
   rintro rfl
   exact (List.nodup_cons.mp nd).1 (List.mem_of_getElem? (by simpa using h))
  rw [List.zip_cons_cons, List.lookup_cons, hne]
  simpa using Jm (List.nodup_cons.mp nd).2 (by simpa using h)
theorem Fj {α : Type} : ∀ {ps : List Str} {vs : List α}, ps.Nodup → vs.length = ps.length → ps.filterMap (fun n => ((ps.zip vs).lookup n).map (n, ·)) = ps.zip vs := by
 intro ps vs nd hl
 have key : ∀ (k : Nat), (ps.drop k).filterMap (fun n => ((ps.zip vs).lookup n).map (n, ·)) = (ps.drop k).zip (vs.drop k) := by
  intro k
  induction h : ps.length - k generalizing k with
  | zero => rw [List.drop_eq_nil_of_le (by lia)]; simp
  | succ n ih =>
   have hk : k < ps.length := by lia
   have hkv : k < vs.length := by lia
   rw [List.drop_eq_getElem_cons hk, List.drop_eq_getElem_cons hkv, List.zip_cons_cons, ← ih (k + 1) (by lia), List.filterMap_cons]
   rw [Jm nd (List.getElem?_eq_getElem hk), List.getElem?_eq_getElem hkv]
   rfl
 simpa using key 0
theorem Cr {α : Type} {ps : List Str} {vs : List α} (nd : ps.Nodup) (hl : vs.length = ps.length) : (ps.filter fun n => ((ps.zip vs).lookup n).isNone) = [] := by
 rw [List.filter_eq_nil_iff]
 intro n hn
 obtain ⟨i, hi⟩ := List.getElem?_of_mem hn
 rw [Jm nd hi]
 have : i < vs.length := by
  rcases Nat.lt_or_ge i ps.length with q | q
  ·lia
  ·rw [List.getElem?_eq_none q] at hi; cases hi
 rw [List.getElem?_eq_getElem this]
 simp
theorem Pn {name : Str} {p : Arguments} {body : List Stmt} {scope : Scope} {pm cd doc : Value} {vals : List Value} (h1 : p.posonlyargs = []) (h2 : p.kwonlyargs = []) (h3 : p.vararg = none) (h4 : p.kwarg = none)
  (nd : (p.args.map (·.arg)).Nodup) (hl : vals.length = (p.args.map (·.arg)).length) : bindArgs (Calls.docDef name p body scope pm cd doc) ⟨vals, []⟩ = pure ((p.args.map (·.arg)).zip vals) := by
 obtain ⟨po, ar, va, ko, kd, kw, de⟩ := p
 dsimp only at h1 h2 h3 h4 nd hl ⊢
 subst h1 h2 h3 h4
 refine (if_neg ?_).trans ((if_neg ?_).trans ?_)
 ·show ¬ ((decide (vals.length > (ar.map (·.arg)).length) && true) = true)
  rw [Bool.and_true, decide_eq_true_eq]; lia
 ·show ¬ ((!(((ar.map (·.arg)).take ((ar.map (·.arg)).length - (([] : List Value).drop (([] : List Value).length - (ar.map (·.arg)).length)).length)).filter fun n => (((ar.map (·.arg)).zip vals).lookup n).isNone).isEmpty) = true)
  rw [List.drop_nil, List.length_nil, Nat.sub_zero, List.take_length, Cr nd hl]; exact Bool.false_ne_true
 ·dsimp only [Calls.docDef, List.map_nil, List.nil_append, Option.getD_none]
  rw [List.drop_nil, List.zip_nil_right]
  exact congrArg (pure : List (Str × Value) → Sem (List (Str × Value))) ((congrArg (fun l => List.filterMap _ l) (List.append_nil _)).trans (Fj nd hl))
noncomputable def fl : Nat → PyData → Bool
 | 0, _ => true
 | n + 1, .list ds => ds.all (fl n)
 | n + 1, .dict kvs => kvs.all fun p => fl n p.2
 | _ + 1, .tuple _ => false
 | _ + 1, _ => true
structure Fs where
 name : Str
 ids : List (Str × Nat)
 kinds : List Nat
 nv : Nat
 owns : List Nat
 body : StL
noncomputable def start (ns : List Nat) (ds : List PyData) (nv : Nat) : Sg := (ds.zip ns).map some ++ List.replicate (nv - ds.length) none
noncomputable def Ja (Φ : Fns) (F : Fs) (ds : List PyData) : Option (PyData × Nat) :=
 if ds.length = F.kinds.length ∧ (ds.zip F.kinds).all (fun p => fl p.2 p.1) = true then
  match evB Φ F.owns F.body (start F.kinds ds F.nv) with
  | some (.ret d k) => some (d, k)
  | _ => none
 else none
noncomputable def Me : List Nat → Bool
 | [] => true
 | x :: r => !r.contains x && Me r
noncomputable def Md : List Str → Bool
 | [] => true
 | x :: r => !r.contains x && Md r
noncomputable def Ik (gs : Str → Option Str) (fns : List Str) (f : Nat) (F : Fs) (d : DefRec) : Bool :=
 d.name == F.name && fns[f]? == some F.name && d.params.posonlyargs.isEmpty && d.params.kwonlyargs.isEmpty && d.params.vararg.isNone && d.params.kwarg.isNone &&
 Md (d.params.args.map (·.arg)) && d.params.args.length == F.kinds.length &&
 ((d.params.args.map (·.arg)).zipIdx.all fun p => F.ids.lookup p.1 == some p.2 && (d.scope.names.lookup p.1 == some .local || d.scope.names.lookup p.1 == some .cell)) &&
 Me (F.ids.map (·.2)) && d.scope.kind == .function && !d.scope.isGenerator && !d.scope.isCoroutine && d.scope.names.all (fun p => p.2 != .free) && F.owns.all (fun i => decide (F.kinds.length ≤ i)) &&
 okB gs ⟨d.scope.names, F.ids, fns, f, []⟩ F.owns F.body d.body
section
variable {prog : Program} {w : World} {Γ : Gd} {Φ : Fns} {gs : Str → Option Str} {cx : Cx} {owns : List Nat} {env : Env} {P P' P0 P0' K K' : Addr → Prop} {σ : Sg} {A : Around} {s s' s'' s₀ s₁ s₂ : Shared} {E : Value → Shared → Prop} {d : PyData} {h h' h'' h0 : Heap} {i j m : Nat} {v : Value} {F : List Addr} {x y : Str} {k : Kd}
theorem Ka : ∀ {l : List Nat}, Me l = true → l.Nodup
 | [], _ => List.nodup_nil
 | x :: r, h => by
  simp only [Me, BA, Bool.not_eq_true'] at h
  exact List.nodup_cons.mpr ⟨by simpa using h.1, Ka h.2⟩
theorem B7 : ∀ {l : List Str}, Md l = true → l.Nodup
 | [], _ => List.nodup_nil
 | x :: r, h => by
  simp only [Md, BA, Bool.not_eq_true'] at h
  exact List.nodup_cons.mpr ⟨by simpa using h.1, B7 h.2⟩
theorem Ej {n : Nat} {ds : List PyData} (c : fl (n + 1) (.list ds) = true) : ∀ d ∈ ds, fl n d = true := List.all_eq_true.mp c
theorem Ek {n : Nat} {ds : List (PyData × PyData)} (c : fl (n + 1) (.dict ds) = true) : ∀ a b, (a, b) ∈ ds → fl n b = true := fun a b m => List.all_eq_true.mp c (a, b) m
theorem Rp.up {n v d} (c : fl n d = true) (x : Rp prog w P h v d) : ∃ F, Ow prog w P h n v d F :=
 Rp.rec (motive_1 := fun v d _ => ∀ n, fl n d = true → ∃ F, Ow prog w P h n v d F) (motive_2 := fun vs ds _ => ∀ n, (∀ d ∈ ds, fl n d = true) → ∃ F, OwAll prog w P h n vs ds F) (motive_3 := fun vs ds _ => ∀ n, (∀ a b, (a, b) ∈ ds → fl n b = true) → ∃ F, OwKv prog w P h n vs ds F)
  (fun _ _ => ⟨[], .sh (.inr rfl) .none⟩) (fun b _ _ => ⟨[], .sh (.inr rfl) (.bool b)⟩) (fun i t _ _ => ⟨[], .sh (.inr rfl) (.int i t)⟩) (fun x t o _ _ => ⟨[], .sh (.inr rfl) (.str x t o)⟩)
  (fun p g l r ih n c => match n, c with
   | 0, _ => ⟨[], (Rp.list p g l r).ow⟩
   | n + 1, c => let ⟨_, o⟩ := ih n (Ej c); ⟨_, .list g l o⟩)
  (fun p g l r _ n c => match n, c with
   | 0, _ => ⟨[], (Rp.tuple p g l r).ow⟩
   | _ + 1, c => absurd c Bool.false_ne_true)
  (fun p s g l r ih n c => match n, c with
   | 0, _ => ⟨[], (Rp.dict p s g l r).ow⟩
   | n + 1, c => let ⟨_, o⟩ := ih n (Ek c); ⟨_, .dict s g l o⟩)
  (fun _ _ => ⟨_, .nil⟩) (fun _ _ a b n c => let ⟨_, o⟩ := a n (c _ (.head _)); let ⟨_, q⟩ := b n (fun d hd => c d (.tail _ hd)); ⟨_, .cons o q⟩)
  (fun _ _ => ⟨_, .nil⟩) (fun k _ _ a b n c => let ⟨_, o⟩ := a n (c _ _ (.head _)); let ⟨_, q⟩ := b n (fun d e hd => c d e (.tail _ hd)); ⟨_, .cons k o q⟩) x n c
theorem Ow.more {j n v d F} (hj : j ≤ n) (c : fl n d = true) (x : Ow prog w P h j v d F) : ∃ F, Ow prog w P h n v d F :=
 Ow.rec (motive_1 := fun j v d _ _ => ∀ n, j ≤ n → fl n d = true → ∃ F, Ow prog w P h n v d F) (motive_2 := fun j vs ds _ _ => ∀ n, j ≤ n → (∀ d ∈ ds, fl n d = true) → ∃ F, OwAll prog w P h n vs ds F) (motive_3 := fun j vs ds _ _ => ∀ n, j ≤ n → (∀ a b, (a, b) ∈ ds → fl n b = true) → ∃ F, OwKv prog w P h n vs ds F)
  (fun _ r _ _ c => r.up c)
  (fun g l _ ih n hj c => match n, hj, c with
   | _ + 1, hj, c => let ⟨_, o⟩ := ih _ (Nat.le_of_succ_le_succ hj) (Ej c); ⟨_, .list g l o⟩)
  (fun s g l _ ih n hj c => match n, hj, c with
   | _ + 1, hj, c => let ⟨_, o⟩ := ih _ (Nat.le_of_succ_le_succ hj) (Ek c); ⟨_, .dict s g l o⟩)
  (fun _ _ _ => ⟨_, .nil⟩) (fun _ _ a b n hj c => let ⟨_, o⟩ := a n hj (c _ (.head _)); let ⟨_, q⟩ := b n hj (fun d hd => c d (.tail _ hd)); ⟨_, .cons o q⟩)
  (fun _ _ _ => ⟨_, .nil⟩) (fun k _ _ a b n hj c => let ⟨_, o⟩ := a n hj (c _ _ (.head _)); let ⟨_, q⟩ := b n hj (fun d e hd => c d e (.tail _ hd)); ⟨_, .cons k o q⟩) x n hj c
theorem Tz {n : Str} : ∀ {names : List (Str × NameKind)} {k : Nat} {acc : List (Str × Addr)}, ((n, NameKind.cell) ∈ names ∨ ∃ c, acc.lookup n = some c) → ∃ c, (cellsFrom k names acc).lookup n = some c
 | [], k, acc, h => by
  rcases h with h | h
  ·cases h
  ·exact h
 | (m, kd) :: r, k, acc, h => by
  unfold cellsFrom
  have look : ∀ c, acc.lookup n = some c → ∃ c', ((m, k) :: acc).lookup n = some c' := fun c e => by
   rw [List.lookup_cons]
   by_cases q : n = m
   ·subst q; simp
   ·have : (n == m) = false := by simpa using q
    rw [this]; exact ⟨c, e⟩
  split
  ·refine Tz ?_
   rcases h with h | ⟨c, e⟩
   ·rcases List.mem_cons.mp h with q | q
    ·simp only [Prod.mk.injEq] at q
     exact .inr ⟨k, by rw [q.1]; simp⟩
    ·exact .inl q
   ·exact .inr (look c e)
  ·rename_i hk
   refine Tz ?_
   rcases h with h | h
   ·rcases List.mem_cons.mp h with q | q
    ·simp only [Prod.mk.injEq] at q
     rw [← q.2] at hk; simp at hk
    ·exact .inl q
   ·exact .inr h
theorem Hh {kindOf : Str → Option NameKind} {n : Str} : ∀ {binds : List (Str × Value)} {m : Str → Option Value}, n ∉ binds.map (·.1) → bindL kindOf binds m n = m n
 | [], _, _ => rfl
 | (p, v) :: r, m, h => by
  simp only [List.map_cons, List.mem_cons, not_or] at h
  unfold bindL
  rw [Hh h.2]
  split
  ·simp [h.1]
  ·rfl
theorem Hi {kindOf : Str → Option NameKind} {n : Str} : ∀ {binds : List (Str × Value)} {m : Str → Option Value}, n ∉ binds.map (·.1) → bindC kindOf binds m n = m n
 | [], _, _ => rfl
 | (p, v) :: r, m, h => by
  simp only [List.map_cons, List.mem_cons, not_or] at h
  unfold bindC
  rw [Hi h.2]
  split
  ·rfl
  ·simp [h.1]
theorem Sn {kindOf : Str → Option NameKind} {n : Str} {v : Value} (hk : kindOf n = some .local) : ∀ {binds : List (Str × Value)} {m : Str → Option Value}, (binds.map (·.1)).Nodup → (n, v) ∈ binds → bindL kindOf binds m n = some v
 | (p, u) :: r, m, nd, h => by
  simp only [List.map_cons, List.nodup_cons] at nd
  unfold bindL
  rcases List.mem_cons.mp h with q | q
  ·simp only [Prod.mk.injEq] at q
   obtain ⟨rfl, rfl⟩ := q
   rw [Hh nd.1, if_pos hk]; simp
  ·exact Sn hk nd.2 q
theorem So {kindOf : Str → Option NameKind} {n : Str} {v : Value} (hk : ¬ kindOf n = some .local) : ∀ {binds : List (Str × Value)} {m : Str → Option Value}, (binds.map (·.1)).Nodup → (n, v) ∈ binds → bindC kindOf binds m n = some v
 | (p, u) :: r, m, nd, h => by
  simp only [List.map_cons, List.nodup_cons] at nd
  unfold bindC
  rcases List.mem_cons.mp h with q | q
  ·simp only [Prod.mk.injEq] at q
   obtain ⟨rfl, rfl⟩ := q
   rw [Hi nd.1, if_neg hk]; simp
  ·exact So hk nd.2 q
theorem ArgsOk.get {ns : List Nat} {vals : List Value} {ds : List PyData} (a : ArgsOk prog w P h ns vals ds) : vals.length = ns.length ∧ ds.length = ns.length ∧
  ∀ (i : Nat) (d : PyData) (n : Nat), ds[i]? = some d → ns[i]? = some n → ∃ v, vals[i]? = some v ∧ ∃ j F, j ≤ n ∧ Ow prog w P h j v d F := by
 induction a with
 | nil => exact ⟨rfl, rfl, fun i d n h => by simp at h⟩
 | cons x _ ih =>
  obtain ⟨h1, h2, h3⟩ := ih
  refine ⟨by simp [h1], by simp [h2], fun i d n hd hn => ?_⟩
  cases i with
  | zero => simp at hd hn; subst hd hn; exact ⟨_, rfl, x⟩
  | succ i => simpa using h3 i d n (by simpa using hd) (by simpa using hn)
theorem Eh {l : List (Str × Nat)} (nd : (l.map (·.2)).Nodup) {x y : Str} {i : Nat} (e1 : (x, i) ∈ l) (e2 : (y, i) ∈ l) : x = y := by
 induction l with
 | nil => cases e1
 | cons p l ih =>
  simp only [List.map_cons, List.nodup_cons] at nd
  rcases List.mem_cons.mp e1 with q1 | q1 <;> rcases List.mem_cons.mp e2 with q2 | q2
  ·rw [← q1] at q2; cases q2; rfl
  ·exact absurd (List.mem_map.mpr ⟨_, q2, by rw [← q1]⟩) nd.1
  ·exact absurd (List.mem_map.mpr ⟨_, q1, by rw [← q2]⟩) nd.1
  ·exact ih nd.2 q1 q2
theorem fn_ok {Φ' : Fns} {fns : List Str} {f : Nat} {F : Fs} {r : DefRec} (hlow : ∀ (h : Heap), GOk Γ h → sysModules < h.objs.size) (hstd : Std' Γ Φ fns gs) (hfn : ∀ g, g < f → Oo prog w Γ Φ fns g)
  (hsem : ∀ ds, Φ'.sem f ds = Ja Φ F ds) (hkinds : Φ'.kinds f = F.kinds) (ok : Ik gs fns f F r = true)
  (hobj : ∃ a o pm code doc, Γ.mg r.name = some (.ref a) ∧ Γ.objs a = some o ∧ o.data = .func (Calls.docDef r.name r.params r.body r.scope pm code doc) ∧ ∀ h, GOk Γ h → h.CodeRec code r.name) : Oo prog w Γ Φ' fns f := by
 simp only [Ik, BA, beq_iff_eq, Option.isNone_iff_eq_none, List.isEmpty_iff, Bool.not_eq_true'] at ok
 obtain ⟨⟨⟨⟨⟨⟨⟨⟨⟨⟨⟨⟨⟨⟨⟨o1, o2⟩, o3⟩, o4⟩, o5⟩, o6⟩, o7⟩, o8⟩, o9⟩, o10⟩, o11⟩, og⟩, oc⟩, o12⟩, o13⟩, o14⟩ := ok
 intro g a hg ha A s vals ds P d k room gok args sem new
 rw [o2] at hg
 obtain rfl := Option.some.inj hg
 obtain ⟨a', o, pm, code, doc, hmg, hob, hdata, hcr⟩ := hobj
 rw [o1, ha] at hmg
 cases hmg
 rw [hkinds] at args
 obtain ⟨hvl, hdl, hget⟩ := args.get
 have hnd := B7 o7
 have hplen : vals.length = (r.params.args.map (·.arg)).length := by rw [hvl, List.length_map, o8]
 rw [hsem] at sem
 unfold Ja at sem
 split at sem
 ·rename_i hcond
  split at sem
  ·rename_i d' k' hev
   apply Xu sem
   generalize hps : r.params.args.map (·.arg) = ps at *
   have hkd : ∀ (x : Str × Value), x ∈ ps.zip vals → ∃ i : Nat, ps[i]? = some x.1 ∧ vals[i]? = some x.2 ∧ F.ids.lookup x.1 = some i ∧ (r.scope.names.lookup x.1 = some .local ∨ r.scope.names.lookup x.1 = some .cell) := by
    intro x hx
    obtain ⟨i, hi⟩ := List.getElem?_of_mem hx
    rw [List.getElem?_zip_eq_some] at hi
    have hz : (x.1, i) ∈ ps.zipIdx := by rw [List.mem_zipIdx_iff_getElem?]; exact hi.1
    have := List.all_eq_true.mp o9 _ hz
    simp only [BA, Bool.or_eq_true, beq_iff_eq] at this
    exact ⟨i, hi.1, hi.2, this.1, this.2⟩
   refine codeAny_call_cells (hco := oc) (hgen := og) (hk := o11) (binds := ps.zip vals) (by have := room.depth; lia) (gok.obj a o hob) hdata gok.lim (hcr _ gok) rfl (hps ▸ Pn o3 o4 o5 o6 (by rw [hps]; exact hnd) (by rw [hps]; exact hplen)) rfl (fun x hx => ?_) fun s₁ IC => ?_
   ·obtain ⟨i, _, _, _, hk⟩ := hkd x hx
    rcases hk with hk | hk
    ·exact .inl hk
    ·refine .inr ⟨hk, ?_⟩
     obtain ⟨c, hc⟩ := Tz (k := s.heap.objs.size + 1) (acc := []) (.inl (mem_of_lookup hk))
     show ((cellsFrom _ r.scope.names []).lookup x.1).isSome = true
     rw [hc]; rfl
   ·generalize henv : callEnvC (Calls.docDef r.name r.params r.body r.scope pm code doc) s.heap.objs.size a = env at IC ⊢
    have eloc : env.locals = s.heap.objs.size := by rw [← henv]; rfl
    have escope : env.scope = r.scope := by rw [← henv]; rfl
    have ecells : env.cells = cellsFrom (s.heap.objs.size + 1) r.scope.names [] := by rw [← henv]; rfl
    have ekind : ∀ n, env.kindOf n = r.scope.names.lookup n := fun n => by unfold Env.kindOf; rw [escope]
    have hdom : ∀ a, FrA env a → s.heap.get? a = none ∧ ∃ o, s₁.heap.get? a = some o := fun a hf => by
     rcases hf with rfl | ⟨n, hn⟩
     ·obtain ⟨o, _, _, e, _⟩ := IC.toInCall.ns
      exact ⟨Tm IC.toInCall.fresh, o, e⟩
     ·obtain ⟨o, e, _⟩ := IC.cell n a hn
      exact ⟨Tm (Nat.le_trans IC.toInCall.fresh (Nat.le_of_lt (IC.above n a (mem_of_lookup hn)))), o, e⟩
    have hinj : ∀ x y i, (⟨r.scope.names, F.ids, fns, f, []⟩ : Cx).held x i = true → (⟨r.scope.names, F.ids, fns, f, []⟩ : Cx).held y i = true → x = y := fun x y i h1 h2 => by
     have e1 := mem_of_lookup (We h1).1
     have e2 := mem_of_lookup (We h2).1
     have nd := Ka o10
     exact Eh nd e1 e2
    have I : SInv prog w Γ Φ gs ⟨r.scope.names, F.ids, fns, f, []⟩ F.owns env (A.deeper env) s.heap (fun a => P a ∧ ¬ FrA env a) (fun b => ∃ o, s.heap.get? b = some o) (fun _ => []) (start F.kinds ds F.nv) s₁ := by
     refine ⟨⟨by rw [escope]; exact o11, by rw [escope], by rw [← henv]; rfl, by rw [← henv]; rfl, fun n hn => ?_⟩, ⟨room.handled, ?_, ?_⟩, hstd, hfn, IC.apart, IC.above, hinj, gok, IC.toInCall.keep, fun b o e => ⟨o, e⟩, ⟨_, IC.toInCall.ns⟩, fun n c e => ⟨_, IC.cell n c e⟩,
      fun a hf => ⟨(fun ⟨o, e⟩ => by rw [(hdom a hf).1] at e; cases e), fun q => q.2 hf, (hdom a hf).2⟩, fun _ _ h => (nomatch h), fun _ => List.nodup_nil, fun _ _ _ h => (nomatch h), fun a e => ?_, fun a ⟨o, e⟩ => ⟨o, IC.toInCall.keep a o e⟩, fun x i d n hx hσ => ?_⟩
     ·rcases hn with hn | hn
      ·rw [ecells]; exact Tz (.inl (mem_of_lookup hn))
      ·have := List.all_eq_true.mp o12 _ (mem_of_lookup hn)
       simp at this
     ·have := room.depth
      show A.depth + 1 + f < recursionLimit
      lia
     ·have := room.units
      show A.units + 3 + 10 * f + 100 < cLine
      lia
     ·refine ⟨new a ?_, fun hf => ?_⟩
      ·cases q : s.heap.get? a with
       | none => rfl
       | some o => rw [IC.toInCall.keep a o q] at e; cases e
      ·obtain ⟨o, e'⟩ := (hdom a hf).2; rw [e] at e'; cases e'
     ·unfold start at hσ
      have hi : i < ds.length := by
       rcases Nat.lt_or_ge i ds.length with q | q
       ·exact q
       ·rw [List.getElem?_append_right (by simp; lia), List.getElem?_replicate] at hσ
        split at hσ <;> cases hσ
      rw [List.getElem?_append_left (by simp; lia), List.getElem?_map, Option.map_eq_some_iff] at hσ
      obtain ⟨⟨d0, n0⟩, hz, hσ⟩ := hσ
      cases hσ
      have hz' := List.getElem?_zip_eq_some.mp hz
      obtain ⟨v, hv, j, G, hj, ow⟩ := hget i d n hz'.1 hz'.2
      have hfl : fl n d = true := List.all_eq_true.mp hcond.2 _ (List.mem_of_getElem? hz)
      obtain ⟨G', ow'⟩ := ow.more hj hfl
      obtain ⟨p, hp⟩ : ∃ p, ps[i]? = some p := ⟨_, List.getElem?_eq_getElem (by lia)⟩
      have hzv : (p, v) ∈ ps.zip vals := List.mem_of_getElem? (List.getElem?_zip_eq_some.mpr ⟨hp, hv⟩)
      have hpx : p = x := by
       obtain ⟨i', hi', _, hl', hk'⟩ := hkd _ hzv
       have hii : i' = i := by
        have h1 : i' < ps.length := by
         rcases Nat.lt_or_ge i' ps.length with q | q
         ·exact q
         ·rw [List.getElem?_eq_none q] at hi'; cases hi'
        exact (List.getElem?_inj h1 hnd).mp (hi'.trans hp.symm)
       have hhx := We hx
       have e1 := mem_of_lookup (α := Nat) hl'
       have e2 := mem_of_lookup hhx.1
       have nd := Ka o10
       rw [hii] at e1
       exact Eh nd e1 e2
      subst hpx
      have hndz : ((ps.zip vals).map (·.1)).Nodup := by rw [List.map_fst_zip (by lia)]; exact hnd
      refine ⟨v, G', ?_, ow'.move (fun a ob pa e => ⟨⟨⟨pa, (fun hf => by rw [(hdom a hf).1] at e; cases e)⟩, fun _ hm => nomatch hm⟩, IC.toInCall.keep a ob e⟩) (fun a ob _ e => IC.toInCall.keep a ob e), ?_⟩
      ·obtain ⟨_, _, _, _, hk'⟩ := hkd _ hzv
       rcases hk' with hk' | hk'
       ·exact .inl ⟨by rw [ekind]; exact hk', _, IC.toInCall.ns, Sn (by rw [ekind]; exact hk') hndz hzv⟩
       ·obtain ⟨c, hc⟩ := Tz (k := s.heap.objs.size + 1) (acc := []) (.inl (mem_of_lookup hk'))
        rw [← ecells] at hc
        refine .inr ⟨.inl (by rw [ekind]; exact hk'), c, hc, ?_⟩
        have := IC.cell _ c hc
        rw [So (by rw [ekind, hk']; simp) hndz hzv] at this
        exact this
      ·rw [if_neg]
       ·exact fun a hm => ow'.dom a hm
       ·intro q
        have hin : i ∈ F.owns := by simpa using q
        have := List.all_eq_true.mp o13 _ hin
        simp only [decide_eq_true_eq] at this
        lia
    refine wpAny_mono (Ys hlow F.body o14 I hev) (fun fl s' q => ?_) fun _ _ q => q
    ·obtain ⟨v, rfl, ⟨h2, t2, rfl⟩, hkeep, rr⟩ := q
     obtain ⟨h1, t1, rfl⟩ := IC.toInCall.same
     refine ⟨v, rfl, ⟨h2, t2, rfl, hkeep⟩, ?_⟩
     obtain ⟨G, o, r⟩ := rr
     exact ⟨G, o.move (fun a ob p e => ⟨p.1, e⟩) (fun _ _ _ e => e), r⟩
  ·cases sem
 ·cases sem
end
noncomputable def f0_b0 : StL := (.ifs (.isin true (.idx (.var 2) (.int 0)) (.var 1)) (.app 1 (.idx (.var 2) (.int 0)) .nil) .nil .nil)
noncomputable def f0 : Fs := ⟨"heads_of", [("g", 0), ("heads", 1), ("rule", 2)], [0], 3, [1], (.set 1 1 (.lst (.nil)) (.for1 false 2 (.var 0) f0_b0 (.retV 1)))⟩
noncomputable def f1_b1 : StL := (.ifs (.bop true (.cons (.isin true (.var 4) (.var 1)) (.cons (.isin true (.var 4) (.var 2)) (.nil)))) (.app 2 (.var 4) .nil) .nil .nil)
noncomputable def f1_b0 : StL := (.for1 false 4 (.idx (.var 3) (.int 1)) f1_b1 .nil)
noncomputable def f1 : Fs := ⟨"tokens_of", [("g", 0), ("heads", 1), ("found", 2), ("rule", 3), ("symbol", 4)], [0], 5, [2], (.set 1 0 (.call 0 (.cons (.var 0) (.nil))) (.set 2 1 (.lst (.nil)) (.for1 false 3 (.var 0) f1_b0 (.ret (.sorted (.var 2))))))⟩
noncomputable def f2_b0 : StL := (.ifs (.isin true (.var 3) (.var 2)) (.app 2 (.var 3) .nil) .nil .nil)
noncomputable def f2 : Fs := ⟨"merged", [("a", 0), ("b", 1), ("union", 2), ("symbol", 3)], [1, 1], 4, [2], (.set 2 1 (.lst (.nil)) (.for1 false 3 (.add (.var 0) (.var 1)) f2_b0 (.ret (.sorted (.var 2)))))⟩
noncomputable def f3_c0 : Ex := (.var 3)
noncomputable def f3_b1 : StL := (.ifs (.bop true (.cons (.isin true (.idx (.var 4) (.int 0)) (.var 2)) (.cons (.all (.comp false false 5 (.idx (.var 4) (.int 1)) (.nil) (.bop false (.cons (.isin false (.var 5) (.var 1)) (.cons (.isin false (.var 5) (.var 2)) (.nil)))))) (.nil)))) (.app 2 (.idx (.var 4) (.int 0)) (.set 3 0 (.bool true) .nil)) .nil .nil)
noncomputable def f3_b0 : StL := (.set 3 0 (.bool false) (.for1 false 4 (.var 0) f3_b1 .nil))
noncomputable def f3 : Fs := ⟨"heads_built_from", [("g", 0), ("given", 1), ("found", 2), ("changed", 3), ("rule", 4)], [0, 0], 6, [2], (.set 2 1 (.lst (.nil)) (.set 3 0 (.bool true) (.while f3_c0 f3_b0 (.ret (.sorted (.var 2))))))⟩
noncomputable def f4 : Fs := ⟨"nullable_heads", [("g", 0)], [0], 1, [], (.ret (.call 3 (.cons (.var 0) (.cons (.lst (.nil)) (.nil)))))⟩
noncomputable def S9 : StL := (.ifs (.isin true (.var 4) (.var 1)) (.ret (.pair (.call 2 (.cons (.var 3) (.cons (.lst (.cons (.var 4) (.nil))) (.nil)))) (.bool false))) .nil (.set 3 0 (.call 2 (.cons (.var 3) (.cons (.idx (.var 1) (.var 4)) (.nil)))) (.ifs (.isin true (.var 4) (.var 2)) (.ret (.pair (.var 3) (.bool false))) .nil .nil)))
noncomputable def f5 : Fs := ⟨"first_of_string", [("symbols", 0), ("firsts", 1), ("nullables", 2), ("begins", 3), ("symbol", 4)], [0, 1, 0], 5, [], (.set 3 0 (.lst (.nil)) (.for1 false 4 (.var 0) S9 (.ret (.pair (.var 3) (.bool true)))))⟩
noncomputable def f6_b0 : StL := (.setKey 2 (.var 3) (.lst (.nil)) .nil)
noncomputable def f6_c1 : Ex := (.var 4)
noncomputable def f6_b2 : StL := (.set 6 0 (.call 2 (.cons (.idx (.var 2) (.idx (.var 5) (.int 0))) (.cons (.idx (.call 5 (.cons (.idx (.var 5) (.int 1)) (.cons (.var 2) (.cons (.var 1) (.nil))))) (.int 0)) (.nil)))) (.ifs (.eq true (.var 6) (.idx (.var 2) (.idx (.var 5) (.int 0)))) (.setKey 2 (.idx (.var 5) (.int 0)) (.var 6) (.set 4 0 (.bool true) .nil)) .nil (.forget 6 .nil)))
noncomputable def f6_b1 : StL := (.set 4 0 (.bool false) (.for1 false 5 (.var 0) f6_b2 (.forget 6 .nil)))
noncomputable def f6 : Fs := ⟨"first_sets", [("g", 0), ("nullables", 1), ("firsts", 2), ("head", 3), ("changed", 4), ("rule", 5), ("grown", 6)], [0], 7, [2], (.set 1 0 (.call 4 (.cons (.var 0) (.nil))) (.set 2 1 .dict0 (.for1 false 3 (.call 0 (.cons (.var 0) (.nil))) f6_b0 (.set 4 0 (.bool true) (.while f6_c1 f6_b1 (.retV 2))))))⟩
noncomputable def f7_b0 : StL := (.setKey 3 (.var 4) (.lst (.nil)) .nil)
noncomputable def f7_c1 : Ex := (.var 5)
noncomputable def f7_b3 : StL := (.set 8 0 (.idx (.idx (.var 6) (.int 1)) (.var 7)) (.ifs (.isin false (.var 8) (.var 3)) (.tup 9 10 (.call 5 (.cons (.cutFrom (.idx (.var 6) (.int 1)) (.add (.var 7) (.int 1))) (.cons (.var 2) (.cons (.var 1) (.nil))))) (.set 11 0 (.call 2 (.cons (.idx (.var 3) (.var 8)) (.cons (.var 9) (.nil)))) (.ifs (.var 10) (.set 11 0 (.call 2 (.cons (.var 11) (.cons (.idx (.var 3) (.idx (.var 6) (.int 0))) (.nil)))) .nil) .nil (.ifs (.eq true (.var 11) (.idx (.var 3) (.var 8))) (.setKey 3 (.var 8) (.var 11) (.set 5 0 (.bool true) .nil)) .nil .nil)))) .nil (.forget 8 (.forget 9 (.forget 10 (.forget 11 .nil))))))
noncomputable def f7_b2 : StL := (.for1 true 7 (.len (.idx (.var 6) (.int 1))) f7_b3 (.forget 8 (.forget 9 (.forget 10 (.forget 11 .nil)))))
noncomputable def f7_b1 : StL := (.set 5 0 (.bool false) (.for1 false 6 (.var 0) f7_b2 (.forget 8 (.forget 9 (.forget 10 (.forget 11 .nil))))))
noncomputable def f7 : Fs := ⟨"follow_sets", [("g", 0), ("nullables", 1), ("firsts", 2), ("follows", 3), ("head", 4), ("changed", 5), ("rule", 6), ("i", 7), ("symbol", 8), ("begins", 9), ("vanishes", 10), ("grown", 11)], [0], 12, [3], (.set 1 0 (.call 4 (.cons (.var 0) (.nil))) (.set 2 0 (.call 6 (.cons (.var 0) (.nil))) (.set 3 1 .dict0 (.for1 false 4 (.call 0 (.cons (.var 0) (.nil))) f7_b0 (.setKey 3 (.idx (.idx (.var 0) (.int 0)) (.int 0)) (.lst (.cons (.str "$") (.nil))) (.set 5 0 (.bool true) (.while f7_c1 f7_b1 (.retV 3))))))))⟩
noncomputable def f8_b0 : StL := (.tup 6 7 (.call 5 (.cons (.idx (.var 5) (.int 1)) (.cons (.var 2) (.cons (.var 1) (.nil))))) (.ifs (.var 7) (.set 6 0 (.call 2 (.cons (.var 6) (.cons (.idx (.var 3) (.idx (.var 5) (.int 0))) (.nil)))) .nil) .nil (.app 4 (.var 6) (.forget 6 (.forget 7 .nil)))))
noncomputable def f8 : Fs := ⟨"predict_sets", [("g", 0), ("nullables", 1), ("firsts", 2), ("follows", 3), ("predicts", 4), ("rule", 5), ("begins", 6), ("vanishes", 7)], [0], 8, [4], (.set 1 0 (.call 4 (.cons (.var 0) (.nil))) (.set 2 0 (.call 6 (.cons (.var 0) (.nil))) (.set 3 0 (.call 7 (.cons (.var 0) (.nil))) (.set 4 1 (.lst (.nil)) (.for1 false 5 (.var 0) f8_b0 (.retV 4))))))⟩
noncomputable def f9_b0 : StL := (.setKey 2 (.var 3) .dict0 .nil)
noncomputable def f9_b2 : StL := (.ifs (.isin false (.var 7) (.var 6)) (.set 4 0 (.add (.var 4) (.int 1)) .nil) (.setKey 6 (.var 7) (.var 5) .nil) .nil)
noncomputable def f9_b1 : StL := (.als 6 2 (.idx (.idx (.var 0) (.var 5)) (.int 0)) (.for1 false 7 (.idx (.var 1) (.var 5)) f9_b2 .nil))
noncomputable def f9 : Fs := ⟨"ll1_table", [("g", 0), ("predicts", 1), ("table", 2), ("head", 3), ("clashes", 4), ("k", 5), ("row", 6), ("token", 7)], [0], 8, [2, 6], (.set 1 0 (.call 8 (.cons (.var 0) (.nil))) (.set 2 2 .dict0 (.for1 false 3 (.call 0 (.cons (.var 0) (.nil))) f9_b0 (.set 4 0 (.int 0) (.for1 true 5 (.len (.var 0)) f9_b1 (.ret (.pair (.var 2) (.var 4))))))))⟩
noncomputable def f10 : Fs := ⟨"is_ll1", [("g", 0)], [0], 1, [], (.ret (.eq false (.idx (.call 9 (.cons (.var 0) (.nil))) (.int 1)) (.int 0)))⟩
noncomputable def f11_b1 : StL := (.ifs (.isin false (.var 5) (.var 3)) (.set 8 0 (.any (.comp false false 9 (.var 4) (.nil) (.idx (.idx (.idx (.var 3) (.var 5)) (.var 9)) (.var 7)))) .nil) (.set 8 0 (.bop true (.cons (.gt (.var 7) (.int 0)) (.cons (.isin false (.sub (.var 7) (.int 1)) (.var 4)) (.cons (.eq false (.idx (.var 2) (.sub (.var 7) (.int 1))) (.var 5)) (.nil))))) .nil) (.ifs (.var 8) (.app 6 (.var 7) .nil) .nil (.forget 8 .nil)))
noncomputable def f11_b0 : StL := (.set 6 1 (.lst (.nil)) (.for1 true 7 (.add (.len (.var 2)) (.int 1)) f11_b1 (.share 6 (.set 4 0 (.var 6) (.forget 6 (.forget 8 .nil))))))
noncomputable def f11 : Fs := ⟨"places_after", [("body", 0), ("start", 1), ("tokens", 2), ("tables", 3), ("places", 4), ("symbol", 5), ("moved", 6), ("j", 7), ("met", 8)], [0, 0, 0, 3], 10, [6], (.set 4 0 (.lst (.cons (.var 1) (.nil))) (.for1 false 5 (.var 0) f11_b0 (.ret (.var 4))))⟩
noncomputable def f12_b0 : StL := (.setKey 3 (.var 4) (.comp true true 9 (.add (.var 2) (.int 1)) (.nil) (.mul (.lst (.cons (.bool false) (.nil))) (.add (.var 2) (.int 1)))) .nil)
noncomputable def Pc : Ex := (.var 5)
noncomputable def f12_b4 : StL := (.ifs (.not (.idx (.idx (.idx (.var 3) (.idx (.var 6) (.int 0))) (.var 7)) (.var 8))) (.setPath 3 (.idx (.var 6) (.int 0)) (.var 7) (.var 8) true (.set 5 0 (.bool true) .nil)) .nil .nil)
noncomputable def f12_b3 : StL := (.for1 false 8 (.call 11 (.cons (.idx (.var 6) (.int 1)) (.cons (.var 7) (.cons (.var 1) (.cons (.var 3) (.nil)))))) f12_b4 .nil)
noncomputable def f12_b2 : StL := (.for1 true 7 (.add (.var 2) (.int 1)) f12_b3 .nil)
noncomputable def Pd : StL := (.set 5 0 (.bool false) (.for1 false 6 (.var 0) f12_b2 .nil))
noncomputable def f12 : Fs := ⟨"span_tables", [("g", 0), ("tokens", 1), ("n", 2), ("tables", 3), ("head", 4), ("changed", 5), ("rule", 6), ("i", 7), ("j", 8)], [0, 0], 10, [3], (.set 2 0 (.len (.var 1)) (.set 3 3 .dict0 (.for1 false 4 (.call 0 (.cons (.var 0) (.nil))) f12_b0 (.set 5 0 (.bool true) (.while Pc Pd (.retV 3))))))⟩
noncomputable def f13 : Fs := ⟨"derives_from", [("g", 0), ("head", 1), ("tokens", 2)], [0, 0, 0], 3, [], (.ret (.idx (.idx (.idx (.call 12 (.cons (.var 0) (.cons (.var 2) (.nil)))) (.var 1)) (.int 0)) (.len (.var 2))))⟩
noncomputable def f14 : Fs := ⟨"derives", [("g", 0), ("tokens", 1)], [0, 0], 2, [], (.ret (.call 13 (.cons (.var 0) (.cons (.idx (.idx (.var 0) (.int 0)) (.int 0)) (.cons (.var 1) (.nil))))))⟩
noncomputable def f15 : Fs := ⟨"productive_heads", [("g", 0)], [0], 1, [], (.ret (.call 3 (.cons (.var 0) (.cons (.call 1 (.cons (.var 0) (.nil))) (.nil)))))⟩
noncomputable def Pa : Ex := (.lt (.var 3) (.len (.var 2)))
noncomputable def f16_b2 : StL := (.ifs (.bop true (.cons (.isin false (.var 5) (.var 1)) (.cons (.isin true (.var 5) (.var 2)) (.nil)))) (.app 2 (.var 5) .nil) .nil .nil)
noncomputable def f16_b1 : StL := (.ifs (.eq false (.idx (.var 4) (.int 0)) (.idx (.var 2) (.var 3))) (.for1 false 5 (.idx (.var 4) (.int 1)) f16_b2 .nil) .nil .nil)
noncomputable def Pb : StL := (.for1 false 4 (.var 0) f16_b1 (.set 3 0 (.add (.var 3) (.int 1)) .nil))
noncomputable def f16 : Fs := ⟨"reachable_heads", [("g", 0), ("heads", 1), ("found", 2), ("place", 3), ("rule", 4), ("symbol", 5)], [0], 6, [2], (.set 1 0 (.call 0 (.cons (.var 0) (.nil))) (.set 2 1 (.lst (.cons (.idx (.idx (.var 0) (.int 0)) (.int 0)) (.nil))) (.set 3 0 (.int 0) (.while Pa Pb (.ret (.sorted (.var 2)))))))⟩
noncomputable def f17_b0 : StL := (.ifs (.bop true (.cons (.isin false (.idx (.var 6) (.int 0)) (.var 2)) (.cons (.all (.comp false false 9 (.idx (.var 6) (.int 1)) (.nil) (.isin false (.var 9) (.var 3)))) (.nil)))) (.ifs (.eq false (.idx (.var 6) (.int 0)) (.var 1)) (.app 4 (.var 6) .nil) (.app 5 (.var 6) .nil) .nil) .nil .nil)
noncomputable def f17 : Fs := ⟨"trimmed", [("g", 0), ("start", 1), ("productive", 2), ("usable", 3), ("own", 4), ("others", 5), ("rule", 6), ("left", 7), ("reachable", 8)], [0], 11, [4, 5], (.set 1 0 (.idx (.idx (.var 0) (.int 0)) (.int 0)) (.set 2 0 (.call 15 (.cons (.var 0) (.nil))) (.ifs (.isin true (.var 1) (.var 2)) (.ret (.lst (.nil))) .nil (.set 3 0 (.add (.var 2) (.call 1 (.cons (.var 0) (.nil)))) (.set 4 1 (.lst (.nil)) (.set 5 1 (.lst (.nil)) (.for1 false 6 (.var 0) f17_b0 (.set 7 0 (.add (.var 4) (.var 5)) (.set 8 0 (.call 16 (.cons (.var 7) (.nil))) (.ret (.comp false false 10 (.var 7) (.cons (.isin false (.idx (.var 10) (.int 0)) (.var 8)) (.nil)) (.pair (.idx (.var 10) (.int 0)) (.cutAll (.idx (.var 10) (.int 1)))))))))))))))⟩
noncomputable def Nc : StL := (.ifs (.isin false (.var 6) (.var 2)) (.set 4 1 (.call 2 (.cons (.var 4) (.cons (.lst (.cons (.var 6) (.nil))) (.nil)))) .nil) .nil (.ifs (.isin true (.var 6) (.var 3)) .brk .nil .nil))
noncomputable def f18_b0 : StL := (.ifs (.eq false (.idx (.var 5) (.int 0)) (.var 1)) (.for1 false 6 (.idx (.var 5) (.int 1)) Nc .nil) .nil .nil)
noncomputable def f18 : Fs := ⟨"direct_left_corners", [("g", 0), ("head", 1), ("heads", 2), ("nullables", 3), ("found", 4), ("rule", 5), ("symbol", 6)], [0, 0], 7, [4], (.set 2 0 (.call 0 (.cons (.var 0) (.nil))) (.set 3 0 (.call 4 (.cons (.var 0) (.nil))) (.set 4 1 (.lst (.nil)) (.for1 false 5 (.var 0) f18_b0 (.retV 4)))))⟩
noncomputable def P8 : Ex := (.lt (.var 3) (.len (.var 2)))
noncomputable def f19_b1 : StL := (.ifs (.isin true (.var 4) (.var 2)) (.app 2 (.var 4) .nil) .nil .nil)
noncomputable def P9 : StL := (.for1 false 4 (.call 18 (.cons (.var 0) (.cons (.idx (.var 2) (.var 3)) (.nil)))) f19_b1 (.set 3 0 (.add (.var 3) (.int 1)) .nil))
noncomputable def f19 : Fs := ⟨"left_corner_heads", [("g", 0), ("head", 1), ("found", 2), ("place", 3), ("corner", 4)], [0, 0], 5, [2], (.set 2 1 (.call 18 (.cons (.var 0) (.cons (.var 1) (.nil)))) (.set 3 0 (.int 0) (.while P8 P9 (.ret (.sorted (.var 2))))))⟩
noncomputable def Nb : StL := (.ifs (.isin false (.var 1) (.call 19 (.cons (.var 0) (.cons (.var 1) (.nil))))) (.ret (.bool true)) .nil .nil)
noncomputable def f20 : Fs := ⟨"is_left_recursive", [("g", 0), ("head", 1)], [0], 2, [], (.for1 false 1 (.call 0 (.cons (.var 0) (.nil))) Nb (.ret (.bool false)))⟩
noncomputable def f21 : Fs := ⟨"_law_cell", [("script", 0), ("i", 1), ("k", 2)], [0, 0, 0], 3, [], (.ifs (.lt (.var 1) (.len (.var 0))) (.ret (.mod (.idx (.var 0) (.var 1)) (.var 2))) .nil (.ret (.int 0)))⟩
noncomputable def f22_b0 : StL := (.set 3 0 (.call 21 (.cons (.var 0) (.cons (.add (.int 6) (.mul (.int 3) (.var 2))) (.cons (.int 12) (.nil))))) (.set 4 0 (.call 21 (.cons (.var 0) (.cons (.add (.int 7) (.mul (.int 3) (.var 2))) (.cons (.int 12) (.nil))))) (.set 5 0 (.call 21 (.cons (.var 0) (.cons (.add (.int 8) (.mul (.int 3) (.var 2))) (.cons (.int 12) (.nil))))) (.set 6 0 (.comp false false 7 (.lst (.cons (.var 4) (.cons (.var 5) (.cons (.mod (.add (.add (.var 4) (.var 5)) (.var 3)) (.int 12)) (.nil))))) (.nil) (.idx (.gstr "_law_symbols" "SABaAbBcSaAb") (.var 7))) (.app 1 (.pair (.idx (.str "SAB") (.mod (.var 3) (.int 3))) (.cutTo (.var 6) (.mod (.add (.fdiv (.var 3) (.int 3)) (.int 1)) (.int 4)))) (.forget 3 (.forget 4 (.forget 5 (.forget 6 .nil)))))))))
noncomputable def f22 : Fs := ⟨"_law_grammar", [("script", 0), ("g", 1), ("i", 2), ("shape", 3), ("x", 4), ("y", 5), ("body", 6)], [0], 8, [1], (.set 1 1 (.lst (.nil)) (.for1 true 2 (.add (.int 1) (.call 21 (.cons (.var 0) (.cons (.int 0) (.cons (.int 6) (.nil)))))) f22_b0 (.retV 1)))⟩
noncomputable def f23 : Fs := ⟨"_law_heads", [("g", 0), ("bearers", 1)], [0], 4, [], (.set 1 0 (.comp false false 2 (.var 0) (.nil) (.idx (.var 2) (.int 0))) (.ret (.comp false false 3 (.lst (.cons (.str "A") (.cons (.str "B") (.cons (.str "S") (.nil))))) (.cons (.isin false (.var 3) (.var 1)) (.nil)) (.var 3))))⟩
noncomputable def Kt : StL := (.set 6 0 (.comp false true 11 (.len (.var 4)) (.cons (.isin false (.idx (.var 4) (.var 11)) (.var 2)) (.nil)) (.var 11)) (.ifs (.bop false (.cons (.eq false (.var 6) (.lst (.nil))) (.cons (.gt (.len (.var 4)) (.int 5)) (.nil)))) (.forget 6 (.forget 7 (.forget 8 (.forget 9 .brk)))) .nil (.set 7 0 (.idx (.var 6) (.int 0)) (.set 8 0 (.comp false false 12 (.var 1) (.cons (.eq false (.idx (.var 12) (.int 0)) (.idx (.var 4) (.var 7))) (.nil)) (.idx (.var 12) (.int 1))) (.set 9 0 (.mod (.add (.call 21 (.cons (.var 0) (.cons (.add (.int 2) (.mod (.var 5) (.int 4))) (.cons (.int 12) (.nil))))) (.fdiv (.var 5) (.int 4))) (.len (.var 8))) (.set 4 0 (.add (.add (.cutTo (.var 4) (.var 7)) (.idx (.var 8) (.var 9))) (.cutFrom (.var 4) (.add (.var 7) (.int 1)))) (.forget 6 (.forget 7 (.forget 8 (.forget 9 .nil))))))))))
noncomputable def f24 : Fs := ⟨"_law_word", [("script", 0), ("g", 1), ("heads", 2), ("mode", 3), ("form", 4), ("turn", 5), ("spots", 6), ("spot", 7), ("bodies", 8), ("pick", 9)], [0, 0, 0], 14, [], (.set 3 0 (.call 21 (.cons (.var 0) (.cons (.int 1) (.cons (.int 10) (.nil))))) (.ifs (.lt (.var 3) (.int 5)) (.ret (.comp false true 10 (.var 3) (.nil) (.idx (.gstr "_law_letters" "abcabcabcdSA") (.call 21 (.cons (.var 0) (.cons (.add (.int 2) (.var 10)) (.cons (.int 12) (.nil)))))))) .nil (.set 4 0 (.lst (.cons (.idx (.idx (.var 1) (.int 0)) (.int 0)) (.nil))) (.for1 true 5 (.int 8) Kt (.ret (.cutTo (.comp false false 13 (.var 4) (.cons (.isin true (.var 13) (.var 2)) (.nil)) (.var 13)) (.int 4)))))))⟩
noncomputable def P6 : Ex := (.lt (.var 3) (.len (.var 2)))
noncomputable def f25_b1 : StL := (.ifs (.isin true (.var 4) (.var 2)) (.app 2 (.var 4) .nil) .nil .nil)
noncomputable def P7 : StL := (.for1 false 4 (.get (.var 0) (.idx (.var 2) (.var 3)) (.lst (.nil))) f25_b1 (.set 3 0 (.add (.var 3) (.int 1)) .nil))
noncomputable def f25 : Fs := ⟨"_law_walk", [("edges", 0), ("roots", 1), ("found", 2), ("spot", 3), ("node", 4)], [0, 0], 5, [2], (.set 2 1 (.cutAll (.var 1)) (.set 3 0 (.int 0) (.while P6 P7 (.retV 2))))⟩
noncomputable def f26_b0 : StL := (.set 4 0 (.comp false false 11 (.var 2) (.nil) (.idx (.var 11) (.int 0))) (.set 2 0 (.comp false false 12 (.var 0) (.cons (.eq false (.comp false false 13 (.idx (.var 12) (.int 1)) (.cons (.bop true (.cons (.isin false (.var 13) (.var 1)) (.cons (.isin true (.var 13) (.var 4)) (.nil)))) (.nil)) (.var 13)) (.lst (.nil))) (.nil)) (.var 12)) (.forget 4 .nil)))
noncomputable def f26_b1 : StL := (.set 7 0 (.dictOf (.add (.items (.var 7)) (.lst (.cons (.pair (.var 8) (.add (.get (.var 7) (.var 8) (.lst (.nil))) (.var 9))) (.nil))))) .nil)
noncomputable def f26 : Fs := ⟨"_law_trim", [("g", 0), ("heads", 1), ("sound", 2), ("turn", 3), ("live", 4), ("start", 5), ("laid", 6), ("edges", 7), ("head", 8), ("body", 9), ("reach", 10)], [0, 0], 17, [], (.set 2 0 (.lst (.nil)) (.for1 true 3 (.int 4) f26_b0 (.set 5 0 (.idx (.idx (.var 0) (.int 0)) (.int 0)) (.set 6 0 (.add (.comp false false 14 (.var 2) (.cons (.eq false (.idx (.var 14) (.int 0)) (.var 5)) (.nil)) (.var 14)) (.comp false false 15 (.var 2) (.cons (.eq true (.idx (.var 15) (.int 0)) (.var 5)) (.nil)) (.var 15))) (.set 7 0 .dict0 (.for2 8 9 (.var 6) f26_b1 (.set 10 0 (.call 25 (.cons (.var 7) (.cons (.lst (.cons (.var 5) (.nil))) (.nil)))) (.ret (.comp false false 16 (.var 6) (.cons (.isin false (.idx (.var 16) (.int 0)) (.var 10)) (.nil)) (.var 16))))))))))⟩
noncomputable def f27_b0 : StL := (.set 3 0 (.dictOf (.add (.items (.var 3)) (.lst (.cons (.pair (.var 4) (.lst (.nil))) (.nil))))) .nil)
noncomputable def P3 : Ex := (.bool true)
noncomputable def P4 : StL := (.set 10 0 (.lst (.cons (.var 9) (.nil))) (.ifs (.isin false (.var 9) (.var 1)) (.set 10 0 (.idx (.var 3) (.var 9)) .nil) .nil (.set 8 0 (.comp2 12 13 (.var 8) (.var 10) (.cons (.isin false (.add (.var 12) (.var 13)) (.var 2)) (.nil)) (.add (.var 12) (.var 13))) (.forget 10 .nil))))
noncomputable def f27_b4 : StL := (.ifs (.isin true (.var 11) (.idx (.var 3) (.var 6))) (.set 3 0 (.dictOf (.add (.items (.var 3)) (.lst (.cons (.pair (.var 6) (.add (.idx (.var 3) (.var 6)) (.lst (.cons (.var 11) (.nil))))) (.nil))))) (.set 5 0 (.bool true) .nil)) .nil .nil)
noncomputable def P5 : StL := (.set 8 0 (.lst (.cons (.str "") (.nil))) (.for1 false 9 (.var 7) P4 (.for1 false 11 (.var 8) f27_b4 (.forget 8 (.forget 10 .nil)))))
noncomputable def Na : StL := (.ifs (.not (.var 5)) (.forget 8 (.forget 10 .brk)) .nil (.set 5 0 (.bool false) (.for2 6 7 (.var 0) P5 (.forget 8 (.forget 10 .nil)))))
noncomputable def f27 : Fs := ⟨"_law_words", [("g", 0), ("heads", 1), ("text", 2), ("words", 3), ("h", 4), ("grown", 5), ("head", 6), ("body", 7), ("parts", 8), ("s", 9), ("tails", 10), ("p", 11)], [0, 0, 0], 14, [], (.set 3 0 .dict0 (.for1 false 4 (.var 1) f27_b0 (.set 5 0 (.bool true) (.while P3 Na (.ret (.var 3))))))⟩
noncomputable def N9 : StL := (.app 3 (.var 4) (.ifs (.isin true (.var 4) (.var 1)) (.retV 3) .nil .nil))
noncomputable def f28 : Fs := ⟨"_law_lead", [("symbols", 0), ("nulls", 1), ("behind", 2), ("out", 3), ("s", 4)], [0, 0, 0], 5, [3], (.set 3 1 (.lst (.nil)) (.for1 false 4 (.var 0) N9 (.ret (.add (.var 3) (.var 2)))))⟩
noncomputable def f29_b0 : StL := (.set 3 0 (.dictOf (.add (.items (.var 3)) (.lst (.cons (.pair (.var 4) (.lst (.nil))) (.nil))))) (.set 3 0 (.dictOf (.add (.items (.var 3)) (.lst (.cons (.pair (.add (.str ">") (.var 4)) (.lst (.nil))) (.nil))))) .nil))
noncomputable def f29_b2 : StL := (.ifs (.isin false (.idx (.var 6) (.var 7)) (.var 1)) (.set 8 0 (.add (.str ">") (.idx (.var 6) (.var 7))) (.set 3 0 (.dictOf (.add (.items (.var 3)) (.lst (.cons (.pair (.var 8) (.add (.idx (.var 3) (.var 8)) (.call 28 (.cons (.cutFrom (.var 6) (.add (.var 7) (.int 1))) (.cons (.var 2) (.cons (.lst (.cons (.add (.str ">") (.var 5)) (.nil))) (.nil))))))) (.nil))))) .nil)) .nil (.forget 8 .nil))
noncomputable def f29_b1 : StL := (.set 3 0 (.dictOf (.add (.items (.var 3)) (.lst (.cons (.pair (.var 5) (.add (.idx (.var 3) (.var 5)) (.call 28 (.cons (.var 6) (.cons (.var 2) (.cons (.lst (.nil)) (.nil))))))) (.nil))))) (.for1 true 7 (.len (.var 6)) f29_b2 (.forget 8 .nil)))
noncomputable def f29 : Fs := ⟨"_law_edges", [("g", 0), ("heads", 1), ("nulls", 2), ("edges", 3), ("h", 4), ("head", 5), ("body", 6), ("k", 7), ("behind", 8)], [0, 0, 0], 9, [], (.set 3 0 .dict0 (.for1 false 4 (.var 1) f29_b0 (.set 3 0 (.dictOf (.add (.items (.var 3)) (.lst (.cons (.pair (.add (.str ">") (.idx (.idx (.var 0) (.int 0)) (.int 0))) (.lst (.cons (.str "$") (.nil)))) (.nil))))) (.for2 5 6 (.var 0) f29_b1 (.ret (.var 3))))))⟩
noncomputable def f30 : Fs := ⟨"_law_left", [("edges", 0), ("heads", 1)], [0, 0], 3, [], (.ret (.eq true (.comp false false 2 (.var 1) (.cons (.isin false (.var 2) (.call 25 (.cons (.var 0) (.cons (.idx (.var 0) (.var 2)) (.nil))))) (.nil)) (.var 2)) (.lst (.nil))))⟩
noncomputable def Dn : StL := (.ifs (.isin true (.var 6) (.var 2)) (.ifs (.isin false (.pair (.var 4) (.var 6)) (.var 3)) (.ret (.bool false)) .nil (.app 3 (.pair (.var 4) (.var 6)) .nil)) .nil .nil)
noncomputable def N8 : StL := (.for1 false 6 (.call 25 (.cons (.var 2) (.cons (.call 28 (.cons (.var 5) (.cons (.var 1) (.cons (.lst (.cons (.add (.str ">") (.var 4)) (.nil))) (.nil))))) (.nil)))) Dn .nil)
noncomputable def f31 : Fs := ⟨"_law_clash_free", [("g", 0), ("nulls", 1), ("edges", 2), ("pairs", 3), ("head", 4), ("body", 5), ("s", 6)], [0, 0, 0], 7, [3], (.set 3 1 (.lst (.nil)) (.for2 4 5 (.var 0) N8 (.ret (.bool true))))⟩
noncomputable def f32 : Fs := ⟨"_law_kept", [("t", 0), ("start", 1), ("w", 2), ("member", 3), ("heads", 4), ("words", 5), ("nulls", 6), ("edges", 7), ("left", 8), ("verdict", 9)], [0, 0, 0, 0], 11, [], (.set 4 0 (.call 23 (.cons (.var 0) (.nil))) (.set 5 0 (.call 27 (.cons (.var 0) (.cons (.var 4) (.cons (.str "") (.nil))))) (.set 6 0 (.comp false false 10 (.var 4) (.cons (.eq false (.idx (.var 5) (.var 10)) (.lst (.cons (.str "") (.nil)))) (.nil)) (.var 10)) (.set 7 0 (.call 29 (.cons (.var 0) (.cons (.var 4) (.cons (.var 6) (.nil))))) (.set 8 0 (.call 30 (.cons (.var 7) (.cons (.var 4) (.nil)))) (.ifs (.bop false (.cons (.eq true (.idx (.idx (.var 0) (.int 0)) (.int 0)) (.var 1)) (.cons (.eq true (.call 17 (.cons (.var 0) (.nil))) (.var 0)) (.nil)))) (.ret (.bool false)) .nil (.ifs (.eq true (.call 14 (.cons (.var 0) (.cons (.var 2) (.nil)))) (.var 3)) (.ret (.bool false)) .nil (.ifs (.bop false (.cons (.eq true (.call 15 (.cons (.var 0) (.nil))) (.var 4)) (.cons (.eq true (.call 16 (.cons (.var 0) (.nil))) (.var 4)) (.nil)))) (.ret (.bool false)) .nil (.ifs (.eq true (.call 20 (.cons (.var 0) (.nil))) (.var 8)) (.ret (.bool false)) .nil (.set 9 0 (.call 10 (.cons (.var 0) (.nil))) (.ifs (.eq true (.var 9) (.call 31 (.cons (.var 0) (.cons (.var 6) (.cons (.var 7) (.nil)))))) (.ret (.bool false)) .nil (.ifs (.bop true (.cons (.var 8) (.cons (.var 9) (.nil)))) (.ret (.bool false)) .nil (.ret (.bool true))))))))))))))⟩
noncomputable def f33 : Fs := ⟨"law", [("script", 0), ("g", 1), ("same", 2), ("heads", 3), ("w", 4), ("text", 5), ("due", 6), ("t", 7), ("words", 8), ("member", 9), ("got", 10), ("nulls", 11), ("left", 12)], [0], 14, [], (.set 1 0 (.call 22 (.cons (.var 0) (.nil))) (.set 2 0 (.call 22 (.cons (.var 0) (.nil))) (.set 3 0 (.call 23 (.cons (.var 2) (.nil))) (.set 4 0 (.call 24 (.cons (.var 0) (.cons (.var 2) (.cons (.var 3) (.nil))))) (.set 5 0 (.join (.var 4)) (.set 6 0 (.call 26 (.cons (.var 2) (.cons (.var 3) (.nil)))) (.set 7 0 (.call 17 (.cons (.var 1) (.nil))) (.ifs (.eq true (.var 7) (.var 6)) (.ret (.bool false)) .nil (.set 8 0 (.call 27 (.cons (.var 2) (.cons (.var 3) (.cons (.var 5) (.nil))))) (.set 9 0 (.isin false (.var 5) (.idx (.var 8) (.idx (.idx (.var 2) (.int 0)) (.int 0)))) (.set 10 0 (.call 14 (.cons (.var 1) (.cons (.var 4) (.nil)))) (.ifs (.eq true (.var 10) (.var 9)) (.ret (.bool false)) .nil (.set 11 0 (.comp false false 13 (.var 3) (.cons (.isin false (.str "") (.idx (.var 8) (.var 13))) (.nil)) (.var 13)) (.set 12 0 (.call 30 (.cons (.call 29 (.cons (.var 2) (.cons (.var 3) (.cons (.var 11) (.nil))))) (.cons (.var 3) (.nil)))) (.ifs (.eq true (.call 20 (.cons (.var 1) (.nil))) (.var 12)) (.ret (.bool false)) .nil (.ifs (.bop true (.cons (.eq false (.var 7) (.lst (.nil))) (.cons (.var 10) (.nil)))) (.ret (.bool false)) .nil (.ifs (.bop true (.cons (.eq true (.var 7) (.lst (.nil))) (.cons (.not (.call 32 (.cons (.var 7) (.cons (.idx (.idx (.var 2) (.int 0)) (.int 0)) (.cons (.var 4) (.cons (.var 9) (.nil))))))) (.nil)))) (.ret (.bool false)) .nil (.ifs (.bop false (.cons (.eq true (.var 1) (.var 2)) (.cons (.eq true (.var 7) (.var 6)) (.cons (.eq true (.join (.var 4)) (.var 5)) (.nil))))) (.ret (.bool false)) .nil (.ret (.bool true))))))))))))))))))))⟩
noncomputable def Yq : List Fs := [f0, f1, f2, f3, f4, f5, f6, f7, f8, f9, f10, f11, f12, f13, f14, f15, f16, f17, f18, f19, f20, f21, f22, f23, f24, f25, f26, f27, f28, f29, f30, f31, f32, f33]
noncomputable def fns : List Str := Yq.map (·.name)
noncomputable def gs (x : Str) : Option Str := if x = "_law_symbols" then some "SABaAbBcSaAb" else if x = "_law_letters" then some "abcabcabcdSA" else none
noncomputable def Qf (f : Nat) : List Nat := match Yq[f]? with | some F => F.kinds | none => []
noncomputable def Phi : Nat → Fns
 | 0 => ⟨fun _ _ => none, Qf⟩
 | n + 1 => ⟨fun f ds => if f = n then (match Yq[n]? with | some F => Ja (Phi n) F ds | none => none) else (Phi n).sem f ds, Qf⟩
theorem B6 : ∀ n f, (Phi n).kinds f = Qf f
 | 0, _ => rfl
 | _ + 1, _ => rfl
theorem W0 : ∀ {m f : Nat} {F : Fs} {ds : List PyData}, f < m → Yq[f]? = some F → (Phi m).sem f ds = Ja (Phi f) F ds
 | m + 1, f, F, ds, h, hF => by
  show (if f = m then _ else (Phi m).sem f ds) = _
  by_cases q : f = m
  ·subst q; simp [hF]
  ·rw [if_neg q]; exact W0 (by lia) hF
noncomputable def okAt (p : Program) (f : Nat) : Bool := match Yq[f]?, (PyProof.Rows.recsOf p)[f]? with | some F, some d => Ik gs fns f F d | _, _ => false
section
variable {prog : Program} {w : World}
theorem all_fn {Γ : Gd} (hlow : ∀ (h : Heap), GOk Γ h → sysModules < h.objs.size) (hstd : ∀ Φ, Std' Γ Φ fns gs)
  (hobj : ∀ f F, Yq[f]? = some F → ∃ r, Ik gs fns f F r = true ∧ ∃ a o pm code doc, Γ.mg r.name = some (.ref a) ∧ Γ.objs a = some o ∧ o.data = .func (Calls.docDef r.name r.params r.body r.scope pm code doc) ∧ ∀ h, GOk Γ h → h.CodeRec code r.name) :
  ∀ (f m : Nat), f < m → f < Yq.length → Oo prog w Γ (Phi m) fns f := by
 intro f
 induction f using Nat.strongRecOn with
 | _ f ih =>
  intro m hm hf
  have hF : Yq[f]? = some Yq[f] := List.getElem?_eq_getElem hf
  refine BC fun nn => ?_
  obtain ⟨r, ok, ob⟩ := hobj f _ hF
  refine nn ?_; clear nn
  exact fn_ok (Φ := Phi f) (F := Yq[f]) (r := r) hlow (hstd _) (fun g hg => ih g hg f hg (by lia)) (fun ds => W0 hm hF) (by rw [B6, Qf, hF]) ok ob
open PyProof.Rows in
theorem law_fn {view : Program} {loose : List Str} {mean : ExcName → Option Value} {mg mb : Str → Option Value} {s₁ : Shared} (T : Top view loose mean mg mb s₁.heap) (hok : ∀ f, f < Yq.length → okAt view f = true)
  (hfree : ∀ x ∈ ([("len" : Str), "sorted", "all", "any", "list", "dict", "range"] : List Str), x ∉ startupNames ∧ x ∉ loose ∧ x ∉ (recsOf view).map (·.name) ∧ x ∉ (litsOf view).map (·.1) ∧ x ∉ (clssOf view loose).map (·.name))
  (hval : valOf view (Str.ofString "_law_symbols") = some (.str (Str.ofString "SABaAbBcSaAb")) ∧ valOf view (Str.ofString "_law_letters") = some (.str (Str.ofString "abcabcabcdSA"))) :
  ∀ (f m : Nat), f < m → f < Yq.length → Oo prog w ⟨mg, mb, s₁.heap.get?⟩ (Phi m) fns f := by
 have hkeep : ∀ h, GOk ⟨mg, mb, s₁.heap.get?⟩ h → ∀ b o, s₁.heap.get? b = some o → h.get? b = some o := fun h g b o e => g.obj b o e
 have fr : ∀ x ∈ ([("len" : Str), "sorted", "all", "any", "list", "dict", "range"] : List Str), mg x = none := fun x hx => by
  refine BC fun nn => ?_
  obtain ⟨h1, h2, h3, h4, h5⟩ := hfree x hx
  refine nn ?_; clear nn
  exact T.free x h1 h2 h3 h4 h5
 have hstd : Std ⟨mg, mb, s₁.heap.get?⟩ := by
  refine ⟨⟨fr _ (by simp), ?_⟩, ⟨fr _ (by simp), ?_⟩, ⟨fr _ (by simp), ?_⟩, ⟨fr _ (by simp), ?_⟩, ⟨fr _ (by simp), ?_⟩, ⟨fr _ (by simp), ?_⟩, ⟨fr _ (by simp), ?_⟩⟩
  all_goals
   show mb _ = _
   rw [T.builtins _ (by decide)]
   first | boot_fast | (decide +kernel) | rfl
 have hof : ∀ f F, Yq[f]? = some F → ∃ r, Ik gs fns f F r = true ∧ ∃ a o pm code doc, mg r.name = some (.ref a) ∧ s₁.heap.get? a = some o ∧ o.data = .func (Calls.docDef r.name r.params r.body r.scope pm code doc) ∧ s₁.heap.CodeRec code r.name := by
  intro f F hF
  have hf : f < Yq.length := by
   rcases Nat.lt_or_ge f Yq.length with q | q
   ·exact q
   ·rw [List.getElem?_eq_none q] at hF; cases hF
  have h := hok f hf
  unfold okAt at h
  rw [hF] at h
  split at h
  ·rename_i F' d h1 h2
   cases h1
   exact ⟨d, h, T.fn d (List.mem_of_getElem? h2)⟩
  ·cases h
 refine all_fn (fun h g => ?_) (fun Φ => ⟨hstd, fun f g hg => ?_, fun n x hx => ?_⟩) (fun f F hF => ?_)
 ·have := g.g.lt
  exact Nat.lt_trans (by decide) this
 ·have hF : ∃ F, Yq[f]? = some F ∧ F.name = g := by
   unfold fns at hg
   rw [List.getElem?_map, Option.map_eq_some_iff] at hg
   exact hg
  refine BC fun nn => ?_
  obtain ⟨F, hF, rfl⟩ := hF
  refine nn ?_; clear nn
  refine BC fun nn => ?_
  obtain ⟨r, ok, a, o, pm, code, doc, h1, h2, h3, _⟩ := hof f F hF
  refine nn ?_; clear nn
  have hn : r.name = F.name := by
   simp only [Ik, BA, beq_iff_eq] at ok
   refine BC fun nn => ?_
   obtain ⟨⟨⟨⟨⟨⟨⟨⟨⟨⟨⟨⟨⟨⟨⟨o1, _⟩, _⟩, _⟩, _⟩, _⟩, _⟩, _⟩, _⟩, _⟩, _⟩, _⟩, _⟩, _⟩, _⟩, _⟩ := ok
   refine nn ?_; clear nn
   exact o1
  exact ⟨a, o, _, by rw [← hn]; exact h1, h2, h3⟩
 ·unfold gs at hx
  have rs : ∀ (n x : Str), valOf view n = some (.str x) → ∃ t, mg n = some (.str x t) := fun n x e => by
   refine BC fun nn => ?_
   obtain ⟨v, h1, h2⟩ := T.const n _ e
   refine nn ?_; clear nn
   have := h2 s₁.heap
   cases this
   exact ⟨_, h1⟩
  split at hx
  ·rename_i q
   obtain rfl := Option.some.inj hx
   rw [q]; exact rs _ _ hval.1
  ·split at hx
   ·rename_i q
    obtain rfl := Option.some.inj hx
    rw [q]; exact rs _ _ hval.2
   ·cases hx
 ·refine BC fun nn => ?_
  obtain ⟨r, ok, a, o, pm, code, doc, h1, h2, h3, h4⟩ := hof f F hF
  refine nn ?_; clear nn
  exact ⟨r, ok, a, o, pm, code, doc, h1, h2, h3, fun h g => h4.keeps (hkeep h g)⟩
end
abbrev Gr := List (Str × List Str)
noncomputable def Q5 (xs : List Str) : PyData := .list (xs.map .str)
noncomputable def Wb (r : Str × List Str) : PyData := .tuple [.str r.1, Q5 r.2]
noncomputable def Qk (g : Gr) : PyData := .list (g.map Wb)
noncomputable def Wc (kvs : Gr) : PyData := .dict (kvs.map fun p => (.str p.1, Q5 p.2))
noncomputable def Ud (xs : List (List Str)) : PyData := .list (xs.map Q5)
theorem bft : (false == true) = false := rfl
theorem btf : (true == false) = false := rfl
theorem bff : (false == false) = true := rfl
theorem btt : (true == true) = true := rfl
theorem Q9 (x : Str) (k : Kd) : mkR (.str x) k = (.str x, .fr 9) := rfl
theorem Qp (x : Int) (k : Kd) : mkR (.int x) k = (.int x, .fr 9) := rfl
theorem W2 (x : Bool) (k : Kd) : mkR (.bool x) k = (.bool x, .fr 9) := rfl
theorem Qb (x : List Str) (k : Kd) : mkR (Q5 x) k = (Q5 x, k) := rfl
theorem R2 (x : Str × List Str) (k : Kd) : mkR (Wb x) k = (Wb x, k) := rfl
theorem Qm (x : Gr) (k : Kd) : mkR (Qk x) k = (Qk x, k) := rfl
theorem Wi (x : Gr) (k : Kd) : mkR (Wc x) k = (Wc x, k) := rfl
theorem Ju (x : List (List Str)) (k : Kd) : mkR (Ud x) k = (Ud x, k) := rfl
theorem Hu (x : List PyData) (k : Kd) : mkR (.tuple x) k = (.tuple x, k) := rfl
theorem Nd (a b : Str) : PyData.eqv (.str a) (.str b) = (a == b) := rfl
theorem Sa (a b : List PyData) : PyData.eqv (.list a) (.list b) = PyData.eqvAll a b := rfl
theorem Bp (a b : List PyData) : PyData.eqv (.tuple a) (.tuple b) = PyData.eqvAll a b := rfl
theorem Jy {α : Type} [DecidableEq α] (e : α → PyData) (he : ∀ a b, PyData.eqv (e a) (e b) = decide (a = b)) : ∀ xs ys : List α, PyData.eqvAll (xs.map e) (ys.map e) = decide (xs = ys)
 | [], [] => rfl
 | [], _ :: _ => rfl
 | _ :: _, [] => rfl
 | x :: xs, y :: ys => by
  show (PyData.eqv (e x) (e y) && PyData.eqvAll (xs.map e) (ys.map e)) = _
  rw [he, Jy e he xs ys, ← Bool.decide_and, decide_eq_decide, List.cons.injEq]
theorem eqv_L (a b : List Str) : PyData.eqv (Q5 a) (Q5 b) = decide (a = b) := by
 unfold Q5
 rw [Sa, Jy _ (fun a b => by rw [Nd]; rfl)]
theorem eqv_R (a b : Str × List Str) : PyData.eqv (Wb a) (Wb b) = decide (a = b) := by
 unfold Wb
 rw [Bp]
 show (PyData.eqv (.str a.1) (.str b.1) && (PyData.eqv (Q5 a.2) (Q5 b.2) && true)) = _
 rw [eqv_L, Bool.and_true]
 refine Eq.trans (Bool.decide_and (a.1 = b.1) _).symm ?_
 rw [decide_eq_decide]
 exact Prod.ext_iff.symm
theorem eqv_G (a b : Gr) : PyData.eqv (Qk a) (Qk b) = decide (a = b) := by
 unfold Qk
 rw [Sa, Jy _ eqv_R]
theorem Ld (n : Nat) (x : Str) : Ts n (.str x) = true := by cases n <;> rfl
theorem A2 (n : Nat) (x : List Str) : Ts (n + 1) (Q5 x) = true := by
 show (x.map PyData.str).all (Ts n) = true
 simp [Ld]
theorem shal_R (n : Nat) (x : Str × List Str) : Ts (n + 2) (Wb x) = true := by
 show ([PyData.str x.1, Q5 x.2] : List PyData).all (Ts (n + 1)) = true
 simp [Ld, A2]
theorem shal_G (n : Nat) (x : Gr) : Ts (n + 3) (Qk x) = true := by
 show (x.map Wb).all (Ts (n + 2)) = true
 simp [shal_R]
theorem Jl (neg : Bool) (a b : List Str) (k j : Kd) : eqD neg (Q5 a, k) (Q5 b, j) = some (.bool (neg ^^ decide (a = b)), .fr 9) := by
 simp [eqD, A2, eqv_L]
theorem Hf (neg : Bool) (a b : Gr) (k j : Kd) : eqD neg (Qk a, k) (Qk b, j) = some (.bool (neg ^^ decide (a = b)), .fr 9) := by
 simp [eqD, shal_G, eqv_G]
theorem T9 (neg : Bool) (a b : Str) (k j : Kd) : eqD neg (.str a, k) (.str b, j) = some (.bool (neg ^^ decide (a = b)), .fr 9) := by
 simp only [eqD, Ld, Nd, Bool.and_self, if_true]
 rfl
theorem Uc (neg : Bool) (a b : Bool) (k j : Kd) : eqD neg (.bool a, k) (.bool b, j) = some (.bool (neg ^^ decide (a = b)), .fr 9) := by
 cases a <;> cases b <;> cases neg <;> rfl
theorem G3 (neg : Bool) (a b : Int) (k j : Kd) : eqD neg (.int a, k) (.int b, j) = some (.bool (neg ^^ decide (a = b)), .fr 9) := by
 rfl
theorem any_str (x : Str) (xs : List Str) : ((xs.map PyData.str).any fun y => PyData.eqv y (.str x)) = decide (x ∈ xs) := by
 rw [List.any_map]
 induction xs with
 | nil => rfl
 | cons y ys ih =>
  simp only [List.any_cons, ih, Function.comp_apply, Nd, List.mem_cons]
  by_cases h1 : x = y
  ·subst h1; simp
  ·have : (y == x) = false := by simpa using fun q => h1 q.symm
   simp [this, h1]
theorem Ws (neg : Bool) (x : Str) (xs : List Str) (k j : Kd) : inD neg (.str x, k) (Q5 xs, j) = some (.bool (neg ^^ decide (x ∈ xs)), .fr 9) := by
 show (if Ts 3 (.str x) && (xs.map PyData.str).all (Ts 3) then some (PyData.bool (neg ^^ (xs.map PyData.str).any fun y => PyData.eqv y (.str x)), Kd.fr 9) else none) = _
 rw [any_str]
 simp [Ld]
theorem Rb {β : Type} (e : β → PyData) (x : Str) : ∀ kvs : List (Str × β), Wf x (kvs.map fun p => (PyData.str p.1, e p.2)) = (kvs.lookup x).map e
 | [] => rfl
 | (y, v) :: r => by
  show (if y = x then some (e v) else Wf x (r.map fun p => (PyData.str p.1, e p.2))) = _
  rw [Rb e x r, List.lookup_cons]
  by_cases h : y = x
  ·rw [if_pos h, h, beq_self_eq_true]; rfl
  ·rw [if_neg h, beq_false_of_ne (Ne.symm h)]
theorem Jj (neg : Bool) (x : Str) (kvs : Gr) (k j : Kd) : inD neg (.str x, k) (Wc kvs, j) = some (.bool (neg ^^ (kvs.lookup x).isSome), .fr 9) := by
 show some (PyData.bool (neg ^^ (Wf x (kvs.map fun p => (PyData.str p.1, Q5 p.2))).isSome), Kd.fr 9) = _
 rw [Rb]
 simp
theorem N4 (x : Str) (kvs : Gr) (k j : Kd) : Th (Wc kvs, k) (.str x, j) = (kvs.lookup x).map fun v => (Q5 v, k.item) := by
 show (Wf x (kvs.map fun p => (PyData.str p.1, Q5 p.2))).map (fun d => mkR d k.item) = _
 rw [Rb, Option.map_map]
 rfl
theorem W1 (r : Str × List Str) (k : Nat) (j : Kd) : Th (Wb r, .fr k) (.int 0, j) = some (.str r.1, .fr 9) := rfl
theorem Rf (r : Str × List Str) (k : Nat) (j : Kd) : Th (Wb r, .fr k) (.int 1, j) = some (Q5 r.2, .fr 0) := rfl
theorem Zo (xs : List Str) (n : Nat) (k j : Kd) : Th (Q5 xs, k) (.int n, j) = (xs[n]?).map fun x => (.str x, .fr 9) := by
 show (if 0 ≤ (n : Int) then ((xs.map PyData.str)[(n : Int).toNat]?).map fun d => mkR d k.item else none) = _
 rw [if_pos (Int.natCast_nonneg n), Int.toNat_natCast, List.getElem?_map, Option.map_map]
 rfl
theorem Zp (xs : Gr) (n : Nat) (k : Nat) (j : Kd) : Th (Qk xs, .fr k) (.int n, j) = (xs[n]?).map fun x => (Wb x, .fr 0) := by
 show (if 0 ≤ (n : Int) then ((xs.map Wb)[(n : Int).toNat]?).map fun d => mkR d (Kd.fr k).item else none) = _
 rw [if_pos (Int.natCast_nonneg n), Int.toNat_natCast, List.getElem?_map, Option.map_map]
 rfl
theorem Eg (xs : List (List Str)) (n : Nat) (k : Nat) (j : Kd) : Th (Ud xs, .fr k) (.int n, j) = (xs[n]?).map fun x => (Q5 x, .fr 0) := by
 show (if 0 ≤ (n : Int) then ((xs.map Q5)[(n : Int).toNat]?).map fun d => mkR d (Kd.fr k).item else none) = _
 rw [if_pos (Int.natCast_nonneg n), Int.toNat_natCast, List.getElem?_map, Option.map_map]
 rfl
theorem Rd (g : Gr) (k : Nat) : Y5 (Qk g, .fr k) = some (g.map Wb) := rfl
theorem Wg (xs : List Str) (k : Nat) : Y5 (Q5 xs, .fr k) = some (xs.map .str) := rfl
theorem Db (xs : List (List Str)) (k : Nat) : Y5 (Ud xs, .fr k) = some (xs.map Q5) := rfl
theorem U1 (g : Gr) (k : Nat) : Lr (Qk g, .fr k) = some (g.map Wb, 0) := rfl
theorem Yn (xs : List Str) (k : Nat) : Lr (Q5 xs, .fr k) = some (xs.map .str, 0) := rfl
theorem Mh (g : Gr) (k : Kd) : Mi (Qk g, k) = some (.int g.length, .fr 9) := by
 show some (PyData.int ((g.map Wb).length : Nat), Kd.fr 9) = _
 rw [List.length_map]
theorem Y3 (g : List Str) (k : Kd) : Mi (Q5 g, k) = some (.int g.length, .fr 9) := by
 show some (PyData.int ((g.map PyData.str).length : Nat), Kd.fr 9) = _
 rw [List.length_map]
theorem Xp (a b : List Str) (k j : Kd) (hk : k.rd1 = true) (hj : j.rd1 = true) (h : a.length + b.length ≤ lim) : Xq (Q5 a, k) (Q5 b, j) = some (Q5 (a ++ b), .fr 1) := by
 show (if k.rd1 && j.rd1 && decide ((a.map PyData.str).length + (b.map PyData.str).length ≤ lim) then some (PyData.list (a.map PyData.str ++ b.map PyData.str), Kd.fr 1) else none) = _
 simp [hk, hj, h, Q5]
theorem Zv (a b : Gr) (k j : Kd) (hk : k.rd1 = true) (hj : j.rd1 = true) (h : a.length + b.length ≤ lim) : Xq (Qk a, k) (Qk b, j) = some (Qk (a ++ b), .fr 1) := by
 show (if k.rd1 && j.rd1 && decide ((a.map Wb).length + (b.map Wb).length ≤ lim) then some (PyData.list (a.map Wb ++ b.map Wb), Kd.fr 1) else none) = _
 simp [hk, hj, h, Qk]
theorem K5 : ∀ xs : List Str, Xs (xs.map .str) = some xs
 | [] => rfl
 | x :: xs => congrArg (Option.map (x :: ·)) (K5 xs)
theorem Zz (xs : List Str) (k : Kd) (h : xs.length < 64) : Vu (Q5 xs, k) = some (Q5 (Uj xs), .fr 1) := by
 show (if (xs.map PyData.str).length < 64 then (Xs (xs.map .str)).map fun ss => (PyData.list ((Uj ss).map .str), Kd.fr 1) else none) = _
 simp [h, K5, Q5]
theorem Uy : V0 [] = some (Q5 [], .fr 9) := rfl
theorem lst0G : V0 [] = some (Qk [], .fr 9) := rfl
theorem Vf (x : Str) : V0 [(.str x, .fr 9)] = some (Q5 [x], .fr 1) := rfl
theorem Xm (xs : List Str) (x : Str) (h : xs.length + 1 ≤ lim) : Ft (some (some (Q5 xs, 1))) (.str x) = some (Q5 (xs ++ [x]), 1) := by
 show (if (xs.map PyData.str).length + 1 ≤ lim then some (PyData.list (xs.map PyData.str ++ [.str x]), 1) else none) = _
 simp [h, Q5]
theorem Pp (xs : Gr) (x : Str × List Str) (h : xs.length + 1 ≤ lim) : Ft (some (some (Qk xs, 1))) (Wb x) = some (Qk (xs ++ [x]), 1) := by
 show (if (xs.map Wb).length + 1 ≤ lim then some (PyData.list (xs.map Wb ++ [Wb x]), 1) else none) = _
 simp [h, Qk]
theorem Et (xs : List (List Str)) (x : List Str) (h : xs.length + 1 ≤ lim) : Ft (some (some (Ud xs, 1))) (Q5 x) = some (Ud (xs ++ [x]), 1) := by
 show (if (xs.map Q5).length + 1 ≤ lim then some (PyData.list (xs.map Q5 ++ [Q5 x]), 1) else none) = _
 simp [h, Ud]
noncomputable def R4 {β : Type} (kvs : List (Str × β)) (k : Str) (v : β) : List (Str × β) :=
 if (kvs.lookup k).isSome then kvs.map (fun p => if p.1 = k then (p.1, v) else p) else kvs ++ [(k, v)]
theorem Le {β : Type} (e : β → PyData) (k : Str) (v : β) : ∀ kvs : List (Str × β), Uv k (e v) (kvs.map fun p => (PyData.str p.1, e p.2)) = (kvs.map fun p => if p.1 = k then (p.1, v) else p).map fun p => (PyData.str p.1, e p.2)
 | [] => rfl
 | (y, u) :: r => by
  refine Eq.trans (congrArg (_ :: ·) (Le e k v r)) (congrArg (· :: _) ?_)
  show (if y = k then _ else _) = _
  by_cases h : y = k
  ·rw [if_pos h]; simp only [if_pos h]
  ·rw [if_neg h]; simp only [if_neg h]
theorem Va {β : Type} (e : β → PyData) (kvs : List (Str × β)) (k : Str) (v : β) : Xe (kvs.map fun p => (PyData.str p.1, e p.2)) k (e v) = (R4 kvs k v).map fun p => (PyData.str p.1, e p.2) := by
 unfold Xe R4
 rw [Rb, Option.isSome_map]
 split
 ·exact Le e k v kvs
 ·simp
theorem I8 (kvs : Gr) (x : Str) (v : List Str) (k : Kd) (h : kvs.length + 1 ≤ lim) (hk : k.sh = true) : U0 (some (some (Wc kvs, 1))) x (Q5 v, k) = some (Wc (R4 kvs x v), 1) := by
 show (if decide ((kvs.map fun p => (PyData.str p.1, Q5 p.2)).length + 1 ≤ lim) && k.sh then some (PyData.dict (Xe (kvs.map fun p => (PyData.str p.1, Q5 p.2)) x (Q5 v)), 1) else none) = _
 rw [Va]
 simp [h, hk, Wc]
theorem Q1 (b : Bool) (k : Kd) : Wm (.bool b, k) = some b := rfl
theorem Wt (b : Str) (k : Kd) : Uf (.str b, k) = some b := rfl
theorem cov_L (n : Nat) (xs : List Str) : cov (n + 1) (Q5 xs) = true := by
 show (xs.map PyData.str).all (cov n) = true
 simp only [List.all_map, List.all_eq_true, Function.comp_apply]
 intro x _
 cases n <;> rfl
theorem Yi (xs : List Str) (k : Nat) (h : 1 ≤ k) : Z4 1 (Q5 xs, .fr k) = some (Q5 xs, 1) := by
 simp [Z4, cov_L, Kd.least, h]
 rfl
theorem fl_L (xs : List Str) : fl 1 (Q5 xs) = true := by
 exact List.all_eq_true.mpr fun _ _ => rfl
theorem fl_D (kvs : Gr) : fl 1 (Wc kvs) = true := by
 exact List.all_eq_true.mpr fun _ _ => rfl
theorem kd0 : Qf 0 = [0] := rfl
theorem kd1 : Qf 1 = [0] := rfl
theorem kd2 : Qf 2 = [1, 1] := rfl
theorem kd3 : Qf 3 = [0, 0] := rfl
theorem kd4 : Qf 4 = [0] := rfl
theorem kd5 : Qf 5 = [0, 1, 0] := rfl
theorem kd6 : Qf 6 = [0] := rfl
theorem kd7 : Qf 7 = [0] := rfl
theorem kd8 : Qf 8 = [0] := rfl
theorem kd9 : Qf 9 = [0] := rfl
theorem kd10 : Qf 10 = [0] := rfl
theorem kd11 : Qf 11 = [0, 0, 0, 3] := rfl
theorem kd12 : Qf 12 = [0, 0] := rfl
theorem kd13 : Qf 13 = [0, 0, 0] := rfl
theorem kd14 : Qf 14 = [0, 0] := rfl
theorem O3 : Qf 15 = [0] := rfl
theorem kd16 : Qf 16 = [0] := rfl
theorem kd17 : Qf 17 = [0] := rfl
theorem kd18 : Qf 18 = [0, 0] := rfl
theorem kd19 : Qf 19 = [0, 0] := rfl
theorem kd20 : Qf 20 = [0] := rfl
theorem Ml : Qf 21 = [0, 0, 0] := rfl
theorem kd22 : Qf 22 = [0] := rfl
theorem kd23 : Qf 23 = [0] := rfl
theorem kd24 : Qf 24 = [0, 0, 0] := rfl
theorem O2 : Qf 25 = [0, 0] := rfl
theorem kd26 : Qf 26 = [0, 0] := rfl
theorem kd27 : Qf 27 = [0, 0, 0] := rfl
theorem O1 : Qf 28 = [0, 0, 0] := rfl
theorem kd29 : Qf 29 = [0, 0, 0] := rfl
theorem kd30 : Qf 30 = [0, 0] := rfl
theorem kd31 : Qf 31 = [0, 0, 0] := rfl
theorem kd32 : Qf 32 = [0, 0, 0, 0] := rfl
theorem kd33 : Qf 33 = [0] := rfl
theorem forD_nx {step : Sg → PyData → Option Out} {x : PyData} {xs : List PyData} {σ σ' : Sg} (h : step σ x = some (.next σ')) : Tu step (x :: xs) σ = Tu step xs σ' := by
 show (match step σ x with | some (.next σ') => Tu step xs σ' | some (.brk σ') => some (.next σ') | some (.ret d k) => some (.ret d k) | none => none) = _
 rw [h]
theorem Qn {α β : Type} {step : Sg → PyData → Option Out} (enc : β → PyData) (mk : α → Sg) (f : α → β → α) : ∀ (xs : List β) (a : α),
  (∀ pre x post, xs = pre ++ x :: post → step (mk (pre.foldl f a)) (enc x) = some (.next (mk (f (pre.foldl f a) x)))) → Tu step (xs.map enc) (mk a) = some (.next (mk (xs.foldl f a)))
 | [], a, _ => rfl
 | x :: xs, a, h => by
  refine (forD_nx (h [] x xs rfl)).trans (Qn enc mk f xs (f a x) fun pre y post e => h (x :: pre) y post (by rw [e]; rfl))
section
variable {Φ : Fns} {ow : List Nat}
noncomputable def Aq (Φ : Fns) (ow : List Nat) (i : Nat) (r : StL) (σ : Sg) (p : PyData × Nat) : Option Out := evB Φ ow r (σ.set i (some p))
noncomputable def kTup (Φ : Fns) (ow : List Nat) (i j : Nat) (r : StL) (σ : Sg) (p : PyData × PyData) : Option Out := evB Φ ow r ((σ.set i (some (p.1, 0))).set j (some (p.2, 0)))
noncomputable def kApp (Φ : Fns) (ow : List Nat) (i : Nat) (r : StL) (σ : Sg) (d : PyData) : Option Out := (Ft σ[i]? d).bind (Aq Φ ow i r σ)
noncomputable def kKey2 (Φ : Fns) (ow : List Nat) (i : Nat) (r : StL) (σ : Sg) (v : Res) (x : Str) : Option Out := (U0 σ[i]? x v).bind (Aq Φ ow i r σ)
noncomputable def kKey (Φ : Fns) (ow : List Nat) (i : Nat) (k : Ex) (r : StL) (σ : Sg) (v : Res) : Option Out := ((evE Φ k σ).bind Uf).bind (kKey2 Φ ow i r σ v)
noncomputable def kNxt (Φ : Fns) (ow : List Nat) (r : StL) (σ : Sg) : Option Out := evB Φ ow r σ
noncomputable def kIf (Φ : Fns) (ow : List Nat) (a b r : StL) (σ : Sg) (t : Bool) : Option Out := Out.andThen (if t then evB Φ ow a σ else evB Φ ow b σ) (kNxt Φ ow r)
noncomputable def kClr (Φ : Fns) (ow : List Nat) (i : Nat) (r : StL) (σ : Sg) : Option Out := evB Φ ow r (σ.set i none)
noncomputable def kClr2 (Φ : Fns) (ow : List Nat) (i j : Nat) (r : StL) (σ : Sg) : Option Out := evB Φ ow r ((σ.set i none).set j none)
noncomputable def kF1 (Φ : Fns) (ow : List Nat) (i : Nat) (body r : StL) (σ : Sg) (xs : List PyData) : Option Out := Out.andThen (Tu (fun σ x => (evB Φ ow body (σ.set i (some (x, 0)))).map (Out.clr i)) xs σ) (kClr Φ ow i r)
noncomputable def kF2 (Φ : Fns) (ow : List Nat) (i j : Nat) (body r : StL) (σ : Sg) (xs : List PyData) : Option Out := Out.andThen (Tu (fun σ x => (V4 (x, .fr 0)).bind fun p => (evB Φ ow body ((σ.set i (some (p.1, 0))).set j (some (p.2, 0)))).map fun o => Out.clr j (Out.clr i o)) xs σ) (kClr2 Φ ow i j r)
theorem Qg {σ : Sg} : evB Φ ow .nil σ = some (.next σ) := rfl
theorem Qd {i m e r} {σ : Sg} : evB Φ ow (.set i m e r) σ = ((evE Φ e σ).bind (Z4 m)).bind (Aq Φ ow i r σ) := rfl
theorem Sp {i j e r} {σ : Sg} : evB Φ ow (.tup i j e r) σ = ((evE Φ e σ).bind V4).bind (kTup Φ ow i j r σ) := rfl
theorem Y9 {i e r} {σ : Sg} : evB Φ ow (.app i e r) σ = ((evE Φ e σ).bind shD).bind (kApp Φ ow i r σ) := rfl
theorem Xy {i k e r} {σ : Sg} : evB Φ ow (.setKey i k e r) σ = (evE Φ e σ).bind (kKey Φ ow i k r σ) := rfl
theorem Qw {c a b r} {σ : Sg} : evB Φ ow (.ifs c a b r) σ = ((evE Φ c σ).bind Wm).bind (kIf Φ ow a b r σ) := rfl
theorem W6 {rng i it body r} {σ : Sg} : evB Φ ow (.for1 rng i it body r) σ = ((evE Φ it σ).bind (M8 rng)).bind (kF1 Φ ow i body r σ) := rfl
theorem L5 {i j it body r} {σ : Sg} : evB Φ ow (.for2 i j it body r) σ = ((evE Φ it σ).bind Y5).bind (kF2 Φ ow i j body r σ) := rfl
theorem Yo {c body r} {σ : Sg} : evB Φ ow (.while c body r) σ = Out.andThen (Y1 (fun σ => (evE Φ c σ).bind Wm) (fun σ => evB Φ ow body σ) Hq σ) (kNxt Φ ow r) := rfl
theorem Qz {i r} {σ : Sg} : evB Φ ow (.forget i r) σ = evB Φ ow r (σ.set i none) := rfl
theorem Hj {σ : Sg} : evB Φ ow .brk σ = some (.brk σ) := rfl
theorem Qc {i r} {σ : Sg} {p} : Aq Φ ow i r σ p = evB Φ ow r (σ.set i (some p)) := rfl
theorem Sr {i j r} {σ : Sg} {p q} : kTup Φ ow i j r σ (p, q) = evB Φ ow r ((σ.set i (some (p, 0))).set j (some (q, 0))) := rfl
theorem Yc {i r} {σ : Sg} {d} : kApp Φ ow i r σ d = (Ft σ[i]? d).bind (Aq Φ ow i r σ) := rfl
theorem Xz {i k r} {σ : Sg} {v} : kKey Φ ow i k r σ v = ((evE Φ k σ).bind Uf).bind (kKey2 Φ ow i r σ v) := rfl
theorem Ui {i r} {σ : Sg} {v x} : kKey2 Φ ow i r σ v x = (U0 σ[i]? x v).bind (Aq Φ ow i r σ) := rfl
theorem Wk {a b r} {σ : Sg} : kIf Φ ow a b r σ true = Out.andThen (evB Φ ow a σ) (kNxt Φ ow r) := rfl
theorem W3 {a b r} {σ : Sg} : kIf Φ ow a b r σ false = Out.andThen (evB Φ ow b σ) (kNxt Φ ow r) := rfl
theorem Ql {r} {σ : Sg} : kNxt Φ ow r σ = evB Φ ow r σ := rfl
theorem Wp {i r} {σ : Sg} : kClr Φ ow i r σ = evB Φ ow r (σ.set i none) := rfl
theorem Kw {i j r} {σ : Sg} : kClr2 Φ ow i j r σ = evB Φ ow r ((σ.set i none).set j none) := rfl
theorem Rn {i body r} {σ : Sg} {xs} : kF1 Φ ow i body r σ xs = Out.andThen (Tu (fun σ x => (evB Φ ow body (σ.set i (some (x, 0)))).map (Out.clr i)) xs σ) (kClr Φ ow i r) := rfl
theorem Py {i j body r} {σ : Sg} {xs} : kF2 Φ ow i j body r σ xs = Out.andThen (Tu (fun σ x => (V4 (x, .fr 0)).bind fun p => (evB Φ ow body ((σ.set i (some (p.1, 0))).set j (some (p.2, 0)))).map fun o => Out.clr j (Out.clr i o)) xs σ) (kClr2 Φ ow i j r) := rfl
theorem Q8 {σ : Sg} {f} : Out.andThen (some (.next σ)) f = f σ := rfl
theorem Za {d k} {f} : Out.andThen (some (.ret d k)) f = some (.ret d k) := rfl
theorem H0 {σ : Sg} {f} : Out.andThen (some (.brk σ)) f = some (.brk σ) := rfl
noncomputable def kRet (r : Res) : Option Out := match r with
 | (d, .fr k) => some (.ret d k)
 | (d, .bor 0) => some (.ret d 0)
 | _ => none
theorem R3 {e} {σ : Sg} : evB Φ ow (.ret e) σ = (evE Φ e (Wr ow σ)).bind kRet := rfl
theorem Rl {d k} : kRet (d, .fr k) = some (.ret d k) := rfl
theorem Px {d} : kRet (d, .bor 0) = some (.ret d 0) := rfl
theorem Zt {i} {σ : Sg} : evB Φ ow (.retV i) σ = (match σ[i]? with | some (some (d, n)) => some (.ret d n) | _ => none) := rfl
theorem G4 {i r} {σ : Sg} : evB Φ ow (.share i r) σ = (match σ[i]? with | some (some (d, _)) => evB Φ ow r (σ.set i (some (d, 0))) | _ => none) := rfl
theorem G5 {i t k r} {σ : Sg} : evB Φ ow (.als i t k r) σ = ((evE Φ k σ).bind Uf).bind fun x => (K1 σ[t]? x).bind fun p => Out.als i t p.1 x (evB Φ ow r ((σ.set t none).set i (some (p.2, 1)))) := rfl
theorem Np {i k1 k2 k3 b r} {σ : Sg} : evB Φ ow (.setPath i k1 k2 k3 b r) σ = ((evE Φ k1 σ).bind Uf).bind fun x => ((evE Φ k2 σ).bind Vc).bind fun n => ((evE Φ k3 σ).bind Vc).bind fun m => (V7 σ[i]? x n m b).bind (Aq Φ ow i r σ) := rfl
theorem Q6 (d : PyData) (n : Nat) : Z4 0 (d, .fr n) = some (d, 0) := rfl
noncomputable def Oq : Option (Option (PyData × Nat)) → Option Res
 | some (some (d, n)) => some (mkR d (if n = 0 then .fr 0 else .bor n))
 | _ => none
noncomputable def gtD (x y : Res) : Option Res := ltD y x
noncomputable def pairD (x y : Res) : Option Res := if x.2.sh && y.2.sh then some (.tuple [x.1, y.1], .fr 0) else none
noncomputable def bin (f : Res → Res → Option Res) (a b : Option Res) : Option Res := a.bind fun x => b.bind fun y => f x y
noncomputable def tri (f : Res → Res → Res → Option Res) (a b c : Option Res) : Option Res := a.bind fun x => b.bind fun y => c.bind fun z => f x y z
noncomputable def consR (a : Option Res) (b : Option (List Res)) : Option (List Res) := a.bind fun x => b.map fun xs => x :: xs
noncomputable def resR (x : Option (PyData × Nat)) : Option Res := x.map fun r => mkR r.1 (.fr r.2)
noncomputable def semR (Φ : Fns) (f : Nat) (ds : Option (List PyData)) : Option Res := ds.bind fun ds => (Φ.sem f ds).map fun r => mkR r.1 (.fr r.2)
noncomputable def callR (Φ : Fns) (f : Nat) (rs : Option (List Res)) : Option Res := rs.bind fun rs => (Yp rs (Φ.kinds f)).bind fun ds => (Φ.sem f ds).map fun r => mkR r.1 (.fr r.2)
noncomputable def notR (a : Option Bool) : Option Res := a.map fun x => (.bool (!x), .fr 9)
noncomputable def bopR (a : Option Bool) : Option Res := a.map fun x => (.bool x, .fr 9)
noncomputable def fComp (Φ : Fns) (deep : Bool) (x : Nat) (ifs : ExL) (elt : Ex) (σ : Sg) (n : Nat) (d : PyData) : Option (Option PyData) :=
 (Ub Φ ifs (σ.set x (some (d, n)))).bind fun ok => if ok then
     (evE Φ elt (σ.set x (some (d, n)))).bind fun r => if r.2.sh && (!deep || r.2.least 1) then some (some r.1) else none
    else some none
noncomputable def kComp (Φ : Fns) (deep : Bool) (x : Nat) (ifs : ExL) (elt : Ex) (σ : Sg) (p : List PyData × Nat) : Option Res := (Qv (fComp Φ deep x ifs elt σ p.2) p.1).map fun ds => (.list ds, .fr (if deep then 2 else 1))
theorem Q2 {i} {σ : Sg} : evE Φ (.var i) σ = Oq σ[i]? := rfl
theorem v0 {d} : Oq (some (some (d, 0))) = some (mkR d (.fr 0)) := rfl
theorem v1 {d} : Oq (some (some (d, 1))) = some (mkR d (.bor 1)) := rfl
theorem v2 {d} : Oq (some (some (d, 2))) = some (mkR d (.bor 2)) := rfl
theorem v3 {d} : Oq (some (some (d, 3))) = some (mkR d (.bor 3)) := rfl
theorem Qq {i} {σ : Sg} : evE Φ (.int i) σ = some (.int i, .fr 9) := rfl
theorem Ux {x} {σ : Sg} : evE Φ (.str x) σ = if x.length ≤ lim && PyData.strOk x then some (.str x, .fr 9) else none := rfl
theorem Wq {b} {σ : Sg} : evE Φ (.bool b) σ = some (.bool b, .fr 9) := rfl
theorem Gy {n x} {σ : Sg} : evE Φ (.gstr n x) σ = if x.length ≤ lim && PyData.strOk x then some (.str x, .fr 9) else none := rfl
theorem Wv {a b} {σ : Sg} : evE Φ (.add a b) σ = bin Xq (evE Φ a σ) (evE Φ b σ) := rfl
theorem Eb {a b} {σ : Sg} : evE Φ (.sub a b) σ = bin I0 (evE Φ a σ) (evE Φ b σ) := rfl
theorem Gx {a b} {σ : Sg} : evE Φ (.mod a b) σ = bin D0 (evE Φ a σ) (evE Φ b σ) := rfl
theorem Gz {a b} {σ : Sg} : evE Φ (.fdiv a b) σ = bin He (evE Φ a σ) (evE Φ b σ) := rfl
theorem B8 {a b} {σ : Sg} : evE Φ (.mul a b) σ = bin Mg (evE Φ a σ) (evE Φ b σ) := rfl
theorem Mf {a b} {σ : Sg} : evE Φ (.lt a b) σ = bin ltD (evE Φ a σ) (evE Φ b σ) := rfl
theorem Ir {a b} {σ : Sg} : evE Φ (.gt a b) σ = bin gtD (evE Φ a σ) (evE Φ b σ) := rfl
theorem Qr {a b} {σ : Sg} : evE Φ (.idx a b) σ = bin Th (evE Φ a σ) (evE Φ b σ) := rfl
theorem Uo {a b} {σ : Sg} : evE Φ (.cutFrom a b) σ = bin X9 (evE Φ a σ) (evE Φ b σ) := rfl
theorem Vx {a b} {σ : Sg} : evE Φ (.cutTo a b) σ = bin Jz (evE Φ a σ) (evE Φ b σ) := rfl
theorem Rt {a b} {σ : Sg} : evE Φ (.pair a b) σ = bin pairD (evE Φ a σ) (evE Φ b σ) := rfl
theorem Tv {neg a b} {σ : Sg} : evE Φ (.eq neg a b) σ = bin (eqD neg) (evE Φ a σ) (evE Φ b σ) := rfl
theorem Qt {neg a b} {σ : Sg} : evE Φ (.isin neg a b) σ = bin (inD neg) (evE Φ a σ) (evE Φ b σ) := rfl
theorem Vd {a} {σ : Sg} : evE Φ (.cutAll a) σ = (evE Φ a σ).bind J4 := rfl
theorem Yt {a} {σ : Sg} : evE Φ (.len a) σ = (evE Φ a σ).bind Mi := rfl
theorem U6 {a} {σ : Sg} : evE Φ (.sorted a) σ = (evE Φ a σ).bind Vu := rfl
theorem Cp {a} {σ : Sg} : evE Φ (.all a) σ = (evE Φ a σ).bind Pt := rfl
theorem Ec {a} {σ : Sg} : evE Φ (.any a) σ = (evE Φ a σ).bind Pr := rfl
theorem Yj {a} {σ : Sg} : evE Φ (.items a) σ = (evE Φ a σ).bind Km := rfl
theorem Td {a} {σ : Sg} : evE Φ (.dictOf a) σ = (evE Φ a σ).bind J3 := rfl
theorem Kb {a} {σ : Sg} : evE Φ (.join a) σ = (evE Φ a σ).bind Bf := rfl
theorem Yl {c es} {σ : Sg} : evE Φ (.bop c es) σ = bopR (X7 Φ c es σ) := rfl
theorem Wl {b} : bopR (some b) = some (.bool b, .fr 9) := rfl
theorem H9 {a} {σ : Sg} : evE Φ (.not a) σ = notR ((evE Φ a σ).bind Wm) := rfl
theorem Jt {b} : notR (some b) = some (.bool (!b), .fr 9) := rfl
theorem Wa {es} {σ : Sg} : evE Φ (.lst es) σ = (evL Φ es σ).bind V0 := rfl
theorem Yk {σ : Sg} : evE Φ .dict0 σ = some (.dict [], .fr 9) := rfl
theorem Co {a b c} {σ : Sg} : evE Φ (.get a b c) σ = tri getD (evE Φ a σ) (evE Φ b σ) (evE Φ c σ) := rfl
theorem Qj {f es} {σ : Sg} : evE Φ (.call f es) σ = callR Φ f (evL Φ es σ) := rfl
theorem Q3 {f x y} : bin f (some x) (some y) = f x y := rfl
theorem C0 {f x y z} : tri f (some x) (some y) (some z) = f x y z := rfl
theorem Bl {x y} : gtD x y = ltD y x := rfl
theorem Rs {x y i j} : pairD (x, .fr i) (y, .fr j) = some (.tuple [x, y], .fr 0) := rfl
theorem Q7 {x xs} : consR (some x) (some xs) = some (x :: xs) := rfl
theorem c1 {f rs} : callR Φ f (some rs) = semR Φ f (Yp rs (Φ.kinds f)) := rfl
theorem c2 {f ds} : semR Φ f (some ds) = resR (Φ.sem f ds) := rfl
theorem c3 {d k} : resR (some (d, k)) = some (mkR d (.fr k)) := rfl
theorem Qh {σ : Sg} : evL Φ .nil σ = some [] := rfl
theorem Qe {e es} {σ : Sg} : evL Φ (.cons e es) σ = consR (evE Φ e σ) (evL Φ es σ) := rfl
theorem R6 {deep rng x it ifs elt} {σ : Sg} : evE Φ (.comp deep rng x it ifs elt) σ = ((evE Φ it σ).bind (Fc rng)).bind (kComp Φ deep x ifs elt σ) := rfl
theorem R8 {deep x ifs elt} {σ : Sg} {xs n} : kComp Φ deep x ifs elt σ (xs, n) = (Qv (fComp Φ deep x ifs elt σ n) xs).map fun ds => (.list ds, .fr (if deep then 2 else 1)) := rfl
theorem R5 {deep x ifs elt} {σ : Sg} {n d} : fComp Φ deep x ifs elt σ n d = (Ub Φ ifs (σ.set x (some (d, n)))).bind fun ok => if ok then
     (evE Φ elt (σ.set x (some (d, n)))).bind fun r => if r.2.sh && (!deep || r.2.least 1) then some (some r.1) else none
    else some none := rfl
theorem Zg {x y it1 it2 ifs elt} {σ : Sg} : evE Φ (.comp2 x y it1 it2 ifs elt) σ = ((evE Φ it1 σ).bind Y5).bind fun p =>
   (Wz (fun d => ((evE Φ it2 (σ.set x (some (d, 0)))).bind Y5).bind fun q =>
    Qv (fun e => (Ub Φ ifs ((σ.set x (some (d, 0))).set y (some (e, 0)))).bind fun ok => if ok then
     (evE Φ elt ((σ.set x (some (d, 0))).set y (some (e, 0)))).bind fun r => if leaf r.1 then some (some r.1) else none
     else some none) q) p).bind fun ds => if ds.length ≤ lim then some (.list ds, .fr 1) else none := rfl
theorem p1 {c e} {σ : Sg} : X7 Φ c (.cons e .nil) σ = (evE Φ e σ).bind Wm := rfl
theorem p2 {c e f fs} {σ : Sg} : X7 Φ c (.cons e (.cons f fs)) σ = ((evE Φ e σ).bind Wm).bind fun b => if b == c then X7 Φ c (.cons f fs) σ else some b := rfl
theorem i0 {σ : Sg} : Ub Φ .nil σ = some true := rfl
theorem i1 {e es} {σ : Sg} : Ub Φ (.cons e es) σ = ((evE Φ e σ).bind Wm).bind fun b => if b then Ub Φ es σ else some false := rfl
theorem Qi {i} {σ : Sg} : Out.clr i (.next σ) = .next (σ.set i none) := rfl
theorem Gv {i} {σ : Sg} : Out.clr i (.brk σ) = .brk (σ.set i none) := rfl
theorem H7 {i d k} : Out.clr i (.ret d k) = .ret d k := rfl
theorem Dc {n} : Kd.item (.fr n) = .fr 0 := rfl
theorem Dd : Kd.item (.bor 1) = .fr 0 := rfl
theorem it_2 : Kd.item (.bor 2) = .bor 1 := rfl
theorem it_3 : Kd.item (.bor 3) = .bor 2 := rfl
theorem X1 {d n} : shD (d, .fr n) = some d := rfl
theorem sh_0 {d} : shD (d, .bor 0) = some d := rfl
theorem U8 {n} : Kd.sh (.fr n) = true := rfl
theorem ks_0 : Kd.sh (.bor 0) = true := rfl
theorem Gl {r} : M8 true r = (Zn r).map (·.1) := rfl
theorem Tk {r} : M8 false r = Y5 r := rfl
theorem A6 {r} : Fc true r = Zn r := rfl
theorem X2 {r} : Fc false r = Lr r := rfl
theorem ag0 : Yp [] [] = some [] := rfl
theorem agf {d i r m ns} : Yp ((d, .fr i) :: r) (m :: ns) = (Yp r ns).map (d :: ·) := rfl
theorem ag1 {d r ns} : Yp ((d, .bor 1) :: r) (1 :: ns) = (Yp r ns).map (d :: ·) := rfl
theorem ag3 {d r ns} : Yp ((d, .bor 3) :: r) (3 :: ns) = (Yp r ns).map (d :: ·) := rfl
theorem fl0 {d} : fl 0 d = true := rfl
noncomputable def Ma (o : Option Out) : Option (PyData × Nat) := match o with
 | some (.ret d k) => some (d, k)
 | _ => none
theorem rr {d k} : Ma (some (.ret d k)) = some (d, k) := rfl
theorem Jr {F : Fs} {ds : List PyData} (h1 : ds.length = F.kinds.length) (h2 : (ds.zip F.kinds).all (fun p => fl p.2 p.1) = true) : Ja Φ F ds = Ma (evB Φ F.owns F.body (start F.kinds ds F.nv)) := if_pos ⟨h1, h2⟩
theorem z1 {F : Fs} {a} (h : F.kinds = [0]) : Ja Φ F [a] = Ma (evB Φ F.owns F.body (some (a, 0) :: List.replicate (F.nv - 1) none)) := (Jr (h ▸ rfl) (h ▸ rfl)).trans (h ▸ rfl)
theorem z2 {F : Fs} {a b} (h : F.kinds = [0, 0]) : Ja Φ F [a, b] = Ma (evB Φ F.owns F.body (some (a, 0) :: some (b, 0) :: List.replicate (F.nv - 2) none)) := (Jr (h ▸ rfl) (h ▸ rfl)).trans (h ▸ rfl)
theorem z3 {F : Fs} {a b c} (h : F.kinds = [0, 0, 0]) : Ja Φ F [a, b, c] = Ma (evB Φ F.owns F.body (some (a, 0) :: some (b, 0) :: some (c, 0) :: List.replicate (F.nv - 3) none)) := (Jr (h ▸ rfl) (h ▸ rfl)).trans (h ▸ rfl)
theorem z4 {F : Fs} {a b c d} (h : F.kinds = [0, 0, 0, 0]) : Ja Φ F [a, b, c, d] = Ma (evB Φ F.owns F.body (some (a, 0) :: some (b, 0) :: some (c, 0) :: some (d, 0) :: List.replicate (F.nv - 4) none)) := (Jr (h ▸ rfl) (h ▸ rfl)).trans (h ▸ rfl)
theorem zL {F : Fs} {a b : List Str} (h : F.kinds = [1, 1]) : Ja Φ F [Q5 a, Q5 b] = Ma (evB Φ F.owns F.body (some (Q5 a, 1) :: some (Q5 b, 1) :: List.replicate (F.nv - 2) none)) := (Jr (h ▸ rfl) (h ▸ (by simp only [List.zip_cons_cons, List.zip_nil_right, List.all_cons, List.all_nil, fl_L, Bool.and_self]))).trans (h ▸ rfl)
theorem zD {F : Fs} {a b : PyData} {c : Gr} (h : F.kinds = [0, 1, 0]) : Ja Φ F [a, Wc c, b] = Ma (evB Φ F.owns F.body (some (a, 0) :: some (Wc c, 1) :: some (b, 0) :: List.replicate (F.nv - 3) none)) := (Jr (h ▸ rfl) (h ▸ (by simp only [List.zip_cons_cons, List.zip_nil_right, List.all_cons, List.all_nil, fl_D, fl0, Bool.and_self]))).trans (h ▸ rfl)
theorem ltD_e {x y : Int} {k j} : ltD (.int x, k) (.int y, j) = some (.bool (decide (x < y)), .fr 9) := rfl
theorem subD_e {x y : Int} {k j} : I0 (.int x, k) (.int y, j) = some (.int (x - y), .fr 9) := rfl
theorem lea_f {k n} : Kd.least k (.fr n) = decide (k ≤ n) := rfl
theorem ph0 {f} : (Phi 0).kinds f = Qf f := rfl
theorem ph1 {f} : (Phi 1).kinds f = Qf f := rfl
theorem ph2 {f} : (Phi 2).kinds f = Qf f := rfl
theorem ph3 {f} : (Phi 3).kinds f = Qf f := rfl
theorem ph4 {f} : (Phi 4).kinds f = Qf f := rfl
theorem ph5 {f} : (Phi 5).kinds f = Qf f := rfl
theorem ph6 {f} : (Phi 6).kinds f = Qf f := rfl
theorem ph7 {f} : (Phi 7).kinds f = Qf f := rfl
theorem ph8 {f} : (Phi 8).kinds f = Qf f := rfl
theorem ph9 {f} : (Phi 9).kinds f = Qf f := rfl
theorem ph10 {f} : (Phi 10).kinds f = Qf f := rfl
theorem ph11 {f} : (Phi 11).kinds f = Qf f := rfl
theorem ph12 {f} : (Phi 12).kinds f = Qf f := rfl
theorem ph13 {f} : (Phi 13).kinds f = Qf f := rfl
theorem ph14 {f} : (Phi 14).kinds f = Qf f := rfl
theorem ph15 {f} : (Phi 15).kinds f = Qf f := rfl
theorem ph16 {f} : (Phi 16).kinds f = Qf f := rfl
theorem Ac {f} : (Phi 17).kinds f = Qf f := rfl
theorem Ab {f} : (Phi 18).kinds f = Qf f := rfl
theorem ph19 {f} : (Phi 19).kinds f = Qf f := rfl
theorem Ij {f} : (Phi 20).kinds f = Qf f := rfl
theorem ph21 {f} : (Phi 21).kinds f = Qf f := rfl
theorem ph22 {f} : (Phi 22).kinds f = Qf f := rfl
theorem ph23 {f} : (Phi 23).kinds f = Qf f := rfl
theorem Aa {f} : (Phi 24).kinds f = Qf f := rfl
theorem ph25 {f} : (Phi 25).kinds f = Qf f := rfl
theorem ph26 {f} : (Phi 26).kinds f = Qf f := rfl
theorem ph27 {f} : (Phi 27).kinds f = Qf f := rfl
theorem ph28 {f} : (Phi 28).kinds f = Qf f := rfl
theorem ph29 {f} : (Phi 29).kinds f = Qf f := rfl
theorem ph30 {f} : (Phi 30).kinds f = Qf f := rfl
theorem ph31 {f} : (Phi 31).kinds f = Qf f := rfl
theorem K7 {f} : (Phi 32).kinds f = Qf f := rfl
theorem Js {f} : (Phi 33).kinds f = Qf f := rfl
end
noncomputable def Tn (hs : List Str) (r : Str × List Str) : List Str := if r.1 ∈ hs then hs else hs ++ [r.1]
noncomputable def Q0 (g : Gr) : List Str := g.foldl Tn []
theorem Bk : ∀ (g : Gr) (hs : List Str), (g.foldl Tn hs).length ≤ hs.length + g.length
 | [], hs => by simp
 | r :: g, hs => by
  have := Bk g (Tn hs r)
  simp only [List.foldl_cons, List.length_cons]
  have h2 : (Tn hs r).length ≤ hs.length + 1 := by unfold Tn; split <;> simp
  lia
theorem run0 (g : Gr) (hg : g.length ≤ 1000) : Ja (Phi 0) f0 [Qk g] = some (Q5 (Q0 g), 1) := by
 rw [z1 (F := f0) rfl]
 dsimp only [f0, Nat.reduceSub, RS, RZ]
 (try dsimp only [Qd, Wa, Qh, OB, Uy])
 rw [Yi _ _ (by decide)]
 (try dsimp only [OB, Qc, SS, SZ, W6, Q2, GZ, v0, Qm, Tk, Rd, Rn])
 rw [Qn Wb (fun hs => [some (Qk g, 0), some (Q5 hs, 1), none]) Tn g [] ?_]
 ·(try dsimp only [Q8, Wp, SS, SZ, Zt, GS, GZ, rr])
  rfl
 ·intro pre r post e
  have hl := Bk pre []
  have hl2 : pre.length ≤ 1000 := by rw [e] at hg; simp at hg; lia
  generalize pre.foldl Tn [] = hs at hl ⊢
  (try dsimp only [f0_b0, SS, SZ, Qw, Qt, Qr, Q2, GS, GZ, v0, R2, Qq, Q3, W1, v1, Qb]; try simp only [Ws, Bool.true_xor, OB, Q1])
  by_cases hm : r.1 ∈ hs
  ·(try dsimp only [Tn]; try simp only [hm, decide_true, Bool.not_true, W3, Qg, Q8, Ql, OM, Qi, SS, SZ, if_true])
  ·(try dsimp only [Tn]; try simp only [hm, decide_false, Bool.not_false, Wk, Y9, Qr, Q2, GS, GZ, v0, R2, Qq, Q3, W1, OB, X1, Yc, if_false])
   rw [Xm _ _ (by simp at hl; unfold lim; lia)]
   (try dsimp only [OB, Qc, SS, SZ, Qg, Q8, Ql, OM, Qi])
theorem Hv (a b : Str) : leS a b = true ↔ a.cps.toList ≤ b.cps.toList := by
 unfold leS
 simp only [Bool.not_eq_true', decide_eq_false_iff_not]
 exact List.not_lt
theorem leS_tr (a b c : Str) (h1 : leS a b = true) (h2 : leS b c = true) : leS a c = true := by
 rw [Hv] at *
 exact List.le_trans h1 h2
theorem leS_tot (a b : Str) : (leS a b || leS b a) = true := by
 rw [Bool.or_eq_true, Hv, Hv]
 exact List.le_total _ _
theorem leS_anti (a b : Str) (h1 : leS a b = true) (h2 : leS b a = true) : a = b := by
 rw [Hv] at *
 have := List.le_antisymm h1 h2
 cases a; cases b
 simp only [Str.mk.injEq]
 exact Array.toList_inj.mp this
theorem X0 {x : Str} {l : List Str} : x ∈ Uj l ↔ x ∈ l := (List.mergeSort_perm l leS).mem_iff
theorem Fz (l : List Str) : (Uj l).length = l.length := (List.mergeSort_perm l leS).length_eq
theorem C6 {l : List Str} : (Uj l).Nodup ↔ l.Nodup := (List.mergeSort_perm l leS).nodup_iff
theorem M7 (l : List Str) : (Uj l).Pairwise fun a b => leS a b = true := List.pairwise_mergeSort leS_tr leS_tot l
theorem A0 {l l' : List Str} (s : l.Pairwise fun a b => leS a b = true) (s' : l'.Pairwise fun a b => leS a b = true) (n : l.Nodup) (n' : l'.Nodup) (h : ∀ x, x ∈ l ↔ x ∈ l') : l = l' :=
 List.Perm.eq_of_pairwise (fun a b _ _ h1 h2 => leS_anti a b h1 h2) s s' ((List.perm_ext_iff_of_nodup n n').mpr h)
structure Can (l : List Str) : Prop where
 sorted : l.Pairwise fun a b => leS a b = true
 nodup : l.Nodup
theorem Can.of {l : List Str} (n : l.Nodup) : Can (Uj l) := ⟨M7 l, C6.mpr n⟩
theorem Can.ext {l l' : List Str} (c : Can l) (c' : Can l') (h : ∀ x, x ∈ l ↔ x ∈ l') : l = l' := A0 c.sorted c'.sorted c.nodup c'.nodup h
noncomputable def Qy (u : List Str) (x : Str) : List Str := if x ∈ u then u else u ++ [x]
theorem Xn {u : List Str} {x : Str} (h : u.Nodup) : (Qy u x).Nodup := by
 unfold Qy
 split
 ·exact h
 ·rename_i q
  rw [List.nodup_append]
  exact ⟨h, by simp, fun a ha b hb e => by simp at hb; subst hb; subst e; exact q ha⟩
theorem Dy {u : List Str} {x y : Str} : y ∈ Qy u x ↔ y ∈ u ∨ y = x := by
 unfold Qy
 split
 ·rename_i q
  constructor
  ·exact .inl
  ·rintro (h | rfl)
   ·exact h
   ·exact q
 ·simp
theorem Zu : ∀ (l u : List Str), u.Nodup → (l.foldl Qy u).Nodup
 | [], u, h => h
 | x :: l, u, h => Zu l _ (Xn h)
theorem Zk {y : Str} : ∀ (l u : List Str), y ∈ l.foldl Qy u ↔ y ∈ u ∨ y ∈ l
 | [], u => by simp
 | x :: l, u => by
  rw [List.foldl_cons, Zk l, Dy]
  simp only [List.mem_cons, or_assoc]
theorem Xo (u : List Str) (x : Str) : (Qy u x).length ≤ u.length + 1 := by unfold Qy; split <;> simp
theorem Tj : ∀ (l u : List Str), (l.foldl Qy u).length ≤ u.length + l.length
 | [], u => by simp
 | x :: l, u => by
  have := Tj l (Qy u x)
  have := Xo u x
  simp only [List.foldl_cons, List.length_cons]
  lia
theorem Dg (g : Gr) : Q0 g = (g.map (·.1)).foldl Qy [] := by
 unfold Q0
 rw [List.foldl_map]
 rfl
theorem Wj (g : Gr) : (Q0 g).Nodup := by rw [Dg]; exact Zu _ _ List.nodup_nil
theorem Qa {g : Gr} {x : Str} : x ∈ Q0 g ↔ ∃ b, (x, b) ∈ g := by
 rw [Dg, Zk]
 simp
noncomputable def canon (l : List Str) : List Str := Uj (l.foldl Qy [])
theorem J5 (l : List Str) : Can (canon l) := Can.of (Zu _ _ List.nodup_nil)
theorem R1 {l : List Str} {x : Str} : x ∈ canon l ↔ x ∈ l := by unfold canon; rw [X0, Zk]; simp
theorem Oj (l : List Str) : (canon l).length ≤ l.length := by unfold canon; rw [Fz]; have := Tj l []; simpa using this
theorem Wo {U : List Str} : ∀ {l : List Str}, l.Nodup → (∀ x ∈ l, x ∈ U) → l.length ≤ U.length := fun {l} n h => by
 induction U generalizing l with
 | nil => cases l with | nil => simp | cons x l => exact absurd (h x (.head _)) (by simp)
 | cons u U ih =>
  have h1 : (l.erase u).Nodup := n.erase u
  have h2 : ∀ x ∈ l.erase u, x ∈ U := fun x hx => by
   have hne : x ≠ u := fun q => by subst q; exact (List.Nodup.not_mem_erase n) hx
   rcases List.mem_cons.mp (h x (List.mem_of_mem_erase hx)) with q | q
   ·exact absurd q hne
   ·exact q
  have h3 := ih h1 h2
  have h4 : l.length ≤ (l.erase u).length + 1 := by rw [List.length_erase]; split <;> lia
  simp only [List.length_cons]
  lia
theorem run2 (a b : List Str) (h : a.length + b.length < 64) : Ja (Phi 2) f2 [Q5 a, Q5 b] = some (Q5 (canon (a ++ b)), 1) := by
 rw [zL (F := f2) rfl]
 dsimp only [f2, Nat.reduceSub, RS, RZ]
 (try dsimp only [Qd, Wa, Qh, OB, Uy])
 rw [Yi _ _ (by decide)]
 (try dsimp only [OB, Qc, SS, SZ, W6, Wv, Q2, GZ, v1, Qb, GS, Q3])
 rw [Xp _ _ _ _ (by decide) (by decide) (by unfold lim; lia)]
 (try dsimp only [OB, Tk, Wg, Rn])
 rw [Qn PyData.str (fun u => [some (Q5 a, 1), some (Q5 b, 1), some (Q5 u, 1), none]) Qy (a ++ b) [] ?_]
 ·(try dsimp only [Q8, Wp, SS, SZ, R3, Wr, U6, Q2]; try simp only [List.mapIdx_cons, OM, Option.map_none, List.mapIdx_nil, GS, GZ])
  (try dsimp only [Nat.reduceAdd, List.contains_cons, beq_self_eq_true, List.contains_nil, Bool.or_false, dreduceIte, v0, Qb, OB])
  have hl := Tj (a ++ b) []
  rw [List.length_append, List.length_nil, Nat.zero_add] at hl
  rw [Zz _ _ (by lia)]
  rfl
 ·intro pre x post e
  have hl := Tj pre []
  have hl2 := congrArg List.length e
  simp only [List.length_append, List.length_cons] at hl2
  generalize pre.foldl Qy [] = u at hl ⊢
  (try dsimp only [f2_b0, SS, SZ, Qw, Qt, Q2, GS, GZ, v0, Q9, v1, Qb, Q3]; try simp only [Ws, Bool.true_xor, OB, Q1])
  by_cases hm : x ∈ u
  ·(try dsimp only [Qy]; try simp only [hm, decide_true, Bool.not_true, W3, Qg, Q8, Ql, OM, Qi, SS, SZ, if_true])
  ·(try dsimp only [Qy]; try simp only [hm, decide_false, Bool.not_false, Wk, Y9, Q2, GS, GZ, v0, Q9, OB, X1, Yc, if_false])
   rw [Xm _ _ (by simp at hl; unfold lim; lia)]
   (try dsimp only [OB, Qc, SS, SZ, Qg, Q8, Ql, OM, Qi])
theorem M9 {n : Nat} (hn : 2 < n) (a b : List Str) (h : a.length + b.length < 64) : (Phi n).sem 2 [Q5 a, Q5 b] = some (Q5 (canon (a ++ b)), 1) := by
 rw [W0 hn (F := f2) rfl, run2 a b h]
theorem Cb {n : Nat} (hn : 0 < n) (g : Gr) (h : g.length ≤ 1000) : (Phi n).sem 0 [Qk g] = some (Q5 (Q0 g), 1) := by
 rw [W0 hn (F := f0) rfl, run0 g h]
noncomputable def Yg (hs u : List Str) (s : Str) : List Str := if s ∈ hs then u else Qy u s
noncomputable def Yz (hs u : List Str) (r : Str × List Str) : List Str := r.2.foldl (Yg hs) u
noncomputable def Qx (g : Gr) : List Str := Uj (g.foldl (Yz (Q0 g)) [])
theorem Je (hs : List Str) : ∀ (l u : List Str), u.Nodup → (l.foldl (Yg hs) u).Nodup
 | [], u, h => h
 | x :: l, u, h => Je hs l _ (by unfold Yg; split; exact h; exact Xn h)
theorem Kz (hs : List Str) {y : Str} : ∀ (l u : List Str), y ∈ l.foldl (Yg hs) u ↔ y ∈ u ∨ (y ∈ l ∧ y ∉ hs)
 | [], u => by simp
 | x :: l, u => by
  rw [List.foldl_cons, Kz hs l]
  unfold Yg
  split
  ·rename_i q
   constructor
   ·rintro (h | h)
    ·exact .inl h
    ·exact .inr ⟨.tail _ h.1, h.2⟩
   ·rintro (h | ⟨h1, h2⟩)
    ·exact .inl h
    ·rcases List.mem_cons.mp h1 with rfl | h1
     ·exact absurd q h2
     ·exact .inr ⟨h1, h2⟩
  ·rename_i q
   rw [Dy]
   constructor
   ·rintro ((h | rfl) | h)
    ·exact .inl h
    ·exact .inr ⟨.head _, q⟩
    ·exact .inr ⟨.tail _ h.1, h.2⟩
   ·rintro (h | ⟨h1, h2⟩)
    ·exact .inl (.inl h)
    ·rcases List.mem_cons.mp h1 with rfl | h1
     ·exact .inl (.inr rfl)
     ·exact .inr ⟨h1, h2⟩
theorem V5 (hs : List Str) : ∀ (l u : List Str), (l.foldl (Yg hs) u).length ≤ u.length + l.length
 | [], u => by simp
 | x :: l, u => by
  have := V5 hs l (Yg hs u x)
  have h2 : (Yg hs u x).length ≤ u.length + 1 := by unfold Yg; split; lia; exact Xo u x
  simp only [List.foldl_cons, List.length_cons]
  lia
theorem Gf (hs : List Str) : ∀ (g : Gr) (u : List Str), u.Nodup → (g.foldl (Yz hs) u).Nodup
 | [], u, h => h
 | r :: g, u, h => Gf hs g _ (Je hs _ _ h)
theorem La (hs : List Str) {y : Str} : ∀ (g : Gr) (u : List Str), y ∈ g.foldl (Yz hs) u ↔ y ∈ u ∨ (∃ r ∈ g, y ∈ r.2) ∧ y ∉ hs
 | [], u => by simp
 | r :: g, u => by
  rw [List.foldl_cons, La hs g]
  unfold Yz
  rw [Kz]
  simp only [List.mem_cons, exists_eq_or_imp]
  constructor
  ·rintro ((h | h) | h)
   ·exact .inl h
   ·exact .inr ⟨.inl h.1, h.2⟩
   ·exact .inr ⟨.inr h.1, h.2⟩
  ·rintro (h | ⟨h1 | h1, h2⟩)
   ·exact .inl (.inl h)
   ·exact .inl (.inr ⟨h1, h2⟩)
   ·exact .inr ⟨h1, h2⟩
theorem R0 {g : Gr} {y : Str} : y ∈ Qx g ↔ (∃ r ∈ g, y ∈ r.2) ∧ y ∉ Q0 g := by unfold Qx; rw [X0, La]; simp
theorem Uk (hs : List Str) {m : Nat} : ∀ (g : Gr) (u : List Str), (∀ r ∈ g, r.2.length ≤ m) → (g.foldl (Yz hs) u).length ≤ u.length + g.length * m
 | [], u, _ => by simp
 | r :: g, u, h => by
  have h1 := Uk hs g (Yz hs u r) fun r' hr => h r' (.tail _ hr)
  have h2 := V5 hs r.2 u
  have h3 := h r (.head _)
  simp only [List.foldl_cons, List.length_cons]
  have : (Yz hs u r).length ≤ u.length + m := by unfold Yz; lia
  have e : (g.length + 1) * m = g.length * m + m := by rw [Nat.add_mul]; simp
  lia
theorem run1 (g : Gr) (hg : g.length ≤ 8) (hb : ∀ r ∈ g, r.2.length ≤ 4) : Ja (Phi 1) f1 [Qk g] = some (Q5 (Qx g), 1) := by
 rw [z1 (F := f1) rfl]
 dsimp only [f1, Nat.reduceSub, RS, RZ]
 (try dsimp only [Qd, Qj, Qe, Q2, GZ, v0, Qm, Qh, Q7, c1, ph1, kd0, agf, ag0, OM, c2])
 rw [Cb (by decide) g (by lia)]
 (try dsimp only [c3, Qb, OB, Q6, Qc, SS, SZ, Qd, Wa, Qh, Uy])
 rw [Yi _ _ (by decide)]
 (try dsimp only [OB, Qc, SS, SZ, W6, Q2, GZ, v0, Qm, Tk, Rd, Rn])
 rw [Qn Wb (fun u => [some (Qk g, 0), some (Q5 (Q0 g), 0), some (Q5 u, 1), none, none]) (Yz (Q0 g)) g [] ?_]
 ·(try dsimp only [Q8, Wp, SS, SZ, R3, Wr, U6, Q2]; try simp only [List.mapIdx_cons, OM, Option.map_none, List.mapIdx_nil, GS, GZ])
  (try dsimp only [Nat.reduceAdd, List.contains_cons, beq_self_eq_true, List.contains_nil, Bool.or_false, dreduceIte, v0, Qb, OB])
  have hl := Uk (Q0 g) g [] hb
  rw [Zz _ _ (by simp at hl; lia)]
  rfl
 ·intro pre r post e
  have hpre : ∀ r ∈ pre, r.2.length ≤ 4 := fun r hr => hb r (by rw [e]; simp [hr])
  have hl := Uk (Q0 g) pre [] hpre
  have hr := hb r (by rw [e]; simp)
  have hl2 : pre.length ≤ 8 := by rw [e] at hg; simp at hg; lia
  generalize pre.foldl (Yz (Q0 g)) [] = u at hl ⊢
  (try dsimp only [f1_b0, SS, SZ, W6, Qr, Q2, GS, GZ, v0, R2, Qq, Q3, Rf, OB, Tk, Wg, Rn])
  rw [Qn PyData.str (fun u => [some (Qk g, 0), some (Q5 (Q0 g), 0), some (Q5 u, 1), some (Wb r, 0), none]) (Yg (Q0 g)) r.2 u ?_]
  ·(try dsimp only [Q8, Wp, SS, SZ, Qg, OM, Qi])
   rfl
  ·intro pre' s post' e'
   have hl3 := V5 (Q0 g) pre' u
   have hl4 : pre'.length ≤ 4 := by rw [e'] at hr; simp at hr; lia
   generalize pre'.foldl (Yg (Q0 g)) u = u' at hl3 ⊢
   (try dsimp only [f1_b1, SS, SZ, Qw, Yl, p2, Qt, Q2, GS, GZ, v0, Q9, Qb, Q3, p1, v1]; try simp only [Ws, Bool.true_xor, OB, Q1])
   by_cases h1 : s ∈ Q0 g
   ·(try dsimp only [Yg]; try simp only [h1, decide_true, Bool.not_true, bft, BF, if_false, Wl, OB, Q1, W3, Qg, Q8, Ql, OM, Qi, SS, SZ, if_true])
   ·by_cases h2 : s ∈ u'
    ·(try dsimp only [Yg, Qy]; try simp only [h1, decide_false, Bool.not_false, beq_self_eq_true, h2, decide_true, Bool.not_true, if_true, Wl, OB, Q1, W3, Qg, Q8, Ql, OM, Qi, SS, SZ, if_false])
    ·(try simp only [h1, decide_false, Bool.not_false, beq_self_eq_true, h2, if_true, Wl, OB, Q1, Wk, Y9, Q2, GS, GZ, v0, Q9, X1, Yc])
     rw [Xm _ _ (by simp at hl; unfold lim; lia)]
     (try dsimp only [OB, Qc, SS, SZ, Qg, Q8, Ql, OM, Qi, Yg, Qy]; try simp only [h1, h2, if_false])
theorem sem1 {n : Nat} (hn : 1 < n) (g : Gr) (hg : g.length ≤ 8) (hb : ∀ r ∈ g, r.2.length ≤ 4) : (Phi n).sem 1 [Qk g] = some (Q5 (Qx g), 1) := by
 rw [W0 hn (F := f1) rfl, run1 g hg hb]
theorem Nx {cond : Sg → Option Bool} {body : Sg → Option Out} {n : Nat} {σ : Sg} : Y1 cond body (n + 1) σ = (match cond σ with
  | some true => (match body σ with
   | some (.next σ') => Y1 cond body n σ'
   | some (.brk σ') => some (.next σ')
   | some (.ret d k) => some (.ret d k)
   | none => none)
  | some false => some (.next σ)
  | none => none) := rfl
theorem Ur {α : Type} {cond : Sg → Option Bool} {body : Sg → Option Out} (mk : α → Sg) (c : α → Bool) (f : α → α) (I : α → Prop) (μ : α → Nat)
  (hc : ∀ a, I a → cond (mk a) = some (c a)) (hb : ∀ a, I a → c a = true → body (mk a) = some (.next (mk (f a))) ∧ I (f a) ∧ μ (f a) < μ a) :
  ∀ n a, I a → μ a < n → ∃ b, Y1 cond body n (mk a) = some (.next (mk b)) ∧ I b ∧ c b = false
 | 0, a, _, h => by lia
 | n + 1, a, hi, h => by
  rw [Nx, hc a hi]
  cases hca : c a with
  | false => exact ⟨a, rfl, hi, hca⟩
  | true =>
   obtain ⟨h1, h2, h3⟩ := hb a hi hca
   rw [h1]
   exact Ur mk c f I μ hc hb n (f a) h2 (by lia)
noncomputable def ccons (y : Option PyData) (ys : List PyData) : List PyData := match y, ys with | some y, ys => y :: ys | none, ys => ys
theorem Pi {F : PyData → Option (Option PyData)} {x : PyData} {r : List PyData} : Qv F (x :: r) = (F x).bind fun y => (Qv F r).map fun ys => ccons y ys := rfl
theorem Ph {F : PyData → Option (Option PyData)} {x : PyData} {r l : List PyData} {y : Option PyData} (h1 : F x = some y) (h2 : Qv F r = some l) : Qv F (x :: r) = some (ccons y l) := by
 rw [Pi, h1, h2]; rfl
theorem Qs {β : Type} {F : PyData → Option (Option PyData)} (enc : β → PyData) (p : β → Bool) (f : β → PyData) : ∀ (xs : List β),
  (∀ x ∈ xs, F (enc x) = some (if p x then some (f x) else none)) → Qv F (xs.map enc) = some ((xs.filter p).map f)
 | [], _ => rfl
 | x :: xs, h => by
  refine (Ph (h x (.head _)) (Qs enc p f xs fun y hy => h y (.tail _ hy))).trans ?_
  cases hp : p x with
  | true => rw [List.filter_cons_of_pos hp]; rfl
  | false => rw [List.filter_cons_of_neg (by rw [hp]; exact Bool.false_ne_true)]; rfl
theorem Ri {β : Type} {F : PyData → Option (Option PyData)} (enc : β → PyData) (f : β → PyData) (xs : List β)
  (h : ∀ x ∈ xs, F (enc x) = some (some (f x))) : Qv F (xs.map enc) = some (xs.map f) := by
 have := Qs (F := F) enc (fun _ => true) f xs (by simpa using h)
 rw [List.filter_eq_self.mpr (by simp)] at this
 exact this
theorem L4 {β : Type} (p : β → Bool) : ∀ xs : List β, Zs (xs.map fun x => .bool (p x)) = some (xs.map p)
 | [] => rfl
 | x :: xs => congrArg (Option.map (_ :: ·)) (L4 p xs)
theorem Sq {β : Type} (p : β → Bool) (xs : List β) (k : Kd) : Pt (.list (xs.map fun x => .bool (p x)), k) = some (.bool (xs.all p), .fr 9) := by
 simp [Pt, L4]
theorem anyD_map {β : Type} (p : β → Bool) (xs : List β) (k : Kd) : Pr (.list (xs.map fun x => .bool (p x)), k) = some (.bool (xs.any p), .fr 9) := by
 simp [Pr, L4]
inductive Built (g : Gr) (given : List Str) : Str → Prop
 | mk {h b} : (h, b) ∈ g → (∀ s ∈ b, s ∉ given → Built g given s) → Built g given h
noncomputable def Hk (given found : List Str) (r : Str × List Str) : Bool := !decide (r.1 ∈ found) && r.2.all fun s => decide (s ∈ given) || decide (s ∈ found)
noncomputable def Yb (given : List Str) (a : List Str × Bool) (r : Str × List Str) : List Str × Bool := if Hk given a.1 r then (a.1 ++ [r.1], true) else a
theorem Bu {given found : List Str} {r : Str × List Str} : Hk given found r = true ↔ r.1 ∉ found ∧ ∀ s ∈ r.2, s ∈ given ∨ s ∈ found := by
 simp [Hk, List.all_eq_true]
theorem Nq {g given} : ∀ (l : Gr) (a : List Str × Bool), (∀ r ∈ l, r ∈ g) → a.1.Nodup → (∀ h ∈ a.1, Built g given h) →
  (l.foldl (Yb given) a).1.Nodup ∧ (∀ h ∈ (l.foldl (Yb given) a).1, Built g given h) ∧ a.1.length ≤ (l.foldl (Yb given) a).1.length ∧
  (a.2 = true → (l.foldl (Yb given) a).2 = true) ∧
  ((l.foldl (Yb given) a).2 = false → (l.foldl (Yb given) a).1 = a.1 ∧ ∀ r ∈ l, Hk given a.1 r = false) ∧
  (a.2 = false → (l.foldl (Yb given) a).2 = true → a.1.length < (l.foldl (Yb given) a).1.length)
 | [], a, _, n, s => ⟨n, s, Nat.le_refl _, id, fun h => ⟨rfl, fun _ h => nomatch h⟩, fun h1 h2 => by simp only [List.foldl_nil] at h2; rw [h1] at h2; cases h2⟩
 | r :: l, a, hl, n, s => by
  rw [List.foldl_cons]
  by_cases ht : Hk given a.1 r = true
  ·have he : Yb given a r = (a.1 ++ [r.1], true) := by simp [Yb, ht]
   rw [he]
   have ht' := Bu.mp ht
   have n' : (a.1 ++ [r.1]).Nodup := by
    rw [List.nodup_append]
    exact ⟨n, by simp, fun x hx y hy e => by simp at hy; subst hy; subst e; exact ht'.1 hx⟩
   have s' : ∀ h ∈ a.1 ++ [r.1], Built g given h := fun h hh => by
    rcases List.mem_append.mp hh with q | q
    ·exact s h q
    ·simp at q; subst q
     exact .mk (b := r.2) (hl r (.head _)) fun x hx hn => s x ((ht'.2 x hx).resolve_left hn)
   obtain ⟨h1, h2, h3, h4, h5, h6⟩ := Nq l (a.1 ++ [r.1], true) (fun r' hr' => hl r' (.tail _ hr')) n' s'
   have h4' := h4 rfl
   have hlen : a.1.length < (l.foldl (Yb given) (a.1 ++ [r.1], true)).1.length := by
    simp only [List.length_append, List.length_singleton] at h3; lia
   exact ⟨h1, h2, Nat.le_of_lt hlen, fun _ => h4', (fun q => by rw [h4'] at q; cases q), fun _ _ => hlen⟩
  ·have he : Yb given a r = a := by simp [Yb, ht]
   rw [he]
   obtain ⟨h1, h2, h3, h4, h5, h6⟩ := Nq l a (fun r' hr' => hl r' (.tail _ hr')) n s
   refine ⟨h1, h2, h3, h4, fun q => ⟨(h5 q).1, fun r' hr' => ?_⟩, h6⟩
   rcases List.mem_cons.mp hr' with rfl | q'
   ·simpa using ht
   ·exact (h5 q).2 r' q'
theorem Built.head {g : Gr} {given : List Str} {h : Str} (b : Built g given h) : h ∈ g.map (·.1) := by
 cases b with
 | mk h1 _ => exact List.mem_map.mpr ⟨_, h1, rfl⟩
theorem run3 (g : Gr) (given : List Str) (hg : g.length ≤ 50) : ∃ found, Ja (Phi 3) f3 [Qk g, Q5 given] = some (Q5 found, 1) ∧ Can found ∧ ∀ h, h ∈ found ↔ Built g given h := by
 rw [z2 (F := f3) rfl]
 dsimp only [f3, Nat.reduceSub, RS, RZ]
 (try dsimp only [Qd, Wa, Qh, OB, Uy])
 rw [Yi _ _ (by decide)]
 (try dsimp only [OB, Qc, SS, SZ, Qd, Wq, Q6, Yo])
 obtain ⟨⟨found, ch⟩, h1, ⟨nd, sound, closed⟩, h3⟩ := Ur (cond := fun σ => (evE (Phi 3) f3_c0 σ).bind Wm)
  (body := fun σ => evB (Phi 3) [2] f3_b0 σ)
  (fun (a : List Str × Bool) => [some (Qk g, 0), some (Q5 given, 0), some (Q5 a.1, 1), some (.bool a.2, 0), none, none]) (fun a => a.2) (fun a => g.foldl (Yb given) (a.1, false))
  (fun a => a.1.Nodup ∧ (∀ h ∈ a.1, Built g given h) ∧ (a.2 = false → ∀ r ∈ g, Hk given a.1 r = false)) (fun a => 2 * (g.length - a.1.length) + (if a.2 then 1 else 0))
  (fun a _ => by (try dsimp only [f3_c0, Q2, GS, GZ, v0, W2, OB, Q1])) (fun a ha hc => by
   obtain ⟨n, s, _⟩ := ha
   obtain ⟨r1, r2, r3, r4, r5, r6⟩ := Nq (g := g) (given := given) g (a.1, false) (fun _ h => h) n s
   have hlen : (g.foldl (Yb given) (a.1, false)).1.length ≤ g.length := by
    have := Wo (U := g.map (·.1)) r1 (fun x hx => (r2 x hx).head)
    simpa using this
   refine ⟨?_, ⟨r1, r2, fun q => by rw [(r5 q).1]; exact (r5 q).2⟩, ?_⟩
   ·(try dsimp only [f3_b0, Qd, Wq, OB, Q6, Qc, SS, SZ, W6, Q2, GZ, v0, Qm, Tk, Rd, Rn])
    skip
    rw [Qn Wb (fun (a : List Str × Bool) => [some (Qk g, 0), some (Q5 given, 0), some (Q5 a.1, 1), some (.bool a.2, 0), none, none]) (Yb given) g (a.1, false) ?_]
    ·(try dsimp only [Q8, Wp, SS, SZ, Qg])
    intro pre r post e
    have hb := Nq (g := g) (given := given) pre (a.1, false) (fun r hr => by rw [e]; simp [hr]) n s
    have hl := Wo (U := g.map (·.1)) hb.1 (fun x hx => (hb.2.1 x hx).head)
    rw [List.length_map] at hl
    generalize pre.foldl (Yb given) (a.1, false) = u at hl ⊢
    (try dsimp only [f3_b1, SS, SZ, Qw, Yl, p2, Qt, Qr, Q2, GS, GZ, v0, R2, Qq, Q3, W1, v1, Qb, p1, Cp, R6, Rf, OB, X2, Yn, R8, BF, dreduceIte]; try simp only [Ws, Bool.true_xor, OB, Q1])
    rw [Ri PyData.str (fun s => .bool (decide (s ∈ given) || decide (s ∈ u.1))) r.2 (fun s _ => by
     (try dsimp only [R5, SS, SZ, i0, Yl, p2, Qt, Q2, GS, GZ, v0, Q9, Qb, Q3, p1, v1, Bool.not_false, Bool.true_or, Bool.and_true, OB, dreduceIte]; try simp only [Ws, Bool.false_xor, OB, Q1, Bool.not_false, Bool.true_or, Bool.and_true])
     by_cases q1 : s ∈ given
     ·(try simp only [q1, decide_true, btf, BF, if_false, Wl, OB, U8, if_true, Bool.true_or])
     ·(try simp only [q1, decide_false, beq_self_eq_true, if_true, Wl, OB, U8, Bool.false_or]))]
    simp only [OM, OB]
    rw [Sq]
    (try dsimp only [OB, Q1])
    by_cases q1 : r.1 ∈ u.1
    ·(try dsimp only [Yb, Hk]; try simp only [q1, decide_true, Bool.not_true, bft, BF, if_false, Wl, OB, Q1, W3, Qg, Q8, Ql, OM, Qi, SS, SZ, Bool.false_and])
    ·(try dsimp only [Yb, Hk]; try simp only [q1, decide_false, Bool.not_false, beq_self_eq_true, if_true, Wl, OB, Q1, Bool.true_and])
     cases hall : (r.2.all fun s => decide (s ∈ given) || decide (s ∈ u.1)) with
     | false => (try dsimp only [W3, Qg, Q8, Ql, OM, Qi, SS, SZ, BF, dreduceIte])
     | true =>
      (try dsimp only [Wk, Y9, Qr, Q2, GS, GZ, v0, R2, Qq, Q3, W1, OB, X1, Yc, dreduceIte])
      rw [Xm _ _ (by unfold lim; lia)]
      (try dsimp only [OB, Qc, SS, SZ, Qd, Wq, Q6, Qg, Q8, Ql, OM, Qi])
      skip
   ·cases hch : (g.foldl (Yb given) (a.1, false)).2 with
    | false => rw [(r5 hch).1]; simp [hc]
    | true =>
     have := r6 rfl hch
     simp only [hc, if_true]
     simp only at this
     lia)
  Hq ([], true) ⟨List.nodup_nil, (fun _ h => nomatch h), fun h => by cases h⟩ (by rw [Ls]; simp; lia)
 simp only at h1 h3 nd sound closed
 rw [h1]
 subst h3
 refine ⟨Uj found, ?_, Can.of nd, fun h => ?_⟩
 ·(try dsimp only [Q8, Ql, R3, Wr, U6, Q2]; try simp only [List.mapIdx_cons, OM, Option.map_none, List.mapIdx_nil, GS, GZ])
  (try dsimp only [Nat.reduceAdd, List.contains_cons, beq_self_eq_true, List.contains_nil, Bool.or_false, dreduceIte, v0, Qb, OB])
  have hl := Wo (U := g.map (·.1)) nd (fun x hx => (sound x hx).head)
  rw [List.length_map] at hl
  rw [Zz _ _ (by lia)]
  rfl
 ·rw [X0]
  refine ⟨sound h, fun b => ?_⟩
  induction b with
  | mk hm _ ih =>
   have := closed rfl _ hm
   rw [← Bool.not_eq_true, Bu] at this
   simp only [not_and] at this
   rename_i h' b' _
   rcases Decidable.em (h' ∈ found) with q | q
   ·exact q
   ·refine absurd (fun s hs => ?_) (this q)
    rcases Decidable.em (s ∈ given) with q' | q'
    ·exact .inl q'
    ·exact .inr (ih s hs q')
theorem sem3 {n : Nat} (hn : 3 < n) (g : Gr) (given : List Str) (hg : g.length ≤ 50) : ∃ found, (Phi n).sem 3 [Qk g, Q5 given] = some (Q5 found, 1) ∧ Can found ∧ ∀ h, h ∈ found ↔ Built g given h := by
 obtain ⟨found, h1, h2⟩ := run3 g given hg
 exact ⟨found, by rw [W0 hn (F := f3) rfl, h1], h2⟩
theorem sem4 {n : Nat} (hn : 4 < n) (g : Gr) (hg : g.length ≤ 50) : ∃ found, (Phi n).sem 4 [Qk g] = some (Q5 found, 1) ∧ Can found ∧ ∀ h, h ∈ found ↔ Built g [] h := by
 obtain ⟨found, h1, h2⟩ := sem3 (n := 4) (by decide) g [] hg
 refine ⟨found, ?_, h2⟩
 rw [W0 hn (F := f4) rfl]
 rw [z1 (F := f4) rfl]
 dsimp only [f4, Nat.reduceSub, RS, RZ]
 (try dsimp only [R3, Wr, List.contains_nil, BF, dreduceIte, Qj, Qe, Q2, Wa, Qh, OB, Uy, Q7]; try simp only [List.mapIdx_cons, List.mapIdx_nil, GZ, v0, Qm, Q7, c1, ph4, kd3, agf, ag0, OM, c2])
 rw [h1]
 (try dsimp only [c3, Qb, OB, Rl, rr])
theorem sem15 {n : Nat} (hn : 15 < n) (g : Gr) (hg : g.length ≤ 8) (hb : ∀ r ∈ g, r.2.length ≤ 4) : ∃ found, (Phi n).sem 15 [Qk g] = some (Q5 found, 1) ∧ Can found ∧ ∀ h, h ∈ found ↔ Built g (Qx g) h := by
 obtain ⟨found, h1, h2⟩ := sem3 (n := 15) (by decide) g (Qx g) (by lia)
 refine ⟨found, ?_, h2⟩
 rw [W0 hn (F := f15) rfl]
 rw [z1 (F := f15) rfl]
 dsimp only [f15, Nat.reduceSub, RS, RZ]
 (try dsimp only [R3, Wr, List.contains_nil, BF, dreduceIte, Qj, Qe, Q2, Qh]; try simp only [List.mapIdx_cons, List.mapIdx_nil, GZ, v0, Qm, Q7, c1, ph15, kd1, agf, ag0, OM, c2])
 rw [sem1 (by decide) g hg hb]
 (try dsimp only [c3, Qb, Q7, c1, ph15, kd3, agf, ag0, OM, c2])
 rw [h1]
 (try dsimp only [c3, Qb, OB, Rl, rr])
noncomputable def sS : Str := Str.ofString "S"
noncomputable def sA : Str := Str.ofString "A"
noncomputable def sB : Str := Str.ofString "B"
noncomputable def sa : Str := Str.ofString "a"
noncomputable def sb : Str := Str.ofString "b"
noncomputable def sc : Str := Str.ofString "c"
noncomputable def sD : Str := Str.ofString "$"
noncomputable def HS : List Str := [sS, sA, sB]
noncomputable def SY : List Str := [sS, sA, sB, sa, sb, sc]
noncomputable def UU : List Str := [sS, sA, sB, sa, sb, sc, sD]
structure OkG (g : Gr) : Prop where
 few : g.length ≤ 6
 short : ∀ r ∈ g, r.2.length ≤ 3
 head : ∀ r ∈ g, r.1 ∈ HS
 sym : ∀ r ∈ g, ∀ s ∈ r.2, s ∈ SY
theorem Gh {x : Str} (h : x ∈ SY) : x ∈ UU := by
 simp only [SY, UU, List.mem_cons, List.not_mem_nil, or_false] at *
 rcases h with h | h | h | h | h | h <;> simp [h]
theorem hs_uu {x : Str} (h : x ∈ HS) : x ∈ UU := by
 simp only [HS, UU, List.mem_cons, List.not_mem_nil, or_false] at *
 rcases h with h | h | h <;> simp [h]
structure OkL (l : List Str) : Prop where
 can : Can l
 uu : ∀ x ∈ l, x ∈ UU
theorem OkL.len {l : List Str} (h : OkL l) : l.length ≤ 7 := Wo (U := UU) h.can.nodup h.uu
theorem OkL.nil : OkL [] := ⟨⟨List.Pairwise.nil, List.nodup_nil⟩, fun _ h => nomatch h⟩
theorem OkL.canon {l : List Str} (h : ∀ x ∈ l, x ∈ UU) : OkL (canon l) := ⟨J5 l, fun x hx => h x (R1.mp hx)⟩
noncomputable def tab {β : Type} (hs : List Str) (F : Str → β) : List (Str × β) := hs.map fun h => (h, F h)
noncomputable def Wn {β : Type} (F : Str → β) (x : Str) (v : β) : Str → β := fun y => if y = x then v else F y
theorem W7 {β : Type} (F : Str → β) (x : Str) : ∀ hs : List Str, (tab hs F).lookup x = if x ∈ hs then some (F x) else none
 | [] => rfl
 | h :: hs => by
  show ((h, F h) :: tab hs F).lookup x = _
  rw [List.lookup_cons, W7 F x hs]
  by_cases q : x = h
  ·subst q; simp
  ·have : (x == h) = false := by simpa using q
   simp [this, q]
theorem Z9 {β : Type} (F : Str → β) (x : Str) (v : β) (hs : List Str) (h : x ∈ hs) : R4 (tab hs F) x v = tab hs (Wn F x v) := by
 unfold R4
 rw [W7, if_pos h]
 simp only [Option.isSome_some, if_true, tab, List.map_map]
 refine List.map_congr_left fun y _ => ?_
 simp only [Function.comp_apply, Wn]
 split
 ·rename_i q; simp [q]
 ·rfl
theorem M0 {β : Type} (F : Str → β) (x : Str) (hs : List Str) (h : x ∉ hs) : R4 (tab hs F) x (F x) = tab (hs ++ [x]) F := by
 unfold R4
 rw [W7, if_neg h]
 simp [tab]
theorem Ro {β : Type} (F : Str → β) (hs : List Str) : (tab hs F).length = hs.length := by simp [tab]
theorem U4 {β : Type} (F : Str → β) : ∀ (l hs : List Str), (hs ++ l).Nodup → l.foldl (fun kvs h => R4 kvs h (F h)) (tab hs F) = tab (hs ++ l) F
 | [], hs, _ => by simp
 | x :: l, hs, nd => by
  rw [List.foldl_cons, M0 F x hs (fun q => by
   rw [List.nodup_append] at nd
   exact nd.2.2 x q x (.head _) rfl), U4 F l (hs ++ [x]) (by simpa using nd)]
  simp
theorem forD_n {step : Sg → PyData → Option Out} {σ : Sg} : Tu step [] σ = some (.next σ) := rfl
theorem Dk {step : Sg → PyData → Option Out} {x : PyData} {r : List PyData} {σ : Sg} : Tu step (x :: r) σ = (match step σ x with
  | some (.next σ') => Tu step r σ'
  | some (.brk σ') => some (.next σ')
  | some (.ret d k) => some (.ret d k)
  | none => none) := rfl
theorem Y7 {step : Sg → PyData → Option Out} {x : PyData} {r : List PyData} {σ σ' : Sg} (h : step σ x = some (.next σ')) : Tu step (x :: r) σ = Tu step r σ' := by rw [Dk, h]
theorem S4 {step : Sg → PyData → Option Out} {x : PyData} {r : List PyData} {σ σ' : Sg} (h : step σ x = some (.brk σ')) : Tu step (x :: r) σ = some (.next σ') := by rw [Dk, h]
theorem X6 {step : Sg → PyData → Option Out} {x : PyData} {r : List PyData} {σ : Sg} {d : PyData} {k : Nat} (h : step σ x = some (.ret d k)) : Tu step (x :: r) σ = some (.ret d k) := by rw [Dk, h]
noncomputable def Nf (p : List Str × Bool) : PyData := .tuple [Q5 p.1, .bool p.2]
theorem idxD_T0 (p : List Str × Bool) (k : Nat) (j : Kd) : Th (Nf p, .fr k) (.int 0, j) = some (Q5 p.1, .fr 0) := rfl
theorem mkR_T (p : List Str × Bool) (k : Kd) : mkR (Nf p) k = (Nf p, k) := rfl
theorem tup2_T (p : List Str × Bool) (k : Nat) : V4 (Nf p, .fr k) = some (Q5 p.1, .bool p.2) := rfl
noncomputable def fos (firsts : Gr) (nulls : List Str) : List Str → List Str → List Str × Bool
 | b, [] => (b, true)
 | b, s :: r => match firsts.lookup s with
  | none => (canon (b ++ [s]), false)
  | some f => if s ∈ nulls then fos firsts nulls (canon (b ++ f)) r else (canon (b ++ f), false)
theorem fos_n {firsts : Gr} {nulls b : List Str} : fos firsts nulls b [] = (b, true) := rfl
theorem Bm {firsts : Gr} {nulls b : List Str} {s r} : fos firsts nulls b (s :: r) = (match firsts.lookup s with
  | none => (canon (b ++ [s]), false)
  | some f => if s ∈ nulls then fos firsts nulls (canon (b ++ f)) r else (canon (b ++ f), false)) := rfl
theorem Dj {firsts : Gr} {nulls : List Str} (hf : ∀ s f, firsts.lookup s = some f → OkL f) : ∀ (l b : List Str), OkL b → (∀ s ∈ l, s ∈ UU) → OkL (fos firsts nulls b l).1
 | [], b, h, _ => h
 | s :: r, b, h, hl => by
  rw [Bm]
  split
  ·exact OkL.canon fun x hx => by
    rcases List.mem_append.mp hx with q | q
    ·exact h.uu x q
    ·simp at q; subst q; exact hl x (.head _)
  ·rename_i f hs
   have ok : OkL (canon (b ++ f)) := OkL.canon fun x hx => by
    rcases List.mem_append.mp hx with q | q
    ·exact h.uu x q
    ·exact (hf s f hs).uu x q
   split
   ·exact Dj hf r _ ok fun s hs => hl s (.tail _ hs)
   ·exact ok
theorem S3 {firsts : Gr} {nulls : List Str} (syms : List Str) (hf : ∀ s f, firsts.lookup s = some f → OkL f) : ∀ (l b : List Str), OkL b → (∀ s ∈ l, s ∈ UU) →
  Tu (fun σ x => Option.map (Out.clr 4) (evB (Phi 5) [] S9 (σ.set 4 (some (x, 0))))) (l.map .str) [some (Q5 syms, 0), some (Wc firsts, 1), some (Q5 nulls, 0), some (Q5 b, 0), none] =
   if (fos firsts nulls b l).2 then some (.next [some (Q5 syms, 0), some (Wc firsts, 1), some (Q5 nulls, 0), some (Q5 (fos firsts nulls b l).1, 0), none]) else some (.ret (Nf ((fos firsts nulls b l).1, false)) 0)
 | [], b, _, _ => by simp [forD_n, Dk, fos_n, Bm]
 | s :: r, b, ok, hl => by
  have lb := ok.len
  rw [List.map_cons, Bm]
  cases hs : firsts.lookup s with
  | none =>
   rw [X6 (d := Nf (canon (b ++ [s]), false)) (k := 0) (by
    (try dsimp only [S9, SS, SZ, Qw, Qt, Q2, GS, GZ, v0, Q9, v1, Wi, Q3]; try simp only [Jj, hs, Option.isSome_none, Bool.true_xor, Bool.not_false, OB, Q1, Wk, R3, Wr, List.contains_nil, BF, if_false, List.mapIdx_cons, List.mapIdx_nil, Rt, Qj, Qe, Q2, GS, GZ, v0, Qb, Wa, Q9, Qh, Q7, Vf, c1, ph5, kd2, agf, ag0, OM, c2, Wq])
    rw [M9 (by decide) b [s] (by simp; lia)]
    (try dsimp only [c3, Qb, Q3, Rs, OB, Rl, Za, OM, H7])
    rfl)]
   (try dsimp only [BF, dreduceIte])
  | some f =>
   have okf := hf s f hs
   have lf := okf.len
   have ok' : OkL (canon (b ++ f)) := OkL.canon fun x hx => by
    rcases List.mem_append.mp hx with q | q
    ·exact ok.uu x q
    ·exact okf.uu x q
   by_cases hn : s ∈ nulls
   ·rw [Y7 (σ' := [some (Q5 syms, 0), some (Wc firsts, 1), some (Q5 nulls, 0), some (Q5 (canon (b ++ f)), 0), none]) (by
     (try dsimp only [S9, SS, SZ, Qw, Qt, Q2, GS, GZ, v0, Q9, v1, Wi, Q3]; try simp only [Jj, hs, Option.isSome_some, Bool.true_xor, Bool.not_true, OB, Q1, W3, Qg, Q8, Ql, Qd, Qj, Qe, Q2, GS, GZ, v0, Qb, Qr, v1, Wi, Q9, Q3, N4, Dd, OM, Qh, Q7, c1, ph5, kd2, agf, ag0, c2])
     rw [M9 (by decide) b f (by lia)]
     (try dsimp only [c3, Qb, OB, Q6, Qc, SS, SZ, Qw, Qt, Q2, GS, GZ, v0, Q9, Q3]; try simp only [Ws, Bool.true_xor, OB, Q1])
     (try simp only [hn, decide_true, Bool.not_true, W3, Qg, Q8, Ql, OM, Qi, SS, SZ]))]
    simp only [hn, if_true]
    exact S3 syms hf r (canon (b ++ f)) ok' fun s hs => hl s (.tail _ hs)
   ·rw [X6 (d := Nf (canon (b ++ f), false)) (k := 0) (by
     (try dsimp only [S9, SS, SZ, Qw, Qt, Q2, GS, GZ, v0, Q9, v1, Wi, Q3]; try simp only [Jj, hs, Option.isSome_some, Bool.true_xor, Bool.not_true, OB, Q1, W3, Qg, Q8, Ql, Qd, Qj, Qe, Q2, GS, GZ, v0, Qb, Qr, v1, Wi, Q9, Q3, N4, Dd, OM, Qh, Q7, c1, ph5, kd2, agf, ag0, c2])
     rw [M9 (by decide) b f (by lia)]
     (try dsimp only [c3, Qb, OB, Q6, Qc, SS, SZ, Qw, Qt, Q2, GS, GZ, v0, Q9, Q3]; try simp only [Ws, Bool.true_xor, OB, Q1])
     (try simp only [hn, decide_false, Bool.not_false, Wk, R3, Wr, List.contains_nil, BF, if_false, List.mapIdx_cons, List.mapIdx_nil, Rt, Q2, GS, GZ, v0, Qb, Wq, Q3, Rs, OB, Rl, Za, OM, H7])
     rfl)]
    (try dsimp only; try simp only [hn, if_false, BF])
theorem sem5 {n : Nat} (hn : 5 < n) (syms : List Str) (firsts : Gr) (nulls : List Str) (hf : ∀ s f, firsts.lookup s = some f → OkL f) (hl : ∀ s ∈ syms, s ∈ UU) :
  (Phi n).sem 5 [Q5 syms, Wc firsts, Q5 nulls] = some (Nf (fos firsts nulls [] syms), 0) := by
 rw [W0 hn (F := f5) rfl]
 rw [zD (F := f5) rfl]
 dsimp only [f5, Nat.reduceSub, RS, RZ]
 (try dsimp only [Qd, Wa, Qh, OB, Uy, Q6, Qc, SS, SZ, W6, Q2, GZ, v0, Qb, Tk, Wg, Rn])
 skip
 rw [S3 syms hf syms [] OkL.nil hl]
 cases h2 : (fos firsts nulls [] syms).2 with
 | true =>
  (try dsimp only [dreduceIte, Q8, Wp, SS, SZ, R3, Wr, List.contains_nil, BF, Rt, Q2, Wq]; try simp only [List.mapIdx_cons, List.mapIdx_nil, GS, GZ, v0, Qb, Q3, Rs, OB, Rl, rr])
  show some (Nf ((fos firsts nulls [] syms).1, true), 0) = _
  rw [← h2]
 | false =>
  (try dsimp only [BF, dreduceIte, Za, rr])
  rw [← h2]
noncomputable def OkF (hs : List Str) (F : Str → List Str) : Prop := ∀ h ∈ hs, OkL (F h)
noncomputable def F5 (hs : List Str) (P : Str → Str → Prop) (F : Str → List Str) : Prop := ∀ h ∈ hs, ∀ x ∈ F h, P h x
noncomputable def tot (hs : List Str) (F : Str → List Str) : Nat := (hs.map fun h => (F h).length).sum
theorem tot_le {hs : List Str} {F : Str → List Str} (h : OkF hs F) : tot hs F ≤ 7 * hs.length := by
 unfold tot
 induction hs with
 | nil => simp
 | cons x hs ih =>
  have h1 := (h x (.head _)).len
  have h2 := ih fun y hy => h y (.tail _ hy)
  simp only [List.map_cons, List.sum_cons, List.length_cons]
  lia
theorem Ky {F : Str → List Str} {t : Str} {v : List Str} : ∀ {hs : List Str}, t ∉ hs → tot hs (Wn F t v) = tot hs F
 | [], _ => rfl
 | x :: hs, h => by
  simp only [List.mem_cons, not_or] at h
  have ih := Ky (F := F) (v := v) h.2
  unfold tot at ih ⊢
  simp only [List.map_cons, List.sum_cons, ih]
  simp [Wn, Ne.symm h.1]
theorem Z8 {F : Str → List Str} {t : Str} {v : List Str} : ∀ {hs : List Str}, hs.Nodup → t ∈ hs → tot hs (Wn F t v) + (F t).length = tot hs F + v.length
 | x :: hs, nd, h => by
  rw [List.nodup_cons] at nd
  by_cases q : t = x
  ·subst q
   have := Ky (F := F) (v := v) nd.1
   unfold tot at this ⊢
   simp only [List.map_cons, List.sum_cons, this]
   simp [Wn]; lia
  ·have ih := Z8 (F := F) (v := v) nd.2 ((List.mem_cons.mp h).resolve_left q)
   unfold tot at ih ⊢
   simp only [List.map_cons, List.sum_cons]
   have : Wn F t v x = F x := by simp [Wn, Ne.symm q]
   rw [this]; lia
noncomputable def Rh {ι : Type} (tgt : ι → Str) (add : (Str → List Str) → ι → List Str) (a : (Str → List Str) × Bool) (i : ι) : (Str → List Str) × Bool :=
 if canon (a.1 (tgt i) ++ add a.1 i) = a.1 (tgt i) then a else (Wn a.1 (tgt i) (canon (a.1 (tgt i) ++ add a.1 i)), true)
theorem Ax {ι : Type} {tgt : ι → Str} {add : (Str → List Str) → ι → List Str} {a : (Str → List Str) × Bool} {i : ι} (hc : Can (a.1 (tgt i))) :
  canon (a.1 (tgt i) ++ add a.1 i) = a.1 (tgt i) ↔ ∀ x ∈ add a.1 i, x ∈ a.1 (tgt i) := by
 constructor
 ·intro e x hx
  rw [← e, R1]
  exact List.mem_append_right _ hx
 ·intro h
  refine (J5 _).ext hc fun x => ?_
  rw [R1, List.mem_append]
  exact ⟨fun q => q.elim id (h x), .inl⟩
theorem Ks {ι : Type} {hs : List Str} {tgt : ι → Str} {add : (Str → List Str) → ι → List Str} {P : Str → Str → Prop} (nd : hs.Nodup) : ∀ (l : List ι) (a : (Str → List Str) × Bool),
  (∀ i ∈ l, tgt i ∈ hs) → (∀ F, OkF hs F → F5 hs P F → ∀ i ∈ l, ∀ x ∈ add F i, x ∈ UU ∧ P (tgt i) x) → OkF hs a.1 → F5 hs P a.1 →
  OkF hs (l.foldl (Rh tgt add) a).1 ∧ F5 hs P (l.foldl (Rh tgt add) a).1 ∧ tot hs a.1 ≤ tot hs (l.foldl (Rh tgt add) a).1 ∧
  (a.2 = true → (l.foldl (Rh tgt add) a).2 = true) ∧
  ((l.foldl (Rh tgt add) a).2 = false → (l.foldl (Rh tgt add) a).1 = a.1 ∧ ∀ i ∈ l, ∀ x ∈ add a.1 i, x ∈ a.1 (tgt i)) ∧
  (a.2 = false → (l.foldl (Rh tgt add) a).2 = true → tot hs a.1 < tot hs (l.foldl (Rh tgt add) a).1)
 | [], a, _, _, ok, s => ⟨ok, s, Nat.le_refl _, id, fun h => ⟨rfl, fun _ h => nomatch h⟩, fun h1 h2 => by simp only [List.foldl_nil] at h2; rw [h1] at h2; cases h2⟩
 | i :: l, a, ht, ha, ok, s => by
  rw [List.foldl_cons]
  have hi := ht i (.head _)
  have hadd := ha a.1 ok s i (.head _)
  by_cases he : canon (a.1 (tgt i) ++ add a.1 i) = a.1 (tgt i)
  ·have hs' : Rh tgt add a i = a := by simp [Rh, he]
   rw [hs']
   refine BC fun nn => ?_
   obtain ⟨h1, h2, h3, h4, h5, h6⟩ := Ks nd l a (fun j hj => ht j (.tail _ hj)) (fun F o s' j hj => ha F o s' j (.tail _ hj)) ok s
   refine nn ?_; clear nn
   refine ⟨h1, h2, h3, h4, fun q => ⟨(h5 q).1, fun j hj => ?_⟩, h6⟩
   rcases List.mem_cons.mp hj with rfl | hj
   ·exact (Ax (ok _ hi).can).mp he
   ·exact (h5 q).2 j hj
  ·have hs' : Rh tgt add a i = (Wn a.1 (tgt i) (canon (a.1 (tgt i) ++ add a.1 i)), true) := by simp [Rh, he]
   rw [hs']
   have okc : OkL (canon (a.1 (tgt i) ++ add a.1 i)) := OkL.canon fun x hx => by
    rcases List.mem_append.mp hx with q | q
    ·exact (ok _ hi).uu x q
    ·exact (hadd x q).1
   have ok' : OkF hs (Wn a.1 (tgt i) (canon (a.1 (tgt i) ++ add a.1 i))) := fun h hh => by
    unfold Wn
    split
    ·exact okc
    ·exact ok h hh
   have s' : F5 hs P (Wn a.1 (tgt i) (canon (a.1 (tgt i) ++ add a.1 i))) := fun h hh x hx => by
    unfold Wn at hx
    split at hx
    ·rename_i q
     subst q
     rcases List.mem_append.mp (R1.mp hx) with q | q
     ·exact s _ hi x q
     ·exact (hadd x q).2
    ·exact s h hh x hx
   have hlt : (a.1 (tgt i)).length < (canon (a.1 (tgt i) ++ add a.1 i)).length := by
    rcases Nat.lt_or_ge (a.1 (tgt i)).length (canon (a.1 (tgt i) ++ add a.1 i)).length with q | q
    ·exact q
    ·exfalso
     apply he
     refine okc.can.ext (ok _ hi).can fun x => ⟨fun hx => ?_, fun hx => R1.mpr (List.mem_append_left _ hx)⟩
     rcases Decidable.em (x ∈ a.1 (tgt i)) with h1 | h1
     ·exact h1
     ·exfalso
      have hn : (x :: a.1 (tgt i)).Nodup := List.nodup_cons.mpr ⟨h1, (ok _ hi).can.nodup⟩
      have := Wo (U := canon (a.1 (tgt i) ++ add a.1 i)) hn fun y hy => by
       rcases List.mem_cons.mp hy with rfl | hy
       ·exact hx
       ·exact R1.mpr (List.mem_append_left _ hy)
      simp only [List.length_cons] at this
      lia
   have htot := Z8 (F := a.1) (v := canon (a.1 (tgt i) ++ add a.1 i)) nd hi
   refine BC fun nn => ?_
   obtain ⟨h1, h2, h3, h4, h5, h6⟩ := Ks nd l (Wn a.1 (tgt i) (canon (a.1 (tgt i) ++ add a.1 i)), true) (fun j hj => ht j (.tail _ hj)) (fun F o s' j hj => ha F o s' j (.tail _ hj)) ok' s'
   refine nn ?_; clear nn
   have h4' := h4 rfl
   simp only at h3
   refine ⟨h1, h2, by lia, fun _ => h4', (fun q => by rw [h4'] at q; cases q), fun _ _ => by lia⟩
theorem growth {ι : Type} {hs : List Str} {tgt : ι → Str} {add : (Str → List Str) → ι → List Str} {P : Str → Str → Prop} {l : List ι} {cond : Sg → Option Bool} {body : Sg → Option Out} (mk : (Str → List Str) × Bool → Sg) (nd : hs.Nodup) (hfew : hs.length ≤ 20)
  (ht : ∀ i ∈ l, tgt i ∈ hs) (ha : ∀ F, OkF hs F → F5 hs P F → ∀ i ∈ l, ∀ x ∈ add F i, x ∈ UU ∧ P (tgt i) x)
  (hc : ∀ a, OkF hs a.1 → cond (mk a) = some a.2) (hb : ∀ a, OkF hs a.1 → F5 hs P a.1 → body (mk a) = some (.next (mk (l.foldl (Rh tgt add) (a.1, false)))))
  (F0 : Str → List Str) (ok0 : OkF hs F0) (s0 : F5 hs P F0) :
  ∃ F, Y1 cond body Hq (mk (F0, true)) = some (.next (mk (F, false))) ∧ OkF hs F ∧ F5 hs P F ∧ (∀ i ∈ l, ∀ x ∈ add F i, x ∈ F (tgt i)) ∧ ∀ h ∈ hs, ∀ x ∈ F0 h, x ∈ F h := by
 obtain ⟨⟨F, ch⟩, h1, ⟨ok, s, cl, up⟩, h3⟩ := Ur mk (fun a => a.2) (fun a => l.foldl (Rh tgt add) (a.1, false))
  (fun a => OkF hs a.1 ∧ F5 hs P a.1 ∧ (a.2 = false → ∀ i ∈ l, ∀ x ∈ add a.1 i, x ∈ a.1 (tgt i)) ∧ ∀ h ∈ hs, ∀ x ∈ F0 h, x ∈ a.1 h) (fun a => 2 * (7 * hs.length - tot hs a.1) + (if a.2 then 1 else 0))
  (fun a ha => hc a ha.1) (fun a hI hca => by
   refine BC fun nn => ?_
   obtain ⟨ok, s, _, up⟩ := hI
   refine nn ?_; clear nn
   refine BC fun nn => ?_
   obtain ⟨r1, r2, r3, r4, r5, r6⟩ := Ks (P := P) nd l (a.1, false) ht ha ok s
   refine nn ?_; clear nn
   have hle := tot_le r1
   refine ⟨hb a ok s, ⟨r1, r2, fun q => by rw [(r5 q).1]; exact (r5 q).2, fun h hh x hx => ?_⟩, ?_⟩
   ·have mono : ∀ (l : List ι) (a : (Str → List Str) × Bool), ∀ h x, x ∈ a.1 h → x ∈ (l.foldl (Rh tgt add) a).1 h := by
     intro l
     induction l with
     | nil => intro a h x hx; exact hx
     | cons i l ih =>
      intro a h x hx
      rw [List.foldl_cons]
      apply ih
      unfold Rh
      split
      ·exact hx
      ·simp only [Wn]
       split
       ·rename_i q; subst q; exact R1.mpr (List.mem_append_left _ hx)
       ·exact hx
    exact mono l (a.1, false) h x (up h hh x hx)
   ·cases hch : (l.foldl (Rh tgt add) (a.1, false)).2 with
    | false => rw [(r5 hch).1]; simp [hca]
    | true =>
     have := r6 rfl hch
     simp only [hca, if_true]
     simp only at this
     lia)
  Hq (F0, true) ⟨ok0, s0, (fun h => by cases h), fun _ _ _ h => h⟩ (by rw [Ls]; simp; lia)
 simp only at h3
 subst h3
 exact ⟨F, h1, ok, s, cl rfl, up⟩
theorem Ti {g : Gr} (hg : OkG g) : (Q0 g).length ≤ 3 :=
 Wo (U := HS) (Wj g) fun x hx => by
  obtain ⟨b, hb⟩ := Qa.mp hx
  exact hg.head _ hb
theorem Yu (kvs : Gr) (x : Str) (v : List Str) (k : Nat) (h : kvs.length + 1 ≤ lim) : U0 (some (some (Wc kvs, 1))) x (Q5 v, .fr k) = some (Wc (R4 kvs x v), 1) := I8 kvs x v (.fr k) h rfl
theorem Re (x : Str) (hs : List Str) (F : Str → List Str) (k j : Kd) (h : x ∈ hs) : Th (Wc (tab hs F), k) (.str x, j) = some (Q5 (F x), k.item) := by
 rw [N4, W7, if_pos h]; rfl
noncomputable def Tf (nulls : List Str) : List Str → List Str
 | [] => []
 | s :: r => s :: (if s ∈ nulls then Tf nulls r else [])
theorem Mj {nulls : List Str} : Tf nulls [] = [] := rfl
theorem Rc {nulls : List Str} {s r} : Tf nulls (s :: r) = s :: (if s ∈ nulls then Tf nulls r else []) := rfl
theorem Yw {nulls : List Str} {x : Str} : ∀ {l : List Str}, x ∈ Tf nulls l → x ∈ l
 | s :: r, h => by
  rw [Rc] at h
  rcases List.mem_cons.mp h with rfl | h
  ·exact .head _
  ·split at h
   ·exact .tail _ (Yw h)
   ·cases h
theorem Lu {hs nulls : List Str} {F : Str → List Str} (hn : ∀ x ∈ nulls, x ∈ hs) {x : Str} : ∀ (l b : List Str),
  x ∈ (fos (tab hs F) nulls b l).1 ↔ x ∈ b ∨ ∃ s ∈ Tf nulls l, (s ∈ hs ∧ x ∈ F s) ∨ (s ∉ hs ∧ x = s)
 | [], b => by simp [fos_n, Bm, Mj, Rc]
 | s :: r, b => by
  rw [Bm, W7, Rc]
  by_cases hs' : s ∈ hs
  ·rw [if_pos hs']
   simp only
   by_cases hsn : s ∈ nulls
   ·rw [if_pos hsn, if_pos hsn, Lu hn r, R1, List.mem_append]
    simp only [List.mem_cons, exists_eq_or_imp, hs', true_and, not_true, false_and, or_false, or_assoc]
   ·rw [if_neg hsn, if_neg hsn]
    simp only [R1, List.mem_append, List.mem_singleton, exists_eq_left, hs', true_and, not_true, false_and, or_false]
  ·rw [if_neg hs']
   have hsn : s ∉ nulls := fun q => hs' (hn s q)
   rw [if_neg hsn]
   simp only [R1, List.mem_append, List.mem_singleton, exists_eq_left, hs', false_and, not_false_eq_true, true_and, false_or]
theorem Hz {hs nulls : List Str} {F : Str → List Str} (hn : ∀ x ∈ nulls, x ∈ hs) : ∀ (l b : List Str), (fos (tab hs F) nulls b l).2 = l.all fun s => decide (s ∈ nulls)
 | [], b => rfl
 | s :: r, b => by
  rw [Bm, W7]
  by_cases hs' : s ∈ hs
  ·rw [if_pos hs']
   simp only
   by_cases hsn : s ∈ nulls
   ·rw [if_pos hsn, Hz hn r]; simp [hsn]
   ·rw [if_neg hsn]; simp [hsn]
  ·rw [if_neg hs']
   have hsn : s ∉ nulls := fun q => hs' (hn s q)
   simp [hsn]
structure IsNull (g : Gr) (N : List Str) : Prop where
 can : Can N
 mem : ∀ h, h ∈ N ↔ Built g [] h
theorem IsNull.unique {g : Gr} {N M : List Str} (a : IsNull g N) (b : IsNull g M) : N = M := a.can.ext b.can fun x => (a.mem x).trans (b.mem x).symm
theorem IsNull.heads {g : Gr} {N : List Str} (a : IsNull g N) : ∀ x ∈ N, x ∈ Q0 g := fun x hx => by
 cases (a.mem x).mp hx with
 | mk h _ => exact Qa.mpr ⟨_, h⟩
noncomputable def E1 (g : Gr) (N : List Str) (h s : Str) : Prop := ∃ b, (h, b) ∈ g ∧ s ∈ Tf N b
inductive First (g : Gr) (N : List Str) : Str → Str → Prop
 | tok {h x} : E1 g N h x → x ∉ Q0 g → First g N h x
 | sub {h s x} : E1 g N h s → s ∈ Q0 g → First g N s x → First g N h x
theorem sem6 {n : Nat} (hn : 6 < n) (g : Gr) (hg : OkG g) (N : List Str) (hN : IsNull g N) :
  ∃ F, (Phi n).sem 6 [Qk g] = some (Wc (tab (Q0 g) F), 1) ∧ OkF (Q0 g) F ∧ ∀ h ∈ Q0 g, ∀ x, x ∈ F h ↔ First g N h x := by
 have hlen := hg.few
 have hfew := Ti hg
 obtain ⟨N', h4, h4'⟩ := sem4 (n := 6) (by decide) g (by lia)
 obtain rfl : N' = N := (IsNull.mk h4'.1 h4'.2).unique hN
 have hNh := hN.heads
 have addU : ∀ F, OkF (Q0 g) F → F5 (Q0 g) (First g N') F → ∀ r ∈ g, ∀ x ∈ (fos (tab (Q0 g) F) N' [] r.2).1, x ∈ UU ∧ First g N' r.1 x := fun F ok s r hr x hx => by
  have hmem := (Lu hNh r.2 []).mp hx
  have okr : OkL (fos (tab (Q0 g) F) N' [] r.2).1 := Dj (fun s f e => by
   rw [W7] at e
   split at e
   ·rename_i q; cases e; exact ok s q
   ·cases e) r.2 [] OkL.nil fun s hs => Gh (hg.sym r hr s hs)
  refine ⟨okr.uu x hx, ?_⟩
  rcases hmem with q | ⟨s', h1, h2 | h2⟩
  ·cases q
  ·exact .sub ⟨r.2, hr, h1⟩ h2.1 (s s' h2.1 x h2.2)
  ·obtain ⟨h3, rfl⟩ := h2; exact .tok ⟨r.2, hr, h1⟩ h3
 obtain ⟨F, e, ok, s, cl, _⟩ := growth (hs := Q0 g) (tgt := fun r : Str × List Str => r.1) (add := fun F r => (fos (tab (Q0 g) F) N' [] r.2).1) (P := First g N') (l := g)
  (cond := fun σ => (evE (Phi 6) f6_c1 σ).bind Wm) (body := fun σ => evB (Phi 6) [2] f6_b1 σ)
  (fun a => [some (Qk g, 0), some (Q5 N', 0), some (Wc (tab (Q0 g) a.1), 1), none, some (.bool a.2, 0), none, none]) (Wj g) (by lia)
  (fun r hr => Qa.mpr ⟨r.2, hr⟩) addU (fun a _ => by (try dsimp only [f6_c1, Q2, GS, GZ, v0, W2, OB, Q1])) (fun a ok s => by
   (try dsimp only [f6_b1, Qd, Wq, OB, Q6, Qc, SS, SZ, W6, Q2, GZ, v0, Qm, Tk, Rd, Rn])
   skip
   rw [Qn Wb (fun (a : (Str → List Str) × Bool) => [some (Qk g, 0), some (Q5 N', 0), some (Wc (tab (Q0 g) a.1), 1), none, some (.bool a.2, 0), none, none])
    (Rh (fun r : Str × List Str => r.1) (fun F r => (fos (tab (Q0 g) F) N' [] r.2).1)) g (a.1, false) ?_]
   ·(try dsimp only [Q8, Wp, SS, SZ, Qz, Qg])
   intro pre r post e
   have hr : r ∈ g := by rw [e]; simp
   obtain ⟨ok', s', _⟩ := Ks (P := First g N') (Wj g) (tgt := fun r : Str × List Str => r.1) (add := fun F r => (fos (tab (Q0 g) F) N' [] r.2).1) pre (a.1, false)
    (fun r hr => Qa.mpr ⟨r.2, by rw [e]; simp [hr]⟩) (fun F o s r hr => addU F o s r (by rw [e]; simp [hr])) ok s
   generalize pre.foldl (Rh (fun r : Str × List Str => r.1) (fun F r => (fos (tab (Q0 g) F) N' [] r.2).1)) (a.1, false) = u at ok' s' ⊢
   have hrh : r.1 ∈ Q0 g := Qa.mpr ⟨r.2, hr⟩
   have hok : ∀ s f, (tab (Q0 g) u.1).lookup s = some f → OkL f := fun s f e => by
    rw [W7] at e
    split at e
    ·rename_i q; cases e; exact ok' s q
    ·cases e
   have okr := Dj (nulls := N') hok r.2 [] OkL.nil fun s hs => Gh (hg.sym r hr s hs)
   have l1 := (ok' r.1 hrh).len
   have l2 := okr.len
   (try dsimp only [f6_b2, SS, SZ, Qd, Qj, Qe, Qr, Q2, GS, GZ, v1, Wi, v0, R2, Qq, Q3, W1, Rf, Qb, Qh, Q7, c1, ph6, kd5, agf, ag1, ag0, OM, c2])
   rw [Re _ _ _ _ _ hrh]
   (try dsimp only [Dd])
   rw [sem5 (by decide) r.2 _ N' hok fun s hs => Gh (hg.sym r hr s hs)]
   (try dsimp only [c3, mkR_T, Q3, idxD_T0, Q7, c1, ph6, kd2, agf, ag0, OM, c2])
   rw [M9 (by decide) _ _ (by lia)]
   (try dsimp only [c3, Qb, OB, Q6, Qc, SS, SZ, Qw, Tv, Q2, GS, GZ, v0, Qr, v1, Wi, R2, Qq, Q3, W1])
   rw [Re _ _ _ _ _ hrh]
   (try dsimp only [Dd, Q3]; try simp only [Jl, Bool.true_xor, OB, Q1])
   by_cases q : canon (u.1 r.1 ++ (fos (tab (Q0 g) u.1) N' [] r.2).1) = u.1 r.1
   ·(try dsimp only [Rh]; try simp only [q, decide_true, Bool.not_true, W3, Qg, Q8, Ql, Qz, SS, SZ, OM, Qi, if_true])
   ·(try dsimp only [Rh]; try simp only [q, decide_false, Bool.not_false, Wk, Xy, Q2, GS, GZ, v0, Qb, OB, Xz, Qr, R2, Qq, Q3, W1, Wt, Ui, if_false])
    rw [Yu _ _ _ _ (by rw [Ro]; unfold lim; lia), Z9 _ _ _ _ hrh]
    (try dsimp only [OB, Qc, SS, SZ, Qd, Wq, Q6, Qg, Q8, Ql, Qz, OM, Qi])
    skip)
  (fun _ => []) (fun _ _ => OkL.nil) (fun _ _ _ h => nomatch h)
 refine ⟨F, ?_, ok, fun h hh x => ⟨s h hh x, fun f => ?_⟩⟩
 ·rw [W0 hn (F := f6) rfl]
  rw [z1 (F := f6) rfl]
  dsimp only [f6, Nat.reduceSub, RS, RZ]
  (try dsimp only [Qd, Qj, Qe, Q2, GZ, v0, Qm, Qh, Q7, c1, ph6, kd4, agf, ag0, OM, c2])
  rw [h4]
  (try dsimp only [c3, Qb, OB, Q6, Qc, SS, SZ, Qd, Yk])
  skip
  rw [show Z4 1 (PyData.dict [], Kd.fr 9) = some (Wc (tab [] fun _ => []), 1) from rfl]
  (try dsimp only [OB, Qc, SS, SZ, W6, Qj, Qe, Q2, GZ, v0, Qm, Qh, Q7, c1, ph6, kd0, agf, ag0, OM, c2])
  rw [Cb (by decide) g (by lia)]
  (try dsimp only [c3, Qb, OB, Tk, Wg, Rn])
  rw [Qn PyData.str (fun kvs => [some (Qk g, 0), some (Q5 N', 0), some (Wc kvs, 1), none, none, none, none]) (fun kvs h => R4 kvs h []) (Q0 g) (tab [] fun _ => []) ?_]
  ·rw [U4 (fun _ => ([] : List Str)) (Q0 g) [] (by simpa using Wj g)]
   (try dsimp only [List.nil_append, Q8, Wp, SS, SZ, Qd, Wq, OB, Q6, Qc, Yo])
   ((try simp only at e); skip)
   rw [e]
   rfl
  ·intro pre h post e
   have hnd := Wj g
   rw [e] at hnd
   have hp : pre.Nodup := (List.nodup_append.mp hnd).1
   have hl : pre.length ≤ 3 := by have := hfew; rw [e] at this; simp at this; lia
   have ef := U4 (fun _ => ([] : List Str)) pre [] (by simpa using hp)
   simp only [List.nil_append] at ef
   rw [ef]
   (try dsimp only [f6_b0, SS, SZ, Xy, Wa, Qh, OB, Uy, Xz, Q2, GS, GZ, v0, Q9, Wt, Ui])
   rw [Yu _ _ _ _ (by rw [Ro]; unfold lim; lia)]
   (try dsimp only [OB, Qc, SS, SZ, Qg, OM, Qi])
 ·induction f with
  | tok h1 h2 =>
   obtain ⟨b, hb, hl⟩ := h1
   exact cl _ hb _ ((Lu hNh _ []).mpr (.inr ⟨_, hl, .inr ⟨h2, rfl⟩⟩))
  | sub h1 h2 _ ih =>
   obtain ⟨b, hb, hl⟩ := h1
   exact cl _ hb _ ((Lu hNh _ []).mpr (.inr ⟨_, hl, .inl ⟨h2, ih h2⟩⟩))
theorem Rj (n : Nat) (k : Kd) (h : n ≤ lim) : Zn (.int n, k) = some ((List.range n).map fun i => PyData.int (i : Nat), 0) := by
 show (if decide (0 ≤ (n : Int)) && decide ((n : Int) ≤ lim) then some ((List.range (n : Int).toNat).map fun i => PyData.int (i : Nat), 0) else none) = _
 rw [if_pos (by simp; lia)]
 simp
theorem T4 (x y : Int) (k j : Kd) : Xq (.int x, k) (.int y, j) = some (.int (x + y), .fr 9) := rfl
theorem L0 (xs : List Str) (i : Nat) (k j : Kd) (hk : k.rd1 = true) (h : i + 1 ≤ xs.length) : X9 (Q5 xs, k) (.int ((i : Int) + 1), j) = some (Q5 (xs.drop (i + 1)), .fr 1) := by
 show (if k.rd1 && decide (0 ≤ (i : Int) + 1) && decide ((i : Int) + 1 ≤ ((xs.map PyData.str).length : Nat)) then some (PyData.list ((xs.map PyData.str).drop ((i : Int) + 1).toNat), Kd.fr 1) else none) = _
 rw [if_pos (by simp [hk]; lia)]
 have : ((i : Int) + 1).toNat = i + 1 := by lia
 rw [this, ← List.map_drop]
 rfl
theorem Si {a b : List Str} (h : ∀ x, x ∈ a ↔ x ∈ b) : canon a = canon b := (J5 a).ext (J5 b) fun x => by rw [R1, R1, h]
theorem Sj (a b c : List Str) : canon (canon (a ++ b) ++ c) = canon (a ++ (b ++ c)) := Si fun x => by simp [R1, or_assoc]
noncomputable def Zw (g : Gr) (N : List Str) (l : List Str) (x : Str) : Prop := ∃ s ∈ Tf N l, (s ∈ Q0 g ∧ First g N s x) ∨ (s ∉ Q0 g ∧ x = s)
inductive Follow (g : Gr) (N : List Str) : Str → Str → Prop
 | start {h b} : g.head? = some (h, b) → Follow g N h sD
 | post {h' b pre h post x} : (h', b) ∈ g → b = pre ++ h :: post → h ∈ Q0 g → Zw g N post x → Follow g N h x
 | up {h' b pre h post x} : (h', b) ∈ g → b = pre ++ h :: post → h ∈ Q0 g → (∀ s ∈ post, s ∈ N) → Follow g N h' x → Follow g N h x
theorem J2 {g : Gr} {N : List Str} {F : Str → List Str} (hN : ∀ x ∈ N, x ∈ Q0 g) (hF : ∀ h ∈ Q0 g, ∀ x, x ∈ F h ↔ First g N h x) (l : List Str) (x : Str) :
  x ∈ (fos (tab (Q0 g) F) N [] l).1 ↔ Zw g N l x := by
 rw [Lu hN]
 constructor
 ·rintro (q | ⟨s, h1, h2⟩)
  ·cases q
  ·exact ⟨s, h1, h2.imp (fun q => ⟨q.1, (hF s q.1 x).mp q.2⟩) id⟩
 ·rintro ⟨s, h1, h2⟩
  exact .inr ⟨s, h1, h2.imp (fun q => ⟨q.1, (hF s q.1 x).mpr q.2⟩) id⟩
noncomputable def W5 (p : (Str × List Str) × Nat) : Str := (p.1.2[p.2]?).getD p.1.1
noncomputable def Yy (g : Gr) (N : List Str) (F : Str → List Str) (Fo : Str → List Str) (p : (Str × List Str) × Nat) : List Str :=
 (fos (tab (Q0 g) F) N [] (p.1.2.drop (p.2 + 1))).1 ++ (if (fos (tab (Q0 g) F) N [] (p.1.2.drop (p.2 + 1))).2 then Fo p.1.1 else [])
noncomputable def T3 (g : Gr) (r : Str × List Str) : List ((Str × List Str) × Nat) := ((List.range r.2.length).filter fun i => decide (W5 (r, i) ∈ Q0 g)).map fun i => (r, i)
theorem S7 {α : Type} (g : Gr) (f : α → (Str × List Str) × Nat → α) (r : Str × List Str) (a : α) :
  (T3 g r).foldl f a = (List.range r.2.length).foldl (fun a i => if W5 (r, i) ∈ Q0 g then f a (r, i) else a) a := by
 unfold T3
 rw [List.foldl_map, List.foldl_filter]
 simp only [decide_eq_true_eq]
theorem sem7 {n : Nat} (hn : 7 < n) (g : Gr) (hg : OkG g) (N : List Str) (hN : IsNull g N) (st : Str × List Str) (rest : Gr) (hst : g = st :: rest) :
  ∃ Fo, (Phi n).sem 7 [Qk g] = some (Wc (tab (Q0 g) Fo), 1) ∧ OkF (Q0 g) Fo ∧ ∀ h ∈ Q0 g, ∀ x, x ∈ Fo h ↔ Follow g N h x := by
 have hlen := hg.few
 have hfew := Ti hg
 obtain ⟨N', h4, h4'⟩ := sem4 (n := 7) (by decide) g (by lia)
 obtain rfl : N' = N := (IsNull.mk h4'.1 h4'.2).unique hN
 obtain ⟨F, h6, okF, hF⟩ := sem6 (n := 7) (by decide) g hg N' hN
 have hNh := hN.heads
 have hst' : st.1 ∈ Q0 g := Qa.mpr ⟨st.2, by rw [hst]; simp⟩
 have hok : ∀ s f, (tab (Q0 g) F).lookup s = some f → OkL f := fun s f e => by
  rw [W7] at e
  split at e
  ·rename_i q; cases e; exact okF s q
  ·cases e
 have okfos : ∀ r ∈ g, ∀ i, OkL (fos (tab (Q0 g) F) N' [] (r.2.drop i)).1 := fun r hr i => Dj hok _ [] OkL.nil fun s hs => Gh (hg.sym r hr s (List.mem_of_mem_drop hs))
 have split : ∀ (r : Str × List Str) (i : Nat), i < r.2.length → r.2 = r.2.take i ++ W5 (r, i) :: r.2.drop (i + 1) := fun r i hi => by
  have : W5 (r, i) = r.2[i] := by simp [W5, hi]
  rw [this, List.getElem_cons_drop]
  exact (List.take_append_drop i r.2).symm
 have addU : ∀ Fo, OkF (Q0 g) Fo → F5 (Q0 g) (Follow g N') Fo → ∀ p ∈ g.flatMap (T3 g), ∀ x ∈ Yy g N' F Fo p, x ∈ UU ∧ Follow g N' (W5 p) x := fun Fo ok s p hp x hx => by
  obtain ⟨r, hr, hp⟩ := List.mem_flatMap.mp hp
  obtain ⟨i, hi, rfl⟩ := List.mem_map.mp hp
  obtain ⟨hi1, hi2⟩ := List.mem_filter.mp hi
  have hi1 := List.mem_range.mp hi1
  simp only [decide_eq_true_eq] at hi2
  have hrh : r.1 ∈ Q0 g := Qa.mpr ⟨r.2, hr⟩
  unfold Yy at hx
  rcases List.mem_append.mp hx with q | q
  ·exact ⟨(okfos r hr _).uu x q, .post (h' := r.1) hr (split r i hi1) hi2 ((J2 hNh hF _ x).mp q)⟩
  ·split at q
   ·rename_i hv
    rw [Hz hNh] at hv
    refine ⟨(ok r.1 hrh).uu x q, .up (h' := r.1) hr (split r i hi1) hi2 (fun s hs => ?_) (s r.1 hrh x q)⟩
    simpa using List.all_eq_true.mp hv s hs
   ·cases q
 have tgtU : ∀ p ∈ g.flatMap (T3 g), W5 p ∈ Q0 g := fun p hp => by
  obtain ⟨r, hr, hp⟩ := List.mem_flatMap.mp hp
  obtain ⟨i, hi, rfl⟩ := List.mem_map.mp hp
  simpa using (List.mem_filter.mp hi).2
 have memP : ∀ r ∈ g, ∀ p ∈ T3 g r, p ∈ g.flatMap (T3 g) := fun r hr p hp => List.mem_flatMap.mpr ⟨r, hr, hp⟩
 obtain ⟨Fo, e, ok, s, cl, up⟩ := growth (hs := Q0 g) (tgt := W5) (add := Yy g N' F) (P := Follow g N') (l := g.flatMap (T3 g))
  (cond := fun σ => (evE (Phi 7) f7_c1 σ).bind Wm) (body := fun σ => evB (Phi 7) [3] f7_b1 σ)
  (fun a => [some (Qk g, 0), some (Q5 N', 0), some (Wc (tab (Q0 g) F), 0), some (Wc (tab (Q0 g) a.1), 1), none, some (.bool a.2, 0), none, none, none, none, none, none]) (Wj g) (by lia)
  tgtU addU (fun a _ => by (try dsimp only [f7_c1, Q2, GS, GZ, v0, W2, OB, Q1])) (fun a ok s => by
   (try dsimp only [f7_b1, Qd, Wq, OB, Q6, Qc, SS, SZ, W6, Q2, GZ, v0, Qm, Tk, Rd, Rn])
   skip
   rw [List.foldl_flatMap]
   rw [Qn Wb (fun (a : (Str → List Str) × Bool) => [some (Qk g, 0), some (Q5 N', 0), some (Wc (tab (Q0 g) F), 0), some (Wc (tab (Q0 g) a.1), 1), none, some (.bool a.2, 0), none, none, none, none, none, none])
    (fun a r => (T3 g r).foldl (Rh W5 (Yy g N' F)) a) g (a.1, false) ?_]
   ·(try dsimp only [Q8, Wp, SS, SZ, Qz, Qg])
   intro pre r post e
   have hr : r ∈ g := by rw [e]; simp
   have hshort := hg.short r hr
   have hrh : r.1 ∈ Q0 g := Qa.mpr ⟨r.2, hr⟩
   obtain ⟨ok', s', _⟩ := Ks (P := Follow g N') (Wj g) (tgt := W5) (add := Yy g N' F) (pre.flatMap (T3 g)) (a.1, false)
    (fun p hp => by obtain ⟨r', h1, h2⟩ := List.mem_flatMap.mp hp; exact tgtU p (memP r' (by rw [e]; simp [h1]) p h2))
    (fun Fo o s p hp => by obtain ⟨r', h1, h2⟩ := List.mem_flatMap.mp hp; exact addU Fo o s p (memP r' (by rw [e]; simp [h1]) p h2)) ok s
   rw [List.foldl_flatMap] at ok' s'
   generalize pre.foldl (fun a r => (T3 g r).foldl (Rh W5 (Yy g N' F)) a) (a.1, false) = u at ok' s' ⊢
   (try dsimp only [f7_b2, SS, SZ, W6, Yt, Qr, Q2, GS, GZ, v0, R2, Qq, Q3, Rf, OB]; try simp only [Y3, OB, Gl])
   rw [Rj _ _ (by unfold lim; lia)]
   (try dsimp only [OM, OB, Rn])
   rw [S7]
   rw [Qn (fun i : Nat => PyData.int i) (fun (a : (Str → List Str) × Bool) => [some (Qk g, 0), some (Q5 N', 0), some (Wc (tab (Q0 g) F), 0), some (Wc (tab (Q0 g) a.1), 1), none, some (.bool a.2, 0), some (Wb r, 0), none, none, none, none, none])
    (fun a i => if W5 (r, i) ∈ Q0 g then Rh W5 (Yy g N' F) a (r, i) else a) (List.range r.2.length) u ?_]
   ·(try dsimp only [Q8, Wp, SS, SZ, Qz, Qg, OM, Qi])
   intro pre' i post' e'
   have hi : i < r.2.length := by
    have : i ∈ List.range r.2.length := by rw [e']; simp
    exact List.mem_range.mp this
   have hsub : ∀ p ∈ (pre'.filter fun i => decide (W5 (r, i) ∈ Q0 g)).map (fun i => (r, i)), p ∈ g.flatMap (T3 g) := fun p hp => by
    obtain ⟨j, hj, rfl⟩ := List.mem_map.mp hp
    refine memP r hr _ (List.mem_map.mpr ⟨j, List.mem_filter.mpr ⟨?_, (List.mem_filter.mp hj).2⟩, rfl⟩)
    rw [e']; simp [(List.mem_filter.mp hj).1]
   obtain ⟨ok2, s2, _⟩ := Ks (P := Follow g N') (Wj g) (tgt := W5) (add := Yy g N' F) ((pre'.filter fun i => decide (W5 (r, i) ∈ Q0 g)).map fun i => (r, i)) u
    (fun p hp => tgtU p (hsub p hp)) (fun Fo o s p hp => addU Fo o s p (hsub p hp)) ok' s'
   rw [List.foldl_map, List.foldl_filter] at ok2 s2
   simp only [decide_eq_true_eq] at ok2 s2
   generalize pre'.foldl (fun a i => if W5 (r, i) ∈ Q0 g then Rh W5 (Yy g N' F) a (r, i) else a) u = u' at ok2 s2 ⊢
   have hsy : r.2[i]? = some (W5 (r, i)) := by simp [W5, hi]
   (try dsimp only [f7_b3, SS, SZ, Qd, Qr, Q2, GS, GZ, v0, R2, Qq, Q3, Rf, Qp])
   rw [Zo, hsy]
   (try dsimp only [OM, OB, Q6, Qc, SS, SZ, Qw, Qt, Q2, GS, GZ, v0, Q9, v1, Wi, Q3]; try simp only [Jj, Bool.false_xor, OB, Q1])
   skip
   rw [W7]
   by_cases hm : W5 (r, i) ∈ Q0 g
   ·have l1 := (ok2 _ hm).len
    have l2 := (okfos r hr (i + 1)).len
    have l3 := (ok2 _ hrh).len
    (try simp only [hm, if_true, Option.isSome_some, Wk, Sp, Qj, Qe, Uo, Qr, Q2, GS, GZ, v0, R2, Qq, Q3, Rf, Wv, Qp, Wi, Qb, Qh, Q7])
    rw [T4]
    (try dsimp only [Q3])
    rw [L0 _ _ _ _ rfl (by lia)]
    (try dsimp only [Q7, c1, ph7, kd5, agf, ag0, OM, c2])
    rw [sem5 (by decide) (r.2.drop (i + 1)) (tab (Q0 g) F) N' hok fun s hs => Gh (hg.sym r hr s (List.mem_of_mem_drop hs))]
    (try dsimp only [c3, mkR_T, OB, tup2_T, Sr, SS, SZ, Qd, Qj, Qe, Qr, Q2, GS, GZ, v1, Wi, v0, Q9, Q3, Qb, Qh, Q7])
    rw [Re _ _ _ _ _ hm]
    (try dsimp only [Dd, Q7, c1, ph7, kd2, agf, ag0, OM, c2])
    rw [M9 (by decide) _ _ (by lia)]
    (try dsimp only [c3, Qb, OB, Q6, Qc, SS, SZ, Qw, Q2, GS, GZ, v0, W2, Q1])
    skip
    cases hv : (fos (tab (Q0 g) F) N' [] (r.2.drop (i + 1))).2 with
    | true =>
     (try dsimp only [Wk, Qd, Qj, Qe, Q2, GS, GZ, v0, Qb, Qr, v1, Wi, R2, Qq, Q3, W1, Qh])
     rw [Re _ _ _ _ _ hrh]
     (try dsimp only [Dd, Q7, c1, ph7, kd2, agf, ag0, OM, c2])
     have l4 := Oj (u'.1 (W5 (r, i)) ++ (fos (tab (Q0 g) F) N' [] (r.2.drop (i + 1))).1)
     simp only [List.length_append] at l4
     rw [M9 (by decide) _ _ (by lia), Sj]
     (try dsimp only [c3, Qb, OB, Q6, Qc, SS, SZ, Qg, Q8, Ql, Qw, Tv, Q2, GS, GZ, v0, Qr, v1, Wi, Q9, Q3])
     skip
     rw [Re _ _ _ _ _ hm]
     (try dsimp only [Dd, Q3]; try simp only [Jl, Bool.true_xor, OB, Q1])
     by_cases q : canon (u'.1 (W5 (r, i)) ++ ((fos (tab (Q0 g) F) N' [] (r.2.drop (i + 1))).1 ++ u'.1 r.1)) = u'.1 (W5 (r, i))
     ·(try dsimp only [Rh, Yy]; try simp only [q, decide_true, Bool.not_true, W3, Qg, Q8, Ql, Qz, SS, SZ, OM, Qi, hv, if_true])
     ·(try dsimp only [Rh, Yy]; try simp only [q, decide_false, Bool.not_false, Wk, Xy, Q2, GS, GZ, v0, Qb, OB, Xz, Q9, Wt, Ui, hv, if_true, if_false])
      rw [Yu _ _ _ _ (by rw [Ro]; unfold lim; lia), Z9 _ _ _ _ hm]
      (try dsimp only [OB, Qc, SS, SZ, Qd, Wq, Q6, Qg, Q8, Ql, Qz, OM, Qi])
      skip
    | false =>
     (try dsimp only [W3, Qg, Q8, Ql, Qw, Tv, Q2, GS, GZ, v0, Qb, Qr, v1, Wi, Q9, Q3])
     rw [Re _ _ _ _ _ hm]
     (try dsimp only [Dd, Q3]; try simp only [Jl, Bool.true_xor, OB, Q1])
     by_cases q : canon (u'.1 (W5 (r, i)) ++ (fos (tab (Q0 g) F) N' [] (r.2.drop (i + 1))).1) = u'.1 (W5 (r, i))
     ·(try dsimp only [Rh, Yy]; try simp only [q, decide_true, Bool.not_true, W3, Qg, Q8, Ql, Qz, SS, SZ, OM, Qi, hv, BF, if_false, List.append_nil, if_true])
     ·(try dsimp only [Rh, Yy]; try simp only [q, decide_false, Bool.not_false, Wk, Xy, Q2, GS, GZ, v0, Qb, OB, Xz, Q9, Wt, Ui, hv, BF, if_false, List.append_nil])
      rw [Yu _ _ _ _ (by rw [Ro]; unfold lim; lia), Z9 _ _ _ _ hm]
      (try dsimp only [OB, Qc, SS, SZ, Qd, Wq, Q6, Qg, Q8, Ql, Qz, OM, Qi])
      skip
   ·(try simp only [hm, if_false, Option.isSome_none, W3, Qg, Q8, Ql, Qz, SS, SZ, OM, Qi]))
  (Wn (fun _ => []) st.1 [sD]) (fun h _ => by
   unfold Wn
   split
   ·exact ⟨⟨by simp, by simp⟩, fun x hx => by simp at hx; subst hx; simp [UU]⟩
   ·exact OkL.nil) (fun h _ x hx => by
   unfold Wn at hx
   split at hx
   ·rename_i q; subst q
    simp at hx; subst hx
    exact .start (b := st.2) (by rw [hst]; rfl)
   ·cases hx)
 refine ⟨Fo, ?_, ok, fun h hh x => ⟨s h hh x, fun f => ?_⟩⟩
 ·rw [W0 hn (F := f7) rfl]
  rw [z1 (F := f7) rfl]
  dsimp only [f7, Nat.reduceSub, RS, RZ]
  (try dsimp only [Qd, Qj, Qe, Q2, GZ, v0, Qm, Qh, Q7, c1, ph7, kd4, agf, ag0, OM, c2])
  rw [h4]
  (try dsimp only [c3, Qb, OB, Q6, Qc, SS, SZ, Qd, Qj, Qe, Q2, GZ, v0, Qm, Qh, Q7, c1, ph7, kd6, agf, ag0, OM, c2])
  skip
  rw [h6]
  (try dsimp only [c3, Wi, OB, Q6, Qc, SS, SZ, Qd, Yk])
  skip
  rw [show Z4 1 (PyData.dict [], Kd.fr 9) = some (Wc (tab [] fun _ => []), 1) from rfl]
  (try dsimp only [OB, Qc, SS, SZ, W6, Qj, Qe, Q2, GZ, v0, Qm, Qh, Q7, c1, ph7, kd0, agf, ag0, OM, c2])
  rw [Cb (by decide) g (by lia)]
  (try dsimp only [c3, Qb, OB, Tk, Wg, Rn])
  rw [Qn PyData.str (fun kvs => [some (Qk g, 0), some (Q5 N', 0), some (Wc (tab (Q0 g) F), 0), some (Wc kvs, 1), none, none, none, none, none, none, none, none]) (fun kvs h => R4 kvs h []) (Q0 g) (tab [] fun _ => []) ?_]
  ·rw [U4 (fun _ => ([] : List Str)) (Q0 g) [] (by simpa using Wj g)]
   (try dsimp only [List.nil_append, Q8, Wp, SS, SZ, Xy, Wa, Qe, Ux, Qh])
   have h0 : Th (Qk g, .fr 0) (.int 0, .fr 9) = some (Wb st, .fr 0) := by
    have := Zp g 0 0 (.fr 9)
    rw [hst] at this ⊢
    exact this
   rw [if_pos (by decide +kernel)]
   (try dsimp only [Q7, OB, Vf, Xz, Qr, Q2, GZ, v0, Qm, Qq, Q3])
   rw [h0]
   (try dsimp only [Q3, W1, OB, Wt, Ui, GS, GZ])
   rw [show (Str.ofString "$") = sD from rfl, Yu _ _ _ _ (by rw [Ro]; unfold lim; lia), Z9 _ _ _ _ hst']
   (try dsimp only [OB, Qc, SS, SZ, Qd, Wq, Q6, Yo])
   ((try simp only at e); skip)
   rw [e]
   rfl
  ·intro pre h post e
   have hnd := Wj g
   rw [e] at hnd
   have hp : pre.Nodup := (List.nodup_append.mp hnd).1
   have hl : pre.length ≤ 3 := by have := hfew; rw [e] at this; simp at this; lia
   have ef := U4 (fun _ => ([] : List Str)) pre [] (by simpa using hp)
   simp only [List.nil_append] at ef
   rw [ef]
   (try dsimp only [f7_b0, SS, SZ, Xy, Wa, Qh, OB, Uy, Xz, Q2, GS, GZ, v0, Q9, Wt, Ui])
   rw [Yu _ _ _ _ (by rw [Ro]; unfold lim; lia)]
   (try dsimp only [OB, Qc, SS, SZ, Qg, OM, Qi])
 ·have idx : ∀ {h' : Str} {b pre : List Str} {h : Str} {post : List Str}, (h', b) ∈ g → b = pre ++ h :: post → h ∈ Q0 g → ((h', b), pre.length) ∈ g.flatMap (T3 g) ∧ W5 ((h', b), pre.length) = h ∧ b.drop (pre.length + 1) = post := by
   intro h' b pre h post hm hb hh
   have hs : W5 ((h', b), pre.length) = h := by simp [W5, hb]
   refine ⟨List.mem_flatMap.mpr ⟨_, hm, List.mem_map.mpr ⟨pre.length, List.mem_filter.mpr ⟨List.mem_range.mpr ?_, ?_⟩, rfl⟩⟩, hs, ?_⟩
   ·simp [hb]
   ·rw [hs]; simpa using hh
   ·subst hb
    rw [List.drop_append]
    simp
  induction f with
  | start h1 =>
   refine up _ hh _ ?_
   rw [hst] at h1
   simp only [List.head?_cons, OI] at h1
   rw [h1]
   simp [Wn]
  | post h1 h2 h3 h4 =>
   obtain ⟨i1, i2, i3⟩ := idx h1 h2 h3
   have := cl _ i1 _ (List.mem_append_left _ ((by rw [i3]; exact (J2 hNh hF _ _).mpr h4)))
   rw [i2] at this
   exact this
  | up h1 h2 h3 h4 h5 ih =>
   obtain ⟨i1, i2, i3⟩ := idx h1 h2 h3
   have ihh := ih (Qa.mpr ⟨_, h1⟩)
   have := cl _ i1 _ (List.mem_append_right _ (by
    rw [i3, Hz hNh, if_pos (by simpa using h4)]
    exact ihh))
   rw [i2] at this
   exact this
noncomputable def K2 (g : Gr) (N : List Str) (r : Str × List Str) (x : Str) : Prop := Zw g N r.2 x ∨ ((∀ s ∈ r.2, s ∈ N) ∧ Follow g N r.1 x)
theorem sem8 {n : Nat} (hn : 8 < n) (g : Gr) (hg : OkG g) (N : List Str) (hN : IsNull g N) (st : Str × List Str) (rest : Gr) (hst : g = st :: rest) :
  ∃ pr : Str × List Str → List Str, (Phi n).sem 8 [Qk g] = some (Ud (g.map pr), 1) ∧ ∀ r ∈ g, OkL (pr r) ∧ ∀ x, x ∈ pr r ↔ K2 g N r x := by
 have hlen := hg.few
 obtain ⟨N', h4, h4'⟩ := sem4 (n := 8) (by decide) g (by lia)
 obtain rfl : N' = N := (IsNull.mk h4'.1 h4'.2).unique hN
 obtain ⟨F, h6, okF, hF⟩ := sem6 (n := 8) (by decide) g hg N' hN
 obtain ⟨Fo, h7, okFo, hFo⟩ := sem7 (n := 8) (by decide) g hg N' hN st rest hst
 have hNh := hN.heads
 have hok : ∀ s f, (tab (Q0 g) F).lookup s = some f → OkL f := fun s f e => by
  rw [W7] at e
  split at e
  ·rename_i q; cases e; exact okF s q
  ·cases e
 have okfos : ∀ r ∈ g, OkL (fos (tab (Q0 g) F) N' [] r.2).1 := fun r hr => Dj hok _ [] OkL.nil fun s hs => Gh (hg.sym r hr s hs)
 let pr : Str × List Str → List Str := fun r => if (fos (tab (Q0 g) F) N' [] r.2).2 then canon ((fos (tab (Q0 g) F) N' [] r.2).1 ++ Fo r.1) else (fos (tab (Q0 g) F) N' [] r.2).1
 refine ⟨pr, ?_, fun r hr => ⟨?_, fun x => ?_⟩⟩
 ·rw [W0 hn (F := f8) rfl]
  rw [z1 (F := f8) rfl]
  dsimp only [f8, Nat.reduceSub, RS, RZ]
  (try dsimp only [Qd, Qj, Qe, Q2, GZ, v0, Qm, Qh, Q7, c1, ph8, kd4, agf, ag0, OM, c2])
  rw [h4]
  (try dsimp only [c3, Qb, OB, Q6, Qc, SS, SZ, Qd, Qj, Qe, Q2, GZ, v0, Qm, Qh, Q7, c1, ph8, kd6, agf, ag0, OM, c2])
  skip
  rw [h6]
  (try dsimp only [c3, Wi, OB, Q6, Qc, SS, SZ, Qd, Qj, Qe, Q2, GZ, v0, Qm, Qh, Q7, c1, ph8, kd7, agf, ag0, OM, c2])
  skip
  rw [h7]
  (try dsimp only [c3, Wi, OB, Q6, Qc, SS, SZ, Qd, Wa, Qh])
  skip
  rw [show (V0 []).bind (Z4 1) = some (Ud [], 1) from rfl]
  (try dsimp only [OB, Qc, SS, SZ, W6, Q2, GZ, v0, Qm, Tk, Rd, Rn])
  rw [Qn Wb (fun ps => [some (Qk g, 0), some (Q5 N', 0), some (Wc (tab (Q0 g) F), 0), some (Wc (tab (Q0 g) Fo), 0), some (Ud ps, 1), none, none, none]) (fun ps r => ps ++ [pr r]) g [] ?_]
  ·(try dsimp only [Q8, Wp, SS, SZ, Zt, GS, GZ, rr])
   rw [show g.foldl (fun ps r => ps ++ [pr r]) [] = g.map pr from by
    have : ∀ (l : Gr) (ps : List (List Str)), l.foldl (fun ps r => ps ++ [pr r]) ps = ps ++ l.map pr := by
     intro l
     induction l with
     | nil => simp
     | cons r l ih => intro ps; simp [ih]
    simpa using this g []]
  ·intro pre r post e
   have hr : r ∈ g := by rw [e]; simp
   have hrh : r.1 ∈ Q0 g := Qa.mpr ⟨r.2, hr⟩
   have hpl : (pre.foldl (fun ps r => ps ++ [pr r]) []).length = pre.length := by
    have : ∀ (l : Gr) (ps : List (List Str)), (l.foldl (fun ps r => ps ++ [pr r]) ps).length = ps.length + l.length := by
     intro l
     induction l with
     | nil => simp
     | cons r l ih => intro ps; rw [List.foldl_cons, ih]; simp; lia
    simpa using this pre []
   have hpl2 : pre.length ≤ 6 := by rw [e] at hlen; simp at hlen; lia
   generalize pre.foldl (fun ps r => ps ++ [pr r]) [] = ps at hpl ⊢
   have l1 := (okfos r hr).len
   have l2 := (okFo _ hrh).len
   (try dsimp only [f8_b0, SS, SZ, Sp, Qj, Qe, Qr, Q2, GS, GZ, v0, R2, Qq, Q3, Rf, Wi, Qb, Qh, Q7, c1, ph8, kd5, agf, ag0, OM, c2])
   rw [sem5 (by decide) r.2 (tab (Q0 g) F) N' hok fun s hs => Gh (hg.sym r hr s hs)]
   (try dsimp only [c3, mkR_T, OB, tup2_T, Sr, SS, SZ, Qw, Q2, GS, GZ, v0, W2, Q1])
   cases hv : (fos (tab (Q0 g) F) N' [] r.2).2 with
   | true =>
    (try dsimp only [Wk, Qd, Qj, Qe, Q2, GS, GZ, v0, Qb, Qr, Wi, R2, Qq, Q3, W1, Qh])
    rw [Re _ _ _ _ _ hrh]
    (try dsimp only [Dc, Q7, c1, ph8, kd2, agf, ag0, OM, c2])
    rw [M9 (by decide) _ _ (by lia)]
    (try dsimp only [c3, Qb, OB, Q6, Qc, SS, SZ, Qg, Q8, Ql, Y9, Q2, GS, GZ, v0, X1, Yc])
    skip
    rw [Et _ _ (by unfold lim; lia)]
    (try dsimp only [OB, Qc, SS, SZ, Qz, Qg, OM, Qi]; try simp only [hv, if_true, pr])
   | false =>
    (try dsimp only [W3, Qg, Q8, Ql, Y9, Q2, GS, GZ, v0, Qb, OB, X1, Yc])
    rw [Et _ _ (by unfold lim; lia)]
    (try dsimp only [OB, Qc, SS, SZ, Qz, Qg, OM, Qi]; try simp only [hv, BF, if_false, pr])
 ·simp only [pr]
  split
  ·exact OkL.canon fun x hx => by
    rcases List.mem_append.mp hx with q | q
    ·exact (okfos r hr).uu x q
    ·exact (okFo _ (Qa.mpr ⟨r.2, hr⟩)).uu x q
  ·exact okfos r hr
 ·simp only [pr]
  have hv := Hz (F := F) hNh r.2 []
  split
  ·rename_i q
   rw [hv] at q
   rw [R1, List.mem_append, J2 hNh hF, hFo _ (Qa.mpr ⟨r.2, hr⟩)]
   unfold K2
   have : ∀ s ∈ r.2, s ∈ N' := fun s hs => by simpa using List.all_eq_true.mp q s hs
   exact ⟨fun h => h.imp id fun h => ⟨this, h⟩, fun h => h.imp id And.right⟩
  ·rename_i q
   rw [hv] at q
   rw [J2 hNh hF]
   unfold K2
   constructor
   ·exact .inl
   ·rintro (h | ⟨h, _⟩)
    ·exact h
    ·exact absurd (List.all_eq_true.mpr fun s hs => by simpa using h s hs) q
noncomputable def Rk (row : List (Str × Int)) : PyData := .dict (row.map fun p => (.str p.1, .int p.2))
noncomputable def Xj (hs : List Str) (R : Str → List (Str × Int)) : PyData := .dict ((tab hs R).map fun p => (.str p.1, Rk p.2))
theorem mkR_Row (x : List (Str × Int)) (k : Kd) : mkR (Rk x) k = (Rk x, k) := rfl
theorem mkR_Tab (hs : List Str) (R : Str → List (Str × Int)) (k : Kd) : mkR (Xj hs R) k = (Xj hs R, k) := rfl
theorem inD_Row (neg : Bool) (x : Str) (row : List (Str × Int)) (k j : Kd) : inD neg (.str x, k) (Rk row, j) = some (.bool (neg ^^ (row.lookup x).isSome), .fr 9) := by
 show some (PyData.bool (neg ^^ (Wf x (row.map fun p => (PyData.str p.1, PyData.int p.2))).isSome), Kd.fr 9) = _
 rw [Rb]
 simp
theorem C9 (row : List (Str × Int)) (x : Str) (v : Int) (k : Nat) (h : row.length + 1 ≤ lim) : U0 (some (some (Rk row, 1))) x (.int v, .fr k) = some (Rk (R4 row x v), 1) := by
 show (if decide ((row.map fun p => (PyData.str p.1, PyData.int p.2)).length + 1 ≤ lim) && (Kd.fr k).sh then some (PyData.dict (Xe (row.map fun p => (PyData.str p.1, PyData.int p.2)) x (.int v)), 1) else none) = _
 rw [Va]
 simp [h, Kd.sh, Rk]
theorem It (x : Str) (hs : List Str) (R : Str → List (Str × Int)) (h : x ∈ hs) : Wf x ((tab hs R).map fun p => (PyData.str p.1, Rk p.2)) = some (Rk (R x)) := by
 rw [Rb, W7, if_pos h]; rfl
noncomputable def Rq (k : Int) (a : List (Str × Int) × Nat) (t : Str) : List (Str × Int) × Nat := if (a.1.lookup t).isSome then (a.1, a.2 + 1) else (R4 a.1 t k, a.2)
theorem Lh (k : Int) : ∀ (l : List Str) (a : List (Str × Int) × Nat) (x : Str), ((l.foldl (Rq k) a).1.lookup x).isSome = true ↔ (a.1.lookup x).isSome = true ∨ x ∈ l
 | [], a, x => by simp
 | t :: l, a, x => by
  rw [List.foldl_cons, Lh k l]
  unfold Rq
  split
  ·rename_i q
   simp only [List.mem_cons]
   constructor
   ·rintro (h | h)
    ·exact .inl h
    ·exact .inr (.inr h)
   ·rintro (h | rfl | h)
    ·exact .inl h
    ·exact .inl q
    ·exact .inr h
  ·rename_i q
   have hp : R4 a.1 t k = a.1 ++ [(t, k)] := by unfold R4; rw [if_neg q]
   simp only [hp, List.mem_cons]
   rw [List.lookup_append]
   by_cases e : x = t
   ·subst e; simp
   ·have : (x == t) = false := by simpa using e
    simp [List.lookup_cons, this, e]
theorem V8 (k : Int) : ∀ (l : List Str) (a : List (Str × Int) × Nat), (l.foldl (Rq k) a).1.length ≤ a.1.length + l.length
 | [], a => by simp
 | t :: l, a => by
  have h1 := V8 k l (Rq k a t)
  have h2 : (Rq k a t).1.length ≤ a.1.length + 1 := by
   unfold Rq
   split
   ·simp
   ·simp only [R4]; split <;> simp
  simp only [List.foldl_cons, List.length_cons]
  lia
theorem Lg (k : Int) : ∀ (l : List Str) (a : List (Str × Int) × Nat), l.Nodup → ((l.foldl (Rq k) a).2 = 0 ↔ a.2 = 0 ∧ ∀ t ∈ l, (a.1.lookup t).isSome = false)
 | [], a, _ => by simp
 | t :: l, a, nd => by
  rw [List.nodup_cons] at nd
  rw [List.foldl_cons, Lg k l _ nd.2]
  unfold Rq
  split
  ·rename_i q
   constructor
   ·rintro ⟨h, _⟩; simp at h
   ·rintro ⟨_, h⟩
    have := h t (.head _)
    rw [q] at this; cases this
  ·rename_i q
   have hp : R4 a.1 t k = a.1 ++ [(t, k)] := by unfold R4; rw [if_neg q]
   simp only [hp, List.mem_cons, forall_eq_or_imp]
   refine and_congr_right fun _ => ?_
   simp only [Bool.not_eq_true] at q
   rw [eq_true q, true_and]
   refine forall_congr' fun x => ?_
   constructor
   ·intro h hx
    have := h hx
    rw [List.lookup_append] at this
    simp only [Option.isSome_or, Bool.or_eq_false_iff] at this
    exact this.1
   ·intro h hx
    rw [List.lookup_append]
    have hne : (x == t) = false := by
     rw [beq_eq_false_iff_ne]
     rintro rfl
     exact nd.1 hx
    simp [h hx, List.lookup_cons, hne]
noncomputable def K3 (pr : Str × List Str → List Str) (l : Gr) : Prop := l.Pairwise fun r r' => r.1 = r'.1 → ∀ t ∈ pr r', t ∉ pr r
noncomputable def Tc (g : Gr) (pr : Str × List Str → List Str) (a : (Str → List (Str × Int)) × Nat) (k : Nat) : (Str → List (Str × Int)) × Nat :=
 match g[k]? with
 | some r => (Wn a.1 r.1 ((pr r).foldl (Rq k) (a.1 r.1, a.2)).1, ((pr r).foldl (Rq k) (a.1 r.1, a.2)).2)
 | none => a
theorem K4 {g : Gr} {pr : Str × List Str → List Str} (hpr : ∀ r ∈ g, OkL (pr r)) : ∀ k, k ≤ g.length →
  (∀ h x, ((((List.range k).foldl (Tc g pr) (fun _ => [], 0)).1 h).lookup x).isSome = true ↔ ∃ r ∈ g.take k, r.1 = h ∧ x ∈ pr r) ∧
  (((List.range k).foldl (Tc g pr) (fun _ => [], 0)).2 = 0 ↔ K3 pr (g.take k)) ∧
  ∀ h, (((List.range k).foldl (Tc g pr) (fun _ => [], 0)).1 h).length ≤ 7 * k
 | 0, _ => by simp [K3]
 | k + 1, hk => by
  obtain ⟨h1, h2, h3⟩ := K4 hpr k (by lia)
  have hkl : k < g.length := by lia
  rw [List.range_succ, List.foldl_append, List.foldl_cons, List.foldl_nil, List.take_add_one]
  generalize (List.range k).foldl (Tc g pr) (fun _ => [], 0) = a at h1 h2 h3 ⊢
  have hgk : g[k]? = some g[k] := List.getElem?_eq_getElem hkl
  have hok := hpr g[k] (List.getElem_mem hkl)
  have hst : Tc g pr a k = (Wn a.1 g[k].1 ((pr g[k]).foldl (Rq k) (a.1 g[k].1, a.2)).1, ((pr g[k]).foldl (Rq k) (a.1 g[k].1, a.2)).2) := by simp [Tc, hgk]
  rw [hst, hgk]
  refine ⟨fun h x => ?_, ?_, fun h => ?_⟩
  ·simp only [Wn, Option.toList_some, List.mem_append, List.mem_singleton]
   split
   ·rename_i q
    subst q
    rw [Lh, h1]
    constructor
    ·rintro (⟨r, hr, e, hx⟩ | hx)
     ·exact ⟨r, .inl hr, e, hx⟩
     ·exact ⟨_, .inr rfl, rfl, hx⟩
    ·rintro ⟨r, hr | rfl, e, hx⟩
     ·exact .inl ⟨r, hr, e, hx⟩
     ·exact .inr hx
   ·rename_i q
    rw [h1]
    constructor
    ·rintro ⟨r, hr, e, hx⟩
     exact ⟨r, .inl hr, e, hx⟩
    ·rintro ⟨r, hr | rfl, e, hx⟩
     ·exact ⟨r, hr, e, hx⟩
     ·exact absurd e.symm q
  ·simp only
   rw [Lg _ _ _ hok.can.nodup, h2]
   unfold K3
   simp only [Option.toList_some]
   rw [List.pairwise_append]
   simp only [List.pairwise_cons, List.not_mem_nil, false_implies, implies_true, List.Pairwise.nil, and_true, List.mem_singleton, forall_eq, true_and]
   refine and_congr_right fun _ => ?_
   constructor
   ·intro h r hr e t ht htr
    have := h t ht
    rw [← Bool.not_eq_true, h1] at this
    exact this ⟨r, hr, e, htr⟩
   ·intro h t ht
    rw [← Bool.not_eq_true, h1]
    rintro ⟨r, hr, e, htr⟩
    exact h r hr e t ht htr
  ·simp only [Wn]
   have hl := V8 k (pr g[k]) (a.1 g[k].1, a.2)
   have := hok.len
   have := h3 g[k].1
   split
   ·simp only at hl; lia
   ·have := h3 h; lia
theorem I7 (hs : List Str) (x : Str) (h : x ∉ hs) (hl : hs.length + 1 ≤ lim) : U0 (some (some (Xj hs fun _ => [], 2))) x (.dict [], .fr 9) = some (Xj (hs ++ [x]) fun _ => [], 2) := by
 show (if decide (((tab hs fun _ => []).map fun p => (PyData.str p.1, Rk p.2)).length + 1 ≤ lim) && (Wf x ((tab hs fun _ => []).map fun p => (PyData.str p.1, Rk p.2))).isNone && (Kd.fr 9).least (0 + 1) && cov (0 + 1) (.dict [])
  then some (PyData.dict (Xe ((tab hs fun _ => []).map fun p => (PyData.str p.1, Rk p.2)) x (Rk [])), 0 + 2) else none) = _
 rw [Va, Rb, W7, if_neg h, M0 (fun _ => ([] : List (Str × Int))) x hs h]
 rw [if_pos (by rw [List.length_map, Ro, decide_eq_true hl]; rfl)]
 rfl
theorem setD_Tab (hs : List Str) (R : Str → List (Str × Int)) (x : Str) (v : List (Str × Int)) : Uv x (Rk v) ((tab hs R).map fun p => (PyData.str p.1, Rk p.2)) = (tab hs (Wn R x v)).map fun p => (PyData.str p.1, Rk p.2) := by
 rw [Le]
 congr 1
 unfold tab
 rw [List.map_map]
 refine List.map_congr_left fun y _ => ?_
 simp only [Function.comp_apply, Wn]
 split <;> rfl
theorem Om (hs : List Str) (R : Str → List (Str × Int)) (x : Str) (h : x ∈ hs) : K1 (some (some (Xj hs R, 2))) x = some ((tab hs R).map fun p => (PyData.str p.1, Rk p.2), Rk (R x)) := by
 show (Wf x ((tab hs R).map fun p => (PyData.str p.1, Rk p.2))).bind (fun d => if leaf d then none else some ((tab hs R).map fun p => (PyData.str p.1, Rk p.2), d)) = _
 rw [It _ _ _ h]
 rfl
theorem sem9 {n : Nat} (hn : 9 < n) (g : Gr) (hg : OkG g) (pr : Str × List Str → List Str) (h8 : (Phi 9).sem 8 [Qk g] = some (Ud (g.map pr), 1)) (hpr : ∀ r ∈ g, OkL (pr r)) :
  ∃ (T : PyData) (c : Nat), (Phi n).sem 9 [Qk g] = some (.tuple [T, .int c], 0) ∧ (c = 0 ↔ K3 pr g) := by
 have hlen := hg.few
 have hfew := Ti hg
 refine ⟨Xj (Q0 g) ((List.range g.length).foldl (Tc g pr) (fun _ => [], 0)).1, ((List.range g.length).foldl (Tc g pr) (fun _ => [], 0)).2, ?_, by
  have := (K4 hpr g.length (Nat.le_refl _)).2.1
  rw [List.take_length] at this
  exact this⟩
 rw [W0 hn (F := f9) rfl]
 rw [z1 (F := f9) rfl]
 dsimp only [f9, Nat.reduceSub, RS, RZ]
 (try dsimp only [Qd, Qj, Qe, Q2, GZ, v0, Qm, Qh, Q7, c1, ph9, kd8, agf, ag0, OM, c2])
 rw [h8]
 (try dsimp only [c3, Ju, OB, Q6, Qc, SS, SZ, Qd, Yk])
 skip
 rw [show Z4 2 (PyData.dict [], Kd.fr 9) = some (Xj [] fun _ => [], 2) from rfl]
 (try dsimp only [OB, Qc, SS, SZ, W6, Qj, Qe, Q2, GZ, v0, Qm, Qh, Q7, c1, ph9, kd0, agf, ag0, OM, c2])
 rw [Cb (by decide) g (by lia)]
 (try dsimp only [c3, Qb, OB, Tk, Wg, Rn])
 have hfold : ∀ l : List Str, l.foldl (fun hs h => hs ++ [h]) [] = l := fun l => by
  have : ∀ (l a : List Str), l.foldl (fun hs h => hs ++ [h]) a = a ++ l := by
   intro l
   induction l with
   | nil => simp
   | cons x l ih => intro a; simp [ih]
  simpa using this l []
 rw [Qn PyData.str (fun hs => [some (Qk g, 0), some (Ud (g.map pr), 0), some (Xj hs fun _ => [], 2), none, none, none, none, none]) (fun hs h => hs ++ [h]) (Q0 g) [] ?_]
 ·rw [hfold]
  (try dsimp only [Q8, Wp, SS, SZ, Qd, Qq, OB, Q6, Qc, W6, Yt, Q2, GZ, v0, Qm]; try simp only [Mh, OB, Gl])
  skip
  rw [Rj _ _ (by unfold lim; lia)]
  (try dsimp only [OM, OB, Rn])
  rw [show (some (PyData.int 0, 0) : Option (PyData × Nat)) = some (PyData.int ((0 : Nat) : Int), 0) from rfl]
  rw [Qn (fun i : Nat => PyData.int i) (fun (a : (Str → List (Str × Int)) × Nat) => [some (Qk g, 0), some (Ud (g.map pr), 0), some (Xj (Q0 g) a.1, 2), none, some (.int (a.2 : Nat), 0), none, none, none]) (Tc g pr) (List.range g.length) (fun _ => [], 0) ?_]
  ·(try dsimp only [Q8, Wp, SS, SZ, R3, Wr, Rt, Q2]; try simp only [List.mapIdx_cons, OM, Option.map_none, List.mapIdx_nil, GS, GZ])
   (try dsimp only [Nat.reduceAdd, List.contains_cons, beq_self_eq_true, Nat.reduceBEq, List.contains_nil, Bool.or_self, Bool.or_false, dreduceIte, v0, mkR_Tab, BF, Qp, Q3, Rs, OB, Rl, rr])
  ·intro pre k post e
   have hk : k < g.length := by
    have : k ∈ List.range g.length := by rw [e]; simp
    exact List.mem_range.mp this
   have hpre : pre = List.range k := by
    have h1 : (List.range g.length)[pre.length]? = some k := by rw [e]; simp
    rw [List.getElem?_range (by rw [← List.length_range (n := g.length), e]; simp)] at h1
    have h2 : pre.length = k := Option.some.inj h1
    have h3 : (List.range g.length).take pre.length = pre := by rw [e]; simp
    rw [← h3, h2, List.take_range, Nat.min_eq_left (by lia)]
   have inv := K4 hpr k (by lia)
   rw [← hpre] at inv
   generalize pre.foldl (Tc g pr) (fun _ => [], 0) = a at inv ⊢
   have hgk : g[k]? = some g[k] := List.getElem?_eq_getElem hk
   have hrh : g[k].1 ∈ Q0 g := Qa.mpr ⟨g[k].2, List.getElem_mem hk⟩
   have okp := (hpr g[k] (List.getElem_mem hk)).len
   (try dsimp only [f9_b1, SS, SZ, G5, Qr, Q2, GZ, v0, Qm, GS, Qp, Q3, Qq, W6, Ju]; try simp only [Zp, hgk, OM, Q3, W1, OB, Wt])
   rw [Om _ _ _ hrh]
   (try dsimp only [OB]; try simp only [Eg, List.getElem?_map, hgk, OM, OB, Tk, Wg, Rn])
   rw [Qn PyData.str (fun (b : List (Str × Int) × Nat) => [some (Qk g, 0), some (Ud (g.map pr), 0), none, none, some (.int (b.2 : Nat), 0), some (.int (k : Nat), 0), some (Rk b.1, 1), none]) (Rq k) (pr g[k]) (a.1 g[k].1, a.2) ?_]
   ·(try dsimp only [Q8, Wp, SS, SZ, Qg, Out.als, K0, GS, GZ]; try simp only [OM, Qi, SS, SZ])
    rw [setD_Tab]
    simp only [Tc, hgk]
    rfl
   ·intro pre' t post' e'
    have hl := V8 k pre' (a.1 g[k].1, a.2)
    have hl2 : pre'.length ≤ 7 := by rw [e'] at okp; simp at okp; lia
    have hl3 := inv.2.2 g[k].1
    generalize pre'.foldl (Rq k) (a.1 g[k].1, a.2) = b at hl ⊢
    simp only at hl
    (try dsimp only [f9_b2, SS, SZ, Qw, Qt, Q2, GS, GZ, v0, Q9, v1, mkR_Row, Q3]; try simp only [inD_Row, Bool.false_xor, OB, Q1])
    by_cases q : (b.1.lookup t).isSome = true
    ·(try simp only [q, Wk, Qd, Wv, Q2, GS, GZ, v0, Qp, Qq, Q3, T4, OB, Q6, Qc, SS, SZ, Qg, Q8, Ql, OM, Qi])
     (try dsimp only [Rq]; try simp only [q, if_true])
     simp
    ·simp only [Bool.not_eq_true] at q
     (try simp only [q, W3, Xy, Q2, GS, GZ, v0, Qp, OB, Xz, Q9, Wt, Ui])
     rw [C9 _ _ _ _ (by unfold lim; lia)]
     (try dsimp only [OB, Qc, SS, SZ, Qg, Q8, Ql, OM, Qi, Rq]; try simp only [q, BF, if_false])
 ·intro pre h post e
  have hnd := Wj g
  rw [e] at hnd
  have hp : h ∉ pre := fun q => (List.nodup_append.mp hnd).2.2 h q h (.head _) rfl
  have hl : pre.length ≤ 3 := by have := hfew; rw [e] at this; simp at this; lia
  rw [hfold]
  (try dsimp only [f9_b0, SS, SZ, Xy, Yk, OB, Xz, Q2, GS, GZ, v0, Q9, Wt, Ui])
  rw [I7 _ _ hp (by unfold lim; lia)]
  (try dsimp only [OB, Qc, SS, SZ, Qg, OM, Qi])
theorem sem10 {n : Nat} (hn : 10 < n) (g : Gr) (hg : OkG g) (N : List Str) (hN : IsNull g N) (st : Str × List Str) (rest : Gr) (hst : g = st :: rest) :
  ∃ b : Bool, (Phi n).sem 10 [Qk g] = some (.bool b, 9) ∧ (b = true ↔ g.Pairwise fun r r' => r.1 = r'.1 → ∀ t, K2 g N r' t → ¬ K2 g N r t) := by
 obtain ⟨pr, h8, hpr⟩ := sem8 (n := 9) (by decide) g hg N hN st rest hst
 obtain ⟨T, c, h9, hc⟩ := sem9 (n := 10) (by decide) g hg pr h8 fun r hr => (hpr r hr).1
 refine ⟨decide ((c : Int) = 0), ?_, ?_⟩
 ·rw [W0 hn (F := f10) rfl]
  rw [z1 (F := f10) rfl]
  dsimp only [f10, Nat.reduceSub, RS, RZ]
  (try dsimp only [R3, Wr, List.contains_nil, BF, dreduceIte, Tv, Qr, Qj, Qe, Q2, Qh, Qq]; try simp only [List.mapIdx_cons, List.mapIdx_nil, GZ, v0, Qm, Q7, c1, ph10, kd9, agf, ag0, OM, c2])
  rw [h9]
  (try dsimp only [c3, Hu, Q3])
  rw [show Th (PyData.tuple [T, .int c], Kd.fr 0) (.int 1, .fr 9) = some (.int c, .fr 9) from rfl]
  (try dsimp only [Q3]; try simp only [G3, Bool.false_xor, OB, Rl, rr])
 ·rw [decide_eq_true_eq]
  have : ((c : Int) = 0) ↔ c = 0 := by lia
  rw [this, hc]
  unfold K3
  constructor
  ·intro h
   refine List.Pairwise.imp_of_mem (fun {a b} ha hb h e t ht ht' => ?_) h
   exact h e t (((hpr b hb).2 t).mpr ht) (((hpr a ha).2 t).mpr ht')
  ·intro h
   refine List.Pairwise.imp_of_mem (fun {a b} ha hb h e t ht ht' => ?_) h
   exact h e t (((hpr b hb).2 t).mp ht) (((hpr a ha).2 t).mp ht')
inductive DB (g : Gr) : List Str → List Str → Prop
 | nil : DB g [] []
 | tok {s r u} : s ∉ Q0 g → DB g r u → DB g (s :: r) (s :: u)
 | head {s b r u v} : (s, b) ∈ g → DB g b u → DB g r v → DB g (s :: r) (u ++ v)
noncomputable def D (g : Gr) (h : Str) (u : List Str) : Prop := ∃ b, (h, b) ∈ g ∧ DB g b u
theorem DB.app {g : Gr} {a u : List Str} (h : DB g a u) : ∀ {b v}, DB g b v → DB g (a ++ b) (u ++ v) := by
 induction h with
 | nil => intro b v q; exact q
 | tok h _ ih => intro b v q; exact .tok h (ih q)
 | head h1 h2 _ _ ih => intro b v q; rw [List.append_assoc]; exact .head h1 h2 (ih q)
noncomputable def Y4 (w : List Str) (i j : Nat) : List Str := (w.drop i).take (j - i)
theorem Vv {w : List Str} {i j k : Nat} (h1 : i ≤ j) (h2 : j ≤ k) : Y4 w i j ++ Y4 w j k = Y4 w i k := by
 unfold Y4
 have : k - i = (j - i) + (k - j) := by lia
 rw [this, List.take_add, List.drop_drop]
 congr 3
 lia
theorem B0 {w : List Str} {j : Nat} {s : Str} (h : w[j]? = some s) : Y4 w j (j + 1) = [s] := by
 unfold Y4
 have hj : j < w.length := by
  rcases Nat.lt_or_ge j w.length with q | q
  ·exact q
  ·rw [List.getElem?_eq_none q] at h; cases h
 rw [List.drop_eq_getElem_cons hj]
 rw [List.getElem?_eq_getElem hj] at h
 rw [Option.some.inj h]
 simp
theorem I5 {w : List Str} {i j : Nat} (h1 : i ≤ j) (h2 : j ≤ w.length) : (Y4 w i j).length = j - i := by
 unfold Y4
 simp
 lia
theorem B1 (w : List Str) : Y4 w 0 w.length = w := by simp [Y4]
noncomputable def Zy (hs : List Str) (T : Str → Nat → Nat → Bool) (w : List Str) (ps : List Nat) (s : Str) : List Nat :=
 (List.range (w.length + 1)).filter fun j => if s ∈ hs then ps.any (fun i => T s i j) else (decide (0 < j) && decide (j - 1 ∈ ps) && decide (w[j - 1]? = some s))
noncomputable def Tl (hs : List Str) (T : Str → Nat → Nat → Bool) (w : List Str) (b : List Str) (i : Nat) : List Nat := b.foldl (Zy hs T w) [i]
theorem Vt {hs : List Str} {T : Str → Nat → Nat → Bool} {w : List Str} {ps : List Nat} {s : Str} {j : Nat} :
  j ∈ Zy hs T w ps s ↔ j ≤ w.length ∧ ((s ∈ hs ∧ ∃ i ∈ ps, T s i j = true) ∨ (s ∉ hs ∧ ∃ i ∈ ps, j = i + 1 ∧ w[i]? = some s)) := by
 unfold Zy
 rw [List.mem_filter, List.mem_range]
 refine and_congr (by lia) ?_
 by_cases h : s ∈ hs
 ·simp [h]
 ·simp only [h, if_false, BA, decide_eq_true_eq, false_and, not_false_eq_true, true_and, false_or]
  constructor
  ·rintro ⟨⟨h1, h2⟩, h3⟩
   exact ⟨j - 1, h2, by lia, h3⟩
  ·rintro ⟨i, h1, rfl, h3⟩
   exact ⟨⟨by lia, by simpa using h1⟩, by simpa using h3⟩
noncomputable def Nt (g : Gr) (w : List Str) (T : Str → Nat → Nat → Bool) : Prop := ∀ h i j, T h i j = true → i ≤ j ∧ j ≤ w.length ∧ D g h (Y4 w i j)
theorem Lk {g : Gr} {T : Str → Nat → Nat → Bool} {w : List Str} (hT : Nt g w T) {i : Nat} (hi : i ≤ w.length) : ∀ (b pre : List Str) (ps : List Nat), (∀ j ∈ ps, i ≤ j ∧ j ≤ w.length ∧ DB g pre (Y4 w i j)) →
  ∀ j ∈ b.foldl (Zy (Q0 g) T w) ps, i ≤ j ∧ j ≤ w.length ∧ DB g (pre ++ b) (Y4 w i j)
 | [], pre, ps, h, j, hj => by simpa using h j hj
 | s :: b, pre, ps, h, j, hj => by
  have := Lk hT hi b (pre ++ [s]) (Zy (Q0 g) T w ps s) (fun k hk => by
   rw [Vt] at hk
   obtain ⟨hk1, hk2⟩ := hk
   rcases hk2 with ⟨hs, i', hi', ht⟩ | ⟨hs, i', hi', rfl, hw⟩
   ·refine BC fun nn => ?_
    obtain ⟨a1, a2, a3⟩ := h i' hi'
    refine nn ?_; clear nn
    refine BC fun nn => ?_
    obtain ⟨b1, b2, bb, b3, b4⟩ := hT s i' k ht
    refine nn ?_; clear nn
    refine ⟨by lia, hk1, ?_⟩
    rw [← Vv a1 b1]
    have := a3.app (DB.head b3 b4 DB.nil)
    rwa [List.append_nil] at this
   ·refine BC fun nn => ?_
    obtain ⟨a1, a2, a3⟩ := h i' hi'
    refine nn ?_; clear nn
    refine ⟨by lia, hk1, ?_⟩
    rw [← Vv a1 (Nat.le_succ i'), B0 hw]
    exact a3.app (DB.tok hs DB.nil)) j hj
  simpa using this
theorem Jg {g : Gr} {T : Str → Nat → Nat → Bool} {w : List Str} (hT : Nt g w T) {i : Nat} (hi : i ≤ w.length) {b : List Str} {j : Nat} (hj : j ∈ Tl (Q0 g) T w b i) : i ≤ j ∧ j ≤ w.length ∧ DB g b (Y4 w i j) := by
 have := Lk hT hi b [] [i] (fun k hk => by
  simp at hk; subst hk
  refine ⟨Nat.le_refl _, hi, ?_⟩
  simp [Y4]
  exact .nil) j hj
 simpa using this
theorem Ch {g : Gr} {T : Str → Nat → Nat → Bool} {w : List Str} (hcl : ∀ r ∈ g, ∀ i, i ≤ w.length → ∀ j ∈ Tl (Q0 g) T w r.2 i, T r.1 i j = true) {b u : List Str} (d : DB g b u) :
  ∀ (i : Nat) (ps : List Nat), i ∈ ps → i + u.length ≤ w.length → Y4 w i (i + u.length) = u → i + u.length ∈ b.foldl (Zy (Q0 g) T w) ps := by
 induction d with
 | nil => intro i ps hi _ _; simpa using hi
 | @tok s r u hs _ ih =>
  intro i ps hi hl hw
  rw [List.foldl_cons]
  simp only [List.length_cons] at hl hw ⊢
  have hwi : w[i]? = some s := by
   have : (Y4 w i (i + (u.length + 1)))[0]? = some s := by rw [hw]; rfl
   unfold Y4 at this
   rw [List.getElem?_take, List.getElem?_drop] at this
   simpa using this
  have h1 : i + 1 ∈ Zy (Q0 g) T w ps s := Vt.mpr ⟨by lia, .inr ⟨hs, i, hi, rfl, hwi⟩⟩
  have h2 : Y4 w (i + 1) (i + 1 + u.length) = u := by
   have h3 := Vv (w := w) (i := i) (j := i + 1) (k := i + (u.length + 1)) (by lia) (by lia)
   rw [B0 hwi, hw] at h3
   have e : i + 1 + u.length = i + (u.length + 1) := by lia
   rw [e]
   simpa using h3
  have := ih (i + 1) _ h1 (by lia) h2
  have e : i + 1 + u.length = i + (u.length + 1) := by lia
  rw [e] at this
  exact this
 | @head s b r u v hm _ _ ihb ihr =>
  intro i ps hi hl hw
  rw [List.foldl_cons]
  rw [List.length_append] at hl hw ⊢
  have happ := Vv (w := w) (i := i) (j := i + u.length) (k := i + (u.length + v.length)) (by lia) (by lia)
  rw [hw] at happ
  have hinj := List.append_inj happ (by rw [I5 (by lia) (by lia)]; lia)
  have h1 := ihb i [i] (by simp) (by lia) hinj.1
  have ht := hcl _ hm i (by lia) _ h1
  have hs : s ∈ Q0 g := Qa.mpr ⟨_, hm⟩
  have h2 : i + u.length ∈ Zy (Q0 g) T w ps s := Vt.mpr ⟨by lia, .inl ⟨hs, i, hi, ht⟩⟩
  have e : i + u.length + v.length = i + (u.length + v.length) := by lia
  have := ihr (i + u.length) _ h2 (by lia) (by rw [e]; exact hinj.2)
  rw [e] at this
  exact this
theorem Bz {g : Gr} {T : Str → Nat → Nat → Bool} {w : List Str} (hT : Nt g w T) (hcl : ∀ r ∈ g, ∀ i, i ≤ w.length → ∀ j ∈ Tl (Q0 g) T w r.2 i, T r.1 i j = true) (h : Str) : T h 0 w.length = true ↔ D g h w := by
 constructor
 ·intro q
  refine BC fun nn => ?_
  obtain ⟨_, _, d⟩ := hT h 0 w.length q
  refine nn ?_; clear nn
  rwa [B1] at d
 ·rintro ⟨b, hm, d⟩
  have := Ch hcl d 0 [0] (by simp) (by lia) (by rw [Nat.zero_add]; exact B1 w)
  rw [Nat.zero_add] at this
  exact hcl _ hm 0 (by lia) _ this
noncomputable def Z6 (l : List Nat) : PyData := .list (l.map fun i => .int (i : Nat))
noncomputable def Jb (n : Nat) (f : Nat → Bool) : PyData := .list ((List.range (n + 1)).map fun j => .bool (f j))
noncomputable def mat (n : Nat) (M : Nat → Nat → Bool) : PyData := .list ((List.range (n + 1)).map fun i => Jb n (M i))
noncomputable def Ty (hs : List Str) (n : Nat) (T : Str → Nat → Nat → Bool) : PyData := .dict ((tab hs T).map fun p => (.str p.1, mat n p.2))
theorem Ha (x : List Nat) (k : Kd) : mkR (Z6 x) k = (Z6 x, k) := rfl
theorem D1 (hs : List Str) (n : Nat) (T : Str → Nat → Nat → Bool) (k : Kd) : mkR (Ty hs n T) k = (Ty hs n T, k) := rfl
theorem Ef (l : List Nat) (k : Nat) : Lr (Z6 l, .fr k) = some (l.map fun i => .int (i : Nat), 0) := rfl
theorem iterS_I (l : List Nat) (k : Nat) : Y5 (Z6 l, .fr k) = some (l.map fun i => .int (i : Nat)) := rfl
theorem eqv_int (a b : Int) : PyData.eqv (.int a) (.int b) = decide (a = b) := rfl
theorem any_int (x : Nat) (xs : List Nat) : ((xs.map fun i => PyData.int (i : Nat)).any fun y => PyData.eqv y (.int (x : Nat))) = decide (x ∈ xs) := by
 rw [List.any_map]
 induction xs with
 | nil => rfl
 | cons y ys ih =>
  simp only [List.any_cons, ih, Function.comp_apply, eqv_int, List.mem_cons]
  by_cases h1 : x = y
  ·subst h1; simp
  ·have : ¬ ((y : Int) = (x : Int)) := by lia
   simp [this, h1]
theorem inD_I (neg : Bool) (x : Nat) (xs : List Nat) (k j : Kd) : inD neg (.int (x : Nat), k) (Z6 xs, j) = some (.bool (neg ^^ decide (x ∈ xs)), .fr 9) := by
 show (if Ts 3 (.int (x : Nat)) && (xs.map fun i => PyData.int (i : Nat)).all (Ts 3) then some (PyData.bool (neg ^^ (xs.map fun i => PyData.int (i : Nat)).any fun y => PyData.eqv y (.int (x : Nat))), Kd.fr 9) else none) = _
 rw [any_int, if_pos (show (Ts 3 (.int (x : Nat)) && (xs.map fun i => PyData.int (i : Nat)).all (Ts 3)) = true from Bool.and_eq_true_iff.mpr ⟨rfl, List.all_eq_true.mpr fun d hd => by obtain ⟨_, _, rfl⟩ := List.mem_map.mp hd; rfl⟩)]
theorem N3 (hs : List Str) (n : Nat) (T : Str → Nat → Nat → Bool) (s : Str) (k j : Kd) (h : s ∈ hs) : Th (Ty hs n T, k) (.str s, j) = some (mat n (T s), k.item) := by
 show (Wf s ((tab hs T).map fun p => (PyData.str p.1, mat n p.2))).map (fun d => mkR d k.item) = _
 rw [Rb, W7, if_pos h]
 rfl
theorem inD_Ts (neg : Bool) (hs : List Str) (n : Nat) (T : Str → Nat → Nat → Bool) (s : Str) (k j : Kd) : inD neg (.str s, k) (Ty hs n T, j) = some (.bool (neg ^^ decide (s ∈ hs)), .fr 9) := by
 show some (PyData.bool (neg ^^ (Wf s ((tab hs T).map fun p => (PyData.str p.1, mat n p.2))).isSome), Kd.fr 9) = _
 rw [Rb, W7]
 split
 ·rename_i q; simp [q]
 ·rename_i q; simp [q]
theorem De (n : Nat) (M : Nat → Nat → Bool) (i : Nat) (k j : Kd) (h : i ≤ n) : Th (mat n M, k) (.int (i : Nat), j) = some (Jb n (M i), k.item) := by
 show (if 0 ≤ (i : Int) then (((List.range (n + 1)).map fun i => Jb n (M i))[(i : Int).toNat]?).map fun d => mkR d k.item else none) = _
 rw [if_pos (Int.natCast_nonneg i), Int.toNat_natCast, List.getElem?_map, List.getElem?_range (by lia)]
 rfl
theorem Kr (n : Nat) (f : Nat → Bool) (i : Nat) (k j : Kd) (h : i ≤ n) : Th (Jb n f, k) (.int (i : Nat), j) = some (.bool (f i), .fr 9) := by
 show (if 0 ≤ (i : Int) then (((List.range (n + 1)).map fun i => PyData.bool (f i))[(i : Int).toNat]?).map fun d => mkR d k.item else none) = _
 rw [if_pos (Int.natCast_nonneg i), Int.toNat_natCast, List.getElem?_map, List.getElem?_range (by lia)]
 rfl
theorem appD_I (xs : List Nat) (x : Nat) (h : xs.length + 1 ≤ lim) : Ft (some (some (Z6 xs, 1))) (.int (x : Nat)) = some (Z6 (xs ++ [x]), 1) := by
 show (if (xs.map fun i => PyData.int (i : Nat)).length + 1 ≤ lim then some (PyData.list ((xs.map fun i => PyData.int (i : Nat)) ++ [.int (x : Nat)]), 1) else none) = _
 simp [h, Z6]
theorem V9 (n : Nat) (k : Kd) (h : n + 1 ≤ lim) : Zn (.int ((n : Int) + 1), k) = some ((List.range (n + 1)).map fun i => PyData.int (i : Nat), 0) := Rj (n + 1) k h
theorem fl_Ts (hs : List Str) (n : Nat) (T : Str → Nat → Nat → Bool) : fl 3 (Ty hs n T) = true := by
 have hb : ∀ (k : Nat) (b : Bool), fl k (.bool b) = true := fun k b => by cases k <;> rfl
 have h1 : ∀ f, fl 1 (Jb n f) = true := fun f => by
  show ((List.range (n + 1)).map fun j => PyData.bool (f j)).all (fl 0) = true
  rw [List.all_map, List.all_eq_true]
  intro x _
  exact hb 0 _
 have h2 : ∀ f, fl 2 (mat n f) = true := fun f => by
  show ((List.range (n + 1)).map fun j => Jb n (f j)).all (fl 1) = true
  rw [List.all_map, List.all_eq_true]
  intro x _
  exact h1 _
 show ((tab hs T).map fun p => (PyData.str p.1, mat n p.2)).all (fun p => fl 2 p.2) = true
 rw [List.all_map, List.all_eq_true]
 intro x _
 exact h2 _
theorem Zq {α : Type} (p : α → Bool) : ∀ (l a : List α), l.foldl (fun m j => if p j then m ++ [j] else m) a = a ++ l.filter p
 | [], a => by simp
 | x :: l, a => by
  rw [List.foldl_cons, Zq p l]
  cases h : p x <;> simp [h, List.filter_cons]
theorem C4 {hs : List Str} {T : Str → Nat → Nat → Bool} {w : List Str} : ∀ (b : List Str) (ps : List Nat), (∀ i ∈ ps, i ≤ w.length) → ∀ i ∈ b.foldl (Zy hs T w) ps, i ≤ w.length
 | [], ps, h => h
 | s :: b, ps, h => C4 b _ fun i hi => (Vt.mp hi).1
theorem sem11 {n : Nat} (hn : 11 < n) (b : List Str) (i : Nat) (w hs : List Str) (T : Str → Nat → Nat → Bool) (hw : w.length ≤ 100) (hi : i ≤ w.length) :
  (Phi n).sem 11 [Q5 b, .int (i : Nat), Q5 w, Ty hs w.length T] = some (Z6 (Tl hs T w b i), 0) := by
 rw [W0 hn (F := f11) rfl]
 rw [Jr (F := f11) rfl (by show (true && (true && (true && (fl 3 _ && true)))) = true; rw [fl_Ts]; rfl)]
 show Ma (evB (Phi 11) [6] f11.body [some (Q5 b, 0), some (.int (i : Nat), 0), some (Q5 w, 0), some (Ty hs w.length T, 3), none, none, none, none, none, none]) = _
 dsimp only [f11]
 (try dsimp only [Qd, Wa, Qe, Q2, GS, GZ, v0, Qp, Qh, Q7, OB])
 rw [show (V0 [(PyData.int (i : Nat), Kd.fr 9)]).bind (Z4 0) = some (Z6 [i], 0) from rfl]
 (try dsimp only [OB, Qc, SS, SZ, W6, Q2, GZ, v0, Qb, Tk, Wg, Rn])
 rw [Qn PyData.str (fun ps => [some (Q5 b, 0), some (.int (i : Nat), 0), some (Q5 w, 0), some (Ty hs w.length T, 3), some (Z6 ps, 0), none, none, none, none, none]) (Zy hs T w) b [i] ?_]
 ·(try dsimp only [Q8, Wp, SS, SZ, R3, Wr, Q2]; try simp only [List.mapIdx_cons, OM, Option.map_none, List.mapIdx_nil, GS, GZ])
  (try dsimp only [Nat.reduceAdd, List.contains_cons, Nat.reduceBEq, List.contains_nil, Bool.or_self, BF, dreduceIte, v0, Ha, OB, Rl])
  rfl
 ·intro pre s post e
  have hle : ∀ j ∈ pre.foldl (Zy hs T w) [i], j ≤ w.length := C4 pre [i] (by simpa using hi)
  generalize pre.foldl (Zy hs T w) [i] = ps at hle ⊢
  (try dsimp only [f11_b0, SS, SZ, Qd, Wa, Qh, OB])
  rw [show (V0 []).bind (Z4 1) = some (Z6 [], 1) from rfl]
  (try dsimp only [OB, Qc, SS, SZ, W6, Wv, Yt, Q2, GS, GZ, v0, Qb, Qq]; try simp only [Y3, Q3, T4, OB, Gl])
  rw [V9 _ _ (by unfold lim; lia)]
  (try dsimp only [OM, OB, Rn])
  rw [Qn (fun j : Nat => PyData.int (j : Nat)) (fun mv => [some (Q5 b, 0), some (.int (i : Nat), 0), some (Q5 w, 0), some (Ty hs w.length T, 3), some (Z6 ps, 0), some (.str s, 0), some (Z6 mv, 1), none, none, none])
   (fun mv j => if (if s ∈ hs then ps.any (fun i => T s i j) else (decide (0 < j) && decide (j - 1 ∈ ps) && decide (w[j - 1]? = some s))) then mv ++ [j] else mv) (List.range (w.length + 1)) [] ?_]
  ·rw [Zq]
   (try dsimp only [List.nil_append, Q8, Wp, SS, SZ, G4, GS, GZ, Qd, Q2, v0, OB, Ha, Q6, Qc, Qz, Qg, OM, Qi])
   (try dsimp only [Zy])
  ·intro pre' j post' e'
   have hj : j ≤ w.length := by
    have : j ∈ List.range (w.length + 1) := by rw [e']; simp
    have := List.mem_range.mp this
    lia
   have hl : (pre'.foldl (fun mv j => if (if s ∈ hs then ps.any (fun i => T s i j) else (decide (0 < j) && decide (j - 1 ∈ ps) && decide (w[j - 1]? = some s))) then mv ++ [j] else mv) []).length ≤ w.length + 1 := by
    rw [Zq, List.nil_append]
    have h1 := List.length_filter_le (fun j => if s ∈ hs then ps.any (fun i => T s i j) else (decide (0 < j) && decide (j - 1 ∈ ps) && decide (w[j - 1]? = some s))) pre'
    have h2 := congrArg List.length e'
    simp only [List.length_range, List.length_append, List.length_cons] at h2
    lia
   generalize pre'.foldl (fun mv j => if (if s ∈ hs then ps.any (fun i => T s i j) else (decide (0 < j) && decide (j - 1 ∈ ps) && decide (w[j - 1]? = some s))) then mv ++ [j] else mv) [] = mv at hl ⊢
   (try dsimp only [f11_b1, SS, SZ, Qw, Qt, Q2, GS, GZ, v0, Q9, v3, D1, Q3]; try simp only [inD_Ts, Bool.false_xor, OB, Q1])
   by_cases hs' : s ∈ hs
   ·(try simp only [hs', decide_true, Wk, Qd, Ec, R6, Q2, GS, GZ, v0, Ha, OB, X2, Ef, R8, BF, if_false, if_true])
    rw [Ri (fun i : Nat => PyData.int (i : Nat)) (fun i => .bool (T s i j)) ps (fun k hk => by
     (try dsimp only [R5, SS, SZ, i0, Qr, Q2, GS, GZ, v3, D1, v0, Q9, Q3, Qp, Bool.not_false, Bool.true_or, Bool.and_true, OB, dreduceIte]; try simp only [Bool.not_false, Bool.true_or, Bool.and_true])
     rw [N3 _ _ _ _ _ _ hs']
     (try dsimp only [it_3, Q3])
     rw [De _ _ _ _ _ (hle k hk)]
     (try dsimp only [it_2, Q3])
     rw [Kr _ _ _ _ _ hj]
     (try dsimp only [OB, U8, dreduceIte]))]
    (try dsimp only [OM, OB]; try simp only [anyD_map, OB, Q6, Qc, SS, SZ, Qg, Q8, Ql, Qw, Q2, GS, GZ, v0, W2, Q1])
    skip
    cases hany : (ps.any fun i => T s i j) with
    | true =>
     (try dsimp only [Wk, Y9, Q2, GS, GZ, v0, Qp, OB, X1, Yc, dreduceIte])
     rw [appD_I _ _ (by unfold lim; lia)]
     (try dsimp only [OB, Qc, SS, SZ, Qg, Q8, Ql, Qz, OM, Qi])
    | false => (try dsimp only [W3, Qg, Q8, Ql, Qz, SS, SZ, OM, Qi, BF, dreduceIte])
   ·(try simp only [hs', decide_false, W3, Qd, Yl, p2, Ir, Q2, GS, GZ, v0, Qp, Qq, Q3, Bl, Qt, Eb, p1, Tv, Qr, Qb, Q9, if_false])
    cases j with
    | zero =>
     have e0 : decide ((0 : Int) < ((0 : Nat) : Int)) = false := by decide
     have e0' : decide (0 < 0) = false := by decide
     (try simp only [ltD_e, e0, OB, Q1, bft, BF, if_false, Wl, Q6, Qc, SS, SZ, Qg, Q8, Ql, Qw, Q2, GS, GZ, v0, W2, W3, Qz, OM, Qi, e0', Bool.false_and])
     skip
    | succ m =>
     have hm : m < w.length := by lia
     have e1 : ((m + 1 : Nat) : Int) - 1 = (m : Nat) := by lia
     have e2 : decide ((0 : Int) < ((m + 1 : Nat) : Int)) = true := decide_eq_true (by lia)
     have e3 : decide (0 < m + 1) = true := by simp
     have hwm : w[m]? = some w[m] := List.getElem?_eq_getElem hm
     (try dsimp only [Ha, Nat.add_sub_cancel]; try simp only [ltD_e, e2, OB, Q1, subD_e, e1, Q3, inD_I, Bool.false_xor, Zo, hwm, OM, T9, beq_self_eq_true, if_true, e3, Nat.add_sub_cancel, Bool.true_and])
     by_cases q1 : m ∈ ps
     ·(try simp only [q1, decide_true, beq_self_eq_true, if_true, Wl, OB, Q6, Qc, SS, SZ, Qg, Q8, Ql, Qw, Q2, GS, GZ, v0, W2, Q1, OI, Bool.true_and])
      skip
      by_cases q2 : w[m] = s
      ·(try simp only [q2, decide_true, Wk, Y9, Q2, GS, GZ, v0, Qp, OB, X1, Yc, if_true])
       rw [appD_I _ _ (by unfold lim; lia)]
       (try dsimp only [OB, Qc, SS, SZ, Qg, Q8, Ql, Qz, OM, Qi])
      ·(try simp only [q2, decide_false, W3, Qg, Q8, Ql, Qz, SS, SZ, OM, Qi, BF, if_false])
     ·(try simp only [q1, decide_false, bft, BF, if_false, Wl, OB, Q6, Qc, SS, SZ, Qg, Q8, Ql, Qw, Q2, GS, GZ, v0, W2, Q1, W3, Qz, OM, Qi, Bool.false_and])
      skip
noncomputable def J9 (T : Str → Nat → Nat → Bool) (h : Str) (i j : Nat) : Str → Nat → Nat → Bool := fun h' i' j' => if h' = h ∧ i' = i ∧ j' = j then true else T h' i' j'
noncomputable def Ym (h : Str) (i : Nat) (a : (Str → Nat → Nat → Bool) × Bool) (j : Nat) : (Str → Nat → Nat → Bool) × Bool := if a.1 h i j then a else (J9 a.1 h i j, true)
noncomputable def T7 (g : Gr) (w : List Str) (a : (Str → Nat → Nat → Bool) × Bool) (p : (Str × List Str) × Nat) : (Str → Nat → Nat → Bool) × Bool :=
 (Tl (Q0 g) a.1 w p.1.2 p.2).foldl (Ym p.1.1 p.2) a
noncomputable def cells (hs : List Str) (n : Nat) : List (Str × Nat × Nat) := hs.flatMap fun h => (List.range (n + 1)).flatMap fun i => (List.range (n + 1)).map fun j => (h, i, j)
noncomputable def cnt (hs : List Str) (n : Nat) (T : Str → Nat → Nat → Bool) : Nat := (cells hs n).countP fun c => T c.1 c.2.1 c.2.2
theorem Oh {hs : List Str} {n : Nat} {h : Str} {i j : Nat} : (h, i, j) ∈ cells hs n ↔ h ∈ hs ∧ i ≤ n ∧ j ≤ n := by
 simp only [cells, List.mem_flatMap, List.mem_map, List.mem_range, Prod.mk.injEq]
 constructor
 ·rintro ⟨h', h1, i', h2, j', h3, rfl, rfl, rfl⟩
  exact ⟨h1, by lia, by lia⟩
 ·rintro ⟨h1, h2, h3⟩
  exact ⟨h, h1, i, by lia, j, by lia, rfl, rfl, rfl⟩
theorem Oi (hs : List Str) (n : Nat) : (cells hs n).length = hs.length * ((n + 1) * (n + 1)) := by
 unfold cells
 induction hs with
 | nil => simp
 | cons h hs ih =>
  rw [List.flatMap_cons, List.length_append, ih]
  have : ((List.range (n + 1)).flatMap fun i => (List.range (n + 1)).map fun j => (h, i, j)).length = (n + 1) * (n + 1) := by
   have hc : ∀ (c : Nat) (l : List Nat), (l.map fun _ => c).sum = l.length * c := fun c l => by
    induction l with
    | nil => simp
    | cons x l ih => rw [List.map_cons, List.sum_cons, ih, List.length_cons, Nat.succ_mul]; lia
   rw [List.length_flatMap]
   simp only [List.length_map, List.length_range]
   rw [hc, List.length_range]
  rw [this, List.length_cons]
  generalize (n + 1) * (n + 1) = X
  rw [Nat.succ_mul]
  lia
theorem Br {α : Type} {p q : α → Bool} : ∀ (l : List α), (∀ x ∈ l, p x = true → q x = true) → l.countP p ≤ l.countP q
 | l, h => List.countP_mono_left h
theorem Ku {α : Type} {p q : α → Bool} {c : α} : ∀ (l : List α), (∀ x ∈ l, p x = true → q x = true) → c ∈ l → p c = false → q c = true → l.countP p < l.countP q
 | x :: l, h, hc, hp, hq => by
  rw [List.countP_cons, List.countP_cons]
  rcases List.mem_cons.mp hc with rfl | hc
  ·have := Br l fun y hy => h y (.tail _ hy)
   simp [hp, hq]; lia
  ·have := Ku l (fun y hy => h y (.tail _ hy)) hc hp hq
   have h1 := h x (.head _)
   cases hpx : p x
   ·simp; split <;> lia
   ·simp [h1 hpx]; lia
theorem E3 {T : Str → Nat → Nat → Bool} {h : Str} {i j : Nat} {h' : Str} {i' j' : Nat} (q : T h' i' j' = true) : J9 T h i j h' i' j' = true := by
 unfold J9; split <;> simp_all
theorem jFold {g : Gr} {w : List Str} {h : Str} {i : Nat} (hh : h ∈ Q0 g) (hi : i ≤ w.length) : ∀ (l : List Nat) (a : (Str → Nat → Nat → Bool) × Bool), (∀ j ∈ l, i ≤ j ∧ j ≤ w.length ∧ D g h (Y4 w i j)) → Nt g w a.1 →
  Nt g w (l.foldl (Ym h i) a).1 ∧ (∀ h' i' j', a.1 h' i' j' = true → (l.foldl (Ym h i) a).1 h' i' j' = true) ∧ (a.2 = true → (l.foldl (Ym h i) a).2 = true) ∧
  ((l.foldl (Ym h i) a).2 = false → (l.foldl (Ym h i) a).1 = a.1 ∧ ∀ j ∈ l, a.1 h i j = true) ∧
  (a.2 = false → (l.foldl (Ym h i) a).2 = true → cnt (Q0 g) w.length a.1 < cnt (Q0 g) w.length (l.foldl (Ym h i) a).1)
 | [], a, _, s => ⟨s, fun _ _ _ q => q, id, fun _ => ⟨rfl, fun _ h => nomatch h⟩, fun h1 h2 => by simp only [List.foldl_nil] at h2; rw [h1] at h2; cases h2⟩
 | j :: l, a, hl, s => by
  rw [List.foldl_cons]
  by_cases ht : a.1 h i j = true
  ·have he : Ym h i a j = a := by simp [Ym, ht]
   rw [he]
   refine BC fun nn => ?_
   obtain ⟨h1, h2, h3, h4, h5⟩ := jFold hh hi l a (fun k hk => hl k (.tail _ hk)) s
   refine nn ?_; clear nn
   refine ⟨h1, h2, h3, fun q => ⟨(h4 q).1, fun k hk => ?_⟩, h5⟩
   rcases List.mem_cons.mp hk with rfl | hk
   ·exact ht
   ·exact (h4 q).2 k hk
  ·have he : Ym h i a j = (J9 a.1 h i j, true) := by simp [Ym, ht]
   rw [he]
   have hj := hl j (.head _)
   have s' : Nt g w (J9 a.1 h i j) := fun h' i' j' q => by
    unfold J9 at q
    split at q
    ·rename_i e; obtain ⟨rfl, rfl, rfl⟩ := e; exact hj
    ·exact s h' i' j' q
   refine BC fun nn => ?_
   obtain ⟨h1, h2, h3, h4, h5⟩ := jFold hh hi l (J9 a.1 h i j, true) (fun k hk => hl k (.tail _ hk)) s'
   refine nn ?_; clear nn
   have h3' := h3 rfl
   refine ⟨h1, fun h' i' j' q => h2 h' i' j' (E3 q), fun _ => h3', (fun q => by rw [h3'] at q; cases q), fun _ _ => ?_⟩
   refine Ku (c := (h, i, j)) _ (fun c _ q => h2 _ _ _ (E3 q)) (Oh.mpr ⟨hh, hi, hj.2.1⟩) (by simpa using ht) (h2 _ _ _ (by simp [J9]))
theorem M1 {g : Gr} {w : List Str} : ∀ (l : List ((Str × List Str) × Nat)) (a : (Str → Nat → Nat → Bool) × Bool), (∀ p ∈ l, p.1 ∈ g ∧ p.2 ≤ w.length) → Nt g w a.1 →
  Nt g w (l.foldl (T7 g w) a).1 ∧ (∀ h' i' j', a.1 h' i' j' = true → (l.foldl (T7 g w) a).1 h' i' j' = true) ∧ (a.2 = true → (l.foldl (T7 g w) a).2 = true) ∧
  ((l.foldl (T7 g w) a).2 = false → (l.foldl (T7 g w) a).1 = a.1 ∧ ∀ p ∈ l, ∀ j ∈ Tl (Q0 g) a.1 w p.1.2 p.2, a.1 p.1.1 p.2 j = true) ∧
  (a.2 = false → (l.foldl (T7 g w) a).2 = true → cnt (Q0 g) w.length a.1 < cnt (Q0 g) w.length (l.foldl (T7 g w) a).1)
 | [], a, _, s => ⟨s, fun _ _ _ q => q, id, fun _ => ⟨rfl, fun _ h => nomatch h⟩, fun h1 h2 => by simp only [List.foldl_nil] at h2; rw [h1] at h2; cases h2⟩
 | p :: l, a, hl, s => by
  rw [List.foldl_cons]
  obtain ⟨hp1, hp2⟩ := hl p (.head _)
  have hh : p.1.1 ∈ Q0 g := Qa.mpr ⟨p.1.2, hp1⟩
  obtain ⟨b1, b2, b3, b4, b5⟩ := jFold (g := g) (w := w) hh hp2 (Tl (Q0 g) a.1 w p.1.2 p.2) a (fun j hj => by
   refine BC fun nn => ?_
   obtain ⟨c1, c2, c3⟩ := Jg s hp2 hj
   refine nn ?_; clear nn
   exact ⟨c1, c2, p.1.2, hp1, c3⟩) s
  have hstep : T7 g w a p = (Tl (Q0 g) a.1 w p.1.2 p.2).foldl (Ym p.1.1 p.2) a := rfl
  rw [← hstep] at b1 b2 b3 b4 b5
  refine BC fun nn => ?_
  obtain ⟨h1, h2, h3, h4, h5⟩ := M1 l (T7 g w a p) (fun q hq => hl q (.tail _ hq)) b1
  refine nn ?_; clear nn
  refine ⟨h1, fun h' i' j' q => h2 _ _ _ (b2 _ _ _ q), fun q => h3 (b3 q), fun q => ?_, fun q1 q2 => ?_⟩
  ·have hb : (T7 g w a p).2 = false := by
    cases hq : (T7 g w a p).2 with
    | false => rfl
    | true => rw [h3 hq] at q; cases q
   obtain ⟨e1, e2⟩ := b4 hb
   obtain ⟨e3, e4⟩ := h4 q
   rw [e1] at e3 e4
   refine ⟨e3, fun p' hp' => ?_⟩
   rcases List.mem_cons.mp hp' with rfl | hp'
   ·exact e2
   ·exact e4 p' hp'
  ·have hle : cnt (Q0 g) w.length (T7 g w a p).1 ≤ cnt (Q0 g) w.length (l.foldl (T7 g w) (T7 g w a p)).1 := Br _ fun c _ q => h2 _ _ _ q
   cases hq : (T7 g w a p).2 with
   | true => exact Nat.lt_of_lt_of_le (b5 q1 hq) hle
   | false =>
    have := h5 hq q2
    rw [(b4 hq).1] at this
    exact this
theorem Jh {α : Type} (f : Nat → α) (v : α) (m i : Nat) : ((List.range m).map f).set i v = (List.range m).map fun k => if k = i then v else f k := by
 apply List.ext_getElem?
 intro k
 rw [List.getElem?_set, List.getElem?_map, List.getElem?_map]
 simp only [List.length_map, List.length_range]
 by_cases h : i = k
 ·subst h
  by_cases hk : i < m
  ·simp [hk]
  ·have : (List.range m)[i]? = none := by rw [List.getElem?_eq_none]; simpa using hk
   simp [hk]
 ·have : ¬ k = i := fun q => h q.symm
  rw [if_neg h]
  cases hr : (List.range m)[k]? with
  | none => rfl
  | some x =>
   have : x = k := by
    have hk : k < m := by
     rcases Nat.lt_or_ge k m with q | q
     ·exact q
     ·rw [List.getElem?_eq_none (by simpa using q)] at hr; cases hr
    rw [List.getElem?_range hk] at hr
    exact (Option.some.inj hr).symm
   subst this
   simp [Ne.symm h]
theorem setD_Ts (hs : List Str) (n : Nat) (T : Str → Nat → Nat → Bool) (x : Str) (M : Nat → Nat → Bool) : Uv x (mat n M) ((tab hs T).map fun (p : Str × (Nat → Nat → Bool)) => (PyData.str p.1, mat n p.2)) = (tab hs (Wn T x M)).map fun (p : Str × (Nat → Nat → Bool)) => (PyData.str p.1, mat n p.2) := by
 rw [Le (mat n)]
 congr 1
 unfold tab
 rw [List.map_map]
 refine List.map_congr_left fun y _ => ?_
 simp only [Function.comp_apply, Wn]
 split <;> rfl
theorem C8 (hs : List Str) (n : Nat) (T : Str → Nat → Nat → Bool) (h : Str) (i j : Nat) (hh : h ∈ hs) (hi : i ≤ n) (hj : j ≤ n) : V7 (some (some (Ty hs n T, 3))) h i j true = some (Ty hs n (J9 T h i j), 3) := by
 show (match Wf h ((tab hs T).map fun (p : Str × (Nat → Nat → Bool)) => (PyData.str p.1, mat n p.2)) with
  | some (.list rows) => match rows[i]? with
   | some (.list row) => if j < row.length then some (PyData.dict (Uv h (.list (rows.set i (.list (row.set j (.bool true))))) ((tab hs T).map fun (p : Str × (Nat → Nat → Bool)) => (PyData.str p.1, mat n p.2))), 3) else none
   | _ => none
  | _ => none) = _
 rw [Rb, W7, if_pos hh]
 show (match ((List.range (n + 1)).map fun i => Jb n (T h i))[i]? with
   | some (.list row) => if j < row.length then some (PyData.dict (Uv h (.list (((List.range (n + 1)).map fun i => Jb n (T h i)).set i (.list (row.set j (.bool true))))) ((tab hs T).map fun (p : Str × (Nat → Nat → Bool)) => (PyData.str p.1, mat n p.2))), 3) else none
   | _ => none) = _
 rw [List.getElem?_map, List.getElem?_range (by lia)]
 show (if j < ((List.range (n + 1)).map fun j => PyData.bool (T h i j)).length then some (PyData.dict (Uv h (.list (((List.range (n + 1)).map fun i => Jb n (T h i)).set i (.list (((List.range (n + 1)).map fun j => PyData.bool (T h i j)).set j (.bool true))))) ((tab hs T).map fun (p : Str × (Nat → Nat → Bool)) => (PyData.str p.1, mat n p.2))), 3) else none) = _
 rw [if_pos (by simp; lia), Jh, Jh]
 have hm : PyData.list ((List.range (n + 1)).map fun k => if k = i then PyData.list ((List.range (n + 1)).map fun k => if k = j then PyData.bool true else PyData.bool (T h i k)) else Jb n (T h k)) = mat n (J9 T h i j h) := by
  unfold mat
  congr 1
  refine List.map_congr_left fun k _ => ?_
  by_cases q : k = i
  ·subst q
   simp only [if_true]
   unfold Jb
   congr 1
   refine List.map_congr_left fun m _ => ?_
   by_cases q2 : m = j
   ·simp [J9, q2]
   ·simp [J9, q2]
  ·simp only [q, if_false]
   congr 1
   funext m
   simp [J9, q]
 rw [hm, setD_Ts]
 have : Wn T h (J9 T h i j h) = J9 T h i j := by
  funext h' i' j'
  unfold Wn
  by_cases q : h' = h
  ·subst q; simp
  ·simp [q, J9]
 rw [this]
 rfl
theorem Gw (i : Nat) (k : Kd) (h : i ≤ 1000000) : Vc (.int (i : Nat), k) = some i := by
 show (if decide (0 ≤ (i : Int)) && decide ((i : Int) ≤ big) then some (i : Int).toNat else none) = _
 rw [if_pos (by simp [Uh]; lia)]
 simp
theorem mulD_row (n : Nat) (h : n + 1 ≤ 1000) : Mg (.list [.bool false], .fr 1) (.int ((n : Int) + 1), .fr 9) = some (Jb n fun _ => false, .fr 1) := by
 show (if (Kd.fr 1).rd1 && decide (0 ≤ (n : Int) + 1) && decide ((n : Int) + 1 ≤ big) && decide (([PyData.bool false]).length * ((n : Int) + 1).toNat ≤ lim) then some (PyData.list (List.replicate ((n : Int) + 1).toNat [PyData.bool false]).flatten, Kd.fr 1) else none) = _
 have e : ((n : Int) + 1).toNat = n + 1 := by lia
 rw [if_pos (by simp [e, Kd.rd1, lim, Uh]; lia), e]
 have : (List.replicate (n + 1) [PyData.bool false]).flatten = (List.range (n + 1)).map fun _ => PyData.bool false := by
  have h1 : ∀ m, (List.replicate m [PyData.bool false]).flatten = List.replicate m (PyData.bool false) := fun m => by
   induction m with
   | zero => rfl
   | succ m ih => simp [RS, ih]
  rw [h1, List.map_const']
  simp
 rw [this]
 rfl
theorem cov_mat (n : Nat) (M : Nat → Nat → Bool) : cov 2 (mat n M) = true := by
 show ((List.range (n + 1)).map fun i => Jb n (M i)).all (cov 1) = true
 rw [List.all_map, List.all_eq_true]
 intro i _
 show ((List.range (n + 1)).map fun j => PyData.bool (M i j)).all (cov 0) = true
 rw [List.all_map, List.all_eq_true]
 intro j _
 rfl
theorem A4 (hs : List Str) (n : Nat) (x : Str) (h : x ∉ hs) (hl : hs.length + 1 ≤ lim) : U0 (some (some (Ty hs n fun _ _ _ => false, 3))) x (mat n fun _ _ => false, .fr 2) = some (Ty (hs ++ [x]) n fun _ _ _ => false, 3) := by
 show (if decide (((tab hs fun _ _ _ => false).map fun (p : Str × (Nat → Nat → Bool)) => (PyData.str p.1, mat n p.2)).length + 1 ≤ lim) && (Wf x ((tab hs fun _ _ _ => false).map fun (p : Str × (Nat → Nat → Bool)) => (PyData.str p.1, mat n p.2))).isNone && (Kd.fr 2).least (1 + 1) && cov (1 + 1) (mat n fun _ _ => false)
  then some (PyData.dict (Xe ((tab hs fun _ _ _ => false).map fun (p : Str × (Nat → Nat → Bool)) => (PyData.str p.1, mat n p.2)) x (mat n fun _ _ => false)), 1 + 2) else none) = _
 rw [Va (mat n), Rb, W7, if_neg h, show R4 (tab hs fun _ _ _ => false) x (fun (_ _ : Nat) => false) = tab (hs ++ [x]) (fun _ _ _ => false) from M0 (fun _ => fun (_ _ : Nat) => false) x hs h]
 rw [if_pos (by simp [Ro, hl, Kd.least, cov_mat])]
 rfl
theorem sem12 {n : Nat} (hn : 12 < n) (g : Gr) (hg : OkG g) (w : List Str) (hw : w.length ≤ 8) :
  ∃ T, (Phi n).sem 12 [Qk g, Q5 w] = some (Ty (Q0 g) w.length T, 3) ∧ ∀ h, T h 0 w.length = true ↔ D g h w := by
 have hlen := hg.few
 have hfew := Ti hg
 have hcell : (cells (Q0 g) w.length).length ≤ 3 * 81 := by
  rw [Oi]
  have h1 : (w.length + 1) * (w.length + 1) ≤ 9 * 9 := Nat.mul_le_mul (by lia) (by lia)
  exact Nat.mul_le_mul hfew h1
 have hcnt : ∀ T, cnt (Q0 g) w.length T ≤ 3 * 81 := fun T => Nat.le_trans List.countP_le_length hcell
 let pairs : List ((Str × List Str) × Nat) := g.flatMap fun r => (List.range (w.length + 1)).map fun i => (r, i)
 have hpairs : ∀ p, p ∈ pairs ↔ p.1 ∈ g ∧ p.2 ≤ w.length := fun p => by
  simp only [pairs, List.mem_flatMap, List.mem_map, List.mem_range]
  constructor
  ·rintro ⟨r, hr, i, hi, rfl⟩; exact ⟨hr, by lia⟩
  ·rintro ⟨h1, h2⟩; exact ⟨p.1, h1, p.2, by lia, rfl⟩
 obtain ⟨⟨T, ch⟩, e, ⟨sT, cl⟩, hch⟩ := Ur (cond := fun σ => (evE (Phi 12) Pc σ).bind Wm) (body := fun σ => evB (Phi 12) [3] Pd σ)
  (fun (a : (Str → Nat → Nat → Bool) × Bool) => [some (Qk g, 0), some (Q5 w, 0), some (.int (w.length : Nat), 0), some (Ty (Q0 g) w.length a.1, 3), none, some (.bool a.2, 0), none, none, none, none]) (fun a => a.2)
  (fun a => pairs.foldl (T7 g w) (a.1, false)) (fun a => Nt g w a.1 ∧ (a.2 = false → ∀ p ∈ pairs, ∀ j ∈ Tl (Q0 g) a.1 w p.1.2 p.2, a.1 p.1.1 p.2 j = true)) (fun a => 2 * (3 * 81 - cnt (Q0 g) w.length a.1) + (if a.2 then 1 else 0))
  (fun a _ => by (try dsimp only [Pc, Q2, GS, GZ, v0, W2, OB, Q1])) (fun a hI hca => by
   obtain ⟨s, _⟩ := hI
   obtain ⟨r1, r2, r3, r4, r5⟩ := M1 (g := g) (w := w) pairs (a.1, false) (fun p hp => (hpairs p).mp hp) s
   refine ⟨?_, ⟨r1, fun q => by rw [(r4 q).1]; exact (r4 q).2⟩, ?_⟩
   ·(try dsimp only [Pd, Qd, Wq, OB, Q6, Qc, SS, SZ, W6, Q2, GZ, v0, Qm, Tk, Rd, Rn])
    skip
    have hflat : pairs.foldl (T7 g w) (a.1, false) = g.foldl (fun a r => (List.range (w.length + 1)).foldl (fun a i => T7 g w a (r, i)) a) (a.1, false) := by
     simp only [pairs]
     rw [List.foldl_flatMap]
     simp only [List.foldl_map]
    rw [hflat]
    rw [Qn Wb (fun (a : (Str → Nat → Nat → Bool) × Bool) => [some (Qk g, 0), some (Q5 w, 0), some (.int (w.length : Nat), 0), some (Ty (Q0 g) w.length a.1, 3), none, some (.bool a.2, 0), none, none, none, none])
     (fun a r => (List.range (w.length + 1)).foldl (fun a i => T7 g w a (r, i)) a) g (a.1, false) ?_]
    ·(try dsimp only [Q8, Wp, SS, SZ, Qg])
    intro pre r post e
    have hr : r ∈ g := by rw [e]; simp
    have hrh : r.1 ∈ Q0 g := Qa.mpr ⟨r.2, hr⟩
    obtain ⟨s', _⟩ := M1 (g := g) (w := w) (pre.flatMap fun r => (List.range (w.length + 1)).map fun i => (r, i)) (a.1, false) (fun p hp => by
     simp only [List.mem_flatMap, List.mem_map, List.mem_range] at hp
     obtain ⟨r', hr', i, hi, rfl⟩ := hp
     exact ⟨by rw [e]; simp [hr'], by show i ≤ w.length; lia⟩) s
    rw [List.foldl_flatMap] at s'
    simp only [List.foldl_map] at s'
    generalize pre.foldl (fun a r => (List.range (w.length + 1)).foldl (fun a i => T7 g w a (r, i)) a) (a.1, false) = u at s' ⊢
    (try dsimp only [f12_b2, SS, SZ, W6, Wv, Q2, GS, GZ, v0, Qp, Qq, Q3, T4, OB, Gl])
    rw [V9 _ _ (by unfold lim; lia)]
    (try dsimp only [OM, OB, Rn])
    rw [Qn (fun i : Nat => PyData.int (i : Nat)) (fun (a : (Str → Nat → Nat → Bool) × Bool) => [some (Qk g, 0), some (Q5 w, 0), some (.int (w.length : Nat), 0), some (Ty (Q0 g) w.length a.1, 3), none, some (.bool a.2, 0), some (Wb r, 0), none, none, none])
     (fun a i => T7 g w a (r, i)) (List.range (w.length + 1)) u ?_]
    ·(try dsimp only [Q8, Wp, SS, SZ, Qg, OM, Qi])
    intro pre' i post' e'
    have hi : i ≤ w.length := by
     have : i ∈ List.range (w.length + 1) := by rw [e']; simp
     have := List.mem_range.mp this
     lia
    obtain ⟨s2, _⟩ := M1 (g := g) (w := w) (pre'.map fun i => (r, i)) u (fun p hp => by
     obtain ⟨k, hk, rfl⟩ := List.mem_map.mp hp
     have : k ∈ List.range (w.length + 1) := by rw [e']; simp [hk]
     have := List.mem_range.mp this
     exact ⟨hr, by show k ≤ w.length; lia⟩) s'
    rw [List.foldl_map] at s2
    generalize pre'.foldl (fun a i => T7 g w a (r, i)) u = u' at s2 ⊢
    (try dsimp only [f12_b3, SS, SZ, W6, Qj, Qe, Qr, Q2, GS, GZ, v0, R2, Qq, Q3, Rf, Qp, Qb, v3, D1, Qh, Q7, c1, ph12, kd11, agf, ag3, ag0, OM, c2])
    rw [sem11 (by decide) r.2 i w (Q0 g) u'.1 (by lia) hi]
    (try dsimp only [c3, Ha, OB, Tk, iterS_I, Rn])
    have hpl : ∀ j ∈ Tl (Q0 g) u'.1 w r.2 i, j ≤ w.length := fun j hj => (Jg s2 hi hj).2.1
    show Option.map (Out.clr 7) _ = some (.next [some (Qk g, 0), some (Q5 w, 0), some (.int (w.length : Nat), 0), some (Ty (Q0 g) w.length ((Tl (Q0 g) u'.1 w r.2 i).foldl (Ym r.1 i) u').1, 3), none, some (.bool ((Tl (Q0 g) u'.1 w r.2 i).foldl (Ym r.1 i) u').2, 0), some (Wb r, 0), none, none, none])
    generalize Tl (Q0 g) u'.1 w r.2 i = ps at hpl ⊢
    rw [Qn (fun j : Nat => PyData.int (j : Nat)) (fun (a : (Str → Nat → Nat → Bool) × Bool) => [some (Qk g, 0), some (Q5 w, 0), some (.int (w.length : Nat), 0), some (Ty (Q0 g) w.length a.1, 3), none, some (.bool a.2, 0), some (Wb r, 0), some (.int (i : Nat), 0), none, none])
     (Ym r.1 i) ps u' ?_]
    ·(try dsimp only [Q8, Wp, SS, SZ, Qg, OM, Qi])
    intro pre2 j post2 e2
    have hj : j ≤ w.length := hpl j (by rw [e2]; simp)
    generalize pre2.foldl (Ym r.1 i) u' = v
    (try dsimp only [f12_b4, SS, SZ, Qw, H9, Qr, Q2, GS, GZ, v3, D1, v0, R2, Qq, Q3, W1, Qp])
    rw [N3 _ _ _ _ _ _ hrh]
    (try dsimp only [it_3, Q3])
    rw [De _ _ _ _ _ hi]
    (try dsimp only [it_2, Q3])
    rw [Kr _ _ _ _ _ hj]
    (try dsimp only [OB, Q1, Jt])
    cases hv : v.1 r.1 i j with
    | true => (try dsimp only [Ym]; try simp only [Bool.not_true, W3, Qg, Q8, Ql, OM, Qi, SS, SZ, hv, if_true])
    | false =>
     (try dsimp only [Ym]; try simp only [Bool.not_false, Wk, Np, Qr, Q2, GS, GZ, v0, R2, Qq, Q3, W1, OB, Wt, Qp, hv, BF, if_false])
     rw [Gw _ _ (by lia), Gw _ _ (by lia)]
     (try dsimp only [OB])
     rw [C8 _ _ _ _ _ _ hrh hi hj]
     (try dsimp only [OB, Qc, SS, SZ, Qd, Wq, Q6, Qg, Q8, Ql, OM, Qi])
     skip
   ·have h1 := hcnt (pairs.foldl (T7 g w) (a.1, false)).1
    cases hch : (pairs.foldl (T7 g w) (a.1, false)).2 with
    | false => rw [(r4 hch).1]; simp [hca]
    | true =>
     have := r5 rfl hch
     simp only [hca, if_true]
     simp only at this
     lia)
  Hq (fun _ _ _ => false, true) ⟨(fun _ _ _ h => by cases h), fun h => by cases h⟩ (by rw [Ls]; simp; lia)
 simp only at hch
 subst hch
 refine ⟨T, ?_, fun h => Bz sT (fun r hr i hi j hj => cl rfl (r, i) ((hpairs _).mpr ⟨hr, hi⟩) j hj) h⟩
 rw [W0 hn (F := f12) rfl]
 rw [z2 (F := f12) rfl]
 dsimp only [f12, Nat.reduceSub, RS, RZ]
 (try dsimp only [Qd, Yt, Q2, GS, GZ, v0, Qb, OB]; try simp only [Y3, OB, Q6, Qc, SS, SZ, Qd, Yk])
 skip
 rw [show Z4 3 (PyData.dict [], Kd.fr 9) = some (Ty [] w.length fun _ _ _ => false, 3) from rfl]
 (try dsimp only [OB, Qc, SS, SZ, W6, Qj, Qe, Q2, GZ, v0, Qm, Qh, Q7, c1, ph12, kd0, agf, ag0, OM, c2])
 rw [Cb (by decide) g (by lia)]
 (try dsimp only [c3, Qb, OB, Tk, Wg, Rn])
 have hfold : ∀ l : List Str, l.foldl (fun hs h => hs ++ [h]) [] = l := fun l => by
  have : ∀ (l a : List Str), l.foldl (fun hs h => hs ++ [h]) a = a ++ l := by
   intro l
   induction l with
   | nil => simp
   | cons x l ih => intro a; simp [ih]
  simpa using this l []
 rw [Qn PyData.str (fun hs => [some (Qk g, 0), some (Q5 w, 0), some (.int (w.length : Nat), 0), some (Ty hs w.length fun _ _ _ => false, 3), none, none, none, none, none, none]) (fun hs h => hs ++ [h]) (Q0 g) [] ?_]
 ·rw [hfold]
  (try dsimp only [Q8, Wp, SS, SZ, Qd, Wq, OB, Q6, Qc, Yo])
  ((try simp only at e); skip)
  rw [e]
  (try dsimp only [Q8, Ql, Zt, GS, GZ, rr])
 ·intro pre h post e
  have hnd := Wj g
  rw [e] at hnd
  have hp : h ∉ pre := fun q => (List.nodup_append.mp hnd).2.2 h q h (.head _) rfl
  have hl : pre.length ≤ 3 := by have := hfew; rw [e] at this; simp at this; lia
  rw [hfold]
  (try dsimp only [f12_b0, SS, SZ, Xy, R6, Wv, Q2, GS, GZ, v0, Qp, Qq, Q3, T4, OB, A6])
  rw [V9 _ _ (by unfold lim; lia)]
  (try dsimp only [OB, R8, dreduceIte])
  rw [Ri (fun i : Nat => PyData.int (i : Nat)) (fun _ => Jb w.length fun _ => false) (List.range (w.length + 1)) (fun k _ => by
   (try dsimp only [R5, SS, SZ, i0, B8, Wa, Qe, Wq, Qh, Q7, OB, Wv, Q2, GS, GZ, v0, Qp, Qq, Q3, Bool.not_true, Bool.false_or, dreduceIte]; try simp only [Bool.not_true, Bool.false_or])
   rw [show V0 [(PyData.bool false, Kd.fr 9)] = some (.list [.bool false], .fr 1) from rfl]
   (try dsimp only [T4, Q3])
   rw [mulD_row _ (by lia)]
   (try dsimp only [OB, U8, Bool.true_and]; try simp only [lea_f, Nat.le_refl, decide_true, Bool.and_self, if_true]))]
  (try dsimp only [OM, OB, Xz, Q2, GS, GZ, v0, Q9, Wt, Ui])
  rw [show PyData.list ((List.range (w.length + 1)).map fun _ => Jb w.length fun _ => false) = mat w.length (fun _ _ => false) from rfl, A4 _ _ _ hp (by unfold lim; lia)]
  (try dsimp only [OB, Qc, SS, SZ, Qg, OM, Qi])
theorem sem13 {n : Nat} (hn : 13 < n) (g : Gr) (hg : OkG g) (h : Str) (hh : h ∈ Q0 g) (w : List Str) (hw : w.length ≤ 8) :
  ∃ b : Bool, (Phi n).sem 13 [Qk g, .str h, Q5 w] = some (.bool b, 9) ∧ (b = true ↔ D g h w) := by
 obtain ⟨T, h12, hT⟩ := sem12 (n := 13) (by decide) g hg w hw
 refine ⟨T h 0 w.length, ?_, hT h⟩
 rw [W0 hn (F := f13) rfl]
 rw [z3 (F := f13) rfl]
 dsimp only [f13, Nat.reduceSub, RS, RZ]
 (try dsimp only [R3, Wr, List.contains_nil, BF, dreduceIte, Qr, Qj, Qe, Q2, Qh, Qq, Yt]; try simp only [List.mapIdx_cons, List.mapIdx_nil, GZ, v0, Qm, GS, Qb, Q7, c1, ph13, kd12, agf, ag0, OM, c2, Q9, OB, Y3])
 rw [h12]
 (try dsimp only [c3, D1, Q3])
 rw [N3 _ _ _ _ _ _ hh]
 (try dsimp only [Dc, Q3])
 rw [show Th (mat w.length (T h), Kd.fr 0) (.int 0, .fr 9) = some (Jb w.length (T h 0), .fr 0) from De _ _ 0 _ _ (by lia)]
 (try dsimp only [Q3])
 rw [Kr _ _ _ _ _ (Nat.le_refl _)]
 (try dsimp only [OB, Rl, rr])
theorem sem14 {n : Nat} (hn : 14 < n) (g : Gr) (hg : OkG g) (st : Str × List Str) (rest : Gr) (hst : g = st :: rest) (w : List Str) (hw : w.length ≤ 8) :
  ∃ b : Bool, (Phi n).sem 14 [Qk g, Q5 w] = some (.bool b, 9) ∧ (b = true ↔ D g st.1 w) := by
 have hst' : st.1 ∈ Q0 g := Qa.mpr ⟨st.2, by rw [hst]; simp⟩
 obtain ⟨b, h13, hb⟩ := sem13 (n := 14) (by decide) g hg st.1 hst' w hw
 refine ⟨b, ?_, hb⟩
 rw [W0 hn (F := f14) rfl]
 rw [z2 (F := f14) rfl]
 dsimp only [f14, Nat.reduceSub, RS, RZ]
 (try dsimp only [R3, Wr, List.contains_nil, BF, dreduceIte, Qj, Qe, Q2, Qr, Qq, Qh]; try simp only [List.mapIdx_cons, List.mapIdx_nil, GZ, v0, Qm, Q3, GS, Qb, Q7])
 have h0 : Th (Qk g, .fr 0) (.int 0, .fr 9) = some (Wb st, .fr 0) := by
  have := Zp g 0 0 (.fr 9)
  rw [hst] at this ⊢
  exact this
 rw [h0]
 (try dsimp only [Q3, W1, Q7, c1, ph14, kd13, agf, ag0, OM, c2])
 rw [h13]
 (try dsimp only [c3, W2, OB, Rl, rr])
inductive Rch (succ : Str → List Str) (roots : List Str) : Str → Prop
 | root {x} : x ∈ roots → Rch succ roots x
 | step {x y} : Rch succ roots x → y ∈ succ x → Rch succ roots y
theorem Um : ∀ (l u : List Str), ∃ e, l.foldl Qy u = u ++ e ∧ (∀ x ∈ e, x ∈ l ∧ x ∉ u) ∧ e.Nodup
 | [], u => ⟨[], by simp, by simp, List.nodup_nil⟩
 | x :: l, u => by
  rw [List.foldl_cons]
  by_cases h : x ∈ u
  ·have : Qy u x = u := by simp [Qy, h]
   rw [this]
   obtain ⟨e, h1, h2, h3⟩ := Um l u
   exact ⟨e, h1, fun y hy => ⟨.tail _ (h2 y hy).1, (h2 y hy).2⟩, h3⟩
  ·have : Qy u x = u ++ [x] := by simp [Qy, h]
   rw [this]
   obtain ⟨e, h1, h2, h3⟩ := Um l (u ++ [x])
   refine ⟨x :: e, by rw [h1]; simp, fun y hy => ?_, ?_⟩
   ·rcases List.mem_cons.mp hy with rfl | hy
    ·exact ⟨.head _, h⟩
    ·exact ⟨.tail _ (h2 y hy).1, fun q => (h2 y hy).2 (List.mem_append_left _ q)⟩
   ·exact List.nodup_cons.mpr ⟨fun q => (h2 x q).2 (by simp), h3⟩
theorem G8 {succ : Str → List Str} {roots V : List Str} {cond : Sg → Option Bool} {body : Sg → Option Out} (mk : List Str × Nat → Sg) (hV : ∀ x, Rch succ roots x → x ∈ V) (hsmall : roots.length + V.length < 900)
  (hc : ∀ a, cond (mk a) = some (decide (a.2 < a.1.length)))
  (hb : ∀ (f : List Str) (p : Nat) (h : p < f.length), (∀ x ∈ f, Rch succ roots x) → f.length ≤ roots.length + V.length → body (mk (f, p)) = some (.next (mk ((succ f[p]).foldl Qy f, p + 1)))) :
  ∃ e, Y1 cond body Hq (mk (roots, 0)) = some (.next (mk (roots ++ e, (roots ++ e).length))) ∧ e.Nodup ∧ (∀ x ∈ e, x ∉ roots) ∧ ∀ x, x ∈ roots ++ e ↔ Rch succ roots x := by
 obtain ⟨⟨f, p⟩, h1, ⟨e, h2, h3, h4, h5, h6, h7⟩, h8⟩ := Ur mk (fun a => decide (a.2 < a.1.length)) (fun a => ((succ ((a.1[a.2]?).getD sS)).foldl Qy a.1, a.2 + 1))
  (fun a => ∃ e, a.1 = roots ++ e ∧ e.Nodup ∧ (∀ x ∈ e, x ∉ roots) ∧ (∀ x ∈ a.1, Rch succ roots x) ∧ a.2 ≤ a.1.length ∧ ∀ (k : Nat) (x : Str), k < a.2 → a.1[k]? = some x → ∀ y ∈ succ x, y ∈ a.1) (fun a => roots.length + V.length + 1 - a.2)
  (fun a _ => hc a) (fun a hI hca => by
   obtain ⟨e, i1, i2, i3, i4, i5, i6⟩ := hI
   simp only [decide_eq_true_eq] at hca
   have heV : e.length ≤ V.length := Wo i2 fun x hx => hV x (i4 x (by rw [i1]; simp [hx]))
   have hfl : a.1.length ≤ roots.length + V.length := by rw [i1, List.length_append]; lia
   have hget : (a.1[a.2]?).getD sS = a.1[a.2] := by rw [List.getElem?_eq_getElem hca]; rfl
   obtain ⟨e', j1, j2, j3⟩ := Um (succ a.1[a.2]) a.1
   have hx : Rch succ roots a.1[a.2] := i4 _ (List.getElem_mem hca)
   refine ⟨?_, ⟨e ++ e', ?_, ?_, ?_, ?_, ?_, ?_⟩, ?_⟩
   ·have := hb a.1 a.2 hca i4 hfl
    simp only [hget]
    exact this
   ·show (succ ((a.1[a.2]?).getD sS)).foldl Qy a.1 = _
    rw [hget, j1, i1, List.append_assoc]
   ·rw [List.nodup_append]
    exact ⟨i2, j3, fun x hx y hy q => (j2 y hy).2 (by rw [i1, ← q]; simp [hx])⟩
   ·intro x hx
    rcases List.mem_append.mp hx with q | q
    ·exact i3 x q
    ·exact fun q' => (j2 x q).2 (by rw [i1]; simp [q'])
   ·simp only [hget, j1]
    intro x hx'
    rcases List.mem_append.mp hx' with q | q
    ·exact i4 x q
    ·exact .step hx (j2 x q).1
   ·simp only [hget, j1, List.length_append]; lia
   ·simp only [hget, j1]
    intro k x hk hkx y hy
    by_cases q : k < a.2
    ·rw [List.getElem?_append_left (by lia)] at hkx
     exact List.mem_append_left _ (i6 k x q hkx y hy)
    ·have hke : k = a.2 := by lia
     subst hke
     rw [List.getElem?_append_left hca, List.getElem?_eq_getElem hca] at hkx
     obtain rfl := Option.some.inj hkx
     rw [← j1, Zk]
     exact .inr hy
   ·simp only; lia)
  Hq (roots, 0) ⟨[], by simp, List.nodup_nil, (fun _ h => nomatch h), fun x hx => .root hx, Nat.zero_le _, fun k x hk => by simp at hk⟩ (by rw [Ls]; simp; lia)
 simp only [decide_eq_false_iff_not] at h8
 simp only at h2 h5 h6 h7
 have hp : p = f.length := by lia
 subst hp
 subst h2
 refine ⟨e, h1, h3, h4, fun x => ⟨h5 x, fun r => ?_⟩⟩
 induction r with
 | root hx => simp [hx]
 | step _ hy ih =>
  obtain ⟨k, hk⟩ := List.getElem?_of_mem ih
  have hkl : k < (roots ++ e).length := by
   rcases Nat.lt_or_ge k (roots ++ e).length with q | q
   ·exact q
   ·rw [List.getElem?_eq_none q] at hk; cases hk
  exact h7 k _ hkl hk _ hy
noncomputable def T2 (g : Gr) (h : Str) : List Str := (g.filter fun r => decide (r.1 = h)).flatMap fun r => r.2.filter fun s => decide (s ∈ Q0 g)
theorem Rg {g : Gr} {h s : Str} : s ∈ T2 g h ↔ s ∈ Q0 g ∧ ∃ b, (h, b) ∈ g ∧ s ∈ b := by
 simp only [T2, List.mem_flatMap, List.mem_filter, decide_eq_true_eq]
 constructor
 ·rintro ⟨⟨h', b⟩, ⟨h1, rfl⟩, h2, h3⟩; exact ⟨h3, b, h1, h2⟩
 ·rintro ⟨h3, b, h1, h2⟩; exact ⟨(h, b), ⟨h1, rfl⟩, h2, h3⟩
theorem Xg (a b : Nat) (k j : Kd) : ltD (.int (a : Nat), k) (.int (b : Nat), j) = some (.bool (decide (a < b)), .fr 9) := by
 show some (PyData.bool (decide ((a : Int) < (b : Int))), Kd.fr 9) = _
 congr 3
 exact decide_eq_decide.mpr (by lia)
theorem sem16 {n : Nat} (hn : 16 < n) (g : Gr) (hg : OkG g) (st : Str × List Str) (rest : Gr) (hst : g = st :: rest) :
  ∃ found, (Phi n).sem 16 [Qk g] = some (Q5 found, 1) ∧ Can found ∧ ∀ h, h ∈ found ↔ Rch (T2 g) [st.1] h := by
 have hlen := hg.few
 have hfew := Ti hg
 have hst' : st.1 ∈ Q0 g := Qa.mpr ⟨st.2, by rw [hst]; simp⟩
 have hV : ∀ x, Rch (T2 g) [st.1] x → x ∈ Q0 g := fun x r => by
  cases r with
  | root h => simp at h; subst h; exact hst'
  | step _ h => exact (Rg.mp h).1
 obtain ⟨e, h1, h2, h3, h4⟩ := G8 (succ := T2 g) (roots := [st.1]) (V := Q0 g) (cond := fun σ => (evE (Phi 16) Pa σ).bind Wm) (body := fun σ => evB (Phi 16) [2] Pb σ)
  (fun a => [some (Qk g, 0), some (Q5 (Q0 g), 0), some (Q5 a.1, 1), some (.int (a.2 : Nat), 0), none, none]) hV (by simp; lia)
  (fun a => by (try dsimp only [Pa, Mf, Q2, GS, GZ, v0, Qp, Yt, v1, Qb, OB]; try simp only [Y3, Q3, Xg, OB, Q1])) (fun f p hp hf hfl => by
   have hfl' : f.length ≤ 4 := by simp at hfl; lia
   (try dsimp only [Pb, W6, Q2, GZ, v0, Qm, OB, Tk, Rd, Rn])
   rw [Qn Wb (fun u => [some (Qk g, 0), some (Q5 (Q0 g), 0), some (Q5 u, 1), some (.int (p : Nat), 0), none, none])
    (fun u r => if r.1 = f[p] then (r.2.filter fun s => decide (s ∈ Q0 g)).foldl Qy u else u) g f ?_]
   ·(try dsimp only [Q8, Wp, SS, SZ, Qd, Wv, Q2, GS, GZ, v0, Qp, Qq, Q3, T4, OB, Q6, Qc, Qg])
    skip
    have : g.foldl (fun u r => if r.1 = f[p] then (r.2.filter fun s => decide (s ∈ Q0 g)).foldl Qy u else u) f = (T2 g f[p]).foldl Qy f := by
     unfold T2
     rw [List.foldl_flatMap, List.foldl_filter]
     simp only [decide_eq_true_eq]
    rw [this]
    rfl
   ·intro pre r post e
    have hr : r ∈ g := by rw [e]; simp
    have hshort := hg.short r hr
    have hbound : ∀ (l : Gr) (u : List Str), (∀ r ∈ l, r.2.length ≤ 3) → (l.foldl (fun u r => if r.1 = f[p] then (r.2.filter fun s => decide (s ∈ Q0 g)).foldl Qy u else u) u).length ≤ u.length + 3 * l.length := by
     intro l
     induction l with
     | nil => intro u _; simp
     | cons r l ih =>
      intro u hs
      rw [List.foldl_cons]
      have h1 := ih (if r.1 = f[p] then (r.2.filter fun s => decide (s ∈ Q0 g)).foldl Qy u else u) fun r' hr' => hs r' (.tail _ hr')
      have h2 : (if r.1 = f[p] then (r.2.filter fun s => decide (s ∈ Q0 g)).foldl Qy u else u).length ≤ u.length + 3 := by
       split
       ·have h3 := Tj (r.2.filter fun s => decide (s ∈ Q0 g)) u
        have h4 := List.length_filter_le (fun s => decide (s ∈ Q0 g)) r.2
        have h5 := hs r (.head _)
        lia
       ·lia
      simp only [List.length_cons]
      lia
    have hl := hbound pre f fun r' hr' => hg.short r' (by rw [e]; simp [hr'])
    have hpl : pre.length ≤ 6 := by rw [e] at hlen; simp at hlen; lia
    have hfp : ∃ z, pre.foldl (fun u r => if r.1 = f[p] then (r.2.filter fun s => decide (s ∈ Q0 g)).foldl Qy u else u) f = f ++ z := by
     have : ∀ (l : Gr) (u z : List Str), u = f ++ z → ∃ z', l.foldl (fun u r => if r.1 = f[p] then (r.2.filter fun s => decide (s ∈ Q0 g)).foldl Qy u else u) u = f ++ z' := by
      intro l
      induction l with
      | nil => intro u z h; exact ⟨z, h⟩
      | cons r l ih =>
       intro u z h
       rw [List.foldl_cons]
       split
       ·obtain ⟨e', j1, _⟩ := Um (r.2.filter fun s => decide (s ∈ Q0 g)) u
        exact ih _ (z ++ e') (by rw [j1, h, List.append_assoc])
       ·exact ih u z h
     exact this pre f [] (by simp)
    obtain ⟨z, hz⟩ := hfp
    rw [hz] at hl ⊢
    have hgp : (f ++ z)[p]? = some f[p] := by rw [List.getElem?_append_left hp, List.getElem?_eq_getElem hp]
    (try dsimp only [f16_b1, SS, SZ, Qw, Tv, Qr, Q2, GS, GZ, v0, R2, Qq, Q3, W1, v1, Qb, Qp]; try simp only [Zo, hgp, OM, Q3, T9, Bool.false_xor, OB, Q1])
    by_cases q : r.1 = f[p]
    ·(try simp only [q, decide_true, Wk, W6, Qr, Q2, GS, GZ, v0, R2, Qq, Q3, Rf, OB, Tk, Wg, Rn, if_true])
     rw [Qn PyData.str (fun u => [some (Qk g, 0), some (Q5 (Q0 g), 0), some (Q5 u, 1), some (.int (p : Nat), 0), some (Wb r, 0), none]) (fun u s => if s ∈ Q0 g then Qy u s else u) r.2 (f ++ z) ?_]
     ·(try dsimp only [Q8, Wp, SS, SZ, Qg, Ql, OM, Qi])
      rw [List.foldl_filter]
      simp only [decide_eq_true_eq]
     ·intro pre' s post' e'
      have hl2 : (pre'.foldl (fun u s => if s ∈ Q0 g then Qy u s else u) (f ++ z)).length ≤ (f ++ z).length + pre'.length := by
       have : ∀ (l u : List Str), (l.foldl (fun u s => if s ∈ Q0 g then Qy u s else u) u).length ≤ u.length + l.length := by
        intro l
        induction l with
        | nil => intro u; simp
        | cons x l ih =>
         intro u
         rw [List.foldl_cons]
         have h1 := ih (if x ∈ Q0 g then Qy u x else u)
         have h2 : (if x ∈ Q0 g then Qy u x else u).length ≤ u.length + 1 := by split; exact Xo u x; lia
         simp only [List.length_cons]
         lia
       exact this pre' (f ++ z)
      have hl3 : pre'.length ≤ 3 := by rw [e'] at hshort; simp at hshort; lia
      generalize pre'.foldl (fun u s => if s ∈ Q0 g then Qy u s else u) (f ++ z) = v at hl2 ⊢
      (try dsimp only [f16_b2, SS, SZ, Qw, Yl, p2, Qt, Q2, GS, GZ, v0, Q9, Qb, Q3, p1, v1]; try simp only [Ws, Bool.false_xor, OB, Q1, Bool.true_xor])
      by_cases q1 : s ∈ Q0 g
      ·by_cases q2 : s ∈ v
       ·(try dsimp only [Qy]; try simp only [q1, decide_true, beq_self_eq_true, q2, Bool.not_true, if_true, Wl, OB, Q1, W3, Qg, Q8, Ql, OM, Qi, SS, SZ])
       ·(try dsimp only [Qy]; try simp only [q1, decide_true, beq_self_eq_true, q2, decide_false, Bool.not_false, if_true, Wl, OB, Q1, Wk, Y9, Q2, GS, GZ, v0, Q9, X1, Yc, if_false])
        rw [Xm _ _ (by unfold lim; lia)]
        (try dsimp only [OB, Qc, SS, SZ, Qg, Q8, Ql, OM, Qi])
      ·(try simp only [q1, decide_false, bft, BF, if_false, Wl, OB, Q1, W3, Qg, Q8, Ql, OM, Qi, SS, SZ])
    ·(try simp only [q, decide_false, W3, Qg, Q8, Ql, OM, Qi, SS, SZ, if_false]))
 refine ⟨Uj ([st.1] ++ e), ?_, Can.of ?_, fun h => by rw [X0]; exact h4 h⟩
 ·rw [W0 hn (F := f16) rfl]
  rw [z1 (F := f16) rfl]
  dsimp only [f16, Nat.reduceSub, RS, RZ]
  (try dsimp only [Qd, Qj, Qe, Q2, GZ, v0, Qm, Qh, Q7, c1, ph16, kd0, agf, ag0, OM, c2])
  rw [Cb (by decide) g (by lia)]
  (try dsimp only [c3, Qb, OB, Q6, Qc, SS, SZ, Qd, Wa, Qe, Qr, Q2, GZ, v0, Qm, Qq, Q3, Qh])
  skip
  have h0 : Th (Qk g, .fr 0) (.int 0, .fr 9) = some (Wb st, .fr 0) := by
   have := Zp g 0 0 (.fr 9)
   rw [hst] at this ⊢
   exact this
  rw [h0]
  (try dsimp only [Q3, W1, Q7, OB, Vf])
  rw [Yi _ _ (by decide)]
  (try dsimp only [OB, Qc, SS, SZ, Qd, Qq, Q6, Yo])
  simp only at h1
  skip
  rw [show (some (PyData.int 0, 0) : Option (PyData × Nat)) = some (PyData.int ((0 : Nat) : Int), 0) from rfl, h1]
  (try dsimp only [Q8, Ql, R3, Wr, U6, Q2]; try simp only [List.mapIdx_cons, OM, Option.map_none, List.mapIdx_nil, GS, GZ])
  (try dsimp only [Nat.reduceAdd, List.contains_cons, beq_self_eq_true, List.contains_nil, Bool.or_false, dreduceIte, v0, Qb, OB])
  have hel : e.length ≤ 3 := by
   have := Wo (U := Q0 g) h2 fun x hx => hV x ((h4 x).mp (by simp [hx]))
   lia
  rw [Zz _ _ (by simp; lia)]
  rfl
 ·rw [List.nodup_append]
  exact ⟨by simp, h2, fun x hx y hy q => h3 y hy (by rw [← q]; exact hx)⟩
noncomputable def okR (P ts : List Str) (r : Str × List Str) : Bool := decide (r.1 ∈ P) && r.2.all fun s => decide (s ∈ P ++ ts)
noncomputable def K8 (g : Gr) (P : List Str) (st : Str) : Gr := g.filter fun r => okR P (Qx g) r && decide (r.1 = st)
noncomputable def Gu (g : Gr) (P : List Str) (st : Str) : Gr := g.filter fun r => okR P (Qx g) r && !decide (r.1 = st)
noncomputable def Tx (g : Gr) (P : List Str) (st : Str) : Gr := K8 g P st ++ Gu g P st
theorem Vb (p q : Str × List Str → Bool) : ∀ g : Gr, (g.filter fun r => p r && q r).length + (g.filter fun r => p r && !q r).length ≤ g.length
 | [] => by simp
 | r :: g => by
  have := Vb p q g
  simp only [List.filter_cons, List.length_cons]
  cases p r <;> cases q r <;> simp <;> lia
theorem T5 {g : Gr} {P : List Str} {st : Str} {r : Str × List Str} : r ∈ Tx g P st ↔ r ∈ g ∧ okR P (Qx g) r = true := by
 simp only [Tx, K8, Gu, List.mem_append, List.mem_filter, BA, decide_eq_true_eq, Bool.not_eq_true', decide_eq_false_iff_not]
 constructor
 ·rintro (⟨h1, h2, _⟩ | ⟨h1, h2, _⟩) <;> exact ⟨h1, h2⟩
 ·rintro ⟨h1, h2⟩
  by_cases q : r.1 = st
  ·exact .inl ⟨h1, h2, q⟩
  ·exact .inr ⟨h1, h2, q⟩
theorem leftP_ok {g : Gr} {P : List Str} {st : Str} (hg : OkG g) : OkG (Tx g P st) where
 few := by
  have := Vb (okR P (Qx g)) (fun r => decide (r.1 = st)) g
  have := hg.few
  unfold Tx K8 Gu
  rw [List.length_append]
  lia
 short := fun r hr => hg.short r (T5.mp hr).1
 head := fun r hr => hg.head r (T5.mp hr).1
 sym := fun r hr => hg.sym r (T5.mp hr).1
theorem Zf {P ts : List Str} {r : Str × List Str} : okR P ts r = true ↔ r.1 ∈ P ∧ ∀ s ∈ r.2, s ∈ P ∨ s ∈ ts := by
 simp [okR, List.all_eq_true]
theorem Vh {g : Gr} {P : List Str} {st : Str} (hP : ∀ h, h ∈ P ↔ Built g (Qx g) h) (hst : st ∈ P) : ∃ b rest, Tx g P st = (st, b) :: rest := by
 have hb := (hP st).mp hst
 cases hb with
 | mk hm hs =>
  rename_i b
  have hin : (st, b) ∈ K8 g P st := by
   refine List.mem_filter.mpr ⟨hm, ?_⟩
   rw [BA, Zf]
   refine ⟨⟨hst, fun s hs' => ?_⟩, by simp⟩
   rcases Decidable.em (s ∈ Qx g) with q | q
   ·exact .inr q
   ·exact .inl ((hP s).mpr (hs s hs' q))
  cases ho : K8 g P st with
  | nil => rw [ho] at hin; cases hin
  | cons r rest =>
   have hr : r ∈ K8 g P st := by rw [ho]; simp
   have h1 : r.1 = st := by
    have := (List.mem_filter.mp hr).2
    simp only [BA, decide_eq_true_eq] at this
    exact this.2
   refine ⟨r.2, rest ++ Gu g P st, ?_⟩
   unfold Tx
   rw [ho, List.cons_append, ← h1]
structure IsTrim (g : Gr) (st : Str) (t : Gr) : Prop where
 ex : ∃ P, Can P ∧ (∀ h, h ∈ P ↔ Built g (Qx g) h) ∧ ((st ∉ P ∧ t = []) ∨ (st ∈ P ∧ ∃ R : List Str, (∀ h, h ∈ R ↔ Rch (T2 (Tx g P st)) [st] h) ∧ t = (Tx g P st).filter fun r => decide (r.1 ∈ R)))
theorem Bq (xs : List Str) (k : Kd) (h : k.rd1 = true) : J4 (Q5 xs, k) = some (Q5 xs, .fr 1) := by
 show (if k.rd1 then some (PyData.list (xs.map PyData.str), Kd.fr 1) else none) = _
 rw [h]; rfl
theorem sem17 {n : Nat} (hn : 17 < n) (g : Gr) (hg : OkG g) (st : Str × List Str) (rest : Gr) (hst : g = st :: rest) :
  ∃ t k, (Phi n).sem 17 [Qk g] = some (Qk t, k) ∧ IsTrim g st.1 t := by
 have hlen := hg.few
 have hb4 : ∀ r ∈ g, r.2.length ≤ 4 := fun r hr => Nat.le_trans (hg.short r hr) (by lia)
 obtain ⟨P, h15, cP, mP⟩ := sem15 (n := 17) (by decide) g (by lia) hb4
 have h1 := sem1 (n := 17) (by decide) g (by lia) hb4
 have h0 : Th (Qk g, .fr 0) (.int 0, .fr 9) = some (Wb st, .fr 0) := by
  have := Zp g 0 0 (.fr 9)
  rw [hst] at this ⊢
  exact this
 have hPl : P.length ≤ 6 := by
  have := Wo (U := g.map (·.1)) cP.nodup fun x hx => ((mP x).mp hx).head
  rw [List.length_map] at this
  lia
 have hTl : (Qx g).length ≤ 30 := by
  unfold Qx
  rw [Fz]
  have := Uk (Q0 g) g [] hb4
  simp only [List.length_nil, Nat.zero_add] at this
  lia
 by_cases hs : st.1 ∈ P
 ·obtain ⟨b, rest', hleft⟩ := Vh mP hs
  obtain ⟨R, h16, cR, mR⟩ := sem16 (n := 17) (by decide) (Tx g P st.1) (leftP_ok hg) (st.1, b) rest' hleft
  refine ⟨(Tx g P st.1).filter fun r => decide (r.1 ∈ R), 1, ?_, ⟨P, cP, mP, .inr ⟨hs, R, mR, rfl⟩⟩⟩
  rw [W0 hn (F := f17) rfl]
  rw [z1 (F := f17) rfl]
  dsimp only [f17, Nat.reduceSub, RS, RZ]
  (try dsimp only [Qd, Qr, Q2, GZ, v0, Qm, Qq, Q3])
  rw [h0]
  (try dsimp only [Q3, W1, OB, Q6, Qc, SS, SZ, Qd, Qj, Qe, Q2, GZ, v0, Qm, Qh, Q7, c1, Ac, O3, agf, ag0, OM, c2])
  skip
  rw [h15]
  (try dsimp only [c3, Qb, OB, Q6, Qc, SS, SZ, Qw, Qt, Q2, GS, GZ, v0, Q9, Q3]; try simp only [Ws, Bool.true_xor, OB, Q1])
  (try simp only [hs, decide_true, Bool.not_true, W3, Qg, Q8, Ql, Qd, Wv, Q2, GS, GZ, v0, Qb, Qj, Qe, Qm, Qh, Q7, c1, Ac, kd1, agf, ag0, OM, c2])
  rw [h1]
  (try dsimp only [c3, Qb, Q3])
  rw [Xp _ _ _ _ rfl rfl (by unfold lim; lia)]
  (try dsimp only [OB, Q6, Qc, SS, SZ, Qd, Wa, Qh])
  skip
  rw [show (V0 []).bind (Z4 1) = some (Qk [], 1) from rfl]
  (try dsimp only [OB, Qc, SS, SZ, Qd, Wa, Qh])
  rw [show (V0 []).bind (Z4 1) = some (Qk [], 1) from rfl]
  (try dsimp only [OB, Qc, SS, SZ, W6, Q2, GZ, v0, Qm, Tk, Rd, Rn])
  rw [Qn Wb (fun (a : Gr × Gr) => [some (Qk g, 0), some (.str st.1, 0), some (Q5 P, 0), some (Q5 (P ++ Qx g), 0), some (Qk a.1, 1), some (Qk a.2, 1), none, none, none, none, none])
   (fun a r => if okR P (Qx g) r then (if r.1 = st.1 then (a.1 ++ [r], a.2) else (a.1, a.2 ++ [r])) else a) g ([], []) ?_]
  ·have hfold : ∀ (l : Gr) (a : Gr × Gr), l.foldl (fun a r => if okR P (Qx g) r then (if r.1 = st.1 then (a.1 ++ [r], a.2) else (a.1, a.2 ++ [r])) else a) a =
     (a.1 ++ l.filter (fun r => okR P (Qx g) r && decide (r.1 = st.1)), a.2 ++ l.filter (fun r => okR P (Qx g) r && !decide (r.1 = st.1))) := by
    intro l
    induction l with
    | nil => intro a; simp
    | cons r l ih =>
     intro a
     rw [List.foldl_cons, ih]
     cases ho : okR P (Qx g) r
     ·simp [ho, List.filter_cons]
     ·by_cases q : r.1 = st.1 <;> simp [ho, q, List.filter_cons]
   rw [hfold]
   (try dsimp only [List.nil_append, Q8, Wp, SS, SZ, Qd, Wv, Q2, GS, GZ, v1, Qm, Q3])
   have hpl := Vb (okR P (Qx g)) (fun r => decide (r.1 = st.1)) g
   rw [Zv _ _ _ _ rfl rfl (by unfold lim; lia)]
   (try dsimp only [OB, Q6, Qc, SS, SZ, Qd, Qj, Qe, Q2, GS, GZ, v0, Qm, Qh, Q7, c1, Ac, kd16, agf, ag0, OM, c2])
   skip
   rw [show (g.filter fun r => okR P (Qx g) r && decide (r.1 = st.1)) ++ (g.filter fun r => okR P (Qx g) r && !decide (r.1 = st.1)) = Tx g P st.1 from rfl, h16]
   (try dsimp only [c3, Qb, OB, Q6, Qc, SS, SZ, R3, R6, Q2])
   (try dsimp only [Wr]; try simp only [List.mapIdx_cons, OM, Option.map_none, List.mapIdx_nil, GS, GZ])
   (try dsimp only [Nat.reduceAdd, List.contains_cons, Nat.reduceBEq, List.contains_nil, Bool.or_self, BF, dreduceIte, v0, Qm, OB, X2, U1, beq_self_eq_true, Bool.or_false, Bool.or_true, R8])
   rw [Qs Wb (fun r => decide (r.1 ∈ R)) Wb (Tx g P st.1) (fun r _ => by
    (try dsimp only [R5, SS, SZ, i1, Qt, Qr, Q2, GS, GZ, v0, R2, Qq, Q3, W1, Qb, i0, Rt, Vd, Rf, OB]; try simp only [Ws, Bool.false_xor, OB, Q1, Bool.not_false, Bool.true_or, Bool.and_true])
    by_cases q : r.1 ∈ R
    ·(try simp only [q, decide_true, if_true, OB])
     rw [Bq _ _ rfl]
     (try dsimp only [Q3, Rs, OB, U8, dreduceIte])
     rfl
    ·(try simp only [q, decide_false, BF, if_false, OB]))]
   rfl
  ·intro pre r post e
   have hpre : ∀ (l : Gr) (a : Gr × Gr), (l.foldl (fun (a : Gr × Gr) r => if okR P (Qx g) r then (if r.1 = st.1 then (a.1 ++ [r], a.2) else (a.1, a.2 ++ [r])) else a) a).1.length + (l.foldl (fun (a : Gr × Gr) r => if okR P (Qx g) r then (if r.1 = st.1 then (a.1 ++ [r], a.2) else (a.1, a.2 ++ [r])) else a) a).2.length ≤ a.1.length + a.2.length + l.length := by
    intro l
    induction l with
    | nil => intro a; simp
    | cons r l ih =>
     intro a
     rw [List.foldl_cons]
     refine Nat.le_trans (ih _) ?_
     simp only [List.length_cons]
     split
     ·split <;> simp <;> lia
     ·lia
   have hl := hpre pre ([], [])
   have hpl : pre.length ≤ 6 := by rw [e] at hlen; simp at hlen; lia
   generalize pre.foldl (fun (a : Gr × Gr) r => if okR P (Qx g) r then (if r.1 = st.1 then (a.1 ++ [r], a.2) else (a.1, a.2 ++ [r])) else a) ([], []) = a at hl ⊢
   simp only [List.length_nil] at hl
   (try dsimp only [f17_b0, SS, SZ, Qw, Yl, p2, Qt, Qr, Q2, GS, GZ, v0, R2, Qq, Q3, W1, Qb, p1, Cp, R6, Rf, OB, X2, Yn, R8, BF, dreduceIte]; try simp only [Ws, Bool.false_xor, OB, Q1])
   rw [Ri PyData.str (fun s => .bool (decide (s ∈ P ++ Qx g))) r.2 (fun s _ => by (try dsimp only [R5, SS, SZ, i0, Qt, Q2, GS, GZ, v0, Q9, Qb, Q3, Bool.not_false, Bool.true_or, Bool.and_true, OB, dreduceIte]; try simp only [Ws, Bool.false_xor, Bool.not_false, Bool.true_or, Bool.and_true, OB, U8, if_true]))]
   (try dsimp only [OM, OB]; try simp only [Sq, OB, Q1])
   by_cases q1 : r.1 ∈ P
   ·cases q2 : (r.2.all fun s => decide (s ∈ P ++ Qx g)) with
    | true =>
     by_cases q3 : r.1 = st.1
     ·(try dsimp only [okR]; try simp only [q1, decide_true, beq_self_eq_true, if_true, Wl, OB, Q1, Wk, Qw, Tv, Qr, Q2, GS, GZ, v0, R2, Qq, Q3, W1, Q9, T9, Bool.false_xor, q2, Bool.and_self])
      (try simp only [q3, decide_true, Wk, Y9, Q2, GS, GZ, v0, R2, OB, X1, Yc, if_true])
      rw [Pp _ _ (by unfold lim; lia)]
      (try dsimp only [OB, Qc, SS, SZ, Qg, Q8, Ql, OM, Qi])
     ·(try dsimp only [okR]; try simp only [q1, decide_true, beq_self_eq_true, if_true, Wl, OB, Q1, Wk, Qw, Tv, Qr, Q2, GS, GZ, v0, R2, Qq, Q3, W1, Q9, T9, q3, decide_false, Bool.false_xor, W3, Y9, X1, Yc, q2, Bool.and_self, if_false])
      rw [Pp _ _ (by unfold lim; lia)]
      (try dsimp only [OB, Qc, SS, SZ, Qg, Q8, Ql, OM, Qi])
    | false => (try dsimp only [okR]; try simp only [q1, decide_true, beq_self_eq_true, if_true, Wl, OB, Q1, W3, Qg, Q8, Ql, OM, Qi, SS, SZ, q2, Bool.and_false, BF, if_false])
   ·(try dsimp only [okR]; try simp only [q1, decide_false, bft, BF, if_false, Wl, OB, Q1, W3, Qg, Q8, Ql, OM, Qi, SS, SZ, Bool.false_and])
 ·refine ⟨[], 9, ?_, ⟨P, cP, mP, .inl ⟨hs, rfl⟩⟩⟩
  rw [W0 hn (F := f17) rfl]
  rw [z1 (F := f17) rfl]
  dsimp only [f17, Nat.reduceSub, RS, RZ]
  (try dsimp only [Qd, Qr, Q2, GZ, v0, Qm, Qq, Q3])
  rw [h0]
  (try dsimp only [Q3, W1, OB, Q6, Qc, SS, SZ, Qd, Qj, Qe, Q2, GZ, v0, Qm, Qh, Q7, c1, Ac, O3, agf, ag0, OM, c2])
  skip
  rw [h15]
  (try dsimp only [c3, Qb, OB, Q6, Qc, SS, SZ, Qw, Qt, Q2, GS, GZ, v0, Q9, Q3]; try simp only [Ws, Bool.true_xor, OB, Q1])
  (try simp only [hs, decide_false, Bool.not_false, Wk, R3, Wa, Qh, OB])
  rw [lst0G]
  (try dsimp only [OB, Rl, Za, rr])
noncomputable def csP (hs N : List Str) : List Str → List Str → List Str
 | u, [] => u
 | u, s :: r => if s ∈ N then csP hs N (if s ∈ hs then canon (u ++ [s]) else u) r else (if s ∈ hs then canon (u ++ [s]) else u)
theorem csP_n {hs N u : List Str} : csP hs N u [] = u := rfl
theorem Sb {hs N u : List Str} {s r} : csP hs N u (s :: r) = if s ∈ N then csP hs N (if s ∈ hs then canon (u ++ [s]) else u) r else (if s ∈ hs then canon (u ++ [s]) else u) := rfl
theorem Pf {hs N : List Str} (hhs : ∀ x ∈ hs, x ∈ UU) : ∀ (l u : List Str), OkL u → OkL (csP hs N u l)
 | [], u, h => h
 | s :: r, u, h => by
  have h1 : OkL (if s ∈ hs then canon (u ++ [s]) else u) := by
   split
   ·rename_i q
    exact OkL.canon fun x hx => by
     rcases List.mem_append.mp hx with q' | q'
     ·exact h.uu x q'
     ·simp at q'; subst q'; exact hhs x q
   ·exact h
  rw [Sb]
  split
  ·exact Pf hhs r _ h1
  ·exact h1
theorem Em {hs N : List Str} {x : Str} : ∀ (l u : List Str), x ∈ csP hs N u l ↔ x ∈ u ∨ (x ∈ Tf N l ∧ x ∈ hs)
 | [], u => by simp [csP_n, Sb, Mj, Rc]
 | s :: r, u => by
  have h1 : x ∈ (if s ∈ hs then canon (u ++ [s]) else u) ↔ x ∈ u ∨ (x = s ∧ x ∈ hs) := by
   split
   ·rename_i q
    rw [R1, List.mem_append, List.mem_singleton]
    constructor
    ·rintro (h | rfl)
     ·exact .inl h
     ·exact .inr ⟨rfl, q⟩
    ·rintro (h | ⟨rfl, _⟩)
     ·exact .inl h
     ·exact .inr rfl
   ·rename_i q
    constructor
    ·exact .inl
    ·rintro (h | ⟨rfl, h⟩)
     ·exact h
     ·exact absurd h q
  rw [Sb, Rc]
  by_cases q : s ∈ N
  ·rw [if_pos q, if_pos q, Em r, h1, List.mem_cons]
   constructor
   ·rintro ((h | ⟨h, h'⟩) | ⟨h, h'⟩)
    ·exact .inl h
    ·exact .inr ⟨.inl h, h'⟩
    ·exact .inr ⟨.inr h, h'⟩
   ·rintro (h | ⟨h | h, h'⟩)
    ·exact .inl (.inl h)
    ·exact .inl (.inr ⟨h, h'⟩)
    ·exact .inr ⟨h, h'⟩
  ·rw [if_neg q, if_neg q, h1, List.mem_singleton]
theorem El (g : Gr) (h : Str) (hs N : List Str) (r : Str × List Str) (hhs : ∀ x ∈ hs, x ∈ UU) : ∀ (l u : List Str), OkL u →
  Tu (fun σ x => Option.map (Out.clr 6) (evB (Phi 18) [4] Nc (σ.set 6 (some (x, 0))))) (l.map .str) [some (Qk g, 0), some (.str h, 0), some (Q5 hs, 0), some (Q5 N, 0), some (Q5 u, 1), some (Wb r, 0), none] =
   some (.next [some (Qk g, 0), some (.str h, 0), some (Q5 hs, 0), some (Q5 N, 0), some (Q5 (csP hs N u l), 1), some (Wb r, 0), none])
 | [], u, _ => rfl
 | s :: l, u, ok => by
  have lu := ok.len
  have ok1 : OkL (if s ∈ hs then canon (u ++ [s]) else u) := by
   have := Pf (N := []) hhs [s] u ok
   simpa [csP_n, Sb] using this
  rw [List.map_cons, Sb]
  by_cases q : s ∈ N
  ·rw [Y7 (σ' := [some (Qk g, 0), some (.str h, 0), some (Q5 hs, 0), some (Q5 N, 0), some (Q5 (if s ∈ hs then canon (u ++ [s]) else u), 1), some (Wb r, 0), none]) (by
    (try dsimp only [Nc, SS, SZ, Qw, Qt, Q2, GS, GZ, v0, Q9, Qb, Q3]; try simp only [Ws, Bool.false_xor, OB, Q1])
    by_cases q1 : s ∈ hs
    ·(try simp only [q1, decide_true, Wk, Qd, Qj, Qe, Q2, GS, GZ, v1, Qb, Wa, v0, Q9, Qh, Q7, OB, Vf, c1, Ab, kd2, ag1, agf, ag0, OM, c2, if_true])
     rw [M9 (by decide) u [s] (by simp; lia)]
     (try dsimp only [c3, Qb, OB])
     rw [Yi _ _ (by decide)]
     (try dsimp only [OB, Qc, SS, SZ, Qg, Q8, Ql, Qw, Qt, Q2, GS, GZ, v0, Q9, Qb, Q3]; try simp only [Ws, q, decide_true, Bool.true_xor, Bool.not_true, OB, Q1, W3, Qg, Q8, Ql, OM, Qi, SS, SZ])
    ·(try simp only [q1, decide_false, W3, Qg, Q8, Ql, Qw, Qt, Q2, GS, GZ, v0, Q9, Qb, Q3, Ws, q, decide_true, Bool.true_xor, Bool.not_true, OB, Q1, OM, Qi, SS, SZ, if_false])), if_pos q]
   exact El g h hs N r hhs l _ ok1
  ·rw [S4 (σ' := [some (Qk g, 0), some (.str h, 0), some (Q5 hs, 0), some (Q5 N, 0), some (Q5 (if s ∈ hs then canon (u ++ [s]) else u), 1), some (Wb r, 0), none]) (by
    (try dsimp only [Nc, SS, SZ, Qw, Qt, Q2, GS, GZ, v0, Q9, Qb, Q3]; try simp only [Ws, Bool.false_xor, OB, Q1])
    by_cases q1 : s ∈ hs
    ·(try simp only [q1, decide_true, Wk, Qd, Qj, Qe, Q2, GS, GZ, v1, Qb, Wa, v0, Q9, Qh, Q7, OB, Vf, c1, Ab, kd2, ag1, agf, ag0, OM, c2, if_true])
     rw [M9 (by decide) u [s] (by simp; lia)]
     (try dsimp only [c3, Qb, OB])
     rw [Yi _ _ (by decide)]
     (try dsimp only [OB, Qc, SS, SZ, Qg, Q8, Ql, Qw, Qt, Q2, GS, GZ, v0, Q9, Qb, Q3]; try simp only [Ws, q, decide_false, Bool.true_xor, Bool.not_false, OB, Q1, Wk, Hj, H0, OM, Gv, SS, SZ])
    ·(try simp only [q1, decide_false, W3, Qg, Q8, Ql, Qw, Qt, Q2, GS, GZ, v0, Q9, Qb, Q3, Ws, q, Bool.true_xor, Bool.not_false, OB, Q1, Wk, Hj, H0, OM, Gv, SS, SZ, if_false])), if_neg q]
noncomputable def LC (g : Gr) (N : List Str) (h x : Str) : Prop := x ∈ Q0 g ∧ E1 g N h x
inductive LCp (g : Gr) (N : List Str) (h : Str) : Str → Prop
 | one {x} : LC g N h x → LCp g N h x
 | step {y x} : LCp g N h y → LC g N y x → LCp g N h x
theorem heads_uu {g : Gr} (hg : OkG g) : ∀ x ∈ Q0 g, x ∈ UU := fun x hx => by
 obtain ⟨b, hb⟩ := Qa.mp hx
 exact hs_uu (hg.head _ hb)
theorem sem18 {n : Nat} (hn : 18 < n) (g : Gr) (hg : OkG g) (N : List Str) (hN : IsNull g N) (h : Str) :
  ∃ c, (Phi n).sem 18 [Qk g, .str h] = some (Q5 c, 1) ∧ OkL c ∧ ∀ x, x ∈ c ↔ LC g N h x := by
 have hlen := hg.few
 obtain ⟨N', h4, h4'⟩ := sem4 (n := 18) (by decide) g (by lia)
 obtain rfl : N' = N := (IsNull.mk h4'.1 h4'.2).unique hN
 have hhs := heads_uu hg
 let F : List Str → Str × List Str → List Str := fun u r => if r.1 = h then csP (Q0 g) N' u r.2 else u
 have inv : ∀ (l : Gr) (u : List Str), OkL u → OkL (l.foldl F u) ∧ ∀ x, x ∈ l.foldl F u ↔ x ∈ u ∨ ∃ r ∈ l, r.1 = h ∧ x ∈ Tf N' r.2 ∧ x ∈ Q0 g := by
  intro l
  induction l with
  | nil => intro u ok; exact ⟨ok, by simp⟩
  | cons r l ih =>
   intro u ok
   have ok1 : OkL (F u r) := by
    simp only [F]
    split
    ·exact Pf hhs _ _ ok
    ·exact ok
   obtain ⟨h1, h2⟩ := ih (F u r) ok1
   refine ⟨h1, fun x => ?_⟩
   rw [List.foldl_cons, h2]
   simp only [F, List.mem_cons, exists_eq_or_imp]
   by_cases q : r.1 = h
   ·rw [if_pos q, Em]
    simp only [q, true_and, or_assoc]
   ·rw [if_neg q]
    simp only [q, false_and, false_or]
 obtain ⟨ok, mem⟩ := inv g [] OkL.nil
 refine ⟨g.foldl F [], ?_, ok, fun x => ?_⟩
 ·rw [W0 hn (F := f18) rfl]
  rw [z2 (F := f18) rfl]
  dsimp only [f18, Nat.reduceSub, RS, RZ]
  (try dsimp only [Qd, Qj, Qe, Q2, GZ, v0, Qm, Qh, Q7, c1, Ab, kd0, agf, ag0, OM, c2])
  rw [Cb (by decide) g (by lia)]
  (try dsimp only [c3, Qb, OB, Q6, Qc, SS, SZ, Qd, Qj, Qe, Q2, GZ, v0, Qm, Qh, Q7, c1, Ab, kd4, agf, ag0, OM, c2])
  skip
  rw [h4]
  (try dsimp only [c3, Qb, OB, Q6, Qc, SS, SZ, Qd, Wa, Qh])
  (try dsimp only [Uy, OB])
  rw [Yi _ _ (by decide)]
  (try dsimp only [OB, Qc, SS, SZ, W6, Q2, GZ, v0, Qm, Tk, Rd, Rn])
  rw [Qn Wb (fun u => [some (Qk g, 0), some (.str h, 0), some (Q5 (Q0 g), 0), some (Q5 N', 0), some (Q5 u, 1), none, none]) F g [] ?_]
  ·(try dsimp only [Q8, Wp, SS, SZ, Zt, GS, GZ, rr])
  ·intro pre r post e
   obtain ⟨okp, _⟩ := inv pre [] OkL.nil
   generalize pre.foldl F [] = u at okp ⊢
   (try dsimp only [f18_b0, SS, SZ, Qw, Tv, Qr, Q2, GS, GZ, v0, R2, Qq, Q3, W1, Q9]; try simp only [T9, Bool.false_xor, OB, Q1])
   by_cases q : r.1 = h
   ·(try simp only [q, decide_true, Wk, W6, Qr, Q2, GS, GZ, v0, R2, Qq, Q3, Rf, OB, Tk, Wg, Rn])
    rw [El g h (Q0 g) N' r hhs r.2 u okp]
    (try dsimp only [Q8, Wp, SS, SZ, Qg, Ql, OM, Qi]; try simp only [q, if_true, F])
   ·(try simp only [q, decide_false, W3, Qg, Q8, Ql, OM, Qi, SS, SZ, if_false, F])
 ·rw [mem]
  unfold LC E1
  constructor
  ·rintro (q | ⟨r, hr, rfl, h2, h3⟩)
   ·cases q
   ·exact ⟨h3, r.2, hr, h2⟩
  ·rintro ⟨h3, b, hb, h2⟩
   exact .inr ⟨(h, b), hb, rfl, h2, h3⟩
theorem sem19 {n : Nat} (hn : 19 < n) (g : Gr) (hg : OkG g) (N : List Str) (hN : IsNull g N) (h : Str) :
  ∃ c, (Phi n).sem 19 [Qk g, .str h] = some (Q5 c, 1) ∧ ∀ x, x ∈ c ↔ LCp g N h x := by
 have hfew := Ti hg
 obtain ⟨lc, hlc⟩ := Classical.skolem.mp fun h => sem18 (n := 19) (by decide) g hg N hN h
 have hV : ∀ x, Rch lc (lc h) x → x ∈ Q0 g := fun x r => by
  cases r with
  | root q => exact (((hlc _).2.2 x).mp q).1
  | step _ q => exact (((hlc _).2.2 x).mp q).1
 have l0 := (hlc h).2.1.len
 obtain ⟨e, h1, h2, h3, h4⟩ := G8 (succ := lc) (roots := lc h) (V := Q0 g) (cond := fun σ => (evE (Phi 19) P8 σ).bind Wm) (body := fun σ => evB (Phi 19) [2] P9 σ)
  (fun a => [some (Qk g, 0), some (.str h, 0), some (Q5 a.1, 1), some (.int (a.2 : Nat), 0), none]) hV (by lia)
  (fun a => by (try dsimp only [P8, Mf, Q2, GS, GZ, v0, Qp, Yt, v1, Qb, OB]; try simp only [Y3, Q3, Xg, OB, Q1])) (fun f p hp hf hfl => by
   have hgp : f[p]? = some f[p] := List.getElem?_eq_getElem hp
   have l1 := (hlc f[p]).2.1.len
   (try dsimp only [P9, W6, Qj, Qe, Q2, GZ, v0, Qm, Qr, GS, v1, Qb, Qp, Q3, Qh]; try simp only [Zo, hgp, OM, Q7, c1, ph19, kd18, agf, ag0, c2])
   rw [(hlc f[p]).1]
   (try dsimp only [c3, Qb, OB, Tk, Wg, Rn])
   rw [Qn PyData.str (fun u => [some (Qk g, 0), some (.str h, 0), some (Q5 u, 1), some (.int (p : Nat), 0), none]) Qy (lc f[p]) f ?_]
   ·(try dsimp only [Q8, Wp, SS, SZ, Qd, Wv, Q2, GS, GZ, v0, Qp, Qq, Q3, T4, OB, Q6, Qc, Qg])
    skip
    rfl
   ·intro pre x post e
    have hl := Tj pre f
    have hl2 : pre.length ≤ 7 := by rw [e] at l1; simp at l1; lia
    generalize pre.foldl Qy f = u at hl ⊢
    (try dsimp only [f19_b1, SS, SZ, Qw, Qt, Q2, GS, GZ, v0, Q9, v1, Qb, Q3]; try simp only [Ws, Bool.true_xor, OB, Q1])
    by_cases q : x ∈ u
    ·(try dsimp only [Qy]; try simp only [q, decide_true, Bool.not_true, W3, Qg, Q8, Ql, OM, Qi, SS, SZ, if_true])
    ·(try dsimp only [Qy]; try simp only [q, decide_false, Bool.not_false, Wk, Y9, Q2, GS, GZ, v0, Q9, OB, X1, Yc, if_false])
     rw [Xm _ _ (by unfold lim; lia)]
     (try dsimp only [OB, Qc, SS, SZ, Qg, Q8, Ql, OM, Qi]))
 refine ⟨Uj (lc h ++ e), ?_, fun x => ?_⟩
 ·rw [W0 hn (F := f19) rfl]
  rw [z2 (F := f19) rfl]
  dsimp only [f19, Nat.reduceSub, RS, RZ]
  (try dsimp only [Qd, Qj, Qe, Q2, GZ, v0, Qm, GS, Q9, Qh, Q7, c1, ph19, kd18, agf, ag0, OM, c2])
  rw [(hlc h).1]
  (try dsimp only [c3, Qb, OB])
  rw [Yi _ _ (by decide)]
  (try dsimp only [OB, Qc, SS, SZ, Qd, Qq, Q6, Yo])
  simp only at h1
  skip
  rw [show (some (PyData.int 0, 0) : Option (PyData × Nat)) = some (PyData.int ((0 : Nat) : Int), 0) from rfl, h1]
  (try dsimp only [Q8, Ql, R3, Wr, U6, Q2]; try simp only [List.mapIdx_cons, OM, Option.map_none, List.mapIdx_nil, GS, GZ])
  (try dsimp only [Nat.reduceAdd, List.contains_cons, beq_self_eq_true, List.contains_nil, Bool.or_false, dreduceIte, v0, Qb, OB])
  have hel : e.length ≤ 3 := by
   have := Wo (U := Q0 g) h2 fun x hx => hV x ((h4 x).mp (by simp [hx]))
   lia
  rw [Zz _ _ (by simp; lia)]
  rfl
 ·rw [X0, h4]
  constructor
  ·intro r
   induction r with
   | root q => exact .one (((hlc h).2.2 _).mp q)
   | step _ q ih => exact .step ih (((hlc _).2.2 _).mp q)
  ·intro r
   induction r with
   | one q => exact .root (((hlc h).2.2 _).mpr q)
   | step _ q ih => exact .step ih (((hlc _).2.2 _).mpr q)
theorem sem20 {n : Nat} (hn : 20 < n) (g : Gr) (hg : OkG g) (N : List Str) (hN : IsNull g N) :
  ∃ b : Bool, (Phi n).sem 20 [Qk g] = some (.bool b, 9) ∧ (b = true ↔ ∃ h ∈ Q0 g, LCp g N h h) := by
 have hlen := hg.few
 obtain ⟨lp, hlp⟩ := Classical.skolem.mp fun h => sem19 (n := 20) (by decide) g hg N hN h
 have loop : ∀ l : List Str, Tu (fun σ x => Option.map (Out.clr 1) (evB (Phi 20) [] Nb (σ.set 1 (some (x, 0))))) (l.map .str) [some (Qk g, 0), none] =
   if l.any (fun h => decide (h ∈ lp h)) then some (.ret (.bool true) 9) else some (.next [some (Qk g, 0), none]) := by
  intro l
  induction l with
  | nil => rfl
  | cons h l ih =>
   rw [List.map_cons, List.any_cons]
   by_cases q : h ∈ lp h
   ·rw [X6 (d := .bool true) (k := 9) (by
     (try dsimp only [Nb, SS, SZ, Qw, Qt, Q2, GS, GZ, v0, Q9, Qj, Qe, Qm, Qh, Q7, c1, Ij, kd19, agf, ag0, OM, c2])
     rw [(hlp h).1]
     (try dsimp only [c3, Qb, Q3]; try simp only [Ws, q, decide_true, Bool.false_xor, OB, Q1, Wk, R3, Wq, Rl, Za, OM, H7]))]
    simp [q]
   ·rw [Y7 (σ' := [some (Qk g, 0), none]) (by
     (try dsimp only [Nb, SS, SZ, Qw, Qt, Q2, GS, GZ, v0, Q9, Qj, Qe, Qm, Qh, Q7, c1, Ij, kd19, agf, ag0, OM, c2])
     rw [(hlp h).1]
     (try dsimp only [c3, Qb, Q3]; try simp only [Ws, q, decide_false, Bool.false_xor, OB, Q1, W3, Qg, Q8, Ql, OM, Qi, SS, SZ])), ih]
    simp [q]
 refine ⟨(Q0 g).any fun h => decide (h ∈ lp h), ?_, ?_⟩
 ·rw [W0 hn (F := f20) rfl]
  rw [z1 (F := f20) rfl]
  dsimp only [f20, Nat.reduceSub, RS, RZ]
  (try dsimp only [W6, Qj, Qe, Q2, GZ, v0, Qm, Qh, Q7, c1, Ij, kd0, agf, ag0, OM, c2])
  rw [Cb (by decide) g (by lia)]
  (try dsimp only [c3, Qb, OB, Tk, Wg, Rn])
  rw [loop]
  cases hany : (Q0 g).any fun h => decide (h ∈ lp h) with
  | true => (try dsimp only [dreduceIte, Za, rr])
  | false => (try dsimp only [BF, dreduceIte, Q8, Wp, SS, SZ, R3, Wq, OB, Rl, rr])
 ·rw [List.any_eq_true]
  simp only [decide_eq_true_eq, (hlp _).2]
noncomputable def X8 (zs : List Int) : PyData := .list (zs.map .int)
theorem Xv (x : List Int) (k : Kd) : mkR (X8 x) k = (X8 x, k) := rfl
theorem lenD_Z (x : List Int) (k : Kd) : Mi (X8 x, k) = some (.int x.length, .fr 9) := by
 show some (PyData.int ((x.map PyData.int).length : Nat), Kd.fr 9) = _
 rw [List.length_map]
theorem idxD_Z (xs : List Int) (n : Nat) (k j : Kd) : Th (X8 xs, k) (.int (n : Nat), j) = (xs[n]?).map fun x => (.int x, .fr 9) := by
 show (if 0 ≤ (n : Int) then ((xs.map PyData.int)[(n : Int).toNat]?).map fun d => mkR d k.item else none) = _
 rw [if_pos (Int.natCast_nonneg n), Int.toNat_natCast, List.getElem?_map, Option.map_map]
 rfl
noncomputable def cell (zs : List Int) (i k : Nat) : Nat := match zs[i]? with
 | some z => (z % k).toNat
 | none => 0
theorem U2 (zs : List Int) (i k : Nat) (h : 0 < k) : cell zs i k < k := by
 unfold cell
 split
 ·rename_i z _
  have h1 := Int.emod_lt_of_pos z (show (0 : Int) < k by lia)
  have h2 := Int.emod_nonneg z (show (k : Int) ≠ 0 by lia)
  lia
 ·exact h
theorem Cq (x : Int) (y : Nat) (k j : Kd) (h : 0 < y) : D0 (.int x, k) (.int (y : Nat), j) = some (.int (x % y), .fr 9) := by
 show (if 0 < (y : Int) then some (PyData.int (x % y), Kd.fr 9) else none) = _
 rw [if_pos (by lia)]
theorem E4 {n : Nat} (hn : 21 < n) (zs : List Int) (i k : Nat) (hk : 0 < k) : (Phi n).sem 21 [X8 zs, .int (i : Nat), .int (k : Nat)] = some (.int (cell zs i k : Nat), 9) := by
 rw [W0 hn (F := f21) rfl]
 rw [z3 (F := f21) rfl]
 dsimp only [f21, Nat.reduceSub, RS, RZ]
 (try dsimp only [Qw, Mf, Q2, GS, GZ, v0, Qp, Yt, Xv, OB]; try simp only [lenD_Z, Q3, Xg, OB, Q1])
 by_cases h : i < zs.length
 ·have hz : zs[i]? = some zs[i] := List.getElem?_eq_getElem h
  (try simp only [h, decide_true, Wk, R3, Wr, List.contains_nil, BF, if_false, List.mapIdx_cons, List.mapIdx_nil, Gx, Qr, Q2, GZ, v0, Xv, GS, Qp, Q3, idxD_Z, hz, OM])
  rw [Cq _ _ _ _ hk]
  (try dsimp only [OB, Rl, Za, rr])
  have h2 := Int.emod_nonneg zs[i] (show (k : Int) ≠ 0 by lia)
  have : ((cell zs i k : Nat) : Int) = zs[i] % (k : Int) := by
   unfold cell
   rw [hz]
   simp only
   lia
  rw [this]
 ·have hz : zs[i]? = none := List.getElem?_eq_none (by lia)
  (try simp only [h, decide_false, W3, Qg, Q8, Ql, R3, Qq, OB, Rl, rr])
  have : cell zs i k = 0 := by unfold cell; rw [hz]
  rw [this]
  rfl
theorem Ue (x y : Nat) (k j : Kd) : Xq (.int (x : Nat), k) (.int (y : Nat), j) = some (.int ((x + y : Nat) : Int), .fr 9) := by
 rw [T4]
 rfl
theorem mulD_nat (x y : Nat) (k j : Kd) (h : x < 1000) : Mg (.int (x : Nat), k) (.int (y : Nat), j) = some (.int ((x * y : Nat) : Int), .fr 9) := by
 show (if decide (-big < (x : Int)) && decide ((x : Int) < big) then some (PyData.int ((x : Int) * y), Kd.fr 9) else none) = _
 rw [if_pos (by rw [Uh]; simp; lia)]
 simp
theorem Ve (x y : Nat) (k j : Kd) (h : 0 < y) : D0 (.int (x : Nat), k) (.int (y : Nat), j) = some (.int ((x % y : Nat) : Int), .fr 9) := by
 rw [Cq _ _ _ _ h]
 rfl
theorem Bo (x y : Nat) (k j : Kd) (h : 0 < y) (h2 : y < 1000) : He (.int (x : Nat), k) (.int (y : Nat), j) = some (.int ((x / y : Nat) : Int), .fr 9) := by
 show (if decide (0 < (y : Int)) && decide ((y : Int) < big) then some (PyData.int ((x : Int) / y), Kd.fr 9) else none) = _
 rw [if_pos (by rw [Uh]; simp; lia)]
 simp
theorem Dq (xs : List Str) (n : Nat) (k j : Kd) (hk : k.rd1 = true) (h : n ≤ 1000) : Jz (Q5 xs, k) (.int (n : Nat), j) = some (Q5 (xs.take n), .fr 1) := by
 show (if k.rd1 && decide (0 ≤ (n : Int)) && decide ((n : Int) ≤ big) then some (PyData.list ((xs.map PyData.str).take (n : Int).toNat), Kd.fr 1) else none) = _
 rw [if_pos (by rw [Uh]; simp [hk]; lia)]
 simp [Q5]
noncomputable def chr (x : Str) (i : Nat) : Str := match x.cps[i]? with
 | some c => ⟨#[c]⟩
 | none => ⟨#[]⟩
theorem Kq (x : Str) (n : Nat) (k j : Kd) (h : n < x.cps.size) : Th (.str x, k) (.int (n : Nat), j) = some (.str (chr x n), .fr 9) := by
 show (if 0 ≤ (n : Int) then (x.cps[(n : Int).toNat]?).map fun c => (PyData.str ⟨#[c]⟩, Kd.fr 9) else none) = _
 rw [if_pos (Int.natCast_nonneg n), Int.toNat_natCast, Array.getElem?_eq_getElem h]
 unfold chr
 rw [Array.getElem?_eq_getElem h]
 rfl
noncomputable def Ho : Str := Str.ofString "SABaAbBcSaAb"
noncomputable def letS : Str := Str.ofString "abcabcabcdSA"
noncomputable def sabS : Str := Str.ofString "SAB"
noncomputable def Ul (zs : List Int) (i : Nat) : Str × List Str :=
 (chr sabS (cell zs (6 + 3 * i) 12 % 3), ([chr Ho (cell zs (7 + 3 * i) 12), chr Ho (cell zs (8 + 3 * i) 12), chr Ho ((cell zs (7 + 3 * i) 12 + cell zs (8 + 3 * i) 12 + cell zs (6 + 3 * i) 12) % 12)]).take ((cell zs (6 + 3 * i) 12 / 3 + 1) % 4))
noncomputable def Iw (zs : List Int) : Gr := (List.range (1 + cell zs 0 6)).map (Ul zs)
theorem Nn : ∀ i, i < 12 → chr Ho i ∈ SY := by decide +kernel
theorem chr_sab : ∀ i, i < 3 → chr sabS i ∈ HS := by decide +kernel
theorem lawG_ok (zs : List Int) : OkG (Iw zs) where
 few := by
  have := U2 zs 0 6 (by lia)
  simp [Iw]; lia
 short := fun r hr => by
  obtain ⟨i, _, rfl⟩ := List.mem_map.mp hr
  simp only [Ul, List.length_take, List.length_cons, List.length_nil]
  lia
 head := fun r hr => by
  obtain ⟨i, _, rfl⟩ := List.mem_map.mp hr
  exact chr_sab _ (by lia)
 sym := fun r hr s hs => by
  obtain ⟨i, _, rfl⟩ := List.mem_map.mp hr
  have h1 := U2 zs (7 + 3 * i) 12 (by lia)
  have h2 := U2 zs (8 + 3 * i) 12 (by lia)
  have := List.mem_of_mem_take hs
  simp only [List.mem_cons, List.not_mem_nil, or_false] at this
  rcases this with rfl | rfl | rfl
  ·exact Nn _ h1
  ·exact Nn _ h2
  ·exact Nn _ (by lia)
theorem Iv (zs : List Int) : ∃ st rest, Iw zs = st :: rest := by
 unfold Iw
 rw [Nat.add_comm, List.range_succ_eq_map]
 exact ⟨_, _, rfl⟩
theorem mul3 (i : Nat) (k j : Kd) : Mg (.int 3, k) (.int (i : Nat), j) = some (.int ((3 * i : Nat) : Int), .fr 9) := mulD_nat 3 i k j (by decide)
theorem add1 (i : Nat) (k j : Kd) : Xq (.int 1, k) (.int (i : Nat), j) = some (.int ((1 + i : Nat) : Int), .fr 9) := Ue 1 i k j
theorem add6 (i : Nat) (k j : Kd) : Xq (.int 6, k) (.int (i : Nat), j) = some (.int ((6 + i : Nat) : Int), .fr 9) := Ue 6 i k j
theorem add7 (i : Nat) (k j : Kd) : Xq (.int 7, k) (.int (i : Nat), j) = some (.int ((7 + i : Nat) : Int), .fr 9) := Ue 7 i k j
theorem add8 (i : Nat) (k j : Kd) : Xq (.int 8, k) (.int (i : Nat), j) = some (.int ((8 + i : Nat) : Int), .fr 9) := Ue 8 i k j
theorem addr1 (i : Nat) (k j : Kd) : Xq (.int (i : Nat), k) (.int 1, j) = some (.int ((i + 1 : Nat) : Int), .fr 9) := Ue i 1 k j
theorem mod12 (i : Nat) (k j : Kd) : D0 (.int (i : Nat), k) (.int 12, j) = some (.int ((i % 12 : Nat) : Int), .fr 9) := Ve i 12 k j (by decide)
theorem mod3 (i : Nat) (k j : Kd) : D0 (.int (i : Nat), k) (.int 3, j) = some (.int ((i % 3 : Nat) : Int), .fr 9) := Ve i 3 k j (by decide)
theorem mod4 (i : Nat) (k j : Kd) : D0 (.int (i : Nat), k) (.int 4, j) = some (.int ((i % 4 : Nat) : Int), .fr 9) := Ve i 4 k j (by decide)
theorem div3 (i : Nat) (k j : Kd) : He (.int (i : Nat), k) (.int 3, j) = some (.int ((i / 3 : Nat) : Int), .fr 9) := Bo i 3 k j (by decide) (by decide)
theorem c12 (zs : List Int) (i : Nat) : (Phi 22).sem 21 [X8 zs, .int (i : Nat), .int 12] = some (.int (cell zs i 12 : Nat), 9) := E4 (by decide) zs i 12 (by decide)
theorem c06 (zs : List Int) : (Phi 22).sem 21 [X8 zs, .int 0, .int 6] = some (.int (cell zs 0 6 : Nat), 9) := E4 (by decide) zs 0 6 (by decide)
theorem sem22 {n : Nat} (hn : 22 < n) (zs : List Int) : (Phi n).sem 22 [X8 zs] = some (Qk (Iw zs), 1) := by
 have c0 := U2 zs 0 6 (by lia)
 rw [W0 hn (F := f22) rfl]
 rw [z1 (F := f22) rfl]
 dsimp only [f22, Nat.reduceSub, RS, RZ]
 (try dsimp only [Qd, Wa, Qh, OB])
 rw [show (V0 []).bind (Z4 1) = some (Qk [], 1) from rfl]
 (try dsimp only [OB, Qc, SS, SZ, W6, Wv, Qq, Qj, Qe, Q2, GZ, v0, Xv, Qh, Q7, c1, ph22, Ml, agf, ag0, OM, c2]; try simp only [c06, c3, Qp, Q3, add1, OB, Gl])
 rw [Rj _ _ (by unfold lim; lia)]
 (try dsimp only [OM, OB, Rn])
 rw [Qn (fun i : Nat => PyData.int (i : Nat)) (fun g => [some (X8 zs, 0), some (Qk g, 1), none, none, none, none, none, none]) (fun g i => g ++ [Ul zs i]) (List.range (1 + cell zs 0 6)) [] ?_]
 ·have : ∀ (l : List Nat) (a : Gr), l.foldl (fun g i => g ++ [Ul zs i]) a = a ++ l.map (Ul zs) := by
   intro l
   induction l with
   | nil => simp
   | cons x l ih => intro a; simp [ih]
  rw [this]
  (try dsimp only [List.nil_append, Q8, Wp, SS, SZ, Zt, GS, GZ, rr])
  rfl
 ·intro pre i post e
  have hl : (pre.foldl (fun g i => g ++ [Ul zs i]) []).length = pre.length := by
   have : ∀ (l : List Nat) (a : Gr), (l.foldl (fun g i => g ++ [Ul zs i]) a).length = a.length + l.length := by
    intro l
    induction l with
    | nil => simp
    | cons x l ih => intro a; rw [List.foldl_cons, ih]; simp; lia
   simpa using this pre []
  have hpl : pre.length ≤ 6 := by
   have := congrArg List.length e
   simp at this; lia
  generalize pre.foldl (fun g i => g ++ [Ul zs i]) [] = g at hl ⊢
  have h1 := U2 zs (6 + 3 * i) 12 (by lia)
  have h2 := U2 zs (7 + 3 * i) 12 (by lia)
  have h3 := U2 zs (8 + 3 * i) 12 (by lia)
  (try dsimp only [f22_b0, SS, SZ, Qd, Qj, Qe, Q2, GZ, v0, Xv, Wv, Qq, B8, GS, Qp, Q3, Qh, Q7]; try simp only [mul3, Q3, add6, Q7, c1, ph22, Ml, agf, ag0, OM, c2, c12, c3, Qp, OB, Q6, Qc, SS, SZ, Qd, Qj, Qe, Q2, GZ, v0, Xv, Wv, Qq, B8, GS, add7, Qh, add8, R6, Wa, Gx, Ue, mod12])
  rw [show V0 [(PyData.int ((cell zs (7 + 3 * i) 12 : Nat) : Int), Kd.fr 9), (.int ((cell zs (8 + 3 * i) 12 : Nat) : Int), .fr 9), (.int (((cell zs (7 + 3 * i) 12 + cell zs (8 + 3 * i) 12 + cell zs (6 + 3 * i) 12) % 12 : Nat) : Int), .fr 9)] =
   some (Z6 [cell zs (7 + 3 * i) 12, cell zs (8 + 3 * i) 12, (cell zs (7 + 3 * i) 12 + cell zs (8 + 3 * i) 12 + cell zs (6 + 3 * i) 12) % 12], .fr 1) from rfl]
  (try dsimp only [OB, X2, Ef, R8, BF, dreduceIte])
  rw [Ri (fun i : Nat => PyData.int (i : Nat)) (fun j => .str (chr Ho j)) [cell zs (7 + 3 * i) 12, cell zs (8 + 3 * i) 12, (cell zs (7 + 3 * i) 12 + cell zs (8 + 3 * i) 12 + cell zs (6 + 3 * i) 12) % 12] (fun j hj => by
   have hj12 : j < 12 := by
    simp only [List.mem_cons, List.not_mem_nil, or_false] at hj
    lia
   (try dsimp only [R5, SS, SZ, i0, Qr, Gy, Q2, GS, GZ, v0, Qp, Bool.not_false, Bool.true_or, Bool.and_true, OB, dreduceIte]; try simp only [Bool.not_false, Bool.true_or, Bool.and_true])
   rw [if_pos (by decide +kernel)]
   (try dsimp only [Q3])
   rw [Kq _ _ _ _ (show j < (Str.ofString "SABaAbBcSaAb").cps.size from (show (Str.ofString "SABaAbBcSaAb").cps.size = 12 by decide +kernel) ▸ hj12)]
   (try dsimp only [OB, U8, dreduceIte])
   rfl)]
  (try dsimp only [OM, OB, Q6, Qc, SS, SZ, Y9, Rt, Qr, Ux, Gx, Q2, GS, GZ, v0, Qp, Qq, Q3, Vx, Wv, Gz])
  rw [show PyData.list ([cell zs (7 + 3 * i) 12, cell zs (8 + 3 * i) 12, (cell zs (7 + 3 * i) 12 + cell zs (8 + 3 * i) 12 + cell zs (6 + 3 * i) 12) % 12].map fun j => PyData.str (chr Ho j)) =
   Q5 [chr Ho (cell zs (7 + 3 * i) 12), chr Ho (cell zs (8 + 3 * i) 12), chr Ho ((cell zs (7 + 3 * i) 12 + cell zs (8 + 3 * i) 12 + cell zs (6 + 3 * i) 12) % 12)] from rfl]
  (try dsimp only [Qb])
  rw [if_pos (by decide +kernel)]
  (try simp only [mod3, Q3, div3, addr1, mod4])
  rw [Kq _ _ _ _ (by have hz : (Str.ofString "SAB").cps.size = 3 := (by decide +kernel); rw [hz]; lia), Dq _ _ _ _ rfl (by lia)]
  (try dsimp only [Q3, Rs, OB, X1, Yc, GS, GZ])
  rw [show PyData.tuple [.str (chr (Str.ofString "SAB") (cell zs (6 + 3 * i) 12 % 3)), Q5 (([chr Ho (cell zs (7 + 3 * i) 12), chr Ho (cell zs (8 + 3 * i) 12), chr Ho ((cell zs (7 + 3 * i) 12 + cell zs (8 + 3 * i) 12 + cell zs (6 + 3 * i) 12) % 12)]).take ((cell zs (6 + 3 * i) 12 / 3 + 1) % 4))] = Wb (Ul zs i) from rfl]
  rw [Pp _ _ (by unfold lim; lia)]
  (try dsimp only [OB, Qc, SS, SZ, Qz, Qg, OM, Qi])
noncomputable def Q4 (g : Gr) : List Str := [sA, sB, sS].filter fun h => decide (h ∈ g.map (·.1))
theorem sem23 {n : Nat} (hn : 23 < n) (g : Gr) (hg : g.length ≤ 1000) : (Phi n).sem 23 [Qk g] = some (Q5 (Q4 g), 1) := by
 rw [W0 hn (F := f23) rfl]
 rw [z1 (F := f23) rfl]
 dsimp only [f23, Nat.reduceSub, RS, RZ]
 (try dsimp only [Qd, R6, Q2, GZ, v0, Qm, OB, X2, U1, R8, BF, dreduceIte])
 rw [Ri Wb (fun r => .str r.1) g (fun r _ => by (try dsimp only [R5, SS, SZ, i0, Qr, Q2, GS, GZ, v0, R2, Qq, Q3, W1, Bool.not_false, Bool.true_or, Bool.and_true, OB, U8, Bool.and_self, dreduceIte]))]
 (try dsimp only [OM, OB, Q6, Qc, SS, SZ, R3, R6, Wa, Qe, Ux, Qh])
 rw [show PyData.list (g.map fun r => PyData.str r.1) = Q5 (g.map (·.1)) from by unfold Q5; rw [List.map_map]; rfl]
 (try dsimp only [Wr, List.contains_nil, BF, dreduceIte]; try simp only [List.mapIdx_cons, List.mapIdx_nil])
 rw [if_pos (by decide +kernel), if_pos (by decide +kernel), if_pos (by decide +kernel)]
 (try dsimp only [Q7, OB])
 rw [show V0 [(PyData.str (Str.ofString "A"), Kd.fr 9), (.str (Str.ofString "B"), .fr 9), (.str (Str.ofString "S"), .fr 9)] = some (Q5 [sA, sB, sS], .fr 1) from rfl]
 (try dsimp only [OB, X2, Yn, R8, BF, dreduceIte])
 rw [Qs PyData.str (fun h => decide (h ∈ g.map (·.1))) PyData.str [sA, sB, sS] (fun h _ => by
  (try dsimp only [R5, SS, SZ, i1, Qt, Q2, GS, GZ, v0, Q9, Qb, Q3, i0, Bool.not_false, Bool.true_or, Bool.and_true, OB, U8, Bool.and_self, dreduceIte]; try simp only [Ws, Bool.false_xor, OB, Q1])
  by_cases q : h ∈ g.map (·.1)
  ·(try simp only [q, decide_true, if_true, OB])
  ·(try simp only [q, decide_false, BF, if_false, OB]))]
 rfl
theorem R7 {g : Gr} (hg : OkG g) {h : Str} : h ∈ Q4 g ↔ h ∈ Q0 g := by
 unfold Q4
 rw [List.mem_filter, Qa]
 simp only [decide_eq_true_eq, List.mem_map]
 constructor
 ·rintro ⟨_, ⟨r, hr, rfl⟩⟩; exact ⟨r.2, hr⟩
 ·rintro ⟨b, hb⟩
  refine ⟨?_, ⟨_, hb, rfl⟩⟩
  have := hg.head _ hb
  simp only [HS, List.mem_cons, List.not_mem_nil, or_false] at this ⊢
  rcases this with h | h | h
  ·exact .inr (.inr h)
  ·exact .inl h
  ·exact .inr (.inl h)
theorem Rx (g : Gr) : Can (Q4 g) := by
 have c : Can [sA, sB, sS] := ⟨by decide +kernel, by decide +kernel⟩
 exact ⟨c.sorted.filter _, c.nodup.filter _⟩
noncomputable def One (s : Str) : Prop := s.cps.size = 1
theorem M3 : ∀ s ∈ SY, One s := by
 intro s hs
 have : ∀ s ∈ SY, s.cps.size = 1 := by decide +kernel
 exact this s hs
theorem eqD_I0 (l : List Nat) (k j : Kd) : eqD false (Z6 l, k) (Q5 [], j) = some (.bool (decide (l = [])), .fr 9) := by
 have h1 : Ts 4 (Z6 l) = true := by
  show (l.map fun i => PyData.int (i : Nat)).all (Ts 3) = true
  rw [List.all_map, List.all_eq_true]
  intro x _
  rfl
 show (if Ts 4 (Z6 l) && Ts 4 (Q5 []) then some (PyData.bool (false ^^ PyData.eqv (Z6 l) (Q5 [])), Kd.fr 9) else none) = _
 rw [h1, A2]
 cases l with
 | nil => rfl
 | cons x l => rfl
theorem lenD_LL (g : List (List Str)) (k : Kd) : Mi (Ud g, k) = some (.int g.length, .fr 9) := by
 show some (PyData.int ((g.map Q5).length : Nat), Kd.fr 9) = _
 rw [List.length_map]
theorem idxD_I0 (k : Nat) (ks : List Nat) (c j : Kd) : Th (Z6 (k :: ks), c) (.int 0, j) = some (.int (k : Nat), .fr 9) := rfl
theorem ltD_5 (b : Nat) (k j : Kd) : ltD (.int 5, k) (.int (b : Nat), j) = some (.bool (decide (5 < b)), .fr 9) := Xg 5 b k j
theorem modD_4 (x : Nat) (k j : Kd) : D0 (.int (x : Nat), k) (.int 4, j) = some (.int ((x % 4 : Nat) : Int), .fr 9) := Ve x 4 k j (by lia)
theorem fdivD_4 (x : Nat) (k j : Kd) : He (.int (x : Nat), k) (.int 4, j) = some (.int ((x / 4 : Nat) : Int), .fr 9) := Bo x 4 k j (by lia) (by lia)
theorem addD_2 (x : Nat) (k j : Kd) : Xq (.int 2, k) (.int (x : Nat), j) = some (.int ((2 + x : Nat) : Int), .fr 9) := Ue 2 x k j
theorem Ca {n : Nat} (hn : 21 < n) (zs : List Int) (i : Nat) : (Phi n).sem 21 [X8 zs, .int (i : Nat), .int 12] = some (.int (cell zs i 12 : Nat), 9) := E4 hn zs i 12 (by lia)
theorem Eu (zs : List Int) (g : Gr) (hg : OkG g) (hs : List Str) (hhs : ∀ h ∈ hs, h ∈ Q0 g) (md : Int) (t : Nat) (ht : t < 8) (form : List Str) (hf : ∀ s ∈ form, s ∈ SY) (hfl : form.length ≤ 7) :
  ∃ form', (∀ s ∈ form', s ∈ SY) ∧ form'.length ≤ 7 ∧
   (Option.map (Out.clr 5) (evB (Phi 24) [] Kt ([some (X8 zs, 0), some (Qk g, 0), some (Q5 hs, 0), some (.int md, 0), some (Q5 form, 0), some (.int (t : Nat), 0), none, none, none, none, none, none, none, none] : Sg)) =
     some (.next [some (X8 zs, 0), some (Qk g, 0), some (Q5 hs, 0), some (.int md, 0), some (Q5 form', 0), none, none, none, none, none, none, none, none, none]) ∨
   Option.map (Out.clr 5) (evB (Phi 24) [] Kt ([some (X8 zs, 0), some (Qk g, 0), some (Q5 hs, 0), some (.int md, 0), some (Q5 form, 0), some (.int (t : Nat), 0), none, none, none, none, none, none, none, none] : Sg)) =
     some (.brk [some (X8 zs, 0), some (Qk g, 0), some (Q5 hs, 0), some (.int md, 0), some (Q5 form', 0), none, none, none, none, none, none, none, none, none])) := by
 have hlen := hg.few
 generalize hsp : ((List.range form.length).filter fun k => decide ((form[k]?).getD sS ∈ hs)) = spots
 have hstep : ∀ k ∈ List.range form.length, (Option.map (fun x => x) (form[k]?)) = some form[k]! := fun k hk => by
  have hk' := List.mem_range.mp hk
  simp [List.getElem?_eq_getElem hk', List.getElem!_eq_getElem?_getD]
 by_cases hbreak : spots = [] ∨ 5 < form.length
 ·refine ⟨form, hf, hfl, .inr ?_⟩
  (try dsimp only [Kt, Qd, R6, Yt, Q2, GS, GZ, v0, Qb, OB]; try simp only [Y3, OB, A6])
  rw [Rj _ _ (by unfold lim; lia)]
  (try dsimp only [OB, R8, BF, dreduceIte])
  rw [Qs (fun i : Nat => PyData.int (i : Nat)) (fun k => decide ((form[k]?).getD sS ∈ hs)) (fun i : Nat => PyData.int (i : Nat)) (List.range form.length) (fun k hk => by
   have hk' := List.mem_range.mp hk
   have hfk : form[k]? = some form[k] := List.getElem?_eq_getElem hk'
   (try dsimp only [R5, SS, SZ, i1, Qt, Qr, Q2, GS, GZ, v0, Qb, Qp, Q3, i0, Bool.not_false, Bool.true_or, Bool.and_true, OB, U8, Bool.and_self, dreduceIte]; try simp only [Zo, hfk, OM, Q3, Ws, Bool.false_xor, OB, Q1, Option.getD_some])
   by_cases q : form[k] ∈ hs
   ·(try simp only [q, decide_true, if_true, OB])
   ·(try simp only [q, decide_false, BF, if_false, OB])), hsp]
  (try dsimp only [OM, OB, Q6, Qc, SS, SZ, Qw, Yl, p2, Tv, Q2, GS, GZ, v0, Wa, Qh, p1, Ir, Yt, Qb, Qq]; try simp only [Y3, Q3, Bl])
  rw [show PyData.list (spots.map fun i => PyData.int (i : Nat)) = Z6 spots from rfl]
  (try dsimp only [Ha, Uy, Q3]; try simp only [eqD_I0, OB, Q1, ltD_5])
  by_cases q1 : spots = []
  ·(try simp only [q1, decide_true, btf, BF, if_false, Wl, OB, Q1, Wk, Qz, SS, SZ, Hj, H0, OM, Gv])
  ·have q2 : 5 < form.length := hbreak.resolve_left q1
   (try simp only [q1, decide_false, beq_self_eq_true, q2, decide_true, if_true, Wl, OB, Q1, Wk, Qz, SS, SZ, Hj, H0, OM, Gv])
 ·simp only [not_or] at hbreak
  obtain ⟨q1, q2⟩ := hbreak
  obtain ⟨k, ks, hk⟩ : ∃ k ks, spots = k :: ks := by
   cases spots with
   | nil => exact absurd rfl q1
   | cons k ks => exact ⟨k, ks, rfl⟩
  have hkm : k ∈ spots := by rw [hk]; simp
  rw [← hsp] at hkm
  obtain ⟨hk1, hk2⟩ := List.mem_filter.mp hkm
  have hkl := List.mem_range.mp hk1
  have hfk : form[k]? = some form[k] := List.getElem?_eq_getElem hkl
  rw [hfk] at hk2
  simp only [Option.getD_some, decide_eq_true_eq] at hk2
  have hbod : ∃ b bs, (g.filter fun r => decide (r.1 = form[k])).map (·.2) = b :: bs := by
   obtain ⟨b, hb⟩ := Qa.mp (hhs _ hk2)
   have : (form[k], b) ∈ g.filter fun r => decide (r.1 = form[k]) := List.mem_filter.mpr ⟨hb, by simp⟩
   cases h : g.filter fun r => decide (r.1 = form[k]) with
   | nil => rw [h] at this; cases this
   | cons r rs => exact ⟨r.2, rs.map (·.2), by simp⟩
  have hbl : 0 < ((g.filter fun r => decide (r.1 = form[k])).map (·.2)).length := by obtain ⟨b, bs, h⟩ := hbod; rw [h]; simp
  let pick := (cell zs (2 + t % 4) 12 + t / 4) % ((g.filter fun r => decide (r.1 = form[k])).map (·.2)).length
  have hpl : pick < ((g.filter fun r => decide (r.1 = form[k])).map (·.2)).length := Nat.mod_lt _ hbl
  have hbp : ((g.filter fun r => decide (r.1 = form[k])).map (·.2))[pick]? = some ((g.filter fun r => decide (r.1 = form[k])).map (·.2))[pick] := List.getElem?_eq_getElem hpl
  obtain ⟨r, hr, hrb⟩ := List.mem_map.mp (List.getElem_mem hpl)
  have hrg := (List.mem_filter.mp hr).1
  have hr3 := hg.short r hrg
  refine ⟨form.take k ++ ((g.filter fun r => decide (r.1 = form[k])).map (·.2))[pick] ++ form.drop (k + 1), fun s hs' => ?_, ?_, .inl ?_⟩
  ·rcases List.mem_append.mp hs' with q | q
   ·rcases List.mem_append.mp q with q | q
    ·exact hf s (List.mem_of_mem_take q)
    ·rw [← hrb] at q; exact hg.sym r hrg s q
   ·exact hf s (List.mem_of_mem_drop q)
  ·rw [← hrb]
   simp only [List.length_append, List.length_take, List.length_drop]
   lia
  ·(try dsimp only [Kt, Qd, R6, Yt, Q2, GS, GZ, v0, Qb, OB]; try simp only [Y3, OB, A6])
   rw [Rj _ _ (by unfold lim; lia)]
   (try dsimp only [OB, R8, BF, dreduceIte])
   rw [Qs (fun i : Nat => PyData.int (i : Nat)) (fun k => decide ((form[k]?).getD sS ∈ hs)) (fun i : Nat => PyData.int (i : Nat)) (List.range form.length) (fun k hk => by
    have hk' := List.mem_range.mp hk
    have hfk : form[k]? = some form[k] := List.getElem?_eq_getElem hk'
    (try dsimp only [R5, SS, SZ, i1, Qt, Qr, Q2, GS, GZ, v0, Qb, Qp, Q3, i0, Bool.not_false, Bool.true_or, Bool.and_true, OB, U8, Bool.and_self, dreduceIte]; try simp only [Zo, hfk, OM, Q3, Ws, Bool.false_xor, OB, Q1, Option.getD_some])
    by_cases q : form[k] ∈ hs
    ·(try simp only [q, decide_true, if_true, OB])
    ·(try simp only [q, decide_false, BF, if_false, OB])), hsp]
   (try dsimp only [OM, OB, Q6, Qc, SS, SZ, Qw, Yl, p2, Tv, Q2, GS, GZ, v0, Wa, Qh, p1, Ir, Yt, Qb, Qq]; try simp only [Y3, Q3, Bl])
   rw [show PyData.list (spots.map fun i => PyData.int (i : Nat)) = Z6 spots from rfl]
   (try dsimp only [Ha, Uy, Q3]; try simp only [eqD_I0, q1, decide_false, OB, Q1, ltD_5, q2, beq_self_eq_true, if_true, Wl, W3, Qg, Q8, Ql, Qd, Qr, Q2, GS, GZ, v0, Ha, Qq, Q3])
   rw [hk]
   (try dsimp only [idxD_I0, OB, Q6, Qc, SS, SZ, Qd, R6, Q2, GS, GZ, v0, Qm, X2, U1, R8, BF, dreduceIte])
   skip
   rw [Qs Wb (fun r => decide (r.1 = form[k])) (fun r => Q5 r.2) g (fun r _ => by
    (try dsimp only [R5, SS, SZ, i1, Tv, Qr, Q2, GS, GZ, v0, R2, Qq, Q3, W1, Qb, Qp, i0, Rf, Bool.not_false, Bool.true_or, Bool.and_true, OB, U8, Bool.and_self, dreduceIte]; try simp only [Zo, hfk, OM, Q3, T9, Bool.false_xor, OB, Q1])
    by_cases q : r.1 = form[k]
    ·(try simp only [q, decide_true, if_true, OB])
    ·(try simp only [q, decide_false, BF, if_false, OB]))]
   (try dsimp only [OM, OB, Q6, Qc, SS, SZ, Qd, Gx, Wv, Qj, Qe, Q2, GZ, v0, Qq, GS, Qp, Q3, Qh, Q7, Gz, Yt])
   rw [show PyData.list ((g.filter fun r => decide (r.1 = form[k])).map fun r => Q5 r.2) = Ud ((g.filter fun r => decide (r.1 = form[k])).map (·.2)) from by unfold Ud; rw [List.map_map]; rfl]
   (try dsimp only [Xv, Ju]; try simp only [modD_4, Q3, addD_2, Q7, c1, Aa, Ml, agf, ag0, OM, c2, fdivD_4, lenD_LL])
   rw [Ca (by decide)]
   (try dsimp only [c3, Qp, Q3]; try simp only [Ue, Q3])
   rw [Ve _ _ _ _ hbl]
   (try dsimp only [OB, Q6, Qc, SS, SZ, Qd, Wv, Vx, Q2, GS, GZ, v0, Qb, Qp, Q3, Qr, Ju, Uo, Qq])
   skip
   rw [Dq _ _ _ _ rfl (by lia)]
   skip
   rw [Eg, hbp]
   (try dsimp only [OM, Q3])
   have hbl3 := hr3
   rw [hrb] at hbl3
   rw [Xp _ _ _ _ rfl rfl (by simp only [List.length_take]; unfold lim; lia)]
   (try dsimp only [T4, Q3])
   rw [L0 _ _ _ _ rfl (by lia)]
   (try dsimp only [Q3])
   rw [Xp _ _ _ _ rfl rfl (by simp only [List.length_append, List.length_take, List.length_drop]; unfold lim; lia)]
   (try dsimp only [OB, Q6, Qc, SS, SZ, Qz, Qg, OM, Qi])
   skip
theorem Fv (zs : List Int) (g : Gr) (hg : OkG g) (hs : List Str) (hhs : ∀ h ∈ hs, h ∈ Q0 g) (md : Int) : ∀ (l : List Nat), (∀ t ∈ l, t < 8) → ∀ (form : List Str), (∀ s ∈ form, s ∈ SY) → form.length ≤ 7 →
  ∃ form', (∀ s ∈ form', s ∈ SY) ∧ form'.length ≤ 7 ∧ Tu (fun σ x => Option.map (Out.clr 5) (evB (Phi 24) [] Kt (σ.set 5 (some (x, 0))))) (l.map fun i => PyData.int (i : Nat)) [some (X8 zs, 0), some (Qk g, 0), some (Q5 hs, 0), some (.int md, 0), some (Q5 form, 0), none, none, none, none, none, none, none, none, none] =
   some (.next [some (X8 zs, 0), some (Qk g, 0), some (Q5 hs, 0), some (.int md, 0), some (Q5 form', 0), none, none, none, none, none, none, none, none, none])
 | [], _, form, hf, hfl => ⟨form, hf, hfl, rfl⟩
 | t :: l, hl, form, hf, hfl => by
  obtain ⟨form', h1, h2, h3 | h3⟩ := Eu zs g hg hs hhs md t (hl t (.head _)) form hf hfl
  ·obtain ⟨form'', j1, j2, j3⟩ := Fv zs g hg hs hhs md l (fun t' ht' => hl t' (.tail _ ht')) form' h1 h2
   refine ⟨form'', j1, j2, ?_⟩
   rw [List.map_cons, Y7 (σ' := [some (X8 zs, 0), some (Qk g, 0), some (Q5 hs, 0), some (.int md, 0), some (Q5 form', 0), none, none, none, none, none, none, none, none, none]) h3]
   exact j3
  ·exact ⟨form', h1, h2, by rw [List.map_cons, S4 h3]⟩
theorem chr_one (x : Str) (i : Nat) (h : i < x.cps.size) : One (chr x i) := by
 unfold chr One
 rw [Array.getElem?_eq_getElem h]
 rfl
theorem sem24 {n : Nat} (hn : 24 < n) (zs : List Int) (g : Gr) (hg : OkG g) (st : Str × List Str) (rest : Gr) (hst : g = st :: rest) (hs : List Str) (hhs : ∀ h ∈ hs, h ∈ Q0 g) :
  ∃ w k, (Phi n).sem 24 [X8 zs, Qk g, Q5 hs] = some (Q5 w, k) ∧ w.length ≤ 4 ∧ ∀ s ∈ w, One s := by
 have hm := U2 zs 1 10 (by lia)
 have hmode : (Phi 24).sem 21 [X8 zs, .int 1, .int 10] = some (.int (cell zs 1 10 : Nat), 9) := E4 (by decide) zs 1 10 (by lia)
 have hlet : (Str.ofString "abcabcabcdSA").cps.size = 12 := by decide +kernel
 by_cases h5 : cell zs 1 10 < 5
 ·refine ⟨(List.range (cell zs 1 10)).map fun k => chr letS (cell zs (2 + k) 12), 1, ?_, by simp; lia, fun s hs' => ?_⟩
  ·rw [W0 hn (F := f24) rfl]
   rw [z3 (F := f24) rfl]
   dsimp only [f24, Nat.reduceSub, RS, RZ]
   (try dsimp only [Qd, Qj, Qe, Q2, GZ, v0, Xv, Qq, Qh, Q7, c1, Aa, Ml, agf, ag0, OM, c2])
   rw [hmode]
   (try dsimp only [c3, Qp, OB, Q6, Qc, SS, SZ, Qw, Mf, Q2, GS, GZ, v0, Qq, Q3])
   skip
   rw [show ltD (PyData.int ((cell zs 1 10 : Nat) : Int), Kd.fr 9) (.int 5, .fr 9) = some (.bool (decide (cell zs 1 10 < 5)), .fr 9) from Xg _ 5 _ _]
   (try dsimp only [OB, Q1]; try simp only [h5, decide_true, Wk, R3, Wr, List.contains_nil, BF, if_false, List.mapIdx_cons, List.mapIdx_nil, R6, Q2, GS, GZ, v0, Qp, OB, A6])
   rw [Rj _ _ (by unfold lim; lia)]
   (try dsimp only [OB, R8, BF, dreduceIte])
   rw [Ri (fun i : Nat => PyData.int (i : Nat)) (fun k => .str (chr letS (cell zs (2 + k) 12))) (List.range (cell zs 1 10)) (fun k _ => by
    have hc := U2 zs (2 + k) 12 (by lia)
    (try dsimp only [R5, SS, SZ, i0, Qr, Gy, Qj, Qe, Q2, GZ, v0, Xv, Wv, Qq, GS, Qp, Q3, Qh, Q7, Bool.not_false, Bool.true_or, Bool.and_true, OB, dreduceIte]; try simp only [addD_2, Q7, c1, Aa, Ml, agf, ag0, OM, c2, Bool.not_false, Bool.true_or, Bool.and_true])
    rw [if_pos (by decide +kernel)]
    skip
    rw [Ca (by decide)]
    (try dsimp only [c3, Qp, Q3])
    rw [Kq _ _ _ _ (by rw [hlet]; exact hc)]
    (try dsimp only [OB, U8, dreduceIte])
    rfl)]
   (try dsimp only [OM, OB, Rl, Za, rr])
   rw [show PyData.list ((List.range (cell zs 1 10)).map fun k => PyData.str (chr letS (cell zs (2 + k) 12))) = Q5 ((List.range (cell zs 1 10)).map fun k => chr letS (cell zs (2 + k) 12)) from by unfold Q5; rw [List.map_map]; rfl]
  ·obtain ⟨k, _, rfl⟩ := List.mem_map.mp hs'
   exact chr_one _ _ (by unfold letS; rw [hlet]; exact U2 zs (2 + k) 12 (by lia))
 ·have hstm : st ∈ g := by rw [hst]; simp
  have hsy : st.1 ∈ SY := by
   have := hg.head st hstm
   simp only [HS, SY, List.mem_cons, List.not_mem_nil, or_false] at this ⊢
   rcases this with h | h | h <;> simp [h]
  obtain ⟨form, hf, hfl, hloop⟩ := Fv zs g hg hs hhs (cell zs 1 10 : Nat) (List.range 8) (fun t ht => List.mem_range.mp ht) [st.1] (by simpa using hsy) (by simp)
  refine ⟨(form.filter fun s => !decide (s ∈ hs)).take 4, 1, ?_, by simp; lia, fun s hs' => M3 s (hf s (List.mem_filter.mp (List.mem_of_mem_take hs')).1)⟩
  rw [W0 hn (F := f24) rfl]
  rw [z3 (F := f24) rfl]
  dsimp only [f24, Nat.reduceSub, RS, RZ]
  (try dsimp only [Qd, Qj, Qe, Q2, GZ, v0, Xv, Qq, Qh, Q7, c1, Aa, Ml, agf, ag0, OM, c2])
  rw [hmode]
  (try dsimp only [c3, Qp, OB, Q6, Qc, SS, SZ, Qw, Mf, Q2, GS, GZ, v0, Qq, Q3])
  skip
  rw [show ltD (PyData.int ((cell zs 1 10 : Nat) : Int), Kd.fr 9) (.int 5, .fr 9) = some (.bool (decide (cell zs 1 10 < 5)), .fr 9) from Xg _ 5 _ _]
  (try dsimp only [OB, Q1]; try simp only [h5, decide_false, W3, Qg, Q8, Ql, Qd, Wa, Qe, Qr, Q2, GS, GZ, v0, Qm, Qq, Q3, Qh])
  have h0 : Th (Qk g, .fr 0) (.int 0, .fr 9) = some (Wb st, .fr 0) := by
   have := Zp g 0 0 (.fr 9)
   rw [hst] at this ⊢
   exact this
  rw [h0]
  (try dsimp only [Q3, W1, Q7, OB, Vf, Q6, Qc, SS, SZ, W6, Qq, Gl])
  skip
  rw [show Zn (PyData.int 8, Kd.fr 9) = some ((List.range 8).map fun i => PyData.int (i : Nat), 0) from Rj 8 _ (by decide)]
  ((try simp only [Qg, Qd, Sp, Y9, Xy, Qw, W6, L5, Yo, Qz, Hj, Qc, Sr, Yc, Xz, Ui, Wk, W3, Ql, Wp, Kw, Rn, Py, Q8, Za, H0, R3, Rl, Px, Zt, G4, G5, Np, Q6, Q2, v0, v1, v2, v3, Qq, Ux, Wq, Gy, Wv, Eb, Gx, Gz, B8, Mf, Ir, Qr, Uo, Vx, Rt, Tv, Qt, Vd, Yt, U6, Cp, Ec, Yj, Td, Kb, Yl, Wl, H9, Jt, Wa, Yk, Co, Qj, Q3, C0, Bl, Rs, Q7, c1, c2, c3, Qh, Qe, R6, R8, R5, Zg, p1, p2, i0, i1, Qi, Gv, H7, Dc, Dd, it_2, it_3, X1, sh_0, U8, ks_0, Gl, Tk, A6, X2, ag0, agf, ag1, ag3, rr, ph0, ph1, ph2, ph3, ph4, ph5, ph6, ph7, ph8, ph9, ph10, ph11, ph12, ph13, ph14, ph15, ph16, Ac, Ab, ph19, Ij, ph21, ph22, ph23, Aa, ph25, ph26, ph27, ph28, ph29, ph30, ph31, K7, Js, OB, OM, Option.bind_none, Option.map_none, GZ, GS, SZ, SS, Q9, Qp, W2, Qb, R2, Qm, Wi, Ju, Hu, Q1, Wt, Vf, W1, Rf, Ws, Jj, Jl, Hf, T9, Uc, G3, Rd, Wg, Db, U1, Yn, Mh, Y3, BF, if_true, if_false, Bool.true_xor, Bool.false_xor, reduceIte, reduceCtorEq, beq_self_eq_true, Bool.not_true, Bool.not_false, kd0, kd1, kd2, kd3, kd4, kd5, kd6, kd7, kd8, kd9, kd10, kd11, kd12, kd13, kd14, O3, kd16, kd17, kd18, kd19, kd20, Ml, kd22, kd23, kd24, O2, kd26, kd27, O1, kd29, kd30, kd31, kd32, kd33, Nat.reduceLeDiff, Nat.le_refl, Nat.zero_le, Nat.reduceEqDiff, Nat.succ_ne_zero, decide_true, decide_false, bft, btf, bff, btt, ite_true, ite_false, Bool.and_self, Bool.and_true, Bool.true_and, Bool.or_true, Bool.true_or, Bool.and_false, Bool.false_and, Bool.false_or, Bool.or_false, Bool.or_self] at hloop); (try dsimp only [OM, OB, Rn]))
  rw [hloop]
  (try dsimp only [Q8, Wp, SS, SZ, R3, Wr, List.contains_nil, BF, dreduceIte, Vx, R6, Q2, Qq]; try simp only [List.mapIdx_cons, List.mapIdx_nil, GS, GZ, v0, Qb, OB, X2, Yn, R8, BF, if_false])
  rw [Qs PyData.str (fun s => !decide (s ∈ hs)) PyData.str form (fun s _ => by
   (try dsimp only [R5, SS, SZ, i1, Qt, Q2, GS, GZ, v0, Q9, Qb, Q3, i0, Bool.not_false, Bool.true_or, Bool.and_true, OB, U8, Bool.and_self, dreduceIte]; try simp only [Ws, Bool.true_xor, OB, Q1])
   by_cases q : s ∈ hs
   ·(try simp only [q, decide_true, Bool.not_true, BF, if_false, OB])
   ·(try simp only [q, decide_false, Bool.not_false, if_true, OB]))]
  (try dsimp only [OM, Q3])
  rw [show PyData.list ((form.filter fun s => !decide (s ∈ hs)).map PyData.str) = Q5 (form.filter fun s => !decide (s ∈ hs)) from rfl]
  rw [show Jz (Q5 (form.filter fun s => !decide (s ∈ hs)), Kd.fr 1) (.int 4, .fr 9) = some (Q5 ((form.filter fun s => !decide (s ∈ hs)).take 4), .fr 1) from Dq _ 4 _ _ rfl (by lia)]
  (try dsimp only [OB, Rl, rr])
noncomputable def Qu (E : Gr) (x : Str) : List Str := (E.lookup x).getD []
theorem getD_E (E : Gr) (x : Str) (k : Nat) (j c : Nat) : getD (Wc E, .fr k) (.str x, .fr j) (Q5 [], .fr c) = some (Q5 (Qu E x), .fr 0) := by
 show (if (Kd.fr k).rd1 && (Kd.fr c).sh then some (mkR ((Wf x (E.map fun p => (PyData.str p.1, Q5 p.2))).getD (Q5 [])) (.fr 0)) else none) = _
 rw [Rb]
 unfold Qu
 cases E.lookup x <;> rfl
theorem Te {β : Type} {E : List (Str × β)} {x : Str} {v : β} (h : E.lookup x = some v) : (x, v) ∈ E := by
 induction E with
 | nil => cases h
 | cons p E ih =>
  obtain ⟨y, u⟩ := p
  rw [List.lookup_cons] at h
  by_cases q : x = y
  ·subst q
   simp only [beq_self_eq_true, OI] at h
   subst h
   exact .head _
  ·have : (x == y) = false := by simpa using q
   rw [this] at h
   exact .tail _ (ih h)
theorem sem25 {n : Nat} (hn : 25 < n) (E : Gr) (roots : List Str) (hr : roots.length ≤ 100) (hE : (E.flatMap (·.2)).length ≤ 300) :
  ∃ e, (Phi n).sem 25 [Wc E, Q5 roots] = some (Q5 (roots ++ e), 1) ∧ e.Nodup ∧ (∀ x ∈ e, x ∉ roots) ∧ ∀ x, x ∈ roots ++ e ↔ Rch (Qu E) roots x := by
 have hsucc : ∀ x y, y ∈ Qu E x → y ∈ E.flatMap (·.2) := fun x y hy => by
  unfold Qu at hy
  cases hl : E.lookup x with
  | none => rw [hl] at hy; cases hy
  | some v =>
   rw [hl] at hy
   exact List.mem_flatMap.mpr ⟨(x, v), Te hl, hy⟩
 have hV : ∀ x, Rch (Qu E) roots x → x ∈ roots ++ E.flatMap (·.2) := fun x r => by
  cases r with
  | root h => exact List.mem_append_left _ h
  | step _ h => exact List.mem_append_right _ (hsucc _ _ h)
 have hsl : ∀ x, (Qu E x).length ≤ 300 := fun x => by
  unfold Qu
  cases hl : E.lookup x with
  | none => simp
  | some v =>
   have hm := Te hl
   have : v.length ≤ (E.flatMap (·.2)).length := by
    clear hl hsucc hV hE
    induction E with
    | nil => cases hm
    | cons p E ih =>
     rw [List.flatMap_cons, List.length_append]
     rcases List.mem_cons.mp hm with rfl | hm
     ·simp
     ·have := ih hm; lia
   simp only [Option.getD_some]
   lia
 obtain ⟨e, h1, h2, h3, h4⟩ := G8 (succ := Qu E) (roots := roots) (V := roots ++ E.flatMap (·.2)) (cond := fun σ => (evE (Phi 25) P6 σ).bind Wm) (body := fun σ => evB (Phi 25) [2] P7 σ)
  (fun a => [some (Wc E, 0), some (Q5 roots, 0), some (Q5 a.1, 1), some (.int (a.2 : Nat), 0), none]) hV (by rw [List.length_append]; lia)
  (fun a => by (try dsimp only [P6, Mf, Q2, GS, GZ, v0, Qp, Yt, v1, Qb, OB]; try simp only [Y3, Q3, Xg, OB, Q1])) (fun f p hp hf hfl => by
   have hgp : f[p]? = some f[p] := List.getElem?_eq_getElem hp
   have l1 := hsl f[p]
   rw [List.length_append] at hfl
   (try dsimp only [P7, W6, Co, Q2, GZ, v0, Wi, Qr, GS, v1, Qb, Qp, Q3, Wa, Qh, OB, Uy]; try simp only [Zo, hgp, OM, C0, getD_E, OB, Tk, Wg, Rn])
   rw [Qn PyData.str (fun u => [some (Wc E, 0), some (Q5 roots, 0), some (Q5 u, 1), some (.int (p : Nat), 0), none]) Qy (Qu E f[p]) f ?_]
   ·(try dsimp only [Q8, Wp, SS, SZ, Qd, Wv, Q2, GS, GZ, v0, Qp, Qq, Q3, T4, OB, Q6, Qc, Qg])
    skip
    rfl
   ·intro pre x post e
    have hl := Tj pre f
    have hl2 : pre.length ≤ 300 := by rw [e] at l1; simp at l1; lia
    generalize pre.foldl Qy f = u at hl ⊢
    (try dsimp only [f25_b1, SS, SZ, Qw, Qt, Q2, GS, GZ, v0, Q9, v1, Qb, Q3]; try simp only [Ws, Bool.true_xor, OB, Q1])
    by_cases q : x ∈ u
    ·(try dsimp only [Qy]; try simp only [q, decide_true, Bool.not_true, W3, Qg, Q8, Ql, OM, Qi, SS, SZ, if_true])
    ·(try dsimp only [Qy]; try simp only [q, decide_false, Bool.not_false, Wk, Y9, Q2, GS, GZ, v0, Q9, OB, X1, Yc, if_false])
     rw [Xm _ _ (by unfold lim; lia)]
     (try dsimp only [OB, Qc, SS, SZ, Qg, Q8, Ql, OM, Qi]))
 refine ⟨e, ?_, h2, h3, h4⟩
 rw [W0 hn (F := f25) rfl]
 rw [z2 (F := f25) rfl]
 dsimp only [f25, Nat.reduceSub, RS, RZ]
 (try dsimp only [Qd, Vd, Q2, GS, GZ, v0, Qb, OB])
 rw [Bq _ _ rfl]
 (try dsimp only [OB])
 rw [Yi _ _ (by decide)]
 (try dsimp only [OB, Qc, SS, SZ, Qd, Qq, Q6, Yo])
 simp only at h1
 skip
 rw [show (some (PyData.int 0, 0) : Option (PyData × Nat)) = some (PyData.int ((0 : Nat) : Int), 0) from rfl, h1]
 (try dsimp only [Q8, Ql, Zt, GS, GZ, rr])
theorem U9 (E : Gr) (k : Nat) : Km (Wc E, .fr k) = some (Qk E, .fr 1) := by
 show (if (Kd.fr k).rd1 then some (PyData.list ((E.map fun p => (PyData.str p.1, Q5 p.2)).map fun p => .tuple [p.1, p.2]), Kd.fr 1) else none) = _
 rw [List.map_map]
 rfl
theorem U7 (k : Str) (v : List Str) (c : Nat) : V0 [(.tuple [.str k, Q5 v], .fr c)] = some (Qk [(k, v)], .fr 1) := rfl
theorem Ck : ∀ (l acc : Gr), Ug (l.map Wb) (acc.map fun p => (PyData.str p.1, Q5 p.2)) = some ((l.foldl (fun m p => R4 m p.1 p.2) acc).map fun p => (PyData.str p.1, Q5 p.2))
 | [], acc => rfl
 | (k, v) :: l, acc => by
  show Ug (l.map Wb) (Xe (acc.map fun p => (PyData.str p.1, Q5 p.2)) k (Q5 v)) = _
  rw [Va, Ck l]
  rfl
theorem Y8 (l : Gr) (k : Nat) : J3 (Qk l, .fr k) = some (Wc (l.foldl (fun m p => R4 m p.1 p.2) []), .fr 1) := by
 show (if (Kd.fr k).sh then (Ug (l.map Wb) []).map fun kvs => (PyData.dict kvs, Kd.fr 1) else none) = _
 rw [show Ug (l.map Wb) [] = some ((l.foldl (fun m p => R4 m p.1 p.2) []).map fun p => (PyData.str p.1, Q5 p.2)) from Ck l []]
 rfl
noncomputable def L7 (E : Gr) : Prop := (E.map (·.1)).Nodup
theorem Vg {E : Gr} {x : Str} (h : x ∉ E.map (·.1)) : E.lookup x = none := by
 cases hl : E.lookup x with
 | none => rfl
 | some v => exact absurd (List.mem_map.mpr ⟨_, Te hl, rfl⟩) h
theorem Hb {E : Gr} {x : Str} (h : x ∈ E.map (·.1)) : ∃ v, E.lookup x = some v := by
 induction E with
 | nil => cases h
 | cons p E ih =>
  obtain ⟨y, u⟩ := p
  rw [List.lookup_cons]
  by_cases q : x = y
  ·subst q; simp
  ·have : (x == y) = false := by simpa using q
   rw [this]
   exact ih ((List.mem_cons.mp h).resolve_left q)
theorem B4 {E : Gr} {k : Str} {v : List Str} : (R4 E k v).map (·.1) = Qy (E.map (·.1)) k := by
 unfold R4 Qy
 by_cases h : k ∈ E.map (·.1)
 ·obtain ⟨u, hu⟩ := Hb h
  rw [hu, if_pos h]
  simp only [Option.isSome_some, if_true, List.map_map]
  refine List.map_congr_left fun p _ => ?_
  simp only [Function.comp_apply]
  split <;> rfl
 ·rw [Vg h, if_neg h]
  simp
theorem L7.put {E : Gr} {k : Str} {v : List Str} (h : L7 E) : L7 (R4 E k v) := by
 unfold L7
 rw [B4]
 exact Xn h
theorem Bn : ∀ (l acc : Gr), L7 (acc ++ l) → l.foldl (fun m p => R4 m p.1 p.2) acc = acc ++ l
 | [], acc, _ => by simp
 | (k, v) :: l, acc, h => by
  have hk : k ∉ acc.map (·.1) := fun q => by
   unfold L7 at h
   rw [List.map_append, List.nodup_append] at h
   exact h.2.2 k q k (by simp) rfl
  have : R4 acc k v = acc ++ [(k, v)] := by unfold R4; rw [Vg hk]; rfl
  rw [List.foldl_cons, this, Bn l (acc ++ [(k, v)]) (by simpa using h)]
  simp
theorem Ua {E : Gr} (h : L7 E) (k : Str) (v : List Str) : (E ++ [(k, v)]).foldl (fun m p => R4 m p.1 p.2) [] = R4 E k v := by
 rw [List.foldl_append, Bn E [] (by simpa using h)]
 rfl
theorem Cf {β : Type} (E : List (Str × β)) (k x : Str) (v : β) : (R4 E k v).lookup x = if x = k then some v else E.lookup x := by
 unfold R4
 by_cases h : (E.lookup k).isSome = true
 ·rw [if_pos h]
  induction E with
  | nil => cases h
  | cons p E ih =>
   obtain ⟨y, u⟩ := p
   rw [List.lookup_cons] at h
   simp only [List.map_cons, List.lookup_cons]
   by_cases q : y = k
   ·subst q
    by_cases q2 : x = y
    ·subst q2; simp
    ·have e1 : (x == y) = false := by simpa using q2
     simp only [if_true, e1, q2, if_false]
     have : ∀ (E : List (Str × β)), (E.map fun p => if p.1 = y then (p.1, v) else p).lookup x = E.lookup x := by
      intro E
      induction E with
      | nil => rfl
      | cons p E ih =>
       obtain ⟨z, u⟩ := p
       rw [List.map_cons]
       by_cases q3 : z = y
       ·subst q3
        simp only [if_true]
        rw [List.lookup_cons, List.lookup_cons, e1]
        exact ih
       ·simp only [q3, if_false]
        rw [List.lookup_cons, List.lookup_cons, ih]
     rw [List.lookup_cons, e1]
     exact this E
   ·simp only [q, if_false]
    have e1 : (k == y) = false := by simpa using fun e => q e.symm
    rw [e1] at h
    have := ih h
    by_cases q2 : x = y
    ·subst q2
     have : ¬ x = k := q
     simp [this]
    ·have e2 : (x == y) = false := by simpa using q2
     rw [List.lookup_cons, e2]
     simp only
     exact this
 ·rw [if_neg h, List.lookup_append]
  have hn : E.lookup k = none := by
   cases hq : E.lookup k with
   | none => rfl
   | some z => rw [hq] at h; simp at h
  by_cases q : x = k
  ·subst q; simp [hn]
  ·have e1 : (x == k) = false := by simpa using q
   simp [List.lookup_cons, e1, q]
theorem Ba (syms nulls beh : List Str) : ∀ (l out : List Str), out.length + l.length ≤ 1000 →
  Tu (fun σ x => Option.map (Out.clr 4) (evB (Phi 28) [3] N9 (σ.set 4 (some (x, 0))))) (l.map .str) [some (Q5 syms, 0), some (Q5 nulls, 0), some (Q5 beh, 0), some (Q5 out, 1), none] =
   if l.all (fun s => decide (s ∈ nulls)) then some (.next [some (Q5 syms, 0), some (Q5 nulls, 0), some (Q5 beh, 0), some (Q5 (out ++ l), 1), none]) else some (.ret (Q5 (out ++ Tf nulls l)) 1)
 | [], out, _ => by simp [forD_n, Dk]
 | s :: l, out, h => by
  simp only [List.length_cons] at h
  rw [List.map_cons, List.all_cons, Rc]
  by_cases q : s ∈ nulls
  ·rw [Y7 (σ' := [some (Q5 syms, 0), some (Q5 nulls, 0), some (Q5 beh, 0), some (Q5 (out ++ [s]), 1), none]) (by
    (try dsimp only [N9, SS, SZ, Y9, Q2, GS, GZ, v0, Q9, OB, X1, Yc])
    rw [Xm _ _ (by unfold lim; lia)]
    (try dsimp only [OB, Qc, SS, SZ, Qw, Qt, Q2, GS, GZ, v0, Q9, Qb, Q3]; try simp only [Ws, q, decide_true, Bool.true_xor, Bool.not_true, OB, Q1, W3, Qg, Q8, Ql, OM, Qi, SS, SZ])), Ba syms nulls beh l (out ++ [s]) (by simp; lia)]
   (try simp only [List.append_assoc, List.cons_append, List.nil_append, q, decide_true, Bool.true_and, if_true])
  ·rw [X6 (d := Q5 (out ++ [s])) (k := 1) (by
    (try dsimp only [N9, SS, SZ, Y9, Q2, GS, GZ, v0, Q9, OB, X1, Yc])
    rw [Xm _ _ (by unfold lim; lia)]
    (try dsimp only [OB, Qc, SS, SZ, Qw, Qt, Q2, GS, GZ, v0, Q9, Qb, Q3]; try simp only [Ws, q, decide_false, Bool.true_xor, Bool.not_false, OB, Q1, Wk, Zt, GS, GZ, Za, OM, H7]))]
   (try simp only [q, decide_false, Bool.false_and, BF, if_false])
noncomputable def Wy (nulls beh l : List Str) : List Str := Tf nulls l ++ (if l.all (fun s => decide (s ∈ nulls)) then beh else [])
theorem Bb {nulls : List Str} : ∀ {l : List Str}, (l.all fun s => decide (s ∈ nulls)) = true → Tf nulls l = l
 | [], _ => rfl
 | s :: l, h => by
  rw [List.all_cons, BA, decide_eq_true_eq] at h
  rw [Rc, if_pos h.1, Bb h.2]
theorem sem28 {n : Nat} (hn : 28 < n) (syms nulls beh : List Str) (h : syms.length + beh.length ≤ 1000) : (Phi n).sem 28 [Q5 syms, Q5 nulls, Q5 beh] = some (Q5 (Wy nulls beh syms), 1) := by
 rw [W0 hn (F := f28) rfl]
 rw [z3 (F := f28) rfl]
 dsimp only [f28, Nat.reduceSub, RS, RZ]
 (try dsimp only [Qd, Wa, Qh, OB, Uy])
 rw [Yi _ _ (by decide)]
 (try dsimp only [OB, Qc, SS, SZ, W6, Q2, GZ, v0, Qb, Tk, Wg, Rn])
 rw [Ba syms nulls beh syms [] (by simp; lia)]
 unfold Wy
 cases hall : syms.all fun s => decide (s ∈ nulls) with
 | true =>
  (try dsimp only [List.nil_append, dreduceIte, Q8, Wp, SS, SZ, R3, Wr, Wv, Q2]; try simp only [List.mapIdx_cons, OM, Option.map_none, List.mapIdx_nil, GS, GZ])
  (try dsimp only [Nat.reduceAdd, List.contains_cons, beq_self_eq_true, List.contains_nil, Bool.or_false, dreduceIte, v0, Qb, Nat.reduceBEq, Bool.or_self, BF, Q3])
  rw [Xp _ _ _ _ rfl rfl (by unfold lim; lia), Bb hall]
  (try dsimp only [OB, Rl, rr])
 | false => (try dsimp only [List.nil_append, BF, dreduceIte, Za, rr]; try simp only [List.append_nil])
noncomputable def gt (h : Str) : Str := Str.ofString ">" ++ h
theorem N5 : ∀ h ∈ HS, ∀ h' ∈ HS, gt h = gt h' → h = h' := by decide +kernel
theorem Vk : ∀ h ∈ HS, gt h ∉ SY ∧ gt h ≠ sD := by decide +kernel
theorem Xc (x y : Str) (k j : Kd) (h : x.length + y.length ≤ lim) : Xq (.str x, k) (.str y, j) = some (.str (x ++ y), .fr 9) := by
 show (if x.length + y.length ≤ lim then some (PyData.str (x ++ y), Kd.fr 9) else none) = _
 rw [if_pos h]
theorem Df : ∀ h ∈ HS, (Str.ofString ">").length + h.length ≤ lim := by decide +kernel
noncomputable def ks (hs : List Str) : List Str := hs.flatMap fun h => [h, gt h]
theorem T6 {hs : List Str} {x : Str} : x ∈ ks hs ↔ ∃ h ∈ hs, x = h ∨ x = gt h := by simp [ks]
theorem Bj {x : Str} (h : x ∈ HS) : x ∈ SY := by
 simp only [HS, SY, List.mem_cons, List.not_mem_nil, or_false] at *
 rcases h with h | h | h <;> simp [h]
theorem Lp : ∀ {hs : List Str}, hs.Nodup → (∀ h ∈ hs, h ∈ HS) → (ks hs).Nodup
 | [], _, _ => List.nodup_nil
 | h :: hs, nd, hh => by
  rw [List.nodup_cons] at nd
  have ih := Lp nd.2 fun x hx => hh x (.tail _ hx)
  show (h :: gt h :: ks hs).Nodup
  have hH := hh h (.head _)
  have n1 : h ∉ ks hs := fun q => by
   obtain ⟨h', h1, h2 | h2⟩ := T6.mp q
   ·subst h2; exact nd.1 h1
   ·have := (Vk h' (hh h' (.tail _ h1))).1
    rw [← h2] at this
    exact this (Bj hH)
  have n2 : gt h ∉ ks hs := fun q => by
   obtain ⟨h', h1, h2 | h2⟩ := T6.mp q
   ·have := (Vk h hH).1
    rw [h2] at this
    exact this (Bj (hh h' (.tail _ h1)))
   ·rw [N5 h hH h' (hh h' (.tail _ h1)) h2] at nd; exact nd.1 h1
  have n3 : h ≠ gt h := fun q => by
   have := (Vk h hH).1
   rw [← q] at this
   exact this (Bj hH)
  rw [List.nodup_cons, List.nodup_cons]
  exact ⟨fun q => (List.mem_cons.mp q).elim n3 n1, n2, ih⟩
theorem Zx {hs : List Str} (F : Str → List Str) (h : hs.Nodup) : L7 (tab hs F) := by
 unfold L7 tab
 rw [List.map_map, show ((fun x : Str × List Str => x.1) ∘ fun h => (h, F h)) = id from rfl, List.map_id]
 exact h
noncomputable def Rz (F : Str → List Str) (adds : List (Str × List Str)) : Str → List Str := adds.foldl (fun F p => Wn F p.1 (F p.1 ++ p.2)) F
theorem Dz {x k : Str} : ∀ (adds : List (Str × List Str)) (F : Str → List Str), x ∈ Rz F adds k ↔ x ∈ F k ∨ ∃ p ∈ adds, p.1 = k ∧ x ∈ p.2
 | [], F => by simp [Rz]
 | p :: adds, F => by
  show x ∈ Rz (Wn F p.1 (F p.1 ++ p.2)) adds k ↔ _
  rw [Dz adds]
  simp only [List.mem_cons, exists_eq_or_imp, Wn]
  by_cases q : k = p.1
  ·rw [if_pos q, List.mem_append, q]
   simp [or_assoc]
  ·rw [if_neg q]
   have : ¬ p.1 = k := fun e => q e.symm
   simp [this]
theorem L6 {hs : List Str} (nd : hs.Nodup) : ∀ (adds : List (Str × List Str)) (F : Str → List Str), (∀ p ∈ adds, p.1 ∈ hs) → tot hs (Rz F adds) = tot hs F + (adds.map fun p => p.2.length).sum
 | [], F, _ => by simp [Rz]
 | p :: adds, F, h => by
  show tot hs (Rz (Wn F p.1 (F p.1 ++ p.2)) adds) = _
  rw [L6 nd adds _ fun q hq => h q (.tail _ hq)]
  have := Z8 (F := F) (v := F p.1 ++ p.2) nd (h p (.head _))
  rw [List.length_append] at this
  simp only [List.map_cons, List.sum_cons]
  lia
noncomputable def Zh (N hs : List Str) (r : Str × List Str) : List (Str × List Str) :=
 ((List.range r.2.length).filter fun k => decide (W5 (r, k) ∈ hs)).map fun k => (gt (W5 (r, k)), Wy N [gt r.1] (r.2.drop (k + 1)))
noncomputable def R9 (N hs : List Str) (r : Str × List Str) : List (Str × List Str) := (r.1, Wy N [] r.2) :: Zh N hs r
theorem Uq (N beh l : List Str) : (Wy N beh l).length ≤ l.length + beh.length := by
 have h1 : ∀ l : List Str, (Tf N l).length ≤ l.length := fun l => by
  induction l with
  | nil => simp [Mj, Rc]
  | cons s l ih => rw [Rc]; split <;> simp <;> lia
 have := h1 l
 unfold Wy
 rw [List.length_append]
 split <;> simp <;> lia
theorem N7 (N hs : List Str) (r : Str × List Str) (h : r.2.length ≤ 3) : ((Zh N hs r).map fun p => p.2.length).sum ≤ 12 := by
 unfold Zh
 rw [List.map_map]
 have hle : ∀ (l : List Nat), (l.map ((fun p : Str × List Str => p.2.length) ∘ fun k => (gt (W5 (r, k)), Wy N [gt r.1] (r.2.drop (k + 1))))).sum ≤ 4 * l.length := fun l => by
  induction l with
  | nil => simp
  | cons k l ih =>
   simp only [List.map_cons, List.sum_cons, List.length_cons, Function.comp_apply]
   have := Uq N [gt r.1] (r.2.drop (k + 1))
   simp only [List.length_drop, List.length_singleton] at this
   simp only [Function.comp_def] at ih ⊢
   lia
 have h1 := hle ((List.range r.2.length).filter fun k => decide (W5 (r, k) ∈ hs))
 have h2 := List.length_filter_le (fun k => decide (W5 (r, k) ∈ hs)) (List.range r.2.length)
 rw [List.length_range] at h2
 lia
theorem Jf (N hs : List Str) (r : Str × List Str) (h : r.2.length ≤ 3) : ((R9 N hs r).map fun p => p.2.length).sum ≤ 15 := by
 have h1 := N7 N hs r h
 have h2 := Uq N [] r.2
 simp only [R9, List.map_cons, List.sum_cons, List.length_nil] at *
 lia
theorem Gi : (if (decide ((Str.ofString ">").length ≤ lim) && PyData.strOk (Str.ofString ">")) = true then some (PyData.str (Str.ofString ">"), Kd.fr 9) else none) = some (.str (Str.ofString ">"), .fr 9) := by rw [if_pos (by decide +kernel)]
theorem str_dol : (if (decide ((Str.ofString "$").length ≤ lim) && PyData.strOk (Str.ofString "$")) = true then some (PyData.str (Str.ofString "$"), Kd.fr 9) else none) = some (.str (Str.ofString "$"), .fr 9) := by rw [if_pos (by decide +kernel)]
theorem E2 : (if (decide ((Str.ofString "").length ≤ lim) && PyData.strOk (Str.ofString "")) = true then some (PyData.str (Str.ofString ""), Kd.fr 9) else none) = some (.str (Str.ofString ""), .fr 9) := by rw [if_pos (by decide +kernel)]
theorem fill2 (hs : List Str) (nd : (ks hs).Nodup) : hs.foldl (fun E h => R4 (R4 E h ([] : List Str)) (gt h) []) (tab [] fun _ => []) = tab (ks hs) fun _ => [] := by
 have h := U4 (fun _ => ([] : List Str)) (ks hs) [] (by simpa using nd)
 rw [List.nil_append] at h
 rw [← h]
 unfold ks
 rw [List.foldl_flatMap]
 rfl
theorem An {α : Type} (N hs : List Str) (r : Str × List Str) (f : α → Str × List Str → α) (a : α) :
  (Zh N hs r).foldl f a = (List.range r.2.length).foldl (fun a k => if W5 (r, k) ∈ hs then f a (gt (W5 (r, k)), Wy N [gt r.1] (r.2.drop (k + 1))) else a) a := by
 unfold Zh
 rw [List.foldl_map, List.foldl_filter]
 simp only [decide_eq_true_eq]
theorem Ge (r : Str × List Str) (k : Nat) : V4 (Wb r, .fr k) = some (.str r.1, Q5 r.2) := rfl
theorem sem29 {n : Nat} (hn : 29 < n) (g : Gr) (hg : OkG g) (N : List Str) (hNl : N.length ≤ 10) (st : Str × List Str) (rest : Gr) (hst : g = st :: rest) :
  (Phi n).sem 29 [Qk g, Q5 (Q4 g), Q5 N] = some (Wc (tab (ks (Q4 g)) (Rz (Wn (fun _ => []) (gt st.1) [sD]) (g.flatMap (R9 N (Q4 g))))), 0) := by
 have hlen := hg.few
 have hHS : ∀ h ∈ Q4 g, h ∈ HS := fun h hh => by
  obtain ⟨b, hb⟩ := Qa.mp ((R7 hg).mp hh)
  exact hg.head _ hb
 have hnd := (Rx g).nodup
 have hks := Lp hnd hHS
 have hl3 : (Q4 g).length ≤ 3 := Wo (U := HS) hnd hHS
 have hkl : (ks (Q4 g)).length ≤ 6 := by
  unfold ks
  rw [List.length_flatMap]
  have : ∀ l : List Str, (l.map fun h => ([h, gt h] : List Str).length).sum = 2 * l.length := fun l => by
   induction l with
   | nil => rfl
   | cons x l ih => simp only [List.map_cons, List.sum_cons, List.length_cons, List.length_nil] at *; lia
  rw [this]; lia
 have hin : ∀ r ∈ g, r.1 ∈ Q4 g := fun r hr => (R7 hg).mpr (Qa.mpr ⟨r.2, hr⟩)
 have hk1 : ∀ h ∈ Q4 g, h ∈ ks (Q4 g) := fun h hh => T6.mpr ⟨h, hh, .inl rfl⟩
 have hk2 : ∀ h ∈ Q4 g, gt h ∈ ks (Q4 g) := fun h hh => T6.mpr ⟨h, hh, .inr rfl⟩
 have hst' : st.1 ∈ Q4 g := hin st (by rw [hst]; simp)
 have htot : ∀ l : Gr, (∀ r ∈ l, r ∈ g) → tot (ks (Q4 g)) (Rz (Wn (fun _ => []) (gt st.1) [sD]) (l.flatMap (R9 N (Q4 g)))) ≤ 1 + 15 * l.length := fun l hl => by
  rw [L6 hks _ _ fun p hp => ?_]
  ·have h1 : tot (ks (Q4 g)) (Wn (fun _ => []) (gt st.1) [sD]) ≤ 1 := by
    have := Z8 (F := fun _ => ([] : List Str)) (v := [sD]) hks (hk2 _ hst')
    have h0 : tot (ks (Q4 g)) (fun _ => ([] : List Str)) = 0 := by
     unfold tot
     generalize ks (Q4 g) = L
     induction L with
     | nil => rfl
     | cons x L ih => simp only [List.map_cons, List.sum_cons, List.length_nil] at ih ⊢; lia
    simp only [List.length_nil, List.length_singleton] at this
    lia
   have h2 : ((l.flatMap (R9 N (Q4 g))).map fun p => p.2.length).sum ≤ 15 * l.length := by
    clear h1
    induction l with
    | nil => simp
    | cons r l ih =>
     rw [List.flatMap_cons, List.map_append, List.sum_append, List.length_cons]
     have h3 := ih fun r' hr' => hl r' (.tail _ hr')
     have h4 := Jf N (Q4 g) r (hg.short r (hl r (.head _)))
     lia
   lia
  ·obtain ⟨r, hr, hp⟩ := List.mem_flatMap.mp hp
   rcases List.mem_cons.mp hp with rfl | hp
   ·exact hk1 _ (hin r (hl r hr))
   ·obtain ⟨k, hk, rfl⟩ := List.mem_map.mp hp
    exact hk2 _ (by simpa using (List.mem_filter.mp hk).2)
 have hle : ∀ (F : Str → List Str) (k : Str) (L : List Str), k ∈ L → (F k).length ≤ tot L F := fun F k L hk => by
  unfold tot
  induction L with
  | nil => cases hk
  | cons x L ih =>
   simp only [List.map_cons, List.sum_cons]
   rcases List.mem_cons.mp hk with rfl | hk
   ·lia
   ·have := ih hk; lia
 rw [W0 hn (F := f29) rfl]
 rw [z3 (F := f29) rfl]
 dsimp only [f29, Nat.reduceSub, RS, RZ]
 (try dsimp only [Qd, Yk, OB, Q6, Qc, SS, SZ, W6, Q2, GS, GZ, v0, Qb, Tk, Wg, Rn])
 rw [show PyData.dict [] = Wc (tab [] fun _ => []) from rfl]
 skip
 rw [Qn PyData.str (fun E => [some (Qk g, 0), some (Q5 (Q4 g), 0), some (Q5 N, 0), some (Wc E, 0), none, none, none, none, none]) (fun E h => R4 (R4 E h []) (gt h) []) (Q4 g) (tab [] fun _ => []) ?_]
 ·rw [fill2 _ hks]
  (try dsimp only [Q8, Wp, SS, SZ, Qd, Td, Wv, Yj, Q2, GS, GZ, v0, Wi, OB, Wa, Qe, Rt, Ux, Qr, Qm, Qq, Q3, Qh]; try simp only [U9, Gi, str_dol, Q7, OB, Vf])
  have h0 : Th (Qk g, .fr 0) (.int 0, .fr 9) = some (Wb st, .fr 0) := by
   have := Zp g 0 0 (.fr 9)
   rw [hst] at this ⊢
   exact this
  rw [h0]
  (try dsimp only [Q3, W1])
  rw [Xc _ _ _ _ (Df _ (hHS _ hst'))]
  (try dsimp only [Q3, Rs, Q7, OB])
  rw [show Str.ofString ">" ++ st.1 = gt st.1 from rfl, show Str.ofString "$" = sD from rfl, U7]
  (try dsimp only [Q3])
  rw [Zv _ _ _ _ rfl rfl (by rw [Ro]; unfold lim; simp; lia)]
  (try dsimp only [OB]; try simp only [Y8, OB, Q6, Qc, SS, SZ, L5, Q2, GZ, v0, Qm, Rd, Py])
  rw [Ua (Zx _ hks), Z9 _ _ _ _ (hk2 _ hst')]
  skip
  rw [Qn Wb (fun F => [some (Qk g, 0), some (Q5 (Q4 g), 0), some (Q5 N, 0), some (Wc (tab (ks (Q4 g)) F), 0), none, none, none, none, none]) (fun F r => Rz F (R9 N (Q4 g) r)) g (Wn (fun _ => []) (gt st.1) [sD]) ?_]
  ·(try dsimp only [Q8, Kw, SS, SZ, R3, Wr, List.contains_nil, BF, dreduceIte, Q2]; try simp only [List.mapIdx_cons, List.mapIdx_nil, GS, GZ, v0, Wi, OB, Rl, rr])
   rw [show g.foldl (fun F r => Rz F (R9 N (Q4 g) r)) (Wn (fun _ => []) (gt st.1) [sD]) = Rz (Wn (fun _ => []) (gt st.1) [sD]) (g.flatMap (R9 N (Q4 g))) from by
    unfold Rz
    rw [List.foldl_flatMap]]
  ·intro pre r post e
   have hr : r ∈ g := by rw [e]; simp
   have hrh := hin r hr
   have hrs := hg.short r hr
   have hpl : pre.length ≤ 6 := by rw [e] at hlen; simp at hlen; lia
   have htp := htot pre fun r' hr' => by rw [e]; simp [hr']
   rw [show pre.foldl (fun F r => Rz F (R9 N (Q4 g) r)) (Wn (fun _ => []) (gt st.1) [sD]) = Rz (Wn (fun _ => []) (gt st.1) [sD]) (pre.flatMap (R9 N (Q4 g))) from by
    unfold Rz
    rw [List.foldl_flatMap]]
   generalize Rz (Wn (fun _ => []) (gt st.1) [sD]) (pre.flatMap (R9 N (Q4 g))) = F at htp ⊢
   have hF1 := hle F r.1 _ (hk1 _ hrh)
   have hL1 := Uq N [] r.2
   simp only [List.length_nil] at hL1
   (try dsimp only [Ge, f29_b1, SS, SZ, Qd, Td, Wv, Yj, Q2, GS, GZ, v0, Wi, OB, Wa, Qe, Rt, Qr, Q3, Qj, Qb, Qh, Uy, Q7, c1, ph29, O1, Q9, agf, ag0, OM, c2]; try simp only [U9])
   rw [Re _ _ _ _ _ (hk1 _ hrh)]
   (try dsimp only [Dc])
   rw [sem28 (by decide) r.2 N [] (by simp; lia)]
   (try dsimp only [c3, Qb, Q3])
   rw [Xp _ _ _ _ rfl rfl (by unfold lim; lia)]
   (try dsimp only [Q3, Rs, Q7, OB])
   rw [U7]
   (try dsimp only [Q3])
   rw [Zv _ _ _ _ rfl rfl (by rw [Ro]; unfold lim; simp; lia)]
   (try dsimp only [OB]; try simp only [Y8, OB, Q6, Qc, SS, SZ, W6, Yt, Q2, GS, GZ, v0, Qb, Y3, Gl])
   rw [Ua (Zx _ hks), Z9 _ _ _ _ (hk1 _ hrh)]
   skip
   rw [Rj _ _ (by unfold lim; lia)]
   (try dsimp only [OM, OB, Rn])
   show _ = some (Out.next [some (Qk g, 0), some (Q5 (Q4 g), 0), some (Q5 N, 0), some (Wc (tab (ks (Q4 g)) ((Zh N (Q4 g) r).foldl (fun F p => Wn F p.1 (F p.1 ++ p.2)) (Wn F r.1 (F r.1 ++ Wy N [] r.2)))), 0), none, none, none, none, none])
   rw [An]
   have hbig : tot (ks (Q4 g)) (Wn F r.1 (F r.1 ++ Wy N [] r.2)) ≤ 200 := by
    have := Z8 (F := F) (v := F r.1 ++ Wy N [] r.2) hks (hk1 _ hrh)
    rw [List.length_append] at this
    lia
   generalize Wn F r.1 (F r.1 ++ Wy N [] r.2) = G at hbig ⊢
   rw [Qn (fun k : Nat => PyData.int (k : Nat)) (fun F => [some (Qk g, 0), some (Q5 (Q4 g), 0), some (Q5 N, 0), some (Wc (tab (ks (Q4 g)) F), 0), none, some (.str r.1, 0), some (Q5 r.2, 0), none, none])
    (fun F k => if W5 (r, k) ∈ Q4 g then Wn F (gt (W5 (r, k))) (F (gt (W5 (r, k))) ++ Wy N [gt r.1] (r.2.drop (k + 1))) else F) (List.range r.2.length) G ?_]
   ·(try dsimp only [Q8, Wp, SS, SZ, Qz, Qg, OM, Qi])
   ·intro pre' k post' e'
    have hk : k < r.2.length := by
     have : k ∈ List.range r.2.length := by rw [e']; simp
     exact List.mem_range.mp this
    have hsy : r.2[k]? = some (W5 (r, k)) := by simp [W5, hk]
    have hpl' : pre'.length ≤ 3 := by
     have := congrArg List.length e'
     simp at this; lia
    have hgrow : ∀ (l : List Nat) (G : Str → List Str), tot (ks (Q4 g)) (l.foldl (fun F k => if W5 (r, k) ∈ Q4 g then Wn F (gt (W5 (r, k))) (F (gt (W5 (r, k))) ++ Wy N [gt r.1] (r.2.drop (k + 1))) else F) G) ≤ tot (ks (Q4 g)) G + 4 * l.length := by
     intro l
     induction l with
     | nil => intro G; simp
     | cons k l ih =>
      intro G
      rw [List.foldl_cons, List.length_cons]
      refine Nat.le_trans (ih _) ?_
      by_cases q : W5 (r, k) ∈ Q4 g
      ·rw [if_pos q]
       have h1 := Z8 (F := G) (v := G (gt (W5 (r, k))) ++ Wy N [gt r.1] (r.2.drop (k + 1))) hks (hk2 _ q)
       have h2 := Uq N [gt r.1] (r.2.drop (k + 1))
       simp only [List.length_append, List.length_drop, List.length_singleton] at h1 h2
       lia
      ·rw [if_neg q]; lia
    have hg2 := hgrow pre' G
    generalize pre'.foldl (fun F k => if W5 (r, k) ∈ Q4 g then Wn F (gt (W5 (r, k))) (F (gt (W5 (r, k))) ++ Wy N [gt r.1] (r.2.drop (k + 1))) else F) G = H at hg2 ⊢
    (try dsimp only [f29_b2, SS, SZ, Qw, Qt, Qr, Q2, GS, GZ, v0, Qb, Qp, Q3]; try simp only [Zo, hsy, OM, Q3, Ws, Bool.false_xor, OB, Q1])
    by_cases q : W5 (r, k) ∈ Q4 g
    ·have hH := hle H (gt (W5 (r, k))) _ (hk2 _ q)
     have hL2 := Uq N [gt r.1] (r.2.drop (k + 1))
     simp only [List.length_drop, List.length_singleton] at hL2
     (try simp only [q, decide_true, Wk, Qd, Wv, Ux, Gi, Qr, Q2, GS, GZ, v0, Qb, Qp, Q3, Zo, hsy, OM, if_true])
     rw [Xc _ _ _ _ (Df _ (hHS _ q))]
     (try dsimp only [OB, Q6, Qc, SS, SZ, Qd, Td, Wv, Yj, Q2, GS, GZ, v0, Wi, Wa, Qe, Rt, Q9, Qr, Q3, Qj, Uo, Qb, Qp, Qq, T4, Ux, Qh]; try simp only [U9, Gi, Q3])
     skip
     rw [show Str.ofString ">" ++ W5 (r, k) = gt (W5 (r, k)) from rfl, Re _ _ _ _ _ (hk2 _ q)]
     (try dsimp only [Dc])
     rw [L0 _ _ _ _ rfl (by lia)]
     skip
     rw [Xc _ _ _ _ (Df _ (hHS _ hrh))]
     (try dsimp only [Q7, OB, Vf, c1, ph29, O1, agf, ag0, OM, c2])
     rw [show Str.ofString ">" ++ r.1 = gt r.1 from rfl, sem28 (by decide) (r.2.drop (k + 1)) N [gt r.1] (by simp; lia)]
     (try dsimp only [c3, Qb, Q3])
     rw [Xp _ _ _ _ rfl rfl (by unfold lim; lia)]
     (try dsimp only [Q3, Rs, Q7, OB])
     rw [U7]
     (try dsimp only [Q3])
     rw [Zv _ _ _ _ rfl rfl (by rw [Ro]; unfold lim; simp; lia)]
     (try dsimp only [OB]; try simp only [Y8, OB, Q6, Qc, SS, SZ, Qg, Q8, Ql, Qz, OM, Qi])
     rw [Ua (Zx _ hks), Z9 _ _ _ _ (hk2 _ q)]
     skip
    ·(try simp only [q, decide_false, W3, Qg, Q8, Ql, Qz, SS, SZ, OM, Qi, if_false])
 ·intro pre h post e
  have hpre : ∀ x ∈ pre, x ∈ Q4 g := fun x hx => by rw [e]; simp [hx]
  have hpn : pre.Nodup := by rw [e] at hnd; exact (List.nodup_append.mp hnd).1
  have hh : h ∈ Q4 g := by rw [e]; simp
  have hpk := Lp hpn fun x hx => hHS x (hpre x hx)
  have hpl : pre.length ≤ 3 := by rw [e] at hl3; simp at hl3; lia
  rw [fill2 _ hpk]
  have hkpl : (ks pre).length ≤ 6 := by
   have := Wo (U := ks (Q4 g)) hpk fun x hx => by
    obtain ⟨h', h1, h2⟩ := T6.mp hx
    exact T6.mpr ⟨h', hpre h' h1, h2⟩
   lia
  have kE := Zx (fun _ => ([] : List Str)) hpk
  (try dsimp only [f29_b0, SS, SZ, Qd, Td, Wv, Yj, Q2, GS, GZ, v0, Wi, OB, Wa, Qe, Rt, Q9, Qh, Uy, Q3, Rs, Q7]; try simp only [U9])
  rw [U7]
  (try dsimp only [Q3])
  rw [Zv _ _ _ _ rfl rfl (by rw [Ro]; unfold lim; simp; lia)]
  (try dsimp only [OB]; try simp only [Y8, OB, Q6, Qc, SS, SZ, Qd, Td, Wv, Yj, Q2, GS, GZ, v0, Wi, U9, Wa, Qe, Rt, Ux, Gi, Q9, Q3, Qh, Uy])
  rw [Ua kE]
  skip
  rw [Xc _ _ _ _ (Df _ (hHS _ hh))]
  (try dsimp only [Q3, Rs, Q7, OB])
  rw [show Str.ofString ">" ++ h = gt h from rfl, U7]
  (try dsimp only [Q3])
  have hpl2 : (R4 (tab (ks pre) fun _ => ([] : List Str)) h []).length ≤ 7 := by
   have := congrArg List.length (B4 (E := tab (ks pre) fun _ => ([] : List Str)) (k := h) (v := []))
   rw [List.length_map] at this
   rw [this]
   have h2 := Xo ((tab (ks pre) fun _ => ([] : List Str)).map (·.1)) h
   rw [List.length_map, Ro] at h2
   lia
  rw [Zv _ _ _ _ rfl rfl (by unfold lim; simp; lia)]
  (try dsimp only [OB]; try simp only [Y8, OB, Q6, Qc, SS, SZ, Qg, OM, Qi])
  rw [Ua kE.put]
  skip
theorem sem30 {n : Nat} (hn : 30 < n) (E : Gr) (hs : List Str) (hE : (E.flatMap (·.2)).length ≤ 300) (hin : ∀ h ∈ hs, ∃ v, E.lookup h = some v ∧ v.length ≤ 100) :
  ∃ b : Bool, (Phi n).sem 30 [Wc E, Q5 hs] = some (.bool b, 9) ∧ (b = true ↔ ∃ h ∈ hs, Rch (Qu E) (Qu E h) h) := by
 have hw : ∀ h, ∃ w : List Str, h ∈ hs → (Phi 30).sem 25 [Wc E, Q5 (Qu E h)] = some (Q5 w, 1) ∧ ∀ x, x ∈ w ↔ Rch (Qu E) (Qu E h) x := fun h => by
  by_cases q : h ∈ hs
  ·obtain ⟨v, hv, hl⟩ := hin h q
   have hs' : Qu E h = v := by unfold Qu; rw [hv]; rfl
   obtain ⟨e, h1, _, _, h4⟩ := sem25 (n := 30) (by decide) E (Qu E h) (by rw [hs']; exact hl) hE
   exact ⟨_, fun _ => ⟨h1, h4⟩⟩
  ·exact ⟨[], fun q' => absurd q' q⟩
 obtain ⟨w, hw⟩ := Classical.skolem.mp hw
 refine ⟨!decide ((hs.filter fun h => decide (h ∈ w h)) = []), ?_, ?_⟩
 ·rw [W0 hn (F := f30) rfl]
  rw [z2 (F := f30) rfl]
  dsimp only [f30, Nat.reduceSub, RS, RZ]
  (try dsimp only [R3, Wr, List.contains_nil, BF, dreduceIte, Tv, R6, Q2, Wa, Qh, OB, Uy]; try simp only [List.mapIdx_cons, List.mapIdx_nil, GS, GZ, v0, Qb, OB, X2, Yn, R8, BF, if_false])
  rw [Qs PyData.str (fun h => decide (h ∈ w h)) PyData.str hs (fun h hh => by
   obtain ⟨v, hv, _⟩ := hin h hh
   have hs' : Qu E h = v := by unfold Qu; rw [hv]; rfl
   have h1 := (hw h hh).1
   rw [hs'] at h1
   (try dsimp only [R5, SS, SZ, i1, Qt, Q2, GS, GZ, v0, Q9, Qj, Qe, Wi, Qr, Q3, Qh, i0, Bool.not_false, Bool.true_or, Bool.and_true, OB, U8, Bool.and_self, dreduceIte]; try simp only [N4, Dc, hv, OM, Q7, c1, ph30, O2, agf, ag0, c2])
   rw [h1]
   (try dsimp only [c3, Qb, Q3]; try simp only [Ws, Bool.false_xor, OB, Q1])
   by_cases q : h ∈ w h
   ·(try simp only [q, decide_true, if_true, OB])
   ·(try simp only [q, decide_false, BF, if_false, OB]))]
  (try dsimp only [OM, Q3])
  rw [show PyData.list ((hs.filter fun h => decide (h ∈ w h)).map PyData.str) = Q5 (hs.filter fun h => decide (h ∈ w h)) from rfl]
  (try simp only [Jl, Bool.true_xor, OB, Rl, rr])
 ·simp only [Bool.not_eq_true', decide_eq_false_iff_not, List.filter_eq_nil_iff, decide_eq_true_eq]
  constructor
  ·intro h
   rcases Classical.em (∃ h ∈ hs, Rch (Qu E) (Qu E h) h) with q | q
   ·exact q
   ·exact absurd (fun x hx hxw => q ⟨x, hx, ((hw x hx).2 x).mp hxw⟩) h
  ·rintro ⟨h, hh, r⟩ q
   exact q h hh (((hw h hh).2 h).mpr r)
noncomputable def Jd (ps : List (Str × Str)) : PyData := .list (ps.map fun p => .tuple [.str p.1, .str p.2])
theorem eqv_P (a b : Str × Str) : PyData.eqv (.tuple [.str a.1, .str a.2]) (.tuple [.str b.1, .str b.2]) = decide (a = b) := by
 rw [Bp]
 show (PyData.eqv (.str a.1) (.str b.1) && (PyData.eqv (.str a.2) (.str b.2) && true)) = _
 rw [Bool.and_true]
 refine Eq.trans (Bool.decide_and (a.1 = b.1) (a.2 = b.2)).symm ?_
 rw [decide_eq_decide]
 exact Prod.ext_iff.symm
theorem inD_P (x : Str × Str) (ps : List (Str × Str)) (k j : Kd) : inD false (.tuple [.str x.1, .str x.2], k) (Jd ps, j) = some (.bool (decide (x ∈ ps)), .fr 9) := by
 have hany : ((ps.map fun p => PyData.tuple [.str p.1, .str p.2]).any fun y => PyData.eqv y (.tuple [.str x.1, .str x.2])) = decide (x ∈ ps) := by
  rw [List.any_map]
  induction ps with
  | nil => rfl
  | cons y ys ih =>
   simp only [List.any_cons, ih, Function.comp_apply, eqv_P, List.mem_cons]
   by_cases h1 : x = y
   ·subst h1; simp
   ·have : ¬ y = x := fun q => h1 q.symm
    simp [this, h1]
 have hall : ((ps.map fun p => PyData.tuple [.str p.1, .str p.2]).all (Ts 3)) = true := by
  rw [List.all_map, List.all_eq_true]
  intro p _
  rfl
 show (if Ts 3 (.tuple [.str x.1, .str x.2]) && (ps.map fun p => PyData.tuple [.str p.1, .str p.2]).all (Ts 3) then some (PyData.bool (false ^^ (ps.map fun p => PyData.tuple [.str p.1, .str p.2]).any fun y => PyData.eqv y (.tuple [.str x.1, .str x.2])), Kd.fr 9) else none) = _
 rw [hany, hall, show Ts 3 (PyData.tuple [.str x.1, .str x.2]) = true from rfl]
 simp
theorem appD_P (ps : List (Str × Str)) (x : Str × Str) (h : ps.length + 1 ≤ lim) : Ft (some (some (Jd ps, 1))) (.tuple [.str x.1, .str x.2]) = some (Jd (ps ++ [x]), 1) := by
 show (if (ps.map fun p => PyData.tuple [.str p.1, .str p.2]).length + 1 ≤ lim then some (PyData.list ((ps.map fun p => PyData.tuple [.str p.1, .str p.2]) ++ [.tuple [.str x.1, .str x.2]]), 1) else none) = _
 simp [h, Jd]
theorem mkR_P (x : List (Str × Str)) (k : Kd) : mkR (Jd x) k = (Jd x, k) := rfl
noncomputable def Rr : List (Str × Str) → List (Str × Str) → Option (List (Str × Str))
 | ps, [] => some ps
 | ps, x :: r => if x ∈ ps then none else Rr (ps ++ [x]) r
theorem B5 {ps} : Rr ps [] = some ps := rfl
theorem Yv {ps x r} : Rr ps (x :: r) = if x ∈ ps then none else Rr (ps ++ [x]) r := rfl
theorem Lj : ∀ (l ps : List (Str × Str)), ps.Nodup → ((Rr ps l).isSome = true ↔ (ps ++ l).Nodup)
 | [], ps, h => by simpa [B5, Yv] using h
 | x :: l, ps, h => by
  rw [Yv]
  by_cases q : x ∈ ps
  ·rw [if_pos q]
   constructor
   ·intro h; cases h
   ·intro h'
    exact absurd rfl ((List.nodup_append.mp h').2.2 x q x (.head _))
  ·rw [if_neg q, Lj l (ps ++ [x]) (by
    rw [List.nodup_append]
    exact ⟨h, by simp, fun a ha b hb e => by simp at hb; subst hb; subst e; exact q ha⟩)]
   simp
theorem Gq : ∀ (l ps qs : List (Str × Str)), Rr ps l = some qs → qs = ps ++ l
 | [], ps, qs, h => by simp [B5, Yv] at h; simp [h]
 | x :: l, ps, qs, h => by
  rw [Yv] at h
  split at h
  ·cases h
  ·rw [Gq l _ _ h]; simp
theorem H5 : ∀ (a ps b : List (Str × Str)), Rr ps (a ++ b) = (Rr ps a).bind fun qs => Rr qs b
 | [], ps, b => rfl
 | x :: a, ps, b => by
  rw [List.cons_append, Yv, Yv]
  split
  ·rfl
  ·exact H5 a _ b
noncomputable def W9 (E : Gr) (h : Str) (ws : List Str) : List (Str × Str) := (ws.filter fun s => !(E.lookup s).isSome).map fun s => (h, s)
theorem L3 (g : Gr) (N : List Str) (E : Gr) (h : Str) (b : List Str) : ∀ (l : List Str) (ps : List (Str × Str)), ps.length + l.length ≤ 10000 →
  Tu (fun σ x => Option.map (Out.clr 6) (evB (Phi 31) [3] Dn (σ.set 6 (some (x, 0))))) (l.map .str) [some (Qk g, 0), some (Q5 N, 0), some (Wc E, 0), some (Jd ps, 1), some (.str h, 0), some (Q5 b, 0), none] =
   match Rr ps (W9 E h l) with
   | some qs => some (.next [some (Qk g, 0), some (Q5 N, 0), some (Wc E, 0), some (Jd qs, 1), some (.str h, 0), some (Q5 b, 0), none])
   | none => some (.ret (.bool false) 9)
 | [], ps, _ => rfl
 | s :: l, ps, hl => by
  simp only [List.length_cons] at hl
  rw [List.map_cons]
  cases q : (E.lookup s).isSome with
  | true =>
   have e1 : W9 E h (s :: l) = W9 E h l := by
    unfold W9
    rw [List.filter_cons, q]
    rfl
   rw [e1, Y7 (σ' := [some (Qk g, 0), some (Q5 N, 0), some (Wc E, 0), some (Jd ps, 1), some (.str h, 0), some (Q5 b, 0), none]) (by
    (try dsimp only [Dn, SS, SZ, Qw, Qt, Q2, GS, GZ, v0, Q9, Wi, Q3]; try simp only [Jj, q, Bool.true_xor, Bool.not_true, OB, Q1, W3, Qg, Q8, Ql, OM, Qi, SS, SZ])), L3 g N E h b l ps (by lia)]
  | false =>
   have e1 : W9 E h (s :: l) = (h, s) :: W9 E h l := by
    unfold W9
    rw [List.filter_cons, q]
    rfl
   rw [e1, Yv]
   by_cases q2 : (h, s) ∈ ps
   ·rw [if_pos q2, X6 (d := .bool false) (k := 9) (by
     (try dsimp only [Dn, SS, SZ, Qw, Qt, Q2, GS, GZ, v0, Q9, Wi, Q3]; try simp only [Jj, q, Bool.true_xor, Bool.not_false, OB, Q1, Wk, Qw, Qt, Rt, Q2, GS, GZ, v0, Q9, Q3, Rs, v1, mkR_P])
     rw [inD_P (h, s)]
     (try dsimp only [OB, Q1]; try simp only [q2, decide_true, Wk, R3, Wq, OB, Rl, Za, OM, H7]))]
   ·rw [if_neg q2, Y7 (σ' := [some (Qk g, 0), some (Q5 N, 0), some (Wc E, 0), some (Jd (ps ++ [(h, s)]), 1), some (.str h, 0), some (Q5 b, 0), none]) (by
     (try dsimp only [Dn, SS, SZ, Qw, Qt, Q2, GS, GZ, v0, Q9, Wi, Q3]; try simp only [Jj, q, Bool.true_xor, Bool.not_false, OB, Q1, Wk, Qw, Qt, Rt, Q2, GS, GZ, v0, Q9, Q3, Rs, v1, mkR_P])
     rw [inD_P (h, s)]
     (try dsimp only [OB, Q1]; try simp only [q2, decide_false, W3, Qg, Q8, Ql, Y9, Rt, Q2, GS, GZ, v0, Q9, Q3, Rs, OB, X1, Yc])
     rw [appD_P ps (h, s) (by unfold lim; lia)]
     (try dsimp only [OB, Qc, SS, SZ, Qg, Q8, Ql, OM, Qi])), L3 g N E h b l _ (by simp; lia)]
theorem sem31 {n : Nat} (hn : 31 < n) (g : Gr) (hg : OkG g) (N : List Str) (E : Gr) (hE : (E.flatMap (·.2)).length ≤ 300) :
  ∃ (b : Bool) (ws : Str × List Str → List Str), (Phi n).sem 31 [Qk g, Q5 N, Wc E] = some (.bool b, 9) ∧
   (∀ r ∈ g, (∃ e, ws r = Wy N [gt r.1] r.2 ++ e ∧ e.Nodup ∧ ∀ x ∈ e, x ∉ Wy N [gt r.1] r.2) ∧ ∀ x, x ∈ ws r ↔ Rch (Qu E) (Wy N [gt r.1] r.2) x) ∧
   (b = true ↔ (g.flatMap fun r => W9 E r.1 (ws r)).Nodup) := by
 have hlen := hg.few
 have hw : ∀ r : Str × List Str, ∃ w : List Str, r ∈ g → (Phi 31).sem 25 [Wc E, Q5 (Wy N [gt r.1] r.2)] = some (Q5 w, 1) ∧ w.length ≤ 400 ∧ (∃ e, w = Wy N [gt r.1] r.2 ++ e ∧ e.Nodup ∧ ∀ x ∈ e, x ∉ Wy N [gt r.1] r.2) ∧ ∀ x, x ∈ w ↔ Rch (Qu E) (Wy N [gt r.1] r.2) x := fun r => by
  by_cases q : r ∈ g
  ·have hl := Uq N [gt r.1] r.2
   have hs := hg.short r q
   simp only [List.length_singleton] at hl
   obtain ⟨e, h1, h2, h3, h4⟩ := sem25 (n := 31) (by decide) E (Wy N [gt r.1] r.2) (by lia) hE
   refine ⟨_, fun _ => ⟨h1, ?_, ⟨e, rfl, h2, h3⟩, h4⟩⟩
   have hV : e.length ≤ (E.flatMap (·.2)).length := Wo h2 fun x hx => by
    have hr := (h4 x).mp (List.mem_append_right _ hx)
    cases hr with
    | root q => exact absurd q (h3 x hx)
    | step _ hy =>
     unfold Qu at hy
     rename_i y _
     cases hl : E.lookup y with
     | none => rw [hl] at hy; cases hy
     | some v => rw [hl] at hy; exact List.mem_flatMap.mpr ⟨(y, v), Te hl, hy⟩
   rw [List.length_append]
   lia
  ·exact ⟨[], fun q' => absurd q' q⟩
 obtain ⟨ws, hw⟩ := Classical.skolem.mp hw
 have loop : ∀ (l : Gr), (∀ r ∈ l, r ∈ g) → ∀ (ps : List (Str × Str)), ps.length + 400 * l.length ≤ 5000 →
   Tu (fun σ x => (V4 (x, .fr 0)).bind fun p => (evB (Phi 31) [3] N8 ((σ.set 4 (some (p.1, 0))).set 5 (some (p.2, 0)))).map fun o => Out.clr 5 (Out.clr 4 o)) (l.map Wb) [some (Qk g, 0), some (Q5 N, 0), some (Wc E, 0), some (Jd ps, 1), none, none, none] =
    match Rr ps (l.flatMap fun r => W9 E r.1 (ws r)) with
    | some qs => some (.next [some (Qk g, 0), some (Q5 N, 0), some (Wc E, 0), some (Jd qs, 1), none, none, none])
    | none => some (.ret (.bool false) 9) := by
  intro l
  induction l with
  | nil => intro _ ps _; rfl
  | cons r l ih =>
   intro hl ps hps
   have hr := hl r (.head _)
   obtain ⟨w1, w2, _⟩ := hw r hr
   have hrs := hg.short r hr
   simp only [List.length_cons] at hps
   rw [List.map_cons, List.flatMap_cons, H5]
   have hstep : (evB (Phi 31) [3] N8 [some (Qk g, 0), some (Q5 N, 0), some (Wc E, 0), some (Jd ps, 1), some (.str r.1, 0), some (Q5 r.2, 0), none]) =
     match Rr ps (W9 E r.1 (ws r)) with
     | some qs => some (.next [some (Qk g, 0), some (Q5 N, 0), some (Wc E, 0), some (Jd qs, 1), some (.str r.1, 0), some (Q5 r.2, 0), none])
     | none => some (.ret (.bool false) 9) := by
    (try dsimp only [N8, W6, Qj, Qe, Q2, GS, GZ, v0, Wi, Qb, Wa, Wv, Ux, Q9, Qh]; try simp only [Gi, Q3])
    rw [Xc _ _ _ _ (Df _ (hg.head r hr))]
    (try dsimp only [Q7, OB, Vf, c1, ph31, O1, agf, ag0, OM, c2])
    rw [show Str.ofString ">" ++ r.1 = gt r.1 from rfl, sem28 (by decide) r.2 N [gt r.1] (by simp; lia)]
    (try dsimp only [c3, Qb, Q7, c1, ph31, O2, agf, ag0, OM, c2])
    rw [w1]
    (try dsimp only [c3, Qb, OB, Tk, Wg, Rn])
    have hc := L3 g N E r.1 r.2 (ws r) ps (by lia)
    try simp only [Qg, Qd, Sp, Y9, Xy, Qw, W6, L5, Yo, Qz, Hj, Qc, Sr, Yc, Xz, Ui, Wk, W3, Ql, Wp, Kw, Rn, Py, Q8, Za, H0, R3, Rl, Px, Zt, G4, G5, Np, Q6, Q2, v0, v1, v2, v3, Qq, Ux, Wq, Gy, Wv, Eb, Gx, Gz, B8, Mf, Ir, Qr, Uo, Vx, Rt, Tv, Qt, Vd, Yt, U6, Cp, Ec, Yj, Td, Kb, Yl, Wl, H9, Jt, Wa, Yk, Co, Qj, Q3, C0, Bl, Rs, Q7, c1, c2, c3, Qh, Qe, R6, R8, R5, Zg, p1, p2, i0, i1, Qi, Gv, H7, Dc, Dd, it_2, it_3, X1, sh_0, U8, ks_0, Gl, Tk, A6, X2, ag0, agf, ag1, ag3, rr, ph0, ph1, ph2, ph3, ph4, ph5, ph6, ph7, ph8, ph9, ph10, ph11, ph12, ph13, ph14, ph15, ph16, Ac, Ab, ph19, Ij, ph21, ph22, ph23, Aa, ph25, ph26, ph27, ph28, ph29, ph30, ph31, K7, Js, OB, OM, Option.bind_none, Option.map_none, GZ, GS, SZ, SS, Q9, Qp, W2, Qb, R2, Qm, Wi, Ju, Hu, Q1, Wt, Vf, W1, Rf, Ws, Jj, Jl, Hf, T9, Uc, G3, Rd, Wg, Db, U1, Yn, Mh, Y3, BF, if_true, if_false, Bool.true_xor, Bool.false_xor, reduceIte, reduceCtorEq, beq_self_eq_true, Bool.not_true, Bool.not_false, kd0, kd1, kd2, kd3, kd4, kd5, kd6, kd7, kd8, kd9, kd10, kd11, kd12, kd13, kd14, O3, kd16, kd17, kd18, kd19, kd20, Ml, kd22, kd23, kd24, O2, kd26, kd27, O1, kd29, kd30, kd31, kd32, kd33, Nat.reduceLeDiff, Nat.le_refl, Nat.zero_le, Nat.reduceEqDiff, Nat.succ_ne_zero, decide_true, decide_false, bft, btf, bff, btt, ite_true, ite_false, Bool.and_self, Bool.and_true, Bool.true_and, Bool.or_true, Bool.true_or, Bool.and_false, Bool.false_and, Bool.false_or, Bool.or_false, Bool.or_self] at hc
    try skip
    rw [hc]
    cases Rr ps (W9 E r.1 (ws r)) <;> rfl
   cases hp : Rr ps (W9 E r.1 (ws r)) with
   | none =>
    rw [hp] at hstep
    rw [X6 (d := .bool false) (k := 9) (by
     rw [Ge, OB]
     simp only [SZ, SS]
     rw [hstep]
     rfl)]
    rfl
   | some qs =>
    rw [hp] at hstep
    have hq := Gq _ _ _ hp
    have hql : qs.length ≤ ps.length + 400 := by
     rw [hq, List.length_append]
     have : (W9 E r.1 (ws r)).length ≤ (ws r).length := by
      unfold W9
      rw [List.length_map]
      exact List.length_filter_le _ _
     lia
    rw [Y7 (σ' := [some (Qk g, 0), some (Q5 N, 0), some (Wc E, 0), some (Jd qs, 1), none, none, none]) (by
     rw [Ge, OB]
     simp only [SZ, SS]
     rw [hstep]
     rfl), ih (fun r' hr' => hl r' (.tail _ hr')) qs (by lia)]
    rfl
 refine ⟨(Rr [] (g.flatMap fun r => W9 E r.1 (ws r))).isSome, ws, ?_, fun r hr => (hw r hr).2.2, by simpa using Lj (g.flatMap fun r => W9 E r.1 (ws r)) [] List.nodup_nil⟩
 rw [W0 hn (F := f31) rfl]
 rw [z3 (F := f31) rfl]
 dsimp only [f31, Nat.reduceSub, RS, RZ]
 (try dsimp only [Qd, Wa, Qh, OB])
 rw [show (V0 []).bind (Z4 1) = some (Jd [], 1) from rfl]
 have h := loop g (fun _ h => h) [] (by simp; lia)
 ((try simp only [Qg, Qd, Sp, Y9, Xy, Qw, W6, L5, Yo, Qz, Hj, Qc, Sr, Yc, Xz, Ui, Wk, W3, Ql, Wp, Kw, Rn, Py, Q8, Za, H0, R3, Rl, Px, Zt, G4, G5, Np, Q6, Q2, v0, v1, v2, v3, Qq, Ux, Wq, Gy, Wv, Eb, Gx, Gz, B8, Mf, Ir, Qr, Uo, Vx, Rt, Tv, Qt, Vd, Yt, U6, Cp, Ec, Yj, Td, Kb, Yl, Wl, H9, Jt, Wa, Yk, Co, Qj, Q3, C0, Bl, Rs, Q7, c1, c2, c3, Qh, Qe, R6, R8, R5, Zg, p1, p2, i0, i1, Qi, Gv, H7, Dc, Dd, it_2, it_3, X1, sh_0, U8, ks_0, Gl, Tk, A6, X2, ag0, agf, ag1, ag3, rr, ph0, ph1, ph2, ph3, ph4, ph5, ph6, ph7, ph8, ph9, ph10, ph11, ph12, ph13, ph14, ph15, ph16, Ac, Ab, ph19, Ij, ph21, ph22, ph23, Aa, ph25, ph26, ph27, ph28, ph29, ph30, ph31, K7, Js, OB, OM, Option.bind_none, Option.map_none, GZ, GS, SZ, SS, Q9, Qp, W2, Qb, R2, Qm, Wi, Ju, Hu, Q1, Wt, Vf, W1, Rf, Ws, Jj, Jl, Hf, T9, Uc, G3, Rd, Wg, Db, U1, Yn, Mh, Y3, BF, if_true, if_false, Bool.true_xor, Bool.false_xor, reduceIte, reduceCtorEq, beq_self_eq_true, Bool.not_true, Bool.not_false, kd0, kd1, kd2, kd3, kd4, kd5, kd6, kd7, kd8, kd9, kd10, kd11, kd12, kd13, kd14, O3, kd16, kd17, kd18, kd19, kd20, Ml, kd22, kd23, kd24, O2, kd26, kd27, O1, kd29, kd30, kd31, kd32, kd33, Nat.reduceLeDiff, Nat.le_refl, Nat.zero_le, Nat.reduceEqDiff, Nat.succ_ne_zero, decide_true, decide_false, bft, btf, bff, btt, ite_true, ite_false, Bool.and_self, Bool.and_true, Bool.true_and, Bool.or_true, Bool.true_or, Bool.and_false, Bool.false_and, Bool.false_or, Bool.or_false, Bool.or_self] at h); (try dsimp only [OB, Qc, SS, SZ, L5, Q2, GZ, v0, Qm, Rd, Py]))
 rw [h]
 cases Rr [] (g.flatMap fun r => W9 E r.1 (ws r)) <;> rfl
noncomputable def T1 (g : Gr) (hs : List Str) : Nat → Gr
 | 0 => []
 | k + 1 => g.filter fun r => decide ((r.2.filter fun s => decide (s ∈ hs) && !decide (s ∈ (T1 g hs k).map (·.1))) = [])
theorem sndP_n {g : Gr} {hs : List Str} : T1 g hs 0 = [] := rfl
theorem A1 {g : Gr} {hs : List Str} {k} : T1 g hs (k + 1) = g.filter fun r => decide ((r.2.filter fun s => decide (s ∈ hs) && !decide (s ∈ (T1 g hs k).map (·.1))) = []) := rfl
noncomputable def Tr (g : Gr) (hs : List Str) (st : Str) : Gr := ((T1 g hs 4).filter fun r => decide (r.1 = st)) ++ ((T1 g hs 4).filter fun r => !decide (r.1 = st))
noncomputable def Fl (l : Gr) : Gr := l.foldl (fun E r => R4 E r.1 (Qu E r.1 ++ r.2)) []
theorem C7 {g : Gr} {hs : List Str} {k : Nat} : ∀ r ∈ T1 g hs k, r ∈ g := fun r hr => by
 cases k with
 | zero => cases hr
 | succ k => exact (List.mem_filter.mp hr).1
theorem sndP_len {g : Gr} {hs : List Str} {k : Nat} : (T1 g hs k).length ≤ g.length := by
 cases k with
 | zero => simp [sndP_n, A1]
 | succ k => exact List.length_filter_le _ _
theorem Iy {g : Gr} {hs : List Str} {st : Str} {r : Str × List Str} : r ∈ Tr g hs st ↔ r ∈ T1 g hs 4 := by
 simp only [Tr, List.mem_append, List.mem_filter, decide_eq_true_eq, Bool.not_eq_true', decide_eq_false_iff_not]
 constructor
 ·rintro (h | h) <;> exact h.1
 ·intro h
  by_cases q : r.1 = st
  ·exact .inl ⟨h, q⟩
  ·exact .inr ⟨h, q⟩
theorem Iz {g : Gr} {hs : List Str} {st : Str} : (Tr g hs st).length ≤ g.length := by
 have := Vb (fun _ => true) (fun r => decide (r.1 = st)) (T1 g hs 4)
 simp only [Bool.true_and] at this
 have h2 := sndP_len (g := g) (hs := hs) (k := 4)
 unfold Tr
 rw [List.length_append]
 lia
theorem Nh : ∀ (l E : Gr), L7 E → L7 (l.foldl (fun E r => R4 E r.1 (Qu E r.1 ++ r.2)) E) ∧
  (∀ h x, x ∈ Qu (l.foldl (fun E r => R4 E r.1 (Qu E r.1 ++ r.2)) E) h ↔ x ∈ Qu E h ∨ ∃ b, (h, b) ∈ l ∧ x ∈ b) ∧
  ((l.foldl (fun E r => R4 E r.1 (Qu E r.1 ++ r.2)) E).flatMap (·.2)).length = (E.flatMap (·.2)).length + (l.map fun r => r.2.length).sum ∧
  (l.foldl (fun E r => R4 E r.1 (Qu E r.1 ++ r.2)) E).length ≤ E.length + l.length
 | [], E, hE => ⟨hE, by simp, by simp, by simp⟩
 | r :: l, E, hE => by
  refine BC fun nn => ?_
  obtain ⟨h1, h2, h3, h4⟩ := Nh l (R4 E r.1 (Qu E r.1 ++ r.2)) hE.put
  refine nn ?_; clear nn
  rw [List.foldl_cons]
  refine ⟨h1, fun h x => ?_, ?_, ?_⟩
  ·rw [h2]
   have : Qu (R4 E r.1 (Qu E r.1 ++ r.2)) h = if h = r.1 then Qu E r.1 ++ r.2 else Qu E h := by
    show ((R4 E r.1 (Qu E r.1 ++ r.2)).lookup h).getD [] = _
    rw [Cf]
    split <;> rfl
   rw [this]
   by_cases q : h = r.1
   ·rw [if_pos q, List.mem_append]
    subst q
    constructor
    ·rintro ((a | a) | ⟨b, hb, hx⟩)
     ·exact .inl a
     ·exact .inr ⟨r.2, .head _, a⟩
     ·exact .inr ⟨b, .tail _ hb, hx⟩
    ·rintro (a | ⟨b, hb, hx⟩)
     ·exact .inl (.inl a)
     ·rcases List.mem_cons.mp hb with e | hb
      ·exact .inl (.inr (by rw [← e]; exact hx))
      ·exact .inr ⟨b, hb, hx⟩
   ·rw [if_neg q]
    constructor
    ·rintro (a | ⟨b, hb, hx⟩)
     ·exact .inl a
     ·exact .inr ⟨b, .tail _ hb, hx⟩
    ·rintro (a | ⟨b, hb, hx⟩)
     ·exact .inl a
     ·rcases List.mem_cons.mp hb with e | hb
      ·exact absurd (by rw [← e]) q
      ·exact .inr ⟨b, hb, hx⟩
  ·rw [h3, List.map_cons, List.sum_cons]
   have : ((R4 E r.1 (Qu E r.1 ++ r.2)).flatMap (·.2)).length = (E.flatMap (·.2)).length + r.2.length := by
    by_cases q : r.1 ∈ E.map (·.1)
    ·obtain ⟨v, hv⟩ := Hb q
     have hs : Qu E r.1 = v := by unfold Qu; rw [hv]; rfl
     rw [hs]
     unfold R4
     rw [hv]
     simp only [Option.isSome_some, if_true]
     have key : ∀ E : Gr, L7 E → E.lookup r.1 = some v → ((E.map fun p => if p.1 = r.1 then (p.1, v ++ r.2) else p).flatMap (·.2)).length = (E.flatMap (·.2)).length + r.2.length := by
      intro E
      induction E with
      | nil => intro _ h; cases h
      | cons p E ih =>
       intro hk hl
       obtain ⟨y, u⟩ := p
       have hk' : y ∉ E.map (·.1) ∧ L7 E := List.nodup_cons.mp hk
       rw [List.map_cons, List.flatMap_cons, List.flatMap_cons, List.length_append, List.length_append]
       rw [List.lookup_cons] at hl
       by_cases e : r.1 = y
       ·subst e
        simp only [beq_self_eq_true, OI] at hl
        subst hl
        have : (E.map fun p => if p.1 = r.1 then (p.1, u ++ r.2) else p) = E := by
         rw [List.map_congr_left (g := id) fun p hp => ?_]
         ·simp
         ·have : ¬ p.1 = r.1 := fun e => hk'.1 (List.mem_map.mpr ⟨p, hp, e⟩)
          simp [this]
        rw [this]
        simp only [if_true, List.length_append]
        lia
       ·have e1 : (r.1 == y) = false := by simpa using e
        rw [e1] at hl
        have e2 : ¬ y = r.1 := fun q => e q.symm
        simp only [e2, if_false]
        have := ih hk'.2 hl
        lia
     exact key E hE hv
    ·have hn := Vg q
     have hs : Qu E r.1 = [] := by unfold Qu; rw [hn]; rfl
     rw [hs]
     unfold R4
     rw [hn]
     simp
   lia
  ·have h5 : (R4 E r.1 (Qu E r.1 ++ r.2)).length ≤ E.length + 1 := by
    unfold R4
    split <;> simp
   refine Nat.le_trans h4 ?_
   simp only [List.length_cons]
   lia
theorem sem26 {n : Nat} (hn : 26 < n) (g : Gr) (hg : OkG g) (hs : List Str) (st : Str × List Str) (rest : Gr) (hst : g = st :: rest) :
  ∃ R : List Str, (∀ x, x ∈ R ↔ Rch (Qu (Fl (Tr g hs st.1))) [st.1] x) ∧
   (Phi n).sem 26 [Qk g, Q5 hs] = some (Qk ((Tr g hs st.1).filter fun r => decide (r.1 ∈ R)), 1) := by
 have hlen := hg.few
 have hll := Iz (g := g) (hs := hs) (st := st.1)
 have hlm : ∀ r ∈ Tr g hs st.1, r ∈ g := fun r hr => C7 r (Iy.mp hr)
 have hsum : ∀ l : Gr, (∀ r ∈ l, r ∈ g) → (l.map fun r => r.2.length).sum ≤ 3 * l.length := fun l => by
  induction l with
  | nil => intro _; simp
  | cons r l ih =>
   intro h
   have h1 := ih fun r' hr' => h r' (.tail _ hr')
   have h2 := hg.short r (h r (.head _))
   simp only [List.map_cons, List.sum_cons, List.length_cons]
   lia
 have hinv := fun (l : Gr) => Nh l [] (by unfold L7; simp)
 have hE : ((Fl (Tr g hs st.1)).flatMap (·.2)).length ≤ 300 := by
  have h1 := (hinv (Tr g hs st.1)).2.2.1
  have h2 := hsum _ hlm
  unfold Fl
  rw [h1]
  simp only [List.flatMap_nil, List.length_nil]
  lia
 obtain ⟨e, h25, _, _, h25m⟩ := sem25 (n := 26) (by decide) (Fl (Tr g hs st.1)) [st.1] (by simp) hE
 refine ⟨[st.1] ++ e, h25m, ?_⟩
 generalize [st.1] ++ e = R at h25 h25m
 rw [W0 hn (F := f26) rfl]
 rw [z2 (F := f26) rfl]
 dsimp only [f26, Nat.reduceSub, RS, RZ]
 (try dsimp only [Qd, Wa, Qh, OB, lst0G, Q6, Qc, SS, SZ, W6, Qq, Gl])
 skip
 rw [show Zn (PyData.int 4, Kd.fr 9) = some ((List.range 4).map fun i => PyData.int (i : Nat), 0) from Rj 4 _ (by unfold lim; lia)]
 (try dsimp only [OM, OB, Rn])
 rw [show Qk ([] : Gr) = Qk (T1 g hs 0) from rfl]
 rw [Qn (fun k : Nat => PyData.int (k : Nat)) (fun k => [some (Qk g, 0), some (Q5 hs, 0), some (Qk (T1 g hs k), 0), none, none, none, none, none, none, none, none, none, none, none, none, none, none]) (fun k _ => k + 1) (List.range 4) 0 ?_]
 ·rw [show (List.range 4).foldl (fun k _ => k + 1) 0 = 4 from rfl]
  (try dsimp only [Q8, Wp, SS, SZ, Qd, Qr, Q2, GZ, v0, Qm, Qq, Q3])
  have h0 : Th (Qk g, .fr 0) (.int 0, .fr 9) = some (Wb st, .fr 0) := by
   have := Zp g 0 0 (.fr 9)
   rw [hst] at this ⊢
   exact this
  rw [h0]
  (try dsimp only [Q3, W1, OB, Q6, Qc, SS, SZ, Qd, Wv, R6, Q2, GS, GZ, v0, Qm, X2, U1, R8, BF, dreduceIte])
  skip
  rw [Qs Wb (fun r => decide (r.1 = st.1)) Wb (T1 g hs 4) (fun r _ => by
   (try dsimp only [R5, SS, SZ, i1, Tv, Qr, Q2, GS, GZ, v0, R2, Qq, Q3, W1, Q9, i0, Bool.not_false, Bool.true_or, Bool.and_true, OB, U8, Bool.and_self, dreduceIte]; try simp only [T9, Bool.false_xor, OB, Q1])
   by_cases q : r.1 = st.1
   ·(try simp only [q, decide_true, if_true, OB])
   ·(try simp only [q, decide_false, BF, if_false, OB]))]
  (try dsimp only [OM])
  rw [Qs Wb (fun r => !decide (r.1 = st.1)) Wb (T1 g hs 4) (fun r _ => by
   (try dsimp only [R5, SS, SZ, i1, Tv, Qr, Q2, GS, GZ, v0, R2, Qq, Q3, W1, Q9, i0, Bool.not_false, Bool.true_or, Bool.and_true, OB, U8, Bool.and_self, dreduceIte]; try simp only [T9, Bool.true_xor, OB, Q1])
   by_cases q : r.1 = st.1
   ·(try simp only [q, decide_true, Bool.not_true, BF, if_false, OB])
   ·(try simp only [q, decide_false, Bool.not_false, if_true, OB]))]
  (try dsimp only [OM, Q3])
  rw [show Xq (PyData.list (((T1 g hs 4).filter fun r => decide (r.1 = st.1)).map Wb), Kd.fr 1) (PyData.list (((T1 g hs 4).filter fun r => !decide (r.1 = st.1)).map Wb), Kd.fr 1) = some (Qk (Tr g hs st.1), .fr 1) from
   Zv _ _ _ _ rfl rfl (by
    have : ((T1 g hs 4).filter fun r => decide (r.1 = st.1)).length + ((T1 g hs 4).filter fun r => !decide (r.1 = st.1)).length = (Tr g hs st.1).length := by unfold Tr; rw [List.length_append]
    unfold lim; lia)]
  (try dsimp only [OB, Q6, Qc, SS, SZ, Qd, Yk, L5, Q2, GS, GZ, v0, Qm, Rd, Py])
  skip
  rw [show PyData.dict [] = Wc [] from rfl]
  skip
  rw [Qn Wb (fun E => [some (Qk g, 0), some (Q5 hs, 0), some (Qk (T1 g hs 4), 0), none, none, some (.str st.1, 0), some (Qk (Tr g hs st.1), 0), some (Wc E, 0), none, none, none, none, none, none, none, none, none])
   (fun E r => R4 E r.1 (Qu E r.1 ++ r.2)) (Tr g hs st.1) [] ?_]
  ·rw [show (Tr g hs st.1).foldl (fun E r => R4 E r.1 (Qu E r.1 ++ r.2)) [] = Fl (Tr g hs st.1) from rfl]
   (try dsimp only [Q8, Kw, SS, SZ, Qd, Qj, Qe, Q2, GS, GZ, v0, Wi, Wa, Q9, Qh, Q7, OB, Vf, c1, ph26, O2, agf, ag0, OM, c2])
   rw [h25]
   (try dsimp only [c3, Qb, OB, Q6, Qc, SS, SZ, R3, R6, Q2])
   (try dsimp only [Wr, List.contains_nil, BF, dreduceIte]; try simp only [List.mapIdx_cons, List.mapIdx_nil, GS, GZ, v0, Qm, OB, X2, U1, R8, BF, if_false])
   rw [Qs Wb (fun r => decide (r.1 ∈ R)) Wb (Tr g hs st.1) (fun r _ => by
    (try dsimp only [R5, SS, SZ, i1, Qt, Qr, Q2, GS, GZ, v0, R2, Qq, Q3, W1, Qb, i0, Bool.not_false, Bool.true_or, Bool.and_true, OB, U8, Bool.and_self, dreduceIte]; try simp only [Ws, Bool.false_xor, OB, Q1])
    by_cases q : r.1 ∈ R
    ·(try simp only [q, decide_true, if_true, OB])
    ·(try simp only [q, decide_false, BF, if_false, OB]))]
   rfl
  ·intro pre r post e'
   have hpre : ∀ r ∈ pre, r ∈ g := fun r hr => hlm r (by rw [e']; simp [hr])
   have hpl : pre.length ≤ 6 := by rw [e'] at hll; simp at hll; lia
   obtain ⟨i1, i2, i3, i4⟩ := hinv pre
   have i5 := hsum pre hpre
   generalize pre.foldl (fun E r => R4 E r.1 (Qu E r.1 ++ r.2)) [] = E at i1 i2 i3 i4 ⊢
   simp only [List.flatMap_nil, List.length_nil] at i3 i4
   have hsl : (Qu E r.1).length ≤ 18 := by
    have : (Qu E r.1).length ≤ (E.flatMap (·.2)).length := by
     unfold Qu
     cases hl : E.lookup r.1 with
     | none => simp
     | some v =>
      have hm := Te hl
      obtain ⟨a, b, rfl⟩ := List.append_of_mem hm
      simp; lia
    lia
   have hrl := hg.short r (hlm r (by rw [e']; simp))
   (try dsimp only [Ge, f26_b1, SS, SZ, Qd, Td, Wv, Yj, Q2, GS, GZ, v0, Wi, OB, Wa, Qe, Rt, Co, Qh, Uy, C0, Q9, Qb]; try simp only [U9, getD_E, Q3])
   rw [Xp _ _ _ _ rfl rfl (by unfold lim; lia)]
   (try dsimp only [Q3, Rs, Q7, OB])
   rw [U7]
   (try dsimp only [Q3])
   rw [Zv _ _ _ _ rfl rfl (by unfold lim; simp; lia)]
   (try dsimp only [OB]; try simp only [Y8, OB, Q6, Qc, SS, SZ, Qg, OM, Qi])
   rw [Ua i1]
   skip
 ·intro pre k post e'
  rw [show ∀ (l : List Nat) (a : Nat), l.foldl (fun k _ => k + 1) a = a + l.length from fun l => by
   induction l with
   | nil => intro a; simp
   | cons x l ih => intro a; rw [List.foldl_cons, ih, List.length_cons]; lia]
  generalize 0 + pre.length = k
  (try dsimp only [f26_b0, SS, SZ, Qd, R6, Q2, GS, GZ, v0, Qm, OB, X2, U1, R8, BF, dreduceIte])
  rw [Ri Wb (fun r => .str r.1) (T1 g hs k) (fun r _ => by (try dsimp only [R5, SS, SZ, i0, Qr, Q2, GS, GZ, v0, R2, Qq, Q3, W1, Bool.not_false, Bool.true_or, Bool.and_true, OB, U8, Bool.and_self, dreduceIte]))]
  (try dsimp only [OM, OB, Q6, Qc, SS, SZ, Qd, R6, Q2, GZ, v0, Qm, X2, U1, R8, BF, dreduceIte])
  rw [show (PyData.list ((T1 g hs k).map fun r => PyData.str r.1)) = Q5 ((T1 g hs k).map (·.1)) from by unfold Q5; rw [List.map_map]; rfl]
  skip
  rw [Qs Wb (fun r => decide ((r.2.filter fun s => decide (s ∈ hs) && !decide (s ∈ (T1 g hs k).map (·.1))) = [])) Wb g (fun r _ => by
   (try dsimp only [R5, SS, SZ, i1, Tv, R6, Qr, Q2, GS, GZ, v0, R2, Qq, Q3, Rf, OB, X2, Yn, R8, BF, dreduceIte, Wa, Qh, Uy, i0, Bool.not_false, Bool.true_or, Bool.and_true, U8, Bool.and_self])
   rw [Qs PyData.str (fun s => decide (s ∈ hs) && !decide (s ∈ (T1 g hs k).map (·.1))) PyData.str r.2 (fun s _ => by
    (try dsimp only [R5, SS, SZ, i1, Yl, p2, Qt, Q2, GS, GZ, v0, Q9, Qb, Q3, p1, i0, Bool.not_false, Bool.true_or, Bool.and_true, OB, U8, Bool.and_self, dreduceIte]; try simp only [Ws, Bool.false_xor, OB, Q1, Bool.true_xor])
    by_cases q1 : s ∈ hs
    ·by_cases q2 : s ∈ (T1 g hs k).map (·.1)
     ·(try simp only [q1, decide_true, beq_self_eq_true, q2, Bool.not_true, if_true, Wl, OB, Q1, BF, if_false, Bool.and_false])
     ·(try simp only [q1, decide_true, beq_self_eq_true, q2, decide_false, Bool.not_false, if_true, Wl, OB, Q1, Bool.and_self])
    ·(try simp only [q1, decide_false, bft, BF, if_false, Wl, OB, Q1, Bool.false_and]))]
   (try dsimp only [OM, Q3])
   rw [show (PyData.list ((r.2.filter fun s => decide (s ∈ hs) && !decide (s ∈ (T1 g hs k).map (·.1))).map PyData.str)) = Q5 (r.2.filter fun s => decide (s ∈ hs) && !decide (s ∈ (T1 g hs k).map (·.1))) from rfl]
   (try simp only [Jl, Bool.false_xor, OB, Q1])
   by_cases q : (r.2.filter fun s => decide (s ∈ hs) && !decide (s ∈ (T1 g hs k).map (·.1))) = []
   ·(try simp only [q, decide_true, if_true, OB])
   ·(try simp only [q, decide_false, BF, if_false, OB]))]
  (try dsimp only [OM, OB, Q6, Qc, SS, SZ, Qz, Qg, Qi])
  rw [show (PyData.list ((g.filter fun r => decide ((r.2.filter fun s => decide (s ∈ hs) && !decide (s ∈ (T1 g hs k).map (·.1))) = [])).map Wb)) = Qk (T1 g hs (k + 1)) from rfl]
  skip
theorem Xd {a b : Str} (h : a.cps.toList = b.cps.toList) : a = b := by
 obtain ⟨a⟩ := a; obtain ⟨b⟩ := b
 obtain ⟨a⟩ := a; obtain ⟨b⟩ := b
 simp only at h; rw [h]
theorem J6 (a b : Str) : (a ++ b).cps.toList = a.cps.toList ++ b.cps.toList := by
 show (a.cps ++ b.cps).toList = _
 rw [Array.toList_append]
noncomputable def eps : Str := ⟨#[]⟩
theorem Xi (a : Str) : eps ++ a = a := Xd (by rw [J6]; rfl)
theorem Es (a : Str) : a ++ eps = a := Xd (by rw [J6]; simp [eps])
theorem Xb (a b c : Str) : a ++ b ++ c = a ++ (b ++ c) := Xd (by simp only [J6, List.append_assoc])
theorem Ng : Str.ofString "" = eps := by decide +kernel
theorem E0 : (if (decide (eps.length ≤ lim) && PyData.strOk eps) = true then some (PyData.str eps, Kd.fr 9) else none) = some (.str eps, .fr 9) := by rw [if_pos (by decide +kernel)]
theorem Kh : ∀ us vs : List Str, W8 (us ++ vs) = W8 us ++ W8 vs
 | [], vs => (Xi _).symm
 | u :: us, vs => by
  show u ++ W8 (us ++ vs) = u ++ W8 us ++ W8 vs
  rw [Kh us vs, Xb]
theorem at_iff {x y : Str} {i : Nat} : StrLaws.At x y x.length i ↔ ∃ a b, a.length = i ∧ x.cps.toList = a ++ (y.cps.toList ++ b) := by
 unfold StrLaws.At Builtin.Str.subAt
 rw [beq_iff_eq]
 have hx : x.length = x.cps.toList.length := by simp [Str.length]
 have hy : y.length = y.cps.toList.length := by simp [Str.length]
 have he : x.cps.extract i (i + y.length) = y.cps ↔ (x.cps.toList.drop i).take y.length = y.cps.toList := by
  rw [← Array.toList_inj, Array.toList_extract, List.extract_eq_take_drop]
  rw [Nat.add_sub_cancel_left]
 rw [he, hx, hy]
 generalize x.cps.toList = X
 generalize y.cps.toList = Y
 constructor
 ·rintro ⟨h1, h2⟩
  refine ⟨X.take i, X.drop (i + Y.length), by rw [List.length_take]; lia, ?_⟩
  conv => lhs; rw [← List.take_append_drop i X]
  congr 1
  conv => lhs; rw [← List.take_append_drop Y.length (X.drop i)]
  rw [h2, List.drop_drop]
 ·rintro ⟨a, b, rfl, rfl⟩
  refine ⟨by simp, ?_⟩
  rw [List.drop_left, List.take_left]
theorem Y6 {y x : Str} : Ww y x = true ↔ ∃ a b, x.cps.toList = a ++ (y.cps.toList ++ b) := by
 unfold Ww
 rcases StrLaws.occ_head x y 1 (Nat.le_refl _) with ⟨h0, hn⟩ | ⟨i, r, h0, ha, _⟩
 ·rw [h0]
  constructor
  ·intro h; cases h
  ·rintro ⟨a, b, h⟩
   exact absurd (at_iff.mpr ⟨a, b, rfl, h⟩) (hn _)
 ·rw [h0]
  refine BC fun nn => ?_
  obtain ⟨a, b, _, h⟩ := at_iff.mp ha
  refine nn ?_; clear nn
  exact ⟨fun _ => ⟨a, b, h⟩, fun _ => rfl⟩
theorem J1 (x : Str) : Ww eps x = true := Y6.mpr ⟨[], x.cps.toList, rfl⟩
theorem Au (x : Str) : Ww x x = true := Y6.mpr ⟨[], [], by simp⟩
theorem Ko {u v x : Str} (h : Ww (u ++ v) x = true) : Ww u x = true := by
 refine BC fun nn => ?_
 obtain ⟨a, b, h⟩ := Y6.mp h
 refine nn ?_; clear nn
 rw [J6] at h
 exact Y6.mpr ⟨a, v.cps.toList ++ b, by rw [h]; simp⟩
theorem O7 {u v x : Str} (h : Ww (u ++ v) x = true) : Ww v x = true := by
 refine BC fun nn => ?_
 obtain ⟨a, b, h⟩ := Y6.mp h
 refine nn ?_; clear nn
 rw [J6] at h
 exact Y6.mpr ⟨a ++ u.cps.toList, b, by rw [h]; simp⟩
theorem J0 {u x : Str} (h : Ww u x = true) : u.length ≤ x.length := by
 refine BC fun nn => ?_
 obtain ⟨a, b, h⟩ := Y6.mp h
 refine nn ?_; clear nn
 have := congrArg List.length h
 simp only [List.length_append, Array.length_toList] at this
 show u.cps.size ≤ x.cps.size
 lia
noncomputable def C3 (x : Str) : List Str := (List.range (x.length + 1)).flatMap fun i => (List.range (x.length + 1)).map fun j => ⟨((x.cps.toList.drop i).take j).toArray⟩
theorem Ez (x : Str) : (C3 x).length = (x.length + 1) * (x.length + 1) := by
 have h : ∀ (l : List Nat) (c : Nat), (l.map fun _ => c).sum = l.length * c := fun l c => by
  induction l with
  | nil => simp
  | cons x l ih => rw [List.map_cons, List.sum_cons, ih, List.length_cons, Nat.succ_mul]; lia
 unfold C3
 rw [List.length_flatMap]
 simp only [List.length_map, List.length_range]
 rw [h, List.length_range]
theorem Ey {u x : Str} (h : Ww u x = true) : u ∈ C3 x := by
 have hl := J0 h
 refine BC fun nn => ?_
 obtain ⟨a, b, h⟩ := Y6.mp h
 refine nn ?_; clear nn
 have hal : a.length + u.length ≤ x.length := by
  have := congrArg List.length h
  simp only [List.length_append, Array.length_toList] at this
  show a.length + u.cps.size ≤ x.cps.size
  lia
 unfold C3
 refine List.mem_flatMap.mpr ⟨a.length, List.mem_range.mpr (by lia), List.mem_map.mpr ⟨u.length, List.mem_range.mpr (by lia), ?_⟩⟩
 refine Xd ?_
 have hu : u.length = u.cps.toList.length := by simp [Str.length]
 simp only
 rw [h, List.drop_left, hu, List.take_left]
noncomputable def Yr (T : Str) (hs : List Str) (W : Str → List Str) (ps : List Str) (s : Str) : List Str :=
 ps.flatMap fun p => ((if s ∈ hs then W s else [s]).filter fun q => Ww (p ++ q) T).map fun q => p ++ q
noncomputable def Tt (T : Str) (hs : List Str) (W : Str → List Str) (ps b : List Str) : List Str := b.foldl (Yr T hs W) ps
theorem Vs {T : Str} {hs : List Str} {W : Str → List Str} {ps : List Str} {s u : Str} :
  u ∈ Yr T hs W ps s ↔ ∃ p ∈ ps, ∃ q, ((s ∈ hs ∧ q ∈ W s) ∨ (s ∉ hs ∧ q = s)) ∧ Ww (p ++ q) T = true ∧ u = p ++ q := by
 unfold Yr
 rw [List.mem_flatMap]
 refine exists_congr fun p => and_congr_right fun _ => ?_
 rw [List.mem_map]
 refine exists_congr fun q => ?_
 rw [List.mem_filter]
 constructor
 ·rintro ⟨⟨h1, h2⟩, h3⟩
  refine ⟨?_, h2, h3.symm⟩
  by_cases k : s ∈ hs
  ·rw [if_pos k] at h1; exact .inl ⟨k, h1⟩
  ·rw [if_neg k] at h1; exact .inr ⟨k, by simpa using h1⟩
 ·rintro ⟨h1, h2, h3⟩
  refine ⟨⟨?_, h2⟩, h3.symm⟩
  rcases h1 with ⟨k, h1⟩ | ⟨k, h1⟩
  ·rw [if_pos k]; exact h1
  ·rw [if_neg k]; simp [h1]
noncomputable def SndW (g : Gr) (T : Str) (hs : List Str) (W : Str → List Str) : Prop := ∀ h ∈ hs, ∀ u ∈ W h, Ww u T = true ∧ ∃ us, D g h us ∧ u = W8 us
theorem Vw {T : Str} {hs : List Str} {W : Str → List Str} : ∀ (b ps : List Str), (∀ p ∈ ps, Ww p T = true) → ∀ p ∈ Tt T hs W ps b, Ww p T = true
 | [], ps, h => h
 | s :: b, ps, h => Vw b (Yr T hs W ps s) fun p hp => by
  refine BC fun nn => ?_
  obtain ⟨_, _, q, _, h1, rfl⟩ := Vs.mp hp
  refine nn ?_; clear nn
  exact h1
theorem Xf {g : Gr} {T : Str} {hs : List Str} {W : Str → List Str} (hh : ∀ h, h ∈ hs ↔ h ∈ Q0 g) (hW : SndW g T hs W) : ∀ (b ps : List Str), ∀ p ∈ Tt T hs W ps b, ∃ p0 ∈ ps, ∃ us, DB g b us ∧ p = p0 ++ W8 us
 | [], ps, p, hp => ⟨p, hp, [], .nil, (Es p).symm⟩
 | s :: b, ps, p, hp => by
  refine BC fun nn => ?_
  obtain ⟨p1, h1, us, h2, rfl⟩ := Xf hh hW b (Yr T hs W ps s) p hp
  refine nn ?_; clear nn
  refine BC fun nn => ?_
  obtain ⟨p0, h3, q, h4, h5, rfl⟩ := Vs.mp h1
  refine nn ?_; clear nn
  refine ⟨p0, h3, ?_⟩
  rcases h4 with ⟨k, h4⟩ | ⟨k, rfl⟩
  ·refine BC fun nn => ?_
   obtain ⟨_, vs, ⟨b', hb, hd⟩, rfl⟩ := hW s k q h4
   refine nn ?_; clear nn
   exact ⟨vs ++ us, .head hb hd h2, by rw [Kh, Xb]⟩
  ·refine ⟨q :: us, .tok (fun c => k ((hh _).mpr c)) h2, ?_⟩
   show p0 ++ q ++ W8 us = p0 ++ (q ++ W8 us)
   rw [Xb]
theorem Ci {g : Gr} {T : Str} {hs : List Str} {W : Str → List Str} (hh : ∀ h, h ∈ hs ↔ h ∈ Q0 g) (hcl : ∀ r ∈ g, ∀ p ∈ Tt T hs W [eps] r.2, p ∈ W r.1) {b us : List Str} (d : DB g b us) :
  ∀ ps p, p ∈ ps → Ww (p ++ W8 us) T = true → p ++ W8 us ∈ Tt T hs W ps b := by
 induction d with
 | nil => intro ps p hp _; rw [show W8 [] = eps from rfl, Es]; exact hp
 | @tok s r u h1 _ ih =>
  intro ps p hp hi
  rw [show W8 (s :: u) = s ++ W8 u from rfl, ← Xb] at hi ⊢
  exact ih (Yr T hs W ps s) (p ++ s) (Vs.mpr ⟨p, hp, s, .inr ⟨fun c => h1 ((hh _).mp c), rfl⟩, Ko hi, rfl⟩) hi
 | @head s b r u v h1 _ _ ih1 ih2 =>
  intro ps p hp hi
  rw [Kh, ← Xb] at hi ⊢
  refine ih2 (Yr T hs W ps s) (p ++ W8 u) (Vs.mpr ⟨p, hp, W8 u, .inl ⟨(hh _).mpr (Qa.mpr ⟨_, h1⟩), ?_⟩, Ko hi, rfl⟩) hi
  have h2 := ih1 [eps] eps (.head _) (by rw [Xi]; exact O7 (Ko hi))
  rw [Xi] at h2
  exact hcl _ h1 _ h2
noncomputable def Kv (h : Str) (a : (Str → List Str) × Bool) (p : Str) : (Str → List Str) × Bool := if p ∈ a.1 h then a else (Wn a.1 h (a.1 h ++ [p]), true)
noncomputable def Yh (T : Str) (hs : List Str) (a : (Str → List Str) × Bool) (r : Str × List Str) : (Str → List Str) × Bool := (Tt T hs a.1 [eps] r.2).foldl (Kv r.1) a
structure OkW (g : Gr) (T : Str) (hs : List Str) (W : Str → List Str) : Prop where
 snd : SndW g T hs W
 nd : ∀ h ∈ hs, (W h).Nodup
theorem OkW.add {g : Gr} {T : Str} {hs : List Str} {W : Str → List Str} {h p : Str} (k : OkW g T hs W) (h1 : p ∉ W h) (h2 : Ww p T = true) (h3 : ∃ us, D g h us ∧ p = W8 us) : OkW g T hs (Wn W h (W h ++ [p])) where
 snd := fun h' hh' u hu => by
  unfold Wn at hu
  by_cases q : h' = h
  ·rw [if_pos q] at hu
   subst q
   rcases List.mem_append.mp hu with hu | hu
   ·exact k.snd _ hh' u hu
   ·rw [List.mem_singleton.mp hu]; exact ⟨h2, h3⟩
  ·rw [if_neg q] at hu; exact k.snd _ hh' u hu
 nd := fun h' hh' => by
  unfold Wn
  by_cases q : h' = h
  ·rw [if_pos q]
   subst q
   refine List.nodup_append.mpr ⟨k.nd _ hh', by simp, fun a ha b hb => ?_⟩
   rw [List.mem_singleton.mp hb]
   rintro rfl; exact h1 ha
  ·rw [if_neg q]; exact k.nd _ hh'
theorem OkW.len {g : Gr} {T : Str} {hs : List Str} {W : Str → List Str} (k : OkW g T hs W) (hT : T.length ≤ 4) : ∀ h ∈ hs, (W h).length ≤ 25 := fun h hh => by
 have := Wo (U := C3 T) (k.nd h hh) fun u hu => Ey (k.snd h hh u hu).1
 rw [Ez] at this
 have h2 : (T.length + 1) * (T.length + 1) ≤ 5 * 5 := Nat.mul_le_mul (by lia) (by lia)
 lia
theorem OkW.tot {g : Gr} {T : Str} {hs : List Str} {W : Str → List Str} (k : OkW g T hs W) (hT : T.length ≤ 4) : tot hs W ≤ 25 * hs.length := by
 have h := k.len hT
 unfold Mine.tot
 clear k
 induction hs with
 | nil => simp
 | cons x hs ih =>
  have h1 := ih fun h' hh' => h h' (.tail _ hh')
  have h2 := h x (.head _)
  simp only [List.map_cons, List.sum_cons, List.length_cons]
  lia
theorem J7 {g : Gr} {T : Str} {hs : List Str} (nd : hs.Nodup) {h : Str} (hh : h ∈ hs) : ∀ (l : List Str) (a : (Str → List Str) × Bool), OkW g T hs a.1 → (∀ p ∈ l, Ww p T = true ∧ ∃ us, D g h us ∧ p = W8 us) →
  OkW g T hs (l.foldl (Kv h) a).1 ∧ tot hs a.1 ≤ tot hs (l.foldl (Kv h) a).1 ∧
  ((l.foldl (Kv h) a).2 = true → a.2 = true ∨ tot hs a.1 < tot hs (l.foldl (Kv h) a).1) ∧
  ((l.foldl (Kv h) a).2 = false → l.foldl (Kv h) a = a ∧ ∀ p ∈ l, p ∈ a.1 h)
 | [], a, k, _ => ⟨k, Nat.le_refl _, fun h => .inl h, fun _ => ⟨rfl, fun _ h => nomatch h⟩⟩
 | p :: l, a, k, hl => by
  rw [List.foldl_cons]
  by_cases q : p ∈ a.1 h
  ·rw [show Kv h a p = a from if_pos q]
   refine BC fun nn => ?_
   obtain ⟨i1, i2, i3, i4⟩ := J7 nd hh l a k fun p' hp' => hl p' (.tail _ hp')
   refine nn ?_; clear nn
   exact ⟨i1, i2, i3, fun e => ⟨(i4 e).1, fun p' hp' => by
    rcases List.mem_cons.mp hp' with rfl | hp'
    ·exact q
    ·exact (i4 e).2 p' hp'⟩⟩
  ·rw [show Kv h a p = (Wn a.1 h (a.1 h ++ [p]), true) from if_neg q]
   obtain ⟨h1, h2⟩ := hl p (.head _)
   refine BC fun nn => ?_
   obtain ⟨i1, i2, i3, i4⟩ := J7 nd hh l (Wn a.1 h (a.1 h ++ [p]), true) (k.add q h1 h2) fun p' hp' => hl p' (.tail _ hp')
   refine nn ?_; clear nn
   have ht := Z8 (F := a.1) (v := a.1 h ++ [p]) nd hh
   rw [List.length_append, List.length_singleton] at ht
   simp only at i2
   refine ⟨i1, by lia, fun _ => .inr (by lia), fun e => ?_⟩
   have := (i4 e).1
   rw [this] at e
   cases e
theorem Sv {g : Gr} {T : Str} {hs : List Str} (nd : hs.Nodup) (hh : ∀ h, h ∈ hs ↔ h ∈ Q0 g) : ∀ (l : Gr) (a : (Str → List Str) × Bool), (∀ r ∈ l, r ∈ g) → OkW g T hs a.1 →
  OkW g T hs (l.foldl (Yh T hs) a).1 ∧ tot hs a.1 ≤ tot hs (l.foldl (Yh T hs) a).1 ∧
  ((l.foldl (Yh T hs) a).2 = true → a.2 = true ∨ tot hs a.1 < tot hs (l.foldl (Yh T hs) a).1) ∧
  ((l.foldl (Yh T hs) a).2 = false → l.foldl (Yh T hs) a = a ∧ ∀ r ∈ l, ∀ p ∈ Tt T hs a.1 [eps] r.2, p ∈ a.1 r.1)
 | [], a, _, k => ⟨k, Nat.le_refl _, fun h => .inl h, fun _ => ⟨rfl, fun _ h => nomatch h⟩⟩
 | r :: l, a, hl, k => by
  rw [List.foldl_cons]
  have hr := hl r (.head _)
  obtain ⟨j1, j2, j3, j4⟩ := J7 nd ((hh r.1).mpr (Qa.mpr ⟨_, hr⟩)) (Tt T hs a.1 [eps] r.2) a k fun p hp =>
   ⟨Vw r.2 [eps] (fun p hp => by rw [List.mem_singleton.mp hp]; exact J1 _) p hp, by
    refine BC fun nn => ?_
    obtain ⟨p0, h0, us, h1, rfl⟩ := Xf hh k.snd r.2 [eps] p hp
    refine nn ?_; clear nn
    rw [List.mem_singleton.mp h0, Xi]
    exact ⟨us, ⟨r.2, hr, h1⟩, rfl⟩⟩
  refine BC fun nn => ?_
  obtain ⟨i1, i2, i3, i4⟩ := Sv nd hh l (Yh T hs a r) (fun r' hr' => hl r' (.tail _ hr')) j1
  refine nn ?_; clear nn
  change tot hs a.1 ≤ tot hs (Yh T hs a r).1 at j2
  change (Yh T hs a r).2 = true → a.2 = true ∨ tot hs a.1 < tot hs (Yh T hs a r).1 at j3
  change (Yh T hs a r).2 = false → Yh T hs a r = a ∧ _ at j4
  refine ⟨i1, by lia, fun e => ?_, fun e => ?_⟩
  ·rcases i3 e with h | h
   ·rcases j3 h with h | h
    ·exact .inl h
    ·exact .inr (by lia)
   ·exact .inr (by lia)
  ·have e1 := (i4 e).1
   have e2 : (Yh T hs a r).2 = false := by rw [← e1]; exact e
   obtain ⟨e3, e4⟩ := j4 e2
   rw [e3] at i4 e ⊢
   exact ⟨(i4 e).1, fun r' hr' => by
    rcases List.mem_cons.mp hr' with rfl | hr'
    ·exact e4
    ·exact (i4 e).2 r' hr'⟩
theorem Nv {g : Gr} {T : Str} {hs : List Str} {W : Str → List Str} (hh : ∀ h, h ∈ hs ↔ h ∈ Q0 g) (k : OkW g T hs W) (hcl : ∀ r ∈ g, ∀ p ∈ Tt T hs W [eps] r.2, p ∈ W r.1) :
  ∀ h ∈ hs, ∀ u, u ∈ W h ↔ Ww u T = true ∧ ∃ us, D g h us ∧ u = W8 us := fun h hh' u => by
 constructor
 ·exact k.snd h hh' u
 ·rintro ⟨h1, us, ⟨b, hb, hd⟩, rfl⟩
  have := Ci hh hcl hd [eps] eps (.head _) (by rw [Xi]; exact h1)
  rw [Xi] at this
  exact hcl _ hb _ this
theorem G7 {α : Type} {cond : Sg → Option Bool} {body : Sg → Option Out} (mk : α → Sg) (c : α → Bool) (f : α → α) (I : α → Prop) (μ : α → Nat)
  (hc : ∀ a, I a → cond (mk a) = some true) (hb : ∀ a, I a → c a = true → body (mk a) = some (.next (mk (f a))) ∧ I (f a) ∧ μ (f a) < μ a)
  (hx : ∀ a, I a → c a = false → body (mk a) = some (.brk (mk a))) :
  ∀ n a, I a → μ a < n → ∃ b, Y1 cond body n (mk a) = some (.next (mk b)) ∧ I b ∧ c b = false
 | 0, a, _, h => absurd h (Nat.not_lt_zero _)
 | n + 1, a, hi, h => by
  rw [Nx, hc a hi]
  cases hca : c a with
  | false => exact ⟨a, by simp only [hx a hi hca], hi, hca⟩
  | true =>
   obtain ⟨h1, h2, h3⟩ := hb a hi hca
   simp only [h1]
   exact G7 mk c f I μ hc hb hx n (f a) h2 (by lia)
theorem Pj {f : PyData → Option (List PyData)} : Wz f [] = some [] := rfl
theorem Pk {f : PyData → Option (List PyData)} {x r} : Wz f (x :: r) = (f x).bind fun ys => (Wz f r).map fun zs => ys ++ zs := rfl
theorem Ly {β : Type} {F : PyData → Option (List PyData)} (enc : β → PyData) (f : β → List PyData) : ∀ (xs : List β), (∀ x ∈ xs, F (enc x) = some (f x)) → Wz F (xs.map enc) = some (xs.flatMap f)
 | [], _ => rfl
 | x :: xs, h => by
  simp only [List.map_cons, Pj, Pk, h x (.head _), OB, Ly enc f xs fun y hy => h y (.tail _ hy), OM, List.flatMap_cons]
theorem inD_S (neg : Bool) (y x : Str) (k j : Kd) : inD neg (.str y, k) (.str x, j) = some (.bool (neg ^^ Ww y x), .fr 9) := rfl
theorem leaf_str (x : Str) : leaf (.str x) = true := rfl
theorem Ss (g : Gr) (hs : List Str) (T : Str) (hT : T.length ≤ 4) (W : Str → List Str) (hWl : ∀ h ∈ hs, (W h).length ≤ 25) (hWi : ∀ h ∈ hs, ∀ u ∈ W h, u.length ≤ 4) (b : Bool) (h : Str) (body : List Str)
  (ps : List Str) (hps : ∀ p ∈ ps, Ww p T = true) (hpl : ps.length ≤ 3000) (s : Str) (hs1 : s.length ≤ 4) :
  (fun σ x => Option.map (Out.clr 9) (evB (Phi 27) [] P4 (List.set σ 9 (some (x, 0))))) [some (Qk g, 0), some (Q5 hs, 0), some (.str T, 0), some (Wc (tab hs W), 0), none, some (.bool b, 0), some (.str h, 0), some (Q5 body, 0), some (Q5 ps, 0), none, none, none, none, none] (.str s) =
   some (.next [some (Qk g, 0), some (Q5 hs, 0), some (.str T, 0), some (Wc (tab hs W), 0), none, some (.bool b, 0), some (.str h, 0), some (Q5 body, 0), some (Q5 (Yr T hs W ps s), 0), none, none, none, none, none]) := by
 (try dsimp only [P4, Qd, Wa, Qe, Q2, Qh, SS, SZ, GS, GZ, v0, Q9, Q7, OB, Vf, Q6, Qc, Qw, Qt, Qb, Q3]; try simp only [Ws, Bool.false_xor, OB, Q1])
 have main : ∀ ts : List Str, (∀ q ∈ ts, q.length ≤ 4) → ts.length ≤ 25 →
   evB (Phi 27) [] (.set 8 0 (.comp2 12 13 (.var 8) (.var 10) (.cons (.isin false (.add (.var 12) (.var 13)) (.var 2)) (.nil)) (.add (.var 12) (.var 13))) (.forget 10 .nil))
    [some (Qk g, 0), some (Q5 hs, 0), some (.str T, 0), some (Wc (tab hs W), 0), none, some (.bool b, 0), some (.str h, 0), some (Q5 body, 0), some (Q5 ps, 0), some (.str s, 0), some (Q5 ts, 0), none, none, none] =
   some (.next [some (Qk g, 0), some (Q5 hs, 0), some (.str T, 0), some (Wc (tab hs W), 0), none, some (.bool b, 0), some (.str h, 0), some (Q5 body, 0), some (Q5 (ps.flatMap fun p => (ts.filter fun q => Ww (p ++ q) T).map fun q => p ++ q), 0), some (.str s, 0), none, none, none, none]) := by
  intro ts ht htl
  (try dsimp only [Qd, Zg, Q2, GS, GZ, v0, Qb, OB, Wg, SS, SZ, i1, Qt, Wv, Q3, Q9, i0])
  rw [Ly PyData.str (fun p => ((ts.filter fun q => Ww (p ++ q) T).map fun q => PyData.str (p ++ q))) ps (fun p hp => by
   (try dsimp only [Q9])
   have hpl := J0 (hps p hp)
   rw [Qs PyData.str (fun q => Ww (p ++ q) T) (fun q => .str (p ++ q)) ts (fun q hq => by
    have hql := ht q hq
    (try dsimp only [Q9])
    rw [Xc _ _ _ _ (by unfold lim; lia)]
    (try dsimp only [Q3, inD_S, OB, Q1, Bool.false_xor, leaf_str, dreduceIte]; try simp only [Bool.false_xor])
    cases Ww (p ++ q) T <;> (try dsimp only [BF, dreduceIte, OB]))])]
  (try dsimp only [OB])
  have hl : (ps.flatMap fun p => ((ts.filter fun q => Ww (p ++ q) T).map fun q => PyData.str (p ++ q))).length ≤ lim := by
   have : ∀ l : List Str, (l.flatMap fun p => ((ts.filter fun q => Ww (p ++ q) T).map fun q => PyData.str (p ++ q))).length ≤ 25 * l.length := fun l => by
    induction l with
    | nil => simp
    | cons p l ih =>
     have := List.length_filter_le (fun q => Ww (p ++ q) T) ts
     rw [List.flatMap_cons, List.length_append, List.length_map, List.length_cons]
     lia
   have h2 := this ps
   unfold lim
   lia
  rw [if_pos hl]
  (try dsimp only [OB, Q6, Qc, SS, SZ, Qz, Qg])
  rw [show PyData.list (ps.flatMap fun p => ((ts.filter fun q => Ww (p ++ q) T).map fun q => PyData.str (p ++ q))) = Q5 (ps.flatMap fun p => (ts.filter fun q => Ww (p ++ q) T).map fun q => p ++ q) from by
   unfold Q5
   rw [List.map_flatMap]
   simp only [List.map_map]
   rfl]
  skip
 by_cases q : s ∈ hs
 ·(try simp only [q, decide_true, Wk, Qd, Qr, Q2, GS, GZ, v0, Wi, Q9, Q3])
  rw [Re _ _ _ _ _ q]
  (try dsimp only [Dc, OB, Q6, Qc, SS, SZ, Qg, Q8, Ql, Qd, Zg, Q2, GS, GZ, v0, Qb, Wg, i1, Qt, Wv, Q3, Q9, i0])
  have := main (W s) (hWi s q) (hWl s q)
  ((try simp only [Qd, Zg, Q2, GS, GZ, v0, Qb, OB, Wg, SS, SZ, i1, Qt, Wv, Q3, Q9, i0] at this); skip)
  rw [this]
  (try dsimp only [OM, Qi, SS, SZ])
  unfold Yr
  simp only [q, if_true]
 ·(try simp only [q, decide_false, W3, Qg, Q8, Ql, Qd, Zg, Q2, GS, GZ, v0, Qb, OB, Wg, SS, SZ, i1, Qt, Wv, Q3, Q9, i0])
  have := main [s] (by simp [hs1]) (by simp)
  ((try simp only [Qd, Zg, Q2, GS, GZ, v0, Qb, OB, Wg, SS, SZ, i1, Qt, Wv, Q3, Q9, i0] at this); skip)
  rw [this]
  (try dsimp only [OM, Qi, SS, SZ])
  unfold Yr
  simp only [q, if_false]
theorem I1 {T : Str} {hs : List Str} {W : Str → List Str} (hWl : ∀ h ∈ hs, (W h).length ≤ 25) (ps : List Str) (s : Str) : (Yr T hs W ps s).length ≤ 25 * ps.length := by
 have hts : (if s ∈ hs then W s else [s]).length ≤ 25 := by
  split
  ·rename_i q; exact hWl s q
  ·simp
 unfold Yr
 induction ps with
 | nil => simp
 | cons p l ih =>
  have := List.length_filter_le (fun q => Ww (p ++ q) T) (if s ∈ hs then W s else [s])
  rw [List.flatMap_cons, List.length_append, List.length_map, List.length_cons]
  lia
theorem Gs {T : Str} {hs : List Str} {W : Str → List Str} (hWl : ∀ h ∈ hs, (W h).length ≤ 25) : ∀ (b ps : List Str), (Tt T hs W ps b).length ≤ 25 ^ b.length * ps.length
 | [], ps => by simp [Tt]
 | s :: b, ps => by
  have h1 := Gs (T := T) hWl b (Yr T hs W ps s)
  have h2 := I1 (T := T) hWl ps s
  have h3 := Nat.mul_le_mul_left (25 ^ b.length) h2
  show (Tt T hs W (Yr T hs W ps s) b).length ≤ _
  rw [List.length_cons, Nat.pow_succ, Nat.mul_assoc]
  exact Nat.le_trans h1 h3
theorem Su (g : Gr) (hs : List Str) (nd : hs.Nodup) (hl3 : hs.length ≤ 3) (T : Str) (hT : T.length ≤ 4) (a : (Str → List Str) × Bool) (hW : OkW g T hs a.1) (r : Str × List Str) (hr : r.1 ∈ hs) (hrl : r.2.length ≤ 3) (hr1 : ∀ s ∈ r.2, s.length ≤ 4)
  (hpre : ∀ l, l <+: Tt T hs a.1 [eps] r.2 → OkW g T hs (l.foldl (Kv r.1) a).1) :
  evB (Phi 27) [] P5 [some (Qk g, 0), some (Q5 hs, 0), some (.str T, 0), some (Wc (tab hs a.1), 0), none, some (.bool a.2, 0), some (.str r.1, 0), some (Q5 r.2, 0), none, none, none, none, none, none] =
   some (.next [some (Qk g, 0), some (Q5 hs, 0), some (.str T, 0), some (Wc (tab hs (Yh T hs a r).1), 0), none, some (.bool (Yh T hs a r).2, 0), some (.str r.1, 0), some (Q5 r.2, 0), none, none, none, none, none, none]) := by
 have hWl := hW.len hT
 have hWi : ∀ h ∈ hs, ∀ u ∈ a.1 h, u.length ≤ 4 := fun h hh u hu => Nat.le_trans (J0 (hW.snd h hh u hu).1) hT
 (try dsimp only [P5, Qd, Wa, Qe, Ux, Qh]; try simp only [E2, Q7, OB, Vf, Q6, Qc, SS, SZ, W6, Q2, GS, GZ, v0, Qb, Tk, Wg, Rn])
 skip
 rw [Ng]
 rw [Qn PyData.str (fun ps => [some (Qk g, 0), some (Q5 hs, 0), some (.str T, 0), some (Wc (tab hs a.1), 0), none, some (.bool a.2, 0), some (.str r.1, 0), some (Q5 r.2, 0), some (Q5 ps, 0), none, none, none, none, none]) (Yr T hs a.1) r.2 [eps] ?_]
 ·rw [show r.2.foldl (Yr T hs a.1) [eps] = Tt T hs a.1 [eps] r.2 from rfl]
  (try dsimp only [Q8, Wp, SS, SZ, W6, Q2, GS, GZ, v0, Qb, OB, Tk, Wg, Rn])
  rw [Qn PyData.str (fun c : (Str → List Str) × Bool => [some (Qk g, 0), some (Q5 hs, 0), some (.str T, 0), some (Wc (tab hs c.1), 0), none, some (.bool c.2, 0), some (.str r.1, 0), some (Q5 r.2, 0), some (Q5 (Tt T hs a.1 [eps] r.2), 0), none, none, none, none, none]) (Kv r.1) (Tt T hs a.1 [eps] r.2) a ?_]
  ·(try dsimp only [Q8, Wp, SS, SZ, Qz, Qg])
   rfl
  ·intro pre p post e
   have hc := hpre pre ⟨p :: post, e.symm⟩
   generalize pre.foldl (Kv r.1) a = c at hc ⊢
   have hcl := hc.len hT r.1 hr
   have hk := Zx c.1 nd
   have htl := Ro c.1 hs
   (try dsimp only [f27_b4, SS, SZ, Qw, Qt, Q2, GS, GZ, v0, Q9, Qr, Wi, Q3])
   rw [Re _ _ _ _ _ hr]
   (try dsimp only [Dc, Q3]; try simp only [Ws, Bool.true_xor, OB, Q1])
   unfold Kv
   by_cases q : p ∈ c.1 r.1
   ·(try simp only [q, decide_true, Bool.not_true, W3, Qg, Q8, Ql, OM, Qi, SS, SZ, if_true])
   ·(try simp only [q, decide_false, Bool.not_false, Wk, Qd, Td, Wv, Yj, Q2, GS, GZ, v0, Wi, OB, U9, Wa, Qe, Rt, Q9, Qr, Q3, Qh, Q7, Vf, if_false])
    rw [Re _ _ _ _ _ hr]
    (try dsimp only [Dc, Q3])
    rw [Xp _ _ _ _ rfl rfl (by unfold lim; simp; lia)]
    (try dsimp only [Q3, Rs, Q7, OB])
    rw [U7]
    (try dsimp only [Q3])
    rw [Zv _ _ _ _ rfl rfl (by rw [Ro]; unfold lim; simp; lia)]
    (try dsimp only [OB]; try simp only [Y8, OB, Q6, Qc, SS, SZ, Qd, Wq, Qg, Q8, Ql, OM, Qi])
    rw [Ua hk, Z9 _ _ _ _ hr]
    skip
    skip
 ·intro pre s post e
  have hsr : s ∈ r.2 := by rw [e]; simp
  refine Ss g hs T hT a.1 hWl hWi a.2 r.1 r.2 (pre.foldl (Yr T hs a.1) [eps]) ?_ ?_ s (hr1 s hsr)
  ·exact Vw pre [eps] fun p hp => by rw [List.mem_singleton.mp hp]; exact J1 _
  ·have h1 := Gs (T := T) hWl pre [eps]
   have h2 : pre.length ≤ 2 := by rw [e] at hrl; simp at hrl; lia
   have h3 : 25 ^ pre.length ≤ 25 ^ 2 := Nat.pow_le_pow_right (by lia) h2
   have h4 : (pre.foldl (Yr T hs a.1) [eps]).length ≤ 25 ^ pre.length * [eps].length := h1
   simp only [List.length_singleton, Nat.mul_one] at h4
   have h5 : 25 ^ 2 = 625 := rfl
   lia
theorem sy_len {s : Str} (h : s ∈ SY) : s.length ≤ 4 := by
 have := M3 s h
 unfold One at this
 show s.cps.size ≤ 4
 omega
theorem sem27 {n : Nat} (hn : 27 < n) (g : Gr) (hg : OkG g) (T : Str) (hT : T.length ≤ 4) :
  ∃ W, (Phi n).sem 27 [Qk g, Q5 (Q4 g), .str T] = some (Wc (tab (Q4 g) W), 0) ∧ ∀ h ∈ Q4 g, (W h).Nodup ∧ ∀ u, u ∈ W h ↔ Ww u T = true ∧ ∃ us, D g h us ∧ u = W8 us := by
 have hh : ∀ h, h ∈ Q4 g ↔ h ∈ Q0 g := fun h => R7 hg
 have nd := (Rx g).nodup
 have hl3 : (Q4 g).length ≤ 3 := Wo (U := HS) nd fun h hh' => by
  obtain ⟨b, hb⟩ := Qa.mp ((hh h).mp hh')
  exact hg.head _ hb
 generalize Q4 g = hs at hh nd hl3
 have hok0 : OkW g T hs (fun _ => []) := ⟨fun _ _ _ h => (nomatch h), fun _ _ => List.nodup_nil⟩
 obtain ⟨⟨W, b⟩, hrun, ⟨hok, hcl⟩, hb⟩ := G7 (cond := fun σ => (evE (Phi 27) P3 σ).bind Wm) (body := fun σ => evB (Phi 27) [] Na σ)
  (fun a : (Str → List Str) × Bool => [some (Qk g, 0), some (Q5 hs, 0), some (.str T, 0), some (Wc (tab hs a.1), 0), none, some (.bool a.2, 0), none, none, none, none, none, none, none, none])
  (fun a => a.2) (fun a => g.foldl (Yh T hs) (a.1, false)) (fun a => OkW g T hs a.1 ∧ (a.2 = false → ∀ r ∈ g, ∀ p ∈ Tt T hs a.1 [eps] r.2, p ∈ a.1 r.1))
  (fun a => 2 * (75 - tot hs a.1) + (if a.2 then 1 else 0))
  (fun a _ => by (try dsimp only [P3, Wq, OB, Q1]))
  (fun a ha hc => by
   obtain ⟨W, b⟩ := a
   simp only at hc ha
   subst hc
   obtain ⟨i1, i2, i3, i4⟩ := Sv nd hh g (W, false) (fun _ h => h) ha.1
   refine ⟨?_, ⟨i1, fun e => ?_⟩, ?_⟩
   ·(try dsimp only [Na, Qw, H9, Q2, GS, GZ, v0, W2, OB, Q1, Jt]; try simp only [Bool.not_true, W3, Qg, Q8, Ql, Qd, Wq, OB, Q6, Qc, SS, SZ, L5, Q2, GZ, v0, Qm, Rd, Py])
    skip
    rw [Qn Wb (fun a : (Str → List Str) × Bool => [some (Qk g, 0), some (Q5 hs, 0), some (.str T, 0), some (Wc (tab hs a.1), 0), none, some (.bool a.2, 0), none, none, none, none, none, none, none, none]) (Yh T hs) g (W, false) ?_]
    ·(try dsimp only [Q8, Kw, SS, SZ, Qz, Qg])
    ·intro pre r post e
     have hr : r ∈ g := by rw [e]; simp
     have hrh : r.1 ∈ hs := (hh _).mpr (Qa.mpr ⟨_, hr⟩)
     have hpre := (Sv (T := T) nd hh pre (W, false) (fun x hx => by rw [e]; simp [hx]) ha.1).1
     generalize pre.foldl (Yh T hs) (W, false) = a at hpre ⊢
     (try dsimp only [Ge, SS, SZ, OB])
     rw [Su g hs nd hl3 T hT a hpre r hrh (hg.short r hr) (fun s hs' => sy_len (hg.sym r hr s hs')) (fun l hl => by
      refine (J7 nd hrh l a hpre fun p hp => ?_).1
      have hp' := hl.subset hp
      exact ⟨Vw r.2 [eps] (fun p hp => by rw [List.mem_singleton.mp hp]; exact J1 _) p hp', by
       obtain ⟨p0, h0, us, h1, rfl⟩ := Xf hh hpre.snd r.2 [eps] p hp'
       rw [List.mem_singleton.mp h0, Xi]
       exact ⟨us, ⟨r.2, hr, h1⟩, rfl⟩⟩)]
     (try dsimp only [OM, Qi, SS, SZ])
   ·rw [(i4 e).1]; exact (i4 e).2
   ·have h1 := ha.1.tot hT
    have h2 := i1.tot hT
    simp only [if_true] at *
    cases e : (g.foldl (Yh T hs) (W, false)).2 with
    | false =>
     rw [(i4 e).1]
     simp
    | true =>
     rcases i3 e with h | h
     ·cases h
     ·simp only [if_true]
      omega)
  (fun a ha hc => by
   obtain ⟨W, b⟩ := a
   simp only at hc
   subst hc
   (try dsimp only [Na, Qw, H9, Q2, GS, GZ, v0, W2, OB, Q1, Jt]; try simp only [Bool.not_false, Wk, Qz, SS, SZ, Hj, H0]))
  Hq (fun _ => [], true) ⟨hok0, fun e => by cases e⟩ (by rw [Ls]; simp; omega)
 refine ⟨W, ?_, fun h hh' => ⟨hok.nd h hh', Nv hh hok (hcl hb) h hh'⟩⟩
 simp only at hb
 subst hb
 rw [W0 hn (F := f27) rfl]
 rw [z3 (F := f27) rfl]
 dsimp only [f27, Nat.reduceSub, RS, RZ]
 (try dsimp only [Qd, Yk, OB, Q6, Qc, SS, SZ, W6, Q2, GS, GZ, v0, Qb, Tk, Wg, Rn])
 rw [show PyData.dict [] = Wc (tab [] fun _ => []) from rfl]
 skip
 rw [Qn PyData.str (fun E => [some (Qk g, 0), some (Q5 hs, 0), some (.str T, 0), some (Wc E, 0), none, none, none, none, none, none, none, none, none, none]) (fun E h => R4 E h []) hs (tab [] fun _ => []) ?_]
 ·rw [U4 (fun _ => ([] : List Str)) hs [] (by simpa using nd), List.nil_append]
  (try dsimp only [Q8, Wp, SS, SZ, Qd, Wq, OB, Q6, Qc, Yo])
  skip
  simp only at hrun
  rw [hrun]
  (try dsimp only [Q8, Ql, R3, Wr, List.contains_nil, BF, dreduceIte, Q2]; try simp only [List.mapIdx_cons, List.mapIdx_nil, GS, GZ, v0, Wi, OB, Rl, rr])
 ·intro pre h post e
  have hpn : pre.Nodup := by rw [e] at nd; exact (List.nodup_append.mp nd).1
  have hpl : pre.length ≤ 3 := by rw [e] at hl3; simp at hl3; omega
  rw [U4 (fun _ => ([] : List Str)) pre [] (by simpa using hpn), List.nil_append]
  have kE := Zx (fun _ => ([] : List Str)) hpn
  (try dsimp only [f27_b0, SS, SZ, Qd, Td, Wv, Yj, Q2, GS, GZ, v0, Wi, OB, Wa, Qe, Rt, Q9, Qh, Uy, Q3, Rs, Q7]; try simp only [U9])
  rw [U7]
  (try dsimp only [Q3])
  rw [Zv _ _ _ _ rfl rfl (by rw [Ro]; unfold lim; simp; omega)]
  (try dsimp only [OB]; try simp only [Y8, OB, Q6, Qc, SS, SZ, Qg, OM, Qi])
  rw [Ua kE]
  skip
theorem Lm {s : Str} (h : One s) : ∃ c, s.cps.toList = [c] := by
 unfold One at h
 exact List.length_eq_one_iff.mp (by rw [Array.length_toList]; exact h)
theorem Xh (u : Str) (us : List Str) : (W8 (u :: us)).cps.toList = u.cps.toList ++ (W8 us).cps.toList := J6 u (W8 us)
theorem Kf : ∀ us vs : List Str, (∀ s ∈ us, One s) → (∀ s ∈ vs, One s) → W8 us = W8 vs → us = vs
 | [], [], _, _, _ => rfl
 | [], v :: vs, _, hv, e => by
  obtain ⟨c, hc⟩ := Lm (hv v (.head _))
  have := congrArg (fun s : Str => s.cps.toList) e
  simp only [Xh, hc] at this
  cases this
 | u :: us, [], hu, _, e => by
  obtain ⟨c, hc⟩ := Lm (hu u (.head _))
  have := congrArg (fun s : Str => s.cps.toList) e
  simp only [Xh, hc] at this
  cases this
 | u :: us, v :: vs, hu, hv, e => by
  obtain ⟨c, hc⟩ := Lm (hu u (.head _))
  obtain ⟨d, hd⟩ := Lm (hv v (.head _))
  have := congrArg (fun s : Str => s.cps.toList) e
  simp only [Xh, hc, hd, List.singleton_append, List.cons.injEq] at this
  obtain ⟨h1, h2⟩ := this
  rw [Xd (by rw [hc, hd, h1] : u.cps.toList = v.cps.toList), Kf us vs (fun s hs => hu s (.tail _ hs)) (fun s hs => hv s (.tail _ hs)) (Xd h2)]
theorem Be : ∀ us : List Str, (∀ s ∈ us, One s) → (W8 us).length = us.length
 | [], _ => rfl
 | u :: us, h => by
  obtain ⟨c, hc⟩ := Lm (h u (.head _))
  have h1 := Be us fun s hs => h s (.tail _ hs)
  have h2 := congrArg List.length (Xh u us)
  rw [hc] at h2
  simp only [Array.length_toList, List.length_append, List.length_singleton] at h2
  show (W8 (u :: us)).cps.size = _
  change (W8 us).cps.size = _ at h1
  rw [List.length_cons]
  lia
theorem DB.syms {g : Gr} (hg : OkG g) {b us : List Str} (d : DB g b us) : (∀ s ∈ b, s ∈ SY) → ∀ u ∈ us, u ∈ SY := by
 induction d with
 | nil => intro _ u hu; cases hu
 | tok _ _ ih =>
  intro h u hu
  rcases List.mem_cons.mp hu with rfl | hu
  ·exact h _ (.head _)
  ·exact ih (fun s hs => h s (.tail _ hs)) u hu
 | head h1 _ _ ih1 ih2 =>
  intro h u hu
  rcases List.mem_append.mp hu with hu | hu
  ·exact ih1 (hg.sym _ h1) u hu
  ·exact ih2 (fun s hs => h s (.tail _ hs)) u hu
theorem D.one {g : Gr} (hg : OkG g) {h : Str} {us : List Str} (d : D g h us) : ∀ u ∈ us, One u := fun u hu => by
 obtain ⟨b, hb, hd⟩ := d
 exact M3 u (hd.syms hg (hg.sym _ hb) u hu)
theorem DB.nulls {g : Gr} {b us : List Str} (d : DB g b us) : us = [] → ∀ s ∈ b, Built g [] s := by
 induction d with
 | nil => intro _ s hs; cases hs
 | tok _ _ _ => intro e; cases e
 | head h1 _ _ ih1 ih2 =>
  intro e s hs
  obtain ⟨e1, e2⟩ := List.append_eq_nil_iff.mp e
  rcases List.mem_cons.mp hs with rfl | hs
  ·exact .mk h1 fun s' hs' _ => ih1 e1 s' hs'
  ·exact ih2 e2 s hs
theorem DB.of_nulls {g : Gr} : ∀ {b : List Str}, (∀ s ∈ b, D g s []) → DB g b []
 | [], _ => .nil
 | s :: b, h => by
  obtain ⟨b', h1, h2⟩ := h s (.head _)
  have := DB.head h1 h2 (DB.of_nulls fun s' hs' => h s' (.tail _ hs'))
  simpa using this
theorem D_null {g : Gr} {h : Str} : D g h [] ↔ Built g [] h := by
 constructor
 ·rintro ⟨b, hb, hd⟩
  exact .mk hb fun s hs _ => hd.nulls rfl s hs
 ·intro b
  induction b with
  | mk hb _ ih => exact ⟨_, hb, DB.of_nulls fun s hs => ih s hs (fun c => nomatch c)⟩
theorem DB.built {g : Gr} {b us : List Str} (d : DB g b us) : ∀ s ∈ b, s ∈ Q0 g → Built g (Qx g) s := by
 induction d with
 | nil => intro s hs; cases hs
 | tok h1 _ ih =>
  intro s hs hh
  rcases List.mem_cons.mp hs with rfl | hs
  ·exact absurd hh h1
  ·exact ih s hs hh
 | head h1 _ _ ih1 ih2 =>
  intro s hs hh
  rcases List.mem_cons.mp hs with rfl | hs
  ·refine .mk h1 fun s' hs' hn => ?_
   by_cases q : s' ∈ Q0 g
   ·exact ih1 s' hs' q
   ·exact absurd (R0.mpr ⟨⟨_, h1, hs'⟩, q⟩) hn
  ·exact ih2 s hs hh
theorem D.built {g : Gr} {h : Str} {us : List Str} (d : D g h us) : Built g (Qx g) h := by
 obtain ⟨b, hb, hd⟩ := d
 refine .mk hb fun s' hs' hn => ?_
 by_cases q : s' ∈ Q0 g
 ·exact hd.built s' hs' q
 ·exact absurd (R0.mpr ⟨⟨_, hb, hs'⟩, q⟩) hn
theorem Bw {g : Gr} (hg : OkG g) {h : Str} {w : List Str} (hw : ∀ s ∈ w, One s) {Wh : List Str} (hW : ∀ u, u ∈ Wh ↔ Ww u (W8 w) = true ∧ ∃ us, D g h us ∧ u = W8 us) : W8 w ∈ Wh ↔ D g h w := by
 rw [hW]
 constructor
 ·rintro ⟨_, us, h1, h2⟩
  rw [Kf w us hw (h1.one hg) h2]
  exact h1
 ·intro h1
  exact ⟨Au _, w, h1, rfl⟩
theorem G6 {g : Gr} (hg : OkG g) {h : Str} {T : Str} {Wh : List Str} (hW : ∀ u, u ∈ Wh ↔ Ww u T = true ∧ ∃ us, D g h us ∧ u = W8 us) : eps ∈ Wh ↔ Built g [] h := by
 rw [hW, ← D_null]
 constructor
 ·rintro ⟨_, us, h1, h2⟩
  rw [← Kf [] us (fun _ h => nomatch h) (h1.one hg) h2] at h1
  exact h1
 ·intro h1
  exact ⟨J1 _, [], h1, rfl⟩
theorem Nw {g : Gr} (hg : OkG g) {h : Str} {Wh : List Str} (nd : Wh.Nodup) (hW : ∀ u, u ∈ Wh ↔ Ww u eps = true ∧ ∃ us, D g h us ∧ u = W8 us) : Wh = [eps] ↔ Built g [] h := by
 rw [← G6 hg hW]
 have hall : ∀ u ∈ Wh, u = eps := fun u hu => by
  have := J0 ((hW u).mp hu).1
  refine Xd ?_
  have h0 : u.cps.toList.length = 0 := by
   rw [Array.length_toList]
   have : u.cps.size ≤ 0 := this
   lia
  rw [List.length_eq_zero_iff.mp h0]; rfl
 constructor
 ·intro e; rw [e]; exact .head _
 ·intro h
  match Wh, nd, hall, h with
  | [], _, _, h => cases h
  | [a], _, hall, _ => rw [hall a (.head _)]
  | a :: b :: r, nd, hall, _ =>
   have h1 := hall a (.head _)
   have h2 := hall b (.tail _ (.head _))
   rw [h1, h2] at nd
   exact absurd (.head _) (List.nodup_cons.mp nd).1
noncomputable def Ji (g : Gr) (hs : List Str) (k : Nat) : List Str := (T1 g hs k).map (·.1)
theorem Uu {g : Gr} {hs : List Str} {k : Nat} {r : Str × List Str} : r ∈ T1 g hs (k + 1) ↔ r ∈ g ∧ ∀ s ∈ r.2, s ∈ hs → s ∈ Ji g hs k := by
 rw [A1, List.mem_filter]
 refine and_congr_right fun _ => ?_
 rw [decide_eq_true_eq, List.filter_eq_nil_iff]
 refine forall_congr' fun s => forall_congr' fun _ => ?_
 rw [BA, decide_eq_true_eq, Bool.not_eq_true', decide_eq_false_iff_not]
 constructor
 ·intro h hs; exact BC fun c => h ⟨hs, c⟩
 ·rintro h ⟨a, b⟩; exact b (h a)
theorem D2 {g : Gr} {hs : List Str} : ∀ {k : Nat} {x : Str}, x ∈ Ji g hs k → x ∈ Ji g hs (k + 1)
 | 0, x, h => by cases h
 | k + 1, x, h => by
  obtain ⟨r, hr, rfl⟩ := List.mem_map.mp h
  obtain ⟨h1, h2⟩ := Uu.mp hr
  exact List.mem_map.mpr ⟨r, Uu.mpr ⟨h1, fun s hs1 hs2 => D2 (h2 s hs1 hs2)⟩, rfl⟩
theorem Hc {g : Gr} {hs : List Str} (hh : ∀ h, h ∈ hs ↔ h ∈ Q0 g) : ∀ {k : Nat} {x : Str}, x ∈ Ji g hs k → Built g (Qx g) x
 | 0, x, h => by cases h
 | k + 1, x, h => by
  obtain ⟨r, hr, rfl⟩ := List.mem_map.mp h
  obtain ⟨h1, h2⟩ := Uu.mp hr
  refine Built.mk (b := r.2) h1 fun s hs1 hn => ?_
  by_cases q : s ∈ Q0 g
  ·exact Hc hh (h2 s hs1 ((hh s).mpr q))
  ·exact absurd (R0.mpr ⟨⟨_, h1, hs1⟩, q⟩) hn
noncomputable def Gk (g : Gr) (hs : List Str) (k : Nat) : Prop := ∀ x ∈ Ji g hs (k + 1), x ∈ Ji g hs k
theorem Jp {g : Gr} {hs : List Str} {k : Nat} (h : Gk g hs k) : Gk g hs (k + 1) := fun x hx => by
 obtain ⟨r, hr, rfl⟩ := List.mem_map.mp hx
 obtain ⟨h1, h2⟩ := Uu.mp hr
 exact List.mem_map.mpr ⟨r, Uu.mpr ⟨h1, fun s hs1 hs2 => h s (h2 s hs1 hs2)⟩, rfl⟩
theorem stabP_3 {g : Gr} {hs : List Str} (hf : (Q0 g).length ≤ 3) : Gk g hs 3 := by
 have hcount : ∀ k, ¬ Gk g hs k → ((Q0 g).countP fun x => decide (x ∈ Ji g hs k)) < ((Q0 g).countP fun x => decide (x ∈ Ji g hs (k + 1))) := fun k hk => by
  obtain ⟨x, hx⟩ := Classical.not_forall.mp hk
  obtain ⟨h1, h2⟩ := Classical.not_imp.mp hx
  refine Ku (c := x) (Q0 g) (fun y _ hy => ?_) ?_ ?_ ?_
  ·simp only [decide_eq_true_eq] at hy ⊢; exact D2 hy
  ·obtain ⟨r, hr, rfl⟩ := List.mem_map.mp h1
   exact Qa.mpr ⟨r.2, C7 r hr⟩
  ·simpa using h2
  ·simpa using h1
 have hle : ((Q0 g).countP fun x => decide (x ∈ Ji g hs 4)) ≤ 3 := Nat.le_trans List.countP_le_length hf
 refine BC fun c3 => ?_
 have c2 : ¬ Gk g hs 2 := fun c => c3 (Jp c)
 have c1 : ¬ Gk g hs 1 := fun c => c2 (Jp c)
 have c0 : ¬ Gk g hs 0 := fun c => c1 (Jp c)
 have h0 := hcount 0 c0
 have h1 := hcount 1 c1
 have h2 := hcount 2 c2
 have h3 := hcount 3 c3
 simp only [Nat.zero_add, Nat.reduceAdd] at h0 h1 h2 h3
 lia
theorem Ed {g : Gr} {hs : List Str} (hh : ∀ h, h ∈ hs ↔ h ∈ Q0 g) (hf : (Q0 g).length ≤ 3) {x : Str} : x ∈ Ji g hs 3 ↔ Built g (Qx g) x := by
 constructor
 ·exact Hc hh
 ·intro b
  induction b with
  | @mk h b hb _ ih =>
   refine stabP_3 hf h (List.mem_map.mpr ⟨(h, b), Uu.mpr ⟨hb, fun s hs1 hs2 => ih s hs1 fun c => ?_⟩, rfl⟩)
   exact (R0.mp c).2 ((hh s).mp hs2)
theorem Ix {g : Gr} {hs : List Str} (hh : ∀ h, h ∈ hs ↔ h ∈ Q0 g) (hf : (Q0 g).length ≤ 3) {P : List Str} (hP : ∀ h, h ∈ P ↔ Built g (Qx g) h) (st : Str) : Tr g hs st = Tx g P st := by
 have key : ∀ r ∈ g, decide ((r.2.filter fun s => decide (s ∈ hs) && !decide (s ∈ (T1 g hs 3).map (·.1))) = []) = okR P (Qx g) r := fun r hr => by
  rw [Bool.eq_iff_iff]
  have h1 : decide ((r.2.filter fun s => decide (s ∈ hs) && !decide (s ∈ (T1 g hs 3).map (·.1))) = []) = true ↔ r ∈ T1 g hs 4 := by
   rw [show T1 g hs 4 = g.filter fun r => decide ((r.2.filter fun s => decide (s ∈ hs) && !decide (s ∈ (T1 g hs 3).map (·.1))) = []) from rfl, List.mem_filter]; exact ⟨fun h => ⟨hr, h⟩, fun h => h.2⟩
  rw [h1, Uu, Zf]
  constructor
  ·rintro ⟨_, h2⟩
   have h3 : ∀ s ∈ r.2, s ∈ Q0 g → Built g (Qx g) s := fun s hs1 hs2 => (Ed hh hf).mp (h2 s hs1 ((hh s).mpr hs2))
   have h4 : ∀ s ∈ r.2, s ∈ P ∨ s ∈ Qx g := fun s hs1 => by
    by_cases q : s ∈ Q0 g
    ·exact .inl ((hP s).mpr (h3 s hs1 q))
    ·exact .inr (R0.mpr ⟨⟨r, hr, hs1⟩, q⟩)
   refine ⟨(hP _).mpr (Built.mk (b := r.2) hr fun s hs1 hn => ?_), h4⟩
   rcases h4 s hs1 with h | h
   ·exact (hP s).mp h
   ·exact absurd h hn
  ·rintro ⟨_, h2⟩
   refine ⟨hr, fun s hs1 hs2 => (Ed hh hf).mpr ?_⟩
   rcases h2 s hs1 with h | h
   ·exact (hP s).mp h
   ·exact absurd ((hh s).mp hs2) (R0.mp h).2
 have e4 : T1 g hs 4 = g.filter (okR P (Qx g)) := by
  rw [A1]
  exact List.filter_congr key
 unfold Tr Tx K8 Gu
 rw [e4, List.filter_filter, List.filter_filter]
 congr 1 <;> refine List.filter_congr fun r _ => ?_ <;> rw [Bool.and_comm]
theorem Dp {l : Gr} {h x : Str} : x ∈ Qu (Fl l) h ↔ ∃ b, (h, b) ∈ l ∧ x ∈ b := by
 have := (Nh l [] (by unfold L7; simp)).2.1 h x
 unfold Fl
 rw [this]
 constructor
 ·rintro (c | c)
  ·cases c
  ·exact c
 ·exact .inr
theorem rch_left {l : Gr} {st x : Str} (hx : x ∈ Q0 l) : Rch (T2 l) [st] x ↔ Rch (Qu (Fl l)) [st] x := by
 constructor
 ·intro h
  clear hx
  induction h with
  | root h => exact .root h
  | step _ h ih => exact .step ih (Dp.mpr (Rg.mp h).2)
 ·intro h
  induction h with
  | root h => exact .root h
  | step h1 h ih =>
   obtain ⟨b, hb, hy⟩ := Dp.mp h
   exact .step (ih (Qa.mpr ⟨b, hb⟩)) (Rg.mpr ⟨hx, b, hb, hy⟩)
theorem trim_eq {g : Gr} (hg : OkG g) {st : Str × List Str} {t : Gr} (ht : IsTrim g st.1 t) {R : List Str} (hR : ∀ x, x ∈ R ↔ Rch (Qu (Fl (Tr g (Q4 g) st.1))) [st.1] x) :
  t = (Tr g (Q4 g) st.1).filter fun r => decide (r.1 ∈ R) := by
 refine BC fun nn => ?_
 obtain ⟨P, cP, mP, h⟩ := ht.ex
 refine nn ?_; clear nn
 have hl := Ix (g := g) (hs := Q4 g) (fun h => R7 hg) (Ti hg) mP st.1
 rw [hl] at hR ⊢
 rcases h with ⟨h1, rfl⟩ | ⟨h1, R', hR', rfl⟩
 ·symm
  rw [List.filter_eq_nil_iff]
  intro r hr
  rw [decide_eq_true_eq, hR]
  have key : ∀ x, Rch (Qu (Fl (Tx g P st.1))) [st.1] x → x = st.1 := fun x hx => by
   induction hx with
   | root h => exact List.mem_singleton.mp h
   | step _ h ih =>
    refine BC fun nn => ?_
    obtain ⟨b, hb, _⟩ := Dp.mp h
    refine nn ?_; clear nn
    rw [ih] at hb
    exact absurd (Zf.mp (T5.mp hb).2).1 h1
  intro c
  have := key _ c
  have h2 := (Zf.mp (T5.mp hr).2).1
  rw [this] at h2
  exact h1 h2
 ·refine List.filter_congr fun r hr => ?_
  rw [Bool.eq_iff_iff, decide_eq_true_eq, decide_eq_true_eq, hR, hR']
  exact rch_left (Qa.mpr ⟨r.2, hr⟩)
structure Trm (g : Gr) (st : Str) (t : Gr) : Prop where
 sub : ∀ r ∈ t, r ∈ g
 ok : OkG t
 start : ∃ b rest, t = (st, b) :: rest
 closed : ∀ r ∈ t, ∀ s ∈ r.2, s ∈ Q0 g → s ∈ Q0 t
 prod : ∀ h ∈ Q0 t, Built t (Qx t) h
 reach : ∀ h ∈ Q0 t, Rch (T2 t) [st] h
 full : ∀ r ∈ g, r.1 ∈ Q0 t → (∀ s ∈ r.2, s ∈ Q0 g → Built g (Qx g) s) → r ∈ t
 order : t = (t.filter fun r => decide (r.1 = st)) ++ t.filter fun r => !decide (r.1 = st)
theorem trm_of {g : Gr} (hg : OkG g) {st : Str} {t : Gr} (ht : IsTrim g st t) (hne : t ≠ []) : Trm g st t := by
 refine BC fun nn => ?_
 obtain ⟨P, cP, mP, h⟩ := ht.ex
 refine nn ?_; clear nn
 rcases h with ⟨_, e⟩ | ⟨hst, R, hR, e⟩
 ·exact absurd e hne
 have hm : ∀ r, r ∈ t ↔ (r ∈ g ∧ okR P (Qx g) r = true) ∧ r.1 ∈ R := fun r => by
  rw [e, List.mem_filter, T5, decide_eq_true_eq]
 have hhR : ∀ h ∈ Q0 t, h ∈ R := fun h hh => by
  obtain ⟨b, hb⟩ := Qa.mp hh
  exact ((hm _).mp hb).2
 have hsubh : ∀ h ∈ Q0 t, h ∈ Q0 g := fun h hh => by
  obtain ⟨b, hb⟩ := Qa.mp hh
  exact Qa.mpr ⟨b, ((hm _).mp hb).1.1⟩
 have hrule : ∀ s b, (s, b) ∈ g → (∀ s' ∈ b, s' ∉ Qx g → Built g (Qx g) s') → okR P (Qx g) (s, b) = true := fun s b hb hB => by
  refine Zf.mpr ⟨(mP s).mpr (.mk hb hB), fun s' hs' => ?_⟩
  by_cases q : s' ∈ Qx g
  ·exact .inr q
  ·exact .inl ((mP s').mpr (hB s' hs' q))
 have hlt : ∀ s, Built g (Qx g) s → s ∈ R → s ∈ Q0 t := fun s hB hs => by
  cases hB with
  | mk hb hB => exact Qa.mpr ⟨_, (hm _).mpr ⟨⟨hb, hrule _ _ hb hB⟩, hs⟩⟩
 have hstep : ∀ r ∈ t, ∀ s ∈ r.2, s ∈ Q0 g → Built g (Qx g) s ∧ s ∈ R := fun r hr s hs hh => by
  refine BC fun nn => ?_
  obtain ⟨⟨h1, h2⟩, h3⟩ := (hm r).mp hr
  refine nn ?_; clear nn
  have hB : Built g (Qx g) s := by
   rcases (Zf.mp h2).2 s hs with h | h
   ·exact (mP s).mp h
   ·exact absurd hh (R0.mp h).2
  refine ⟨hB, (hR s).mpr (.step ((hR _).mp h3) (Rg.mpr ⟨?_, r.2, T5.mpr ⟨h1, h2⟩, hs⟩))⟩
  cases hB with
  | mk hb hB => exact Qa.mpr ⟨_, T5.mpr ⟨hb, hrule _ _ hb hB⟩⟩
 have hclosed : ∀ r ∈ t, ∀ s ∈ r.2, s ∈ Q0 g → s ∈ Q0 t := fun r hr s hs hh => hlt s (hstep r hr s hs hh).1 (hstep r hr s hs hh).2
 have hlen : t.length ≤ g.length := by
  rw [e]
  refine Nat.le_trans (List.length_filter_le _ _) ?_
  unfold Tx K8 Gu
  rw [List.length_append]
  exact Vb _ _ g
 refine ⟨fun r hr => ((hm r).mp hr).1.1, ⟨Nat.le_trans hlen hg.few, fun r hr => hg.short r ((hm r).mp hr).1.1, fun r hr => hg.head r ((hm r).mp hr).1.1, fun r hr => hg.sym r ((hm r).mp hr).1.1⟩, ?_, hclosed, ?_, ?_, ?_, ?_⟩
 ·obtain ⟨b, rest, hl⟩ := Vh mP hst
  refine ⟨b, rest.filter fun r => decide (r.1 ∈ R), ?_⟩
  rw [e, hl, List.filter_cons, if_pos (by rw [decide_eq_true_eq]; exact (hR st).mpr (.root (.head _)))]
 ·intro h hh
  have hR1 := hhR h hh
  obtain ⟨b, hb⟩ := Qa.mp hh
  have hB : Built g (Qx g) h := (mP h).mp (Zf.mp ((hm _).mp hb).1.2).1
  clear hh hb
  induction hB with
  | @mk h b hb hB ih =>
   have hbt : (h, b) ∈ t := (hm _).mpr ⟨⟨hb, hrule _ _ hb hB⟩, hR1⟩
   refine .mk hbt fun s hs hn => ?_
   have hst' : s ∈ Q0 t := BC fun c => hn (R0.mpr ⟨⟨_, hbt, hs⟩, c⟩)
   exact ih s hs (fun c => (R0.mp c).2 (hsubh s hst')) (hhR s hst')
 ·intro h hh
  have hr := (hR h).mp (hhR h hh)
  clear hh
  induction hr with
  | root h => exact .root h
  | @step x y h1 h2 ih =>
   obtain ⟨h3, b, h4, h5⟩ := Rg.mp h2
   have hx : x ∈ R := (hR x).mpr h1
   have hy : y ∈ R := (hR y).mpr (.step h1 h2)
   obtain ⟨b', hb'⟩ := Qa.mp h3
   refine .step ih (Rg.mpr ⟨Qa.mpr ⟨b', (hm _).mpr ⟨T5.mp hb', hy⟩⟩, b, (hm _).mpr ⟨T5.mp h4, hx⟩, h5⟩)
 ·intro r hr hh hB
  refine (hm r).mpr ⟨⟨hr, hrule r.1 r.2 hr fun s hs hn => ?_⟩, hhR _ hh⟩
  by_cases q : s ∈ Q0 g
  ·exact hB s hs q
  ·exact absurd (R0.mpr ⟨⟨_, hr, hs⟩, q⟩) hn
 ·have h1 : (t.filter fun r => decide (r.1 = st)) = (K8 g P st).filter fun r => decide (r.1 ∈ R) := by
   rw [e]
   unfold Tx
   rw [List.filter_filter, List.filter_append]
   have ha : ((K8 g P st).filter fun r => decide (r.1 = st) && decide (r.1 ∈ R)) = (K8 g P st).filter fun r => decide (r.1 ∈ R) := List.filter_congr fun r hr => by
    have := (List.mem_filter.mp hr).2
    rw [BA] at this
    rw [this.2, Bool.true_and]
   have hb : ((Gu g P st).filter fun r => decide (r.1 = st) && decide (r.1 ∈ R)) = [] := by
    rw [List.filter_eq_nil_iff]
    intro r hr
    have := (List.mem_filter.mp hr).2
    rw [BA, Bool.not_eq_true'] at this
    rw [this.2]; simp
   rw [ha, hb, List.append_nil]
  have h2 : (t.filter fun r => !decide (r.1 = st)) = (Gu g P st).filter fun r => decide (r.1 ∈ R) := by
   rw [e]
   unfold Tx
   rw [List.filter_filter, List.filter_append]
   have ha : ((Gu g P st).filter fun r => !decide (r.1 = st) && decide (r.1 ∈ R)) = (Gu g P st).filter fun r => decide (r.1 ∈ R) := List.filter_congr fun r hr => by
    have := (List.mem_filter.mp hr).2
    rw [BA] at this
    rw [this.2, Bool.true_and]
   have hb : ((K8 g P st).filter fun r => !decide (r.1 = st) && decide (r.1 ∈ R)) = [] := by
    rw [List.filter_eq_nil_iff]
    intro r hr
    have := (List.mem_filter.mp hr).2
    rw [BA] at this
    rw [this.2]; simp
   rw [ha, hb, List.nil_append]
  rw [h1, h2]
  conv => lhs; rw [e]
  unfold Tx
  rw [List.filter_append]
theorem Sx {g : Gr} {st : Str} (ht : IsTrim g st []) (w : List Str) : ¬ D g st w := by
 obtain ⟨P, cP, mP, h⟩ := ht.ex
 rcases h with ⟨h, _⟩ | ⟨hst, R, hR, e⟩
 ·exact fun d => h ((mP st).mpr d.built)
 ·refine BC fun nn => ?_
  obtain ⟨b, rest, hl⟩ := Vh mP hst
  refine nn ?_; clear nn
  rw [hl, List.filter_cons, if_pos (by rw [decide_eq_true_eq]; exact (hR st).mpr (.root (.head _)))] at e
  cases e
theorem Trm.head {g : Gr} {st : Str} {t : Gr} (k : Trm g st t) : st ∈ Q0 t := by
 obtain ⟨b, rest, e⟩ := k.start
 exact Qa.mpr ⟨b, by rw [e]; exact .head _⟩
theorem Trm.subh {g : Gr} {st : Str} {t : Gr} (k : Trm g st t) : ∀ h ∈ Q0 t, h ∈ Q0 g := fun h hh => by
 obtain ⟨b, hb⟩ := Qa.mp hh
 exact Qa.mpr ⟨b, k.sub _ hb⟩
theorem Trm.idem {g : Gr} {st : Str} {t t' : Gr} (k : Trm g st t) (ht : IsTrim t st t') : t' = t := by
 obtain ⟨P, cP, mP, h⟩ := ht.ex
 have hst : st ∈ P := (mP st).mpr (k.prod st k.head)
 rcases h with ⟨h, _⟩ | ⟨_, R, hR, e⟩
 ·exact absurd hst h
 ·have hok : ∀ r ∈ t, okR P (Qx t) r = true := fun r hr => by
   refine Zf.mpr ⟨(mP _).mpr (k.prod _ (Qa.mpr ⟨r.2, hr⟩)), fun s hs => ?_⟩
   by_cases q : s ∈ Q0 t
   ·exact .inl ((mP s).mpr (k.prod s q))
   ·exact .inr (R0.mpr ⟨⟨r, hr, hs⟩, q⟩)
  have hl : Tx t P st = t := by
   conv => rhs; rw [k.order]
   unfold Tx K8 Gu
   congr 1 <;> refine List.filter_congr fun r hr => ?_ <;> rw [hok r hr, Bool.true_and]
  rw [hl] at e hR
  rw [e, List.filter_eq_self]
  intro r hr
  rw [decide_eq_true_eq, hR]
  exact k.reach _ (Qa.mpr ⟨r.2, hr⟩)
theorem Trm.der {g : Gr} {st : Str} {t : Gr} (k : Trm g st t) {h : Str} (hh : h ∈ Q0 t) {u : List Str} : D t h u ↔ D g h u := by
 have h1 : ∀ {b us}, DB t b us → (∀ s ∈ b, s ∈ Q0 g → s ∈ Q0 t) → DB g b us := fun {b us} d => by
  induction d with
  | nil => intro _; exact .nil
  | tok h _ ih => exact fun hb => .tok (fun c => h (hb _ (.head _) c)) (ih fun s hs => hb s (.tail _ hs))
  | head h _ _ ih1 ih2 => exact fun hb => .head (k.sub _ h) (ih1 (k.closed _ h)) (ih2 fun s hs => hb s (.tail _ hs))
 have h2 : ∀ {b us}, DB g b us → (∀ s ∈ b, s ∈ Q0 g → s ∈ Q0 t) → DB t b us := fun {b us} d => by
  induction d with
  | nil => intro _; exact .nil
  | tok h _ ih => exact fun hb => .tok (fun c => h (k.subh _ c)) (ih fun s hs => hb s (.tail _ hs))
  | @head s b r u v h hd _ ih1 ih2 =>
   intro hb
   have hm : (s, b) ∈ t := k.full _ h (hb s (.head _) (Qa.mpr ⟨_, h⟩)) hd.built
   exact .head hm (ih1 (k.closed _ hm)) (ih2 fun s hs => hb s (.tail _ hs))
 constructor
 ·rintro ⟨b, hb, hd⟩; exact ⟨b, k.sub _ hb, h1 hd (k.closed _ hb)⟩
 ·rintro ⟨b, hb, hd⟩
  have hm : (h, b) ∈ t := k.full _ hb hh hd.built
  exact ⟨b, hm, h2 hd (k.closed _ hm)⟩
noncomputable def Ta (g : Gr) (hs N : List Str) (st : Str) : Gr := tab (ks hs) (Rz (Wn (fun _ => []) (gt st) [sD]) (g.flatMap (R9 N hs)))
theorem Up {N : List Str} {z x : Str} {l : List Str} : x ∈ Wy N [z] l ↔ x ∈ Tf N l ∨ ((∀ s ∈ l, s ∈ N) ∧ x = z) := by
 unfold Wy
 rw [List.mem_append]
 refine or_congr_right ?_
 by_cases q : (l.all fun s => decide (s ∈ N)) = true
 ·rw [if_pos q]
  rw [List.all_eq_true] at q
  constructor
  ·intro h; exact ⟨fun s hs => by simpa using q s hs, List.mem_singleton.mp h⟩
  ·rintro ⟨_, rfl⟩; exact .head _
 ·rw [if_neg q]
  rw [List.all_eq_true] at q
  constructor
  ·intro h; cases h
  ·rintro ⟨h, _⟩; exact absurd (fun s hs => by simpa using h s hs) q
theorem Bc {N l : List Str} : Wy N [] l = Tf N l := by
 unfold Wy
 split <;> simp
section
variable {g : Gr} {N : List Str} {st : Str × List Str} {rest : Gr} {hs : List Str}
theorem Vy (y x : Str) : x ∈ Qu (Ta g hs N st.1) y ↔ y ∈ ks hs ∧ ((y = gt st.1 ∧ x = sD) ∨ ∃ r ∈ g, (r.1 = y ∧ x ∈ Tf N r.2) ∨ ∃ k, k < r.2.length ∧ W5 (r, k) ∈ hs ∧ gt (W5 (r, k)) = y ∧ x ∈ Wy N [gt r.1] (r.2.drop (k + 1))) := by
 unfold Qu Ta
 rw [W7]
 by_cases q : y ∈ ks hs
 ·rw [if_pos q, Option.getD_some, Dz]
  refine Iff.trans ?_ (and_iff_right q).symm
  have h1 : x ∈ Wn (fun _ => []) (gt st.1) [sD] y ↔ y = gt st.1 ∧ x = sD := by
   unfold Wn
   by_cases p : y = gt st.1
   ·rw [if_pos p]; simp [p]
   ·rw [if_neg p]; simp [p]
  rw [h1]
  refine or_congr_right ?_
  constructor
  ·rintro ⟨p, hp, e, hx⟩
   obtain ⟨r, hr, hp⟩ := List.mem_flatMap.mp hp
   refine ⟨r, hr, ?_⟩
   rcases List.mem_cons.mp hp with rfl | hp
   ·exact .inl ⟨e, by rw [← Bc]; exact hx⟩
   ·unfold Zh at hp
    obtain ⟨k, hk, rfl⟩ := List.mem_map.mp hp
    obtain ⟨hk1, hk2⟩ := List.mem_filter.mp hk
    exact .inr ⟨k, List.mem_range.mp hk1, by simpa using hk2, e, hx⟩
  ·rintro ⟨r, hr, ⟨e, hx⟩ | ⟨k, hk1, hk2, e, hx⟩⟩
   ·exact ⟨(r.1, Wy N [] r.2), List.mem_flatMap.mpr ⟨r, hr, .head _⟩, e, by rw [Bc]; exact hx⟩
   ·refine ⟨(gt (W5 (r, k)), Wy N [gt r.1] (r.2.drop (k + 1))), List.mem_flatMap.mpr ⟨r, hr, .tail _ ?_⟩, e, hx⟩
    unfold Zh
    exact List.mem_map.mpr ⟨k, List.mem_filter.mpr ⟨List.mem_range.mpr hk1, by simpa using hk2⟩, rfl⟩
 ·rw [if_neg q]
  constructor
  ·intro h; cases h
  ·rintro ⟨h, _⟩; exact absurd h q
variable (hg : OkG g) (hh : ∀ h, h ∈ hs ↔ h ∈ Q0 g)
include hg hh
theorem Uz {h : Str} (q : h ∈ hs) : h ∈ HS := by
 obtain ⟨b, hb⟩ := Qa.mp ((hh h).mp q)
 exact hg.head _ hb
theorem Hx {x : Str} (hx : x ∈ SY ∨ x = sD) : x ∈ ks hs ↔ x ∈ hs := by
 rw [T6]
 constructor
 ·rintro ⟨h, h1, rfl | h2⟩
  ·exact h1
  ·have := Vk h (Uz hg hh h1)
   rw [← h2] at this
   rcases hx with hx | hx
   ·exact absurd hx this.1
   ·exact absurd hx this.2
 ·intro h; exact ⟨x, h, .inl rfl⟩
theorem A8 : sD ∉ ks hs := by
 rw [Hx hg hh (.inr rfl)]
 intro c
 have h1 := Uz hg hh c
 have h2 : sD ∉ HS := by decide +kernel
 exact h2 h1
theorem Yx {y x : Str} (hy : y ∈ hs) : x ∈ Qu (Ta g hs N st.1) y ↔ E1 g N y x := by
 rw [Vy]
 have hyS := Bj (Uz hg hh hy)
 constructor
 ·rintro ⟨_, ⟨e, _⟩ | ⟨r, hr, ⟨rfl, hx⟩ | ⟨k, _, h2, e, _⟩⟩⟩
  ·by_cases q : st.1 ∈ HS
   ·exact absurd (e ▸ hyS) (Vk _ q).1
   ·exact absurd hyS (by
     rw [e]
     intro c
     have hsz : ∀ s ∈ SY, s.cps.size = 1 := M3
     have h0 := hsz _ c
     have h1 := Uz hg hh hy
     rw [e] at h1
     have h2 : ∀ s ∈ HS, ∀ c ∈ s.cps, c ≠ 62 := by decide +kernel
     refine h2 _ h1 62 ?_ rfl
     show 62 ∈ ((Str.ofString ">").cps ++ st.1.cps)
     exact Array.mem_append.mpr (.inl (by decide +kernel)))
  ·exact ⟨r.2, hr, hx⟩
  ·exact absurd (e ▸ hyS) (Vk _ (Uz hg hh h2)).1
 ·rintro ⟨b, hb, hx⟩
  exact ⟨T6.mpr ⟨y, hy, .inl rfl⟩, .inr ⟨(y, b), hb, .inl ⟨rfl, hx⟩⟩⟩
theorem Hw {h x : Str} (hst : st.1 ∈ hs) (hy : h ∈ hs) : x ∈ Qu (Ta g hs N st.1) (gt h) ↔ (h = st.1 ∧ x = sD) ∨ ∃ h' b pre post, (h', b) ∈ g ∧ b = pre ++ h :: post ∧ x ∈ Wy N [gt h'] post := by
 rw [Vy]
 have hH := Uz hg hh hy
 constructor
 ·rintro ⟨_, ⟨e, ex⟩ | ⟨r, hr, ⟨e, _⟩ | ⟨k, hk, h2, e, hx⟩⟩⟩
  ·exact .inl ⟨N5 _ hH _ (Uz hg hh hst) e, ex⟩
  ·exact absurd (e ▸ Bj (hg.head r hr)) (Vk _ hH).1
  ·have e' := N5 _ (Uz hg hh h2) _ hH e
   have hsy : r.2[k]? = some h := by rw [← e']; simp [W5, hk]
   refine .inr ⟨r.1, r.2, r.2.take k, r.2.drop (k + 1), hr, ?_, hx⟩
   have h3 : r.2[k] = h := by rw [List.getElem?_eq_getElem hk] at hsy; exact Option.some.inj hsy
   conv => lhs; rw [← List.take_append_drop k r.2]
   rw [List.drop_eq_getElem_cons hk, h3]
 ·intro hx
  refine ⟨T6.mpr ⟨h, hy, .inr rfl⟩, ?_⟩
  rcases hx with ⟨rfl, rfl⟩ | ⟨h', b, pre, post, hb, e, hx⟩
  ·exact .inl ⟨rfl, rfl⟩
  ·refine .inr ⟨(h', b), hb, .inr ⟨pre.length, by rw [e]; simp, ?_⟩⟩
   have hs1 : W5 ((h', b), pre.length) = h := by simp [W5, e]
   have hs2 : b.drop (pre.length + 1) = post := by rw [e]; simp
   rw [hs1]
   exact ⟨hy, rfl, by simp only; rw [hs2]; exact hx⟩
theorem Ap {y x : Str} (hy : y ∉ ks hs) : x ∉ Qu (Ta g hs N st.1) y := fun c => hy ((Vy y x).mp c).1
theorem Pz {h x : Str} (e : E1 g N h x) : x ∈ SY := by
 obtain ⟨b, hb, hx⟩ := e
 exact hg.sym _ hb x (Yw hx)
theorem Cs : (∃ h ∈ hs, Rch (Qu (Ta g hs N st.1)) (Qu (Ta g hs N st.1) h) h) ↔ ∃ h ∈ Q0 g, LCp g N h h := by
 have h1 : ∀ h ∈ hs, ∀ x, Rch (Qu (Ta g hs N st.1)) (Qu (Ta g hs N st.1) h) x → x ∈ SY ∧ (x ∈ hs → LCp g N h x) := fun h hh' x hx => by
  induction hx with
  | root hx =>
   have e := (Yx hg hh hh').mp hx
   exact ⟨Pz hg hh e, fun q => .one ⟨(hh _).mp q, e⟩⟩
  | @step x y _ hy ih =>
   by_cases q : x ∈ hs
   ·have e := (Yx hg hh q).mp hy
    exact ⟨Pz hg hh e, fun q' => .step (ih.2 q) ⟨(hh _).mp q', e⟩⟩
   ·exact absurd hy (Ap hg hh fun c => q ((Hx hg hh (.inl ih.1)).mp c))
 have h2 : ∀ h ∈ hs, ∀ x, LCp g N h x → Rch (Qu (Ta g hs N st.1)) (Qu (Ta g hs N st.1) h) x := fun h hh' x hx => by
  induction hx with
  | one e => exact .root ((Yx hg hh hh').mpr e.2)
  | @step y x h1 e ih =>
   have hy : y ∈ hs := by
    cases h1 with
    | one e => exact (hh _).mpr e.1
    | step _ e => exact (hh _).mpr e.1
   exact .step ih ((Yx hg hh hy).mpr e.2)
 constructor
 ·rintro ⟨h, hh', r⟩; exact ⟨h, (hh h).mp hh', (h1 h hh' h r).2 hh'⟩
 ·rintro ⟨h, hh', r⟩; exact ⟨h, (hh h).mpr hh', h2 h ((hh h).mpr hh') h r⟩
end
section
variable {g : Gr} {N : List Str} {st : Str × List Str} {rest : Gr} {hs : List Str}
noncomputable def Bv (g : Gr) (N hs : List Str) (z x : Str) : Prop := (z ∈ hs ∧ First g N z x) ∨ (∃ h ∈ hs, z = gt h ∧ Follow g N h x) ∨ (z ∉ ks hs ∧ x = z)
variable (hg : OkG g) (hh : ∀ h, h ∈ hs ↔ h ∈ Q0 g) (hst : g = st :: rest)
include hg hh
theorem gt_sy {h : Str} (q : h ∈ hs) : gt h ∉ SY := (Vk _ (Uz hg hh q)).1
theorem gt_hs {h : Str} (q : h ∈ hs) : gt h ∉ hs := fun c => gt_sy hg hh q (Bj (Uz hg hh c))
theorem By {x : Str} (h1 : x ∈ SY) (h2 : x ∉ Q0 g) : x ∉ ks hs := fun c => h2 ((hh x).mp ((Hx hg hh (.inl h1)).mp c))
theorem Ao {l : List Str} (hl : ∀ s ∈ l, s ∈ SY) {x : Str} : (∃ z ∈ Tf N l, Bv g N hs z x) ↔ Zw g N l x := by
 constructor
 ·rintro ⟨z, hz, ⟨h1, h2⟩ | ⟨h, h1, rfl, _⟩ | ⟨h1, rfl⟩⟩
  ·exact ⟨z, hz, .inl ⟨(hh z).mp h1, h2⟩⟩
  ·exact absurd (hl _ (Yw hz)) (gt_sy hg hh h1)
  ·exact ⟨x, hz, .inr ⟨fun c => h1 ((Hx hg hh (.inl (hl _ (Yw hz)))).mpr ((hh x).mpr c)), rfl⟩⟩
 ·rintro ⟨z, hz, ⟨h1, h2⟩ | ⟨h1, rfl⟩⟩
  ·exact ⟨z, hz, .inl ⟨(hh z).mpr h1, h2⟩⟩
  ·exact ⟨x, hz, .inr (.inr ⟨By hg hh (hl _ (Yw hz)) h1, rfl⟩)⟩
theorem gt_Q {h x : Str} (q : h ∈ hs) (k : Bv g N hs (gt h) x) : Follow g N h x := by
 rcases k with ⟨h1, _⟩ | ⟨h', h1, e, h2⟩ | ⟨h1, _⟩
 ·exact absurd h1 (gt_hs hg hh q)
 ·rw [N5 _ (Uz hg hh q) _ (Uz hg hh h1) e]; exact h2
 ·exact absurd (T6.mpr ⟨h, q, .inr rfl⟩) h1
include hst
theorem st_hs : st.1 ∈ hs := (hh _).mpr (Qa.mpr ⟨st.2, by rw [hst]; exact .head _⟩)
theorem Q_step {y z x : Str} (h : z ∈ Qu (Ta g hs N st.1) y) (k : Bv g N hs z x) : Bv g N hs y x := by
 have hk := ((Vy y z).mp h).1
 obtain ⟨h0, q, rfl | rfl⟩ := T6.mp hk
 ·obtain ⟨b, hb, hz⟩ := (Yx hg hh q).mp h
  obtain ⟨s, hs', hx⟩ := (Ao hg hh (hg.sym _ hb)).mp ⟨z, hz, k⟩
  refine .inl ⟨q, ?_⟩
  rcases hx with ⟨h1, h2⟩ | ⟨h1, rfl⟩
  ·exact .sub ⟨b, hb, hs'⟩ h1 h2
  ·exact .tok ⟨b, hb, hs'⟩ h1
 ·refine .inr (.inl ⟨h0, q, rfl, ?_⟩)
  rcases (Hw hg hh (st_hs hg hh hst) q).mp h with ⟨rfl, rfl⟩ | ⟨h', b, pre, post, hb, e, hz⟩
  ·have hx : x = sD := by
    rcases k with ⟨h1, _⟩ | ⟨h', h1, e, _⟩ | ⟨_, e⟩
    ·exact absurd (T6.mpr ⟨_, h1, .inl rfl⟩) (A8 hg hh)
    ·exact absurd (T6.mpr ⟨_, h1, .inr e⟩) (A8 hg hh)
    ·exact e
   rw [hx]
   exact .start (b := st.2) (by rw [hst]; rfl)
  ·rcases Up.mp hz with hz | ⟨hn, rfl⟩
   ·exact .post hb e ((hh _).mp q) ((Ao hg hh (fun s hs' => hg.sym _ hb s (by simp only; rw [e]; simp [hs']))).mp ⟨z, hz, k⟩)
   ·have hh' : h' ∈ hs := (hh _).mpr (Qa.mpr ⟨b, hb⟩)
    exact .up hb e ((hh _).mp q) hn (gt_Q hg hh hh' k)
theorem rch_Q {roots : List Str} {z x : Str} (h : Rch (Qu (Ta g hs N st.1)) roots z) : Bv g N hs z x → ∃ y ∈ roots, Bv g N hs y x := by
 induction h with
 | root h => exact fun k => ⟨_, h, k⟩
 | step _ h ih => exact fun k => ih (Q_step hg hh hst h k)
omit hst in
theorem Oa {roots : List Str} {h x : Str} (f : First g N h x) : h ∈ hs → Rch (Qu (Ta g hs N st.1)) roots h → Rch (Qu (Ta g hs N st.1)) roots x := by
 induction f with
 | tok e _ => exact fun q r => .step r ((Yx hg hh q).mpr e)
 | sub e h1 _ ih => exact fun q r => ih ((hh _).mpr h1) (.step r ((Yx hg hh q).mpr e))
omit hst in
theorem Dl {roots : List Str} {l : List Str} {x : Str} (f : Zw g N l x) (h : ∀ s ∈ Tf N l, Rch (Qu (Ta g hs N st.1)) roots s) : Rch (Qu (Ta g hs N st.1)) roots x := by
 obtain ⟨s, hs', ⟨h1, h2⟩ | ⟨_, rfl⟩⟩ := f
 ·exact Oa hg hh h2 ((hh _).mpr h1) (h s hs')
 ·exact h x hs'
theorem Ay {roots : List Str} {h x : Str} (f : Follow g N h x) : Rch (Qu (Ta g hs N st.1)) roots (gt h) → Rch (Qu (Ta g hs N st.1)) roots x := by
 have hs0 := st_hs hg hh hst
 induction f with
 | start e =>
  intro r
  rw [hst] at e
  simp only [List.head?_cons, OI] at e
  have e1 := congrArg Prod.fst e
  simp only at e1
  exact .step r ((Hw hg hh hs0 (by rw [← e1]; exact hs0)).mpr (.inl ⟨e1.symm, rfl⟩))
 | @post h' b pre h post x hb e q f =>
  intro r
  exact Dl hg hh f fun s hs' => .step r ((Hw hg hh hs0 ((hh _).mpr q)).mpr (.inr ⟨h', b, pre, post, hb, e, Up.mpr (.inl hs')⟩))
 | @up h' b pre h post x hb e q hn _ ih =>
  intro r
  exact ih (.step r ((Hw hg hh hs0 ((hh _).mpr q)).mpr (.inr ⟨h', b, pre, post, hb, e, Up.mpr (.inr ⟨hn, rfl⟩)⟩)))
omit hst in
theorem Ob {h x : Str} (f : First g N h x) : x ∉ ks hs := by
 induction f with
 | tok e h1 => exact By hg hh (Pz hg hh e) h1
 | sub _ _ _ ih => exact ih
omit hst in
theorem Dm {l : List Str} (hl : ∀ s ∈ l, s ∈ SY) {x : Str} (f : Zw g N l x) : x ∉ ks hs := by
 obtain ⟨s, hs', ⟨_, h2⟩ | ⟨h1, rfl⟩⟩ := f
 ·exact Ob hg hh h2
 ·exact By hg hh (hl _ (Yw hs')) h1
omit hst in
theorem Az {h x : Str} (f : Follow g N h x) : x ∉ ks hs := by
 induction f with
 | start _ => exact A8 hg hh
 | @post h' b pre h post x hb e q f => exact Dm hg hh (fun s hs' => hg.sym _ hb s (by simp only; rw [e]; simp [hs'])) f
 | up _ _ _ _ _ ih => exact ih
omit hst in
theorem pred_key {r : Str × List Str} (hr : r ∈ g) {x : Str} (p : K2 g N r x) : x ∉ ks hs := by
 rcases p with p | ⟨_, p⟩
 ·exact Dm hg hh (hg.sym _ hr) p
 ·exact Az hg hh p
theorem Cg {r : Str × List Str} (hr : r ∈ g) {x : Str} : (x ∉ ks hs ∧ Rch (Qu (Ta g hs N st.1)) (Wy N [gt r.1] r.2) x) ↔ K2 g N r x := by
 have hr1 : r.1 ∈ hs := (hh _).mpr (Qa.mpr ⟨r.2, hr⟩)
 constructor
 ·rintro ⟨hx, h⟩
  obtain ⟨y, hy, k⟩ := rch_Q hg hh hst h (x := x) (.inr (.inr ⟨hx, rfl⟩))
  rcases Up.mp hy with hy | ⟨hn, rfl⟩
  ·exact .inl ((Ao hg hh (hg.sym _ hr)).mp ⟨y, hy, k⟩)
  ·exact .inr ⟨hn, gt_Q hg hh hr1 k⟩
 ·intro p
  refine ⟨pred_key hg hh hr p, ?_⟩
  rcases p with p | ⟨hn, p⟩
  ·exact Dl hg hh p fun s hs' => .root (Up.mpr (.inl hs'))
  ·exact Ay hg hh hst p (.root (Up.mpr (.inr ⟨hn, rfl⟩)))
omit hst in
theorem D3 (hN : ∀ x ∈ N, x ∈ hs) : ∀ l : List Str, ((Tf N l).filter fun s => !decide (s ∈ ks hs)).Nodup
 | [] => List.nodup_nil
 | s :: l => by
  rw [Rc]
  by_cases q : s ∈ N
  ·rw [if_pos q, List.filter_cons, if_neg (by simp; exact T6.mpr ⟨s, hN s q, .inl rfl⟩)]
   exact D3 hN l
  ·rw [if_neg q]
   exact List.Pairwise.filter _ (List.pairwise_singleton _ _)
theorem Og (hN : ∀ x ∈ N, x ∈ hs) {ws : Str × List Str → List Str}
  (hws : ∀ r ∈ g, (∃ e, ws r = Wy N [gt r.1] r.2 ++ e ∧ e.Nodup ∧ ∀ x ∈ e, x ∉ Wy N [gt r.1] r.2) ∧ ∀ x, x ∈ ws r ↔ Rch (Qu (Ta g hs N st.1)) (Wy N [gt r.1] r.2) x) :
  (g.flatMap fun r => W9 (Ta g hs N st.1) r.1 (ws r)).Nodup ↔ g.Pairwise fun r r' => r.1 = r'.1 → ∀ t, K2 g N r' t → ¬ K2 g N r t := by
 have hkey : ∀ s, (!((Ta g hs N st.1).lookup s).isSome) = !decide (s ∈ ks hs) := fun s => by
  unfold Ta
  rw [W7]
  by_cases q : s ∈ ks hs
  ·rw [if_pos q]; simp [q]
  ·rw [if_neg q]; simp [q]
 have hrp : ∀ r, W9 (Ta g hs N st.1) r.1 (ws r) = ((ws r).filter fun s => !decide (s ∈ ks hs)).map fun s => (r.1, s) := fun r => by
  unfold W9
  rw [List.filter_congr fun s _ => hkey s]
 have hmem : ∀ r ∈ g, ∀ p, p ∈ W9 (Ta g hs N st.1) r.1 (ws r) ↔ p.1 = r.1 ∧ K2 g N r p.2 := fun r hr p => by
  rw [hrp, List.mem_map]
  constructor
  ·rintro ⟨s, h1, rfl⟩
   obtain ⟨h2, h3⟩ := List.mem_filter.mp h1
   exact ⟨rfl, (Cg hg hh hst hr).mp ⟨by simpa using h3, ((hws r hr).2 s).mp h2⟩⟩
  ·rintro ⟨h1, h2⟩
   obtain ⟨h3, h4⟩ := (Cg hg hh hst hr).mpr h2
   exact ⟨p.2, List.mem_filter.mpr ⟨((hws r hr).2 _).mpr h4, by simpa using h3⟩, by rw [← h1]⟩
 have hnd : ∀ r ∈ g, (W9 (Ta g hs N st.1) r.1 (ws r)).Nodup := fun r hr => by
  rw [hrp]
  have h1 : ((ws r).filter fun s => !decide (s ∈ ks hs)).Nodup := by
   refine BC fun nn => ?_
   obtain ⟨⟨e, h1, h2, h3⟩, _⟩ := hws r hr
   refine nn ?_; clear nn
   rw [h1, List.filter_append]
   refine List.nodup_append.mpr ⟨?_, List.Pairwise.filter _ h2, fun a ha b hb => ?_⟩
   ·unfold Wy
    rw [List.filter_append]
    have : ((if (r.2.all fun s => decide (s ∈ N)) = true then [gt r.1] else []).filter fun s => !decide (s ∈ ks hs)) = [] := by
     rw [List.filter_eq_nil_iff]
     intro x hx
     have : x = gt r.1 := by
      split at hx
      ·exact List.mem_singleton.mp hx
      ·cases hx
     rw [this]
     simp
     exact T6.mpr ⟨r.1, (hh _).mpr (Qa.mpr ⟨r.2, hr⟩), .inr rfl⟩
    rw [this, List.append_nil]
    exact D3 hg hh hN r.2
   ·rintro rfl
    exact h3 a (List.mem_filter.mp hb).1 (List.mem_filter.mp ha).1
  rw [List.nodup_iff_pairwise_ne, List.pairwise_map]
  exact h1.imp fun hne c => hne (congrArg Prod.snd c)
 rw [List.nodup_iff_pairwise_ne, List.pairwise_flatMap]
 constructor
 ·rintro ⟨_, h⟩
  refine h.imp_of_mem fun {r r'} hr hr' h e t p' p => ?_
  exact h (r.1, t) ((hmem r hr _).mpr ⟨rfl, p⟩) (r.1, t) ((hmem r' hr' _).mpr ⟨e, p'⟩) rfl
 ·intro h
  refine ⟨fun r hr => List.nodup_iff_pairwise_ne.mp (hnd r hr), h.imp_of_mem fun {r r'} hr hr' h x hx y hy e => ?_⟩
  obtain ⟨a1, a2⟩ := (hmem r hr _).mp hx
  obtain ⟨b1, b2⟩ := (hmem r' hr' _).mp hy
  subst e
  exact h (by rw [← a1, ← b1]) x.2 b2 a2
end
theorem Vi {N : List Str} {y : Str} : ∀ {b : List Str}, y ∈ Tf N b → ∃ a c, b = a ++ y :: c ∧ ∀ s ∈ a, s ∈ N
 | s :: b, h => by
  rw [Rc] at h
  rcases List.mem_cons.mp h with rfl | h
  ·exact ⟨[], b, rfl, fun _ h => nomatch h⟩
  ·by_cases q : s ∈ N
   ·rw [if_pos q] at h
    obtain ⟨a, c, rfl, h2⟩ := Vi h
    refine ⟨s :: a, c, rfl, fun s' hs' => ?_⟩
    rcases List.mem_cons.mp hs' with rfl | hs'
    ·exact q
    ·exact h2 s' hs'
   ·rw [if_neg q] at h; cases h
theorem Kc {N : List Str} {y : Str} {c : List Str} (hy : y ∈ Tf N c) : ∀ {a : List Str}, (∀ s ∈ a, s ∈ N) → y ∈ Tf N (a ++ c)
 | [], _ => hy
 | s :: a, h => by
  rw [List.cons_append, Rc, if_pos (h s (.head _))]
  exact .tail _ (Kc hy fun s' hs' => h s' (.tail _ hs'))
theorem Ll {α : Type} {R : α → α → Prop} {a b : α} : ∀ {l : List α}, l.Pairwise R → a ∈ l → b ∈ l → a ≠ b → R a b ∨ R b a
 | x :: l, h, ha, hb, hne => by
  obtain ⟨h1, h2⟩ := List.pairwise_cons.mp h
  rcases List.mem_cons.mp ha with e1 | ha1
  ·rcases List.mem_cons.mp hb with e2 | hb1
   ·exact absurd (e1.trans e2.symm) hne
   ·rw [e1]; exact .inl (h1 b hb1)
  ·rcases List.mem_cons.mp hb with e2 | hb1
   ·rw [e2]; exact .inr (h1 a ha1)
   ·exact Ll h2 ha1 hb1 hne
section
variable {t : Gr} {N : List Str}
theorem LC.first {a a' c : Str} (h : LC t N a a') (f : First t N a' c) : First t N a c := .sub h.2 h.1 f
theorem LCp.first {a x c : Str} (h : LCp t N a x) : First t N x c → First t N a c := by
 induction h with
 | one h => exact h.first
 | step _ h ih => exact fun f => ih (h.first f)
theorem LCp.split {h x : Str} (k : LCp t N h x) : ∃ y, LC t N h y ∧ (y = x ∨ LCp t N y x) := by
 induction k with
 | one h => exact ⟨_, h, .inl rfl⟩
 | step _ h ih =>
  obtain ⟨y, h1, h2⟩ := ih
  refine ⟨y, h1, .inr ?_⟩
  rcases h2 with rfl | h2
  ·exact .one h
  ·exact .step h2 h
theorem LCp.last {h x : Str} (k : LCp t N h x) : x ∈ Q0 t := by
 cases k with
 | one h => exact h.1
 | step _ h => exact h.1
variable (hN : IsNull t N) (hp : ∀ h ∈ Q0 t, Built t (Qx t) h)
include hN
theorem K9 {h : Str} {b : List Str} (hb : (h, b) ∈ t) (hn : ∀ s ∈ b, s ∈ N) : h ∈ N := (hN.mem h).mpr (.mk hb fun s hs _ => (hN.mem s).mp (hn s hs))
omit hN in
theorem Vo : ∀ l : List Str, (∀ s ∈ l, s ∈ Q0 t → s ∈ N ∨ ∃ c, First t N s c) → (∀ s ∈ l, s ∈ N) ∨ ∃ c, Zw t N l c
 | [], _ => .inl fun _ h => nomatch h
 | s :: l, h => by
  by_cases q : s ∈ Q0 t
  ·rcases h s (.head _) q with h1 | ⟨c, h1⟩
   ·rcases Vo l fun s' hs' => h s' (.tail _ hs') with h2 | ⟨c, s', hs', h2⟩
    ·refine .inl fun s' hs' => ?_
     rcases List.mem_cons.mp hs' with rfl | hs'
     ·exact h1
     ·exact h2 s' hs'
    ·refine .inr ⟨c, s', ?_, h2⟩
     rw [Rc, if_pos h1]
     exact .tail _ hs'
   ·exact .inr ⟨c, s, by rw [Rc]; exact .head _, .inl ⟨q, h1⟩⟩
  ·exact .inr ⟨s, s, by rw [Rc]; exact .head _, .inr ⟨q, rfl⟩⟩
omit hN in
theorem Vm {h : Str} {b : List Str} (hb : (h, b) ∈ t) {c : Str} (f : Zw t N b c) : First t N h c := by
 obtain ⟨s, hs, ⟨h1, h2⟩ | ⟨h1, rfl⟩⟩ := f
 ·exact .sub ⟨b, hb, hs⟩ h1 h2
 ·exact .tok ⟨b, hb, hs⟩ h1
theorem A9 {h : Str} (k : Built t (Qx t) h) : h ∈ N ∨ ∃ c, First t N h c := by
 induction k with
 | @mk h b hb _ ih =>
  rcases Vo b fun s hs q => ih s hs fun c => (R0.mp c).2 q with h1 | ⟨c, h1⟩
  ·exact .inl (K9 hN hb h1)
  ·exact .inr ⟨c, Vm hb h1⟩
include hp
theorem Xl (l : List Str) : (∀ s ∈ l, s ∈ N) ∨ ∃ c, Zw t N l c := Vo l fun s _ q => A9 hN (hp s q)
theorem O9 {st : Str × List Str} {rest : Gr} (hst : t = st :: rest) {h : Str} (hr : Rch (T2 t) [st.1] h) : ∃ c, Follow t N h c := by
 induction hr with
 | root h => rw [List.mem_singleton.mp h]; exact ⟨sD, .start (b := st.2) (by rw [hst]; rfl)⟩
 | step _ h ih =>
  obtain ⟨c, ih⟩ := ih
  refine BC fun nn => ?_
  obtain ⟨h1, b, h2, h3⟩ := Rg.mp h
  refine nn ?_; clear nn
  refine BC fun nn => ?_
  obtain ⟨pre, post, e⟩ := List.append_of_mem h3
  refine nn ?_; clear nn
  rcases Xl hN hp post with h4 | ⟨c', h4⟩
  ·exact ⟨c, .up h2 e h1 h4 ih⟩
  ·exact ⟨c', .post h2 e h1 h4⟩
theorem Kx {x a a' : Str} (h : LC t N a a') (k : (∃ c, Follow t N x c ∧ First t N a' c) ∨ (a' ∈ N ∧ ∀ c, Follow t N a' c → Follow t N x c)) :
  (∃ c, Follow t N x c ∧ First t N a c) ∨ (a ∈ N ∧ ∀ c, Follow t N a c → Follow t N x c) := by
 rcases k with ⟨c, h1, h2⟩ | ⟨h1, h2⟩
 ·exact .inl ⟨c, h1, h.first h2⟩
 ·refine BC fun nn => ?_
  obtain ⟨h3, b, hb, h4⟩ := h
  refine nn ?_; clear nn
  refine BC fun nn => ?_
  obtain ⟨pre, post, e, h5⟩ := Vi h4
  refine nn ?_; clear nn
  rcases Xl hN hp post with h6 | ⟨c, h6⟩
  ·refine .inr ⟨K9 hN hb fun s hs => ?_, fun c f => h2 c (.up hb e h3 h6 f)⟩
   rw [e] at hs
   rcases List.mem_append.mp hs with hs | hs
   ·exact h5 s hs
   ·rcases List.mem_cons.mp hs with rfl | hs
    ·exact h1
    ·exact h6 s hs
  ·refine .inl ⟨c, h2 c (.post hb e h3 h6), Vm hb ?_⟩
   refine BC fun nn => ?_
   obtain ⟨s, hs, h7⟩ := h6
   refine nn ?_; clear nn
   refine ⟨s, ?_, h7⟩
   rw [e]
   exact Kc (by rw [Rc, if_pos h1]; exact .tail _ hs) h5
theorem toward {x a z : Str} (h : LCp t N a z) : ((∃ c, Follow t N x c ∧ First t N z c) ∨ (z ∈ N ∧ ∀ c, Follow t N z c → Follow t N x c)) →
  (∃ c, Follow t N x c ∧ First t N a c) ∨ (a ∈ N ∧ ∀ c, Follow t N a c → Follow t N x c) := by
 induction h with
 | one h => exact Kx hN hp h
 | step _ h ih => exact fun k => ih (Kx hN hp h k)
theorem Am {st : Str × List Str} {rest : Gr} (hst : t = st :: rest) (hr : ∀ h ∈ Q0 t, Rch (T2 t) [st.1] h) {h : Str} (hl : LCp t N h h) :
  ¬ t.Pairwise fun r r' => r.1 = r'.1 → ∀ x, K2 t N r' x → ¬ K2 t N r x := by
 intro hpw
 have hout : ∃ x b', LCp t N x x ∧ (x, b') ∈ t ∧ ∀ s ∈ b', ¬ LCp t N s s := by
  refine BC fun c => ?_
  have key : ∀ x, Built t (Qx t) x → ¬ LCp t N x x := fun x k => by
   induction k with
   | @mk x b hb _ ih =>
    intro hx
    refine c ⟨x, b, hx, hb, fun s hs hc => ?_⟩
    exact ih s hs (fun q => (R0.mp q).2 hc.last) hc
  exact key h (hp h hl.last) hl
 refine BC fun nn => ?_
 obtain ⟨x, b', hx, hb', hno⟩ := hout
 refine nn ?_; clear nn
 obtain ⟨y, hxy, hyx⟩ := hx.split
 have hy : LCp t N y y := by
  rcases hyx with rfl | h
  ·exact hx
  ·exact .step h hxy
 obtain ⟨hyh, b, hb, hyl⟩ := hxy
 have hne : (x, b) ≠ (x, b') := fun e => hno y (by
  have : b = b' := congrArg Prod.snd e
  rw [← this]; exact Yw hyl) hy
 have hcl : ∀ c, K2 t N (x, b) c → K2 t N (x, b') c → False := fun c p p' => by
  rcases Ll hpw hb hb' hne with h | h
  ·exact h rfl c p' p
  ·exact h rfl c p p'
 have hfy : ∀ c, First t N y c → Zw t N b c := fun c f => ⟨y, hyl, .inl ⟨hyh, f⟩⟩
 rcases Xl hN hp b' with hn | ⟨c, f⟩
 ·have hxN : x ∈ N := K9 hN hb' hn
  have hS : (∃ c, Follow t N x c ∧ First t N y c) ∨ (y ∈ N ∧ ∀ c, Follow t N y c → Follow t N x c) := by
   rcases hyx with rfl | h
   ·exact .inr ⟨hxN, fun _ f => f⟩
   ·exact toward hN hp h (.inr ⟨hxN, fun _ f => f⟩)
  rcases hS with ⟨c, h1, h2⟩ | ⟨h1, h2⟩
  ·exact hcl c (.inl (hfy c h2)) (.inr ⟨hn, h1⟩)
  ·obtain ⟨pre, post, e, h5⟩ := Vi hyl
   rcases Xl hN hp post with h6 | ⟨c, h6⟩
   ·obtain ⟨c, hc⟩ := O9 hN hp hst (hr x hx.last)
    refine hcl c (.inr ⟨fun s hs => ?_, hc⟩) (.inr ⟨hn, hc⟩)
    simp only [e] at hs
    rcases List.mem_append.mp hs with hs | hs
    ·exact h5 s hs
    ·rcases List.mem_cons.mp hs with rfl | hs
     ·exact h1
     ·exact h6 s hs
   ·refine hcl c (.inl ?_) (.inr ⟨hn, h2 c (.post hb e hyh h6)⟩)
    obtain ⟨s, hs, h7⟩ := h6
    refine ⟨s, ?_, h7⟩
    simp only
    rw [e]
    exact Kc (by rw [Rc, if_pos h1]; exact .tail _ hs) h5
 ·have h1 : First t N x c := Vm hb' f
  have h2 : First t N y c := by
   rcases hyx with rfl | h
   ·exact h1
   ·exact h.first h1
  exact hcl c (.inl (hfy c h2)) (.inl f)
end
theorem tab_flat (F : Str → List Str) (L : List Str) : ((tab L F).flatMap (·.2)).length = tot L F := by
 unfold tab tot
 rw [List.length_flatMap, List.map_map]
 rfl
theorem tot_get (F : Str → List Str) (k : Str) (L : List Str) (hk : k ∈ L) : (F k).length ≤ tot L F := by
 unfold tot
 induction L with
 | nil => cases hk
 | cons x L ih =>
  simp only [List.map_cons, List.sum_cons]
  rcases List.mem_cons.mp hk with rfl | hk
  ·lia
  ·have := ih hk; lia
section
variable {g : Gr} (hg : OkG g) (N : List Str) {st : Str × List Str} (hst : st.1 ∈ Q4 g)
include hg hst
theorem Ct : tot (ks (Q4 g)) (Rz (Wn (fun _ => []) (gt st.1) [sD]) (g.flatMap (R9 N (Q4 g)))) ≤ 91 := by
 have hh : ∀ h, h ∈ Q4 g ↔ h ∈ Q0 g := fun h => R7 hg
 have hks := Lp (Rx g).nodup fun h q => Uz hg hh q
 have hin : ∀ r ∈ g, r.1 ∈ Q4 g := fun r hr => (R7 hg).mpr (Qa.mpr ⟨r.2, hr⟩)
 have hk1 : ∀ h ∈ Q4 g, h ∈ ks (Q4 g) := fun h hh => T6.mpr ⟨h, hh, .inl rfl⟩
 have hk2 : ∀ h ∈ Q4 g, gt h ∈ ks (Q4 g) := fun h hh => T6.mpr ⟨h, hh, .inr rfl⟩
 rw [L6 hks _ _ fun p hp => ?_]
 ·have h1 : tot (ks (Q4 g)) (Wn (fun _ => []) (gt st.1) [sD]) ≤ 1 := by
   have := Z8 (F := fun _ => ([] : List Str)) (v := [sD]) hks (hk2 _ hst)
   have h0 : tot (ks (Q4 g)) (fun _ => ([] : List Str)) = 0 := by
    unfold tot
    generalize ks (Q4 g) = L
    induction L with
    | nil => rfl
    | cons x L ih => simp only [List.map_cons, List.sum_cons, List.length_nil] at ih ⊢; lia
   simp only [List.length_nil, List.length_singleton] at this
   lia
  have h2 : ∀ l : Gr, (∀ r ∈ l, r ∈ g) → ((l.flatMap (R9 N (Q4 g))).map fun p => p.2.length).sum ≤ 15 * l.length := fun l => by
   induction l with
   | nil => simp
   | cons r l ih =>
    intro hl
    rw [List.flatMap_cons, List.map_append, List.sum_append, List.length_cons]
    have h3 := ih fun r' hr' => hl r' (.tail _ hr')
    have h4 := Jf N (Q4 g) r (hg.short r (hl r (.head _)))
    lia
  have h3 := h2 g fun _ h => h
  have h4 := hg.few
  lia
 ·obtain ⟨r, hr, hp⟩ := List.mem_flatMap.mp hp
  rcases List.mem_cons.mp hp with rfl | hp
  ·exact hk1 _ (hin r hr)
  ·obtain ⟨k, hk, rfl⟩ := List.mem_map.mp hp
   exact hk2 _ (by simpa using (List.mem_filter.mp hk).2)
theorem Ke : ((Ta g (Q4 g) N st.1).flatMap (·.2)).length ≤ 300 := by
 unfold Ta
 rw [tab_flat]
 exact Nat.le_trans (Ct hg N hst) (by lia)
theorem Ee : ∀ h ∈ Q4 g, ∃ v, (Ta g (Q4 g) N st.1).lookup h = some v ∧ v.length ≤ 100 := fun h hh => by
 have hk : h ∈ ks (Q4 g) := T6.mpr ⟨h, hh, .inl rfl⟩
 refine ⟨Rz (Wn (fun _ => []) (gt st.1) [sD]) (g.flatMap (R9 N (Q4 g))) h, ?_, ?_⟩
 ·unfold Ta
  rw [W7, if_pos hk]
 ·exact Nat.le_trans (tot_get _ _ _ hk) (Nat.le_trans (Ct hg N hst) (by lia))
end
theorem Hd {g : Gr} (hg : OkG g) {p : Str → Bool} (hp : ∀ h ∈ Q4 g, (p h = true ↔ Built g [] h)) : IsNull g ((Q4 g).filter p) where
 can := ⟨(Rx g).sorted.filter _, List.Pairwise.filter _ (Rx g).nodup⟩
 mem := fun h => by
  rw [List.mem_filter]
  constructor
  ·rintro ⟨h1, h2⟩; exact (hp h h1).mp h2
  ·intro b
   have h1 : h ∈ Q4 g := (R7 hg).mpr (by
    cases b with
    | mk hb _ => exact Qa.mpr ⟨_, hb⟩)
   exact ⟨h1, (hp h h1).mpr b⟩
theorem Xa {a b : Bool} {p : Prop} (h1 : a = true ↔ p) (h2 : b = true ↔ p) : a = b := Bool.eq_iff_iff.mpr (h1.trans h2.symm)
theorem sem32 {n : Nat} (hn : 32 < n) {g t : Gr} (st : Str × List Str) (rest : Gr) (hst : t = st :: rest) (k : Trm g st.1 t) (w : List Str) (hw : w.length ≤ 8) (m : Bool) (hm : m = true ↔ D t st.1 w) :
  (Phi n).sem 32 [Qk t, .str st.1, Q5 w, .bool m] = some (.bool true, 9) := by
 have ht := k.ok
 have hlen := ht.few
 have hh : ∀ h, h ∈ Q4 t ↔ h ∈ Q0 t := fun h => R7 ht
 have hs0 : st.1 ∈ Q4 t := (hh _).mpr k.head
 have h23 := sem23 (n := 32) (by decide) t (by lia)
 obtain ⟨W, h27, hW⟩ := sem27 (n := 32) (by decide) t ht eps (by show 0 ≤ 4; lia)
 have hN : IsNull t ((Q4 t).filter fun h => decide (W h = [eps])) := Hd ht fun h hh' => by
  rw [decide_eq_true_eq]
  exact Nw ht (hW h hh').1 (hW h hh').2
 have hcol : ∀ (x : Str), x ∈ Q4 t → Th (Wc (tab (Q4 t) W), .fr 0) (.str x, .fr 9) = some (Q5 (W x), .fr 0) := fun x hx => Re x (Q4 t) W (.fr 0) (.fr 9) hx
 generalize hNe : ((Q4 t).filter fun h => decide (W h = [eps])) = N at hN
 have hNl : N.length ≤ 10 := by
  have := Wo (U := HS) hN.can.nodup fun x hx => Uz ht hh ((hh x).mpr (hN.heads x hx))
  have h3 : HS.length = 3 := rfl
  lia
 have hNs : ∀ x ∈ N, x ∈ Q4 t := fun x hx => (hh x).mpr (hN.heads x hx)
 have h29 : (Phi 32).sem 29 [Qk t, Q5 (Q4 t), Q5 N] = some (Wc (Ta t (Q4 t) N st.1), 0) := sem29 (n := 32) (by decide) t ht N hNl st rest hst
 obtain ⟨bl, h30, hbl⟩ := sem30 (n := 32) (by decide) (Ta t (Q4 t) N st.1) (Q4 t) (Ke ht N hs0) (Ee ht N hs0)
 have hbl' := hbl.trans (Cs (st := st) (N := N) ht hh)
 obtain ⟨t', k17, h17, ht'⟩ := sem17 (n := 32) (by decide) t ht st rest hst
 obtain rfl : t' = t := k.idem ht'
 obtain ⟨b14, h14, hb14⟩ := sem14 (n := 32) (by decide) t' ht st rest hst w hw
 obtain rfl : b14 = m := Xa hb14 hm
 obtain ⟨P, h15, cP, mP⟩ := sem15 (n := 32) (by decide) t' (by lia) fun r hr => Nat.le_trans (ht.short r hr) (by lia)
 obtain rfl : P = Q4 t' := cP.ext (Rx t') fun x => by
  rw [mP, hh]
  constructor
  ·intro b
   cases b with
   | mk hb _ => exact Qa.mpr ⟨_, hb⟩
  ·exact k.prod x
 obtain ⟨R, h16, cR, mR⟩ := sem16 (n := 32) (by decide) t' ht st rest hst
 obtain rfl : R = Q4 t' := cR.ext (Rx t') fun x => by
  rw [mR, hh]
  constructor
  ·intro r
   cases r with
   | root h => rw [List.mem_singleton.mp h]; exact k.head
   | step _ h => exact (Rg.mp h).1
  ·exact k.reach x
 obtain ⟨b20, h20, hb20⟩ := sem20 (n := 32) (by decide) t' ht N hN
 obtain rfl : b20 = bl := Xa hb20 hbl'
 obtain ⟨b10, h10, hb10⟩ := sem10 (n := 32) (by decide) t' ht N hN st rest hst
 obtain ⟨b31, ws, h31, hws, hb31⟩ := sem31 (n := 32) (by decide) t' ht N (Ta t' (Q4 t') N st.1) (Ke ht N hs0)
 obtain rfl : b31 = b10 := Xa (hb31.trans (Og ht hh hst hNs hws)) hb10
 have hno : (b20 && b31) = false := by
  cases e1 : b20 with
  | false => rfl
  | true =>
   cases e2 : b31 with
   | false => rfl
   | true =>
    obtain ⟨h, _, hl⟩ := hb20.mp e1
    exact absurd (hb10.mp e2) (Am hN k.prod hst k.reach hl)
 have h0 : Th (Qk t', .fr 0) (.int 0, .fr 9) = some (Wb st, .fr 0) := by
  have := Zp t' 0 0 (.fr 9)
  rw [hst] at this ⊢
  exact this
 rw [W0 hn (F := f32) rfl]
 rw [z4 (F := f32) rfl]
 dsimp only [f32, Nat.reduceSub, RS, RZ]
 (try dsimp only [Qd, Qj, Qe, Q2, GZ, v0, Qm, Qh, Q7, c1, K7, kd23, agf, ag0, OM, c2])
 rw [h23]
 (try dsimp only [c3, Qb, OB, Q6, Qc, SS, SZ, Qd, Qj, Qe, Q2, GZ, v0, Qm, GS, Ux, Qh]; try simp only [E2, Q7, c1, K7, kd27, agf, ag0, OM, c2])
 skip
 rw [Ng, h27]
 (try dsimp only [c3, Wi, OB, Q6, Qc, SS, SZ, Qd, R6, Q2, GS, GZ, v0, Qb, X2, Yn, R8, BF, dreduceIte])
 skip
 rw [Qs PyData.str (fun h => decide (W h = [eps])) PyData.str (Q4 t') (fun h hh' => by
  (try dsimp only [R5, SS, SZ, i1, Tv, Qr, Q2, GS, GZ, v0, Wi, Q9, Q3, Wa, Qe, Ux, Qh, i0, Bool.not_false, Bool.true_or, Bool.and_true, OB, U8, Bool.and_self, dreduceIte]; try simp only [E0, Q7, OB, Vf])
  rw [hcol h hh']
  (try dsimp only [Q3]; try simp only [Jl, Bool.false_xor, OB, Q1])
  by_cases q : W h = [eps]
  ·(try simp only [q, decide_true, if_true, OB])
  ·(try simp only [q, decide_false, BF, if_false, OB]))]
 rw [hNe]
 (try dsimp only [OM, OB, Q6, Qc, SS, SZ, Qd, Qj, Qe, Q2, GZ, v0, Qm, GS, Qb, Qh, Q7, c1, K7, kd29, agf])
 rw [show PyData.list (N.map PyData.str) = Q5 N from rfl]
 (try dsimp only [Qb, agf, ag0, OM, c2])
 rw [h29]
 (try dsimp only [c3, Wi, OB, Q6, Qc, SS, SZ, Qd, Qj, Qe, Q2, GS, GZ, v0, Qb, Qh, Q7, c1, K7, kd30, agf, ag0, OM, c2])
 skip
 rw [h30]
 (try dsimp only [c3, W2, OB, Q6, Qc, SS, SZ, Qw, Yl, p2, Tv, Qr, Q2, GZ, v0, Qm, Qq, Q3, GS, Q9, p1, Qj, Qe, Qh, Q7, c1, K7, kd17, agf, ag0, OM, c2])
 skip
 rw [h0]
 (try dsimp only [Q3, W1]; try simp only [T9, decide_true, Bool.true_xor, Bool.not_true, OB, Q1, beq_self_eq_true, if_true])
 rw [h17]
 (try dsimp only [c3, Qm, Q3]; try simp only [Hf, decide_true, Bool.true_xor, Bool.not_true, OB, Q1, Wl, W3, Qg, Q8, Ql, Qw, Tv, Qj, Qe, Q2, GZ, v0, Qm, GS, Qb, Qh, Q7, c1, K7, kd14, agf, ag0, OM, c2, W2])
 rw [h14]
 (try dsimp only [c3, W2, Q3]; try simp only [Uc, decide_true, Bool.true_xor, Bool.not_true, OB, Q1, W3, Qg, Q8, Ql, Qw, Yl, p2, Tv, Qj, Qe, Q2, GZ, v0, Qm, Qh, Q7, c1, K7, O3, agf, ag0, OM, c2, GS, Qb, p1, kd16])
 rw [h15, h16]
 (try dsimp only [c3, Qb, Q3]; try simp only [Jl, decide_true, Bool.true_xor, Bool.not_true, OB, Q1, beq_self_eq_true, if_true, Wl, W3, Qg, Q8, Ql, Qw, Tv, Qj, Qe, Q2, GZ, v0, Qm, Qh, Q7, c1, K7, kd20, agf, ag0, OM, c2, GS, W2])
 rw [h20]
 (try dsimp only [c3, W2, Q3]; try simp only [Uc, decide_true, Bool.true_xor, Bool.not_true, OB, Q1, W3, Qg, Q8, Ql, Qd, Qj, Qe, Q2, GZ, v0, Qm, Qh, Q7, c1, K7, kd10, agf, ag0, OM, c2])
 rw [h10]
 (try dsimp only [c3, W2, OB, Q6, Qc, SS, SZ, Qw, Tv, Q2, GS, GZ, v0, Qj, Qe, Qm, Qb, Wi, Qh, Q7, c1, K7, kd31, agf, ag0, OM, c2])
 skip
 rw [h31]
 (try dsimp only [c3, W2, Q3]; try simp only [Uc, decide_true, Bool.true_xor, Bool.not_true, OB, Q1, W3, Qg, Q8, Ql, Qw, Yl, p2, Q2, GS, GZ, v0, W2, p1])
 cases b20 <;> cases b31 <;> ((try simp only [Bool.and_self, Bool.and_true, Bool.and_false, reduceCtorEq] at hno); (try dsimp only [bft, BF, dreduceIte, Wl, OB, Q1, W3, Qg, Q8, Ql, R3, Wq, Rl, rr, btt]))
theorem joinD_L (xs : List Str) (k : Kd) (h : (W8 xs).length ≤ lim) : Bf (Q5 xs, k) = some (.str (W8 xs), .fr 9) := by
 show (Xs (xs.map PyData.str)).bind (fun ss => if (W8 ss).length ≤ lim then some (PyData.str (W8 ss), Kd.fr 9) else none) = _
 rw [K5, OB, if_pos h]
theorem Do (t : Gr) (neg : Bool) (k j : Kd) : eqD neg (Qk t, k) (Q5 [], j) = some (.bool (neg ^^ decide (t = [])), .fr 9) := Hf neg t [] k j
theorem law_true (zs : List Int) : ∃ k, Ja (Phi 33) f33 [X8 zs] = some (.bool true, k) := by
 have hg := lawG_ok zs
 obtain ⟨st, rest, hst⟩ := Iv zs
 have h22 := sem22 (n := 33) (by decide) zs
 generalize Iw zs = g at hg hst h22
 have hlen := hg.few
 have hh : ∀ h, h ∈ Q4 g ↔ h ∈ Q0 g := fun h => R7 hg
 have hs0 : st.1 ∈ Q4 g := (hh _).mpr (Qa.mpr ⟨st.2, by rw [hst]; exact .head _⟩)
 have h23 := sem23 (n := 33) (by decide) g (by lia)
 obtain ⟨w, k24, h24, hwl, hw1⟩ := sem24 (n := 33) (by decide) zs g hg st rest hst (Q4 g) fun h q => (hh h).mp q
 have hT : (W8 w).length ≤ 4 := by rw [Be w hw1]; exact hwl
 obtain ⟨R, hR, h26⟩ := sem26 (n := 33) (by decide) g hg (Q4 g) st rest hst
 obtain ⟨t, k17, h17, ht⟩ := sem17 (n := 33) (by decide) g hg st rest hst
 have hte := trim_eq hg ht hR
 rw [← hte] at h26
 obtain ⟨W, h27, hW⟩ := sem27 (n := 33) (by decide) g hg (W8 w) hT
 have hcol : ∀ (x : Str), x ∈ Q4 g → Th (Wc (tab (Q4 g) W), .fr 0) (.str x, .fr 9) = some (Q5 (W x), .fr 0) := fun x hx => Re x (Q4 g) W (.fr 0) (.fr 9) hx
 obtain ⟨b14, h14, hb14⟩ := sem14 (n := 33) (by decide) g hg st rest hst w (by lia)
 have hmem : decide (W8 w ∈ W st.1) = b14 := Xa (by rw [decide_eq_true_eq]; exact Bw hg hw1 (hW st.1 hs0).2) hb14
 have hN : IsNull g ((Q4 g).filter fun h => decide (eps ∈ W h)) := Hd hg fun h hh' => by
  rw [decide_eq_true_eq]
  exact G6 hg (hW h hh').2
 generalize hNe : ((Q4 g).filter fun h => decide (eps ∈ W h)) = N at hN
 have hNl : N.length ≤ 10 := by
  have := Wo (U := HS) hN.can.nodup fun x hx => Uz hg hh ((hh x).mpr (hN.heads x hx))
  have h3 : HS.length = 3 := rfl
  lia
 have h29 : (Phi 33).sem 29 [Qk g, Q5 (Q4 g), Q5 N] = some (Wc (Ta g (Q4 g) N st.1), 0) := sem29 (n := 33) (by decide) g hg N hNl st rest hst
 obtain ⟨bl, h30, hbl⟩ := sem30 (n := 33) (by decide) (Ta g (Q4 g) N st.1) (Q4 g) (Ke hg N hs0) (Ee hg N hs0)
 obtain ⟨b20, h20, hb20⟩ := sem20 (n := 33) (by decide) g hg N hN
 obtain rfl : b20 = bl := Xa hb20 (hbl.trans (Cs (st := st) (N := N) hg hh))
 have h0 : Th (Qk g, .fr 0) (.int 0, .fr 9) = some (Wb st, .fr 0) := by
  have := Zp g 0 0 (.fr 9)
  rw [hst] at this ⊢
  exact this
 have hempty : t = [] → b14 = false := fun e => by
  rw [e] at ht
  cases hb : b14 with
  | false => rfl
  | true => exact absurd (hb14.mp hb) (Sx ht w)
 have h32 : t ≠ [] → (Phi 33).sem 32 [Qk t, .str st.1, Q5 w, .bool b14] = some (.bool true, 9) := fun hne => by
  have k := trm_of hg ht hne
  obtain ⟨b, rest', e⟩ := k.start
  exact sem32 (n := 33) (by decide) (st.1, b) rest' e k w (by lia) b14 (hb14.trans (k.der k.head).symm)
 have hj := fun k => joinD_L w k (Nat.le_trans hT (by unfold lim; lia))
 refine ⟨9, ?_⟩
 rw [z1 (F := f33) rfl]
 dsimp only [f33, Nat.reduceSub, RS, RZ]
 (try dsimp only [Qd, Qj, Qe, Q2, GZ, v0, Xv, Qh, Q7, c1, Js, kd22, agf, ag0, OM, c2])
 rw [h22]
 (try dsimp only [c3, Qm, OB, Q6, Qc, SS, SZ, Qd, Qj, Qe, Q2, GZ, v0, Qh, Q7, c1, Js, kd22])
 (try dsimp only [Xv, agf, ag0, OM, c2])
 rw [h22]
 (try dsimp only [c3, Qm, OB, Q6, Qc, SS, SZ, Qd, Qj, Qe, Q2, GS, GZ, v0, Qh, Q7, c1, Js, kd23, agf, ag0, OM, c2])
 skip
 rw [h23]
 (try dsimp only [c3, Qb, OB, Q6, Qc, SS, SZ, Qd, Qj, Qe, Q2, GZ, v0, GS, Qm, Qh, Q7, c1, Js, kd24])
 (try dsimp only [Xv, agf, ag0, OM, c2])
 rw [h24]
 (try dsimp only [c3, Qb, OB, Q6, Qc, SS, SZ, Qd, Kb, Q2, GS, GZ, v0])
 skip
 rw [hj]
 (try dsimp only [OB, Q6, Qc, SS, SZ, Qd, Qj, Qe, Q2, GS, GZ, v0, Qm, Qb, Qh, Q7, c1, Js, kd26, agf, ag0, OM, c2])
 skip
 rw [h26]
 (try dsimp only [c3, Qm, OB, Q6, Qc, SS, SZ, Qd, Qj, Qe, Q2, GS, GZ, v0, Qh, Q7, c1, Js, kd17, agf, ag0, OM, c2])
 skip
 rw [h17]
 (try dsimp only [c3, Qm, OB, Q6, Qc, SS, SZ, Qw, Tv, Q2, GS, GZ, v0, Q3]; try simp only [Hf, decide_true, Bool.true_xor, Bool.not_true, OB, Q1, W3, Qg, Q8, Ql, Qd, Qj, Qe, Q2, GS, GZ, v0, Qm, Qb, Q9, Qh, Q7, c1, Js, kd27, agf, ag0, OM, c2])
 skip
 rw [h27]
 (try dsimp only [c3, Wi, OB, Q6, Qc, SS, SZ, Qd, Qt, Q2, GS, GZ, v0, Q9, Qr, Qm, Qq, Q3])
 skip
 rw [h0]
 (try dsimp only [Q3, W1])
 rw [hcol _ hs0]
 (try dsimp only [Q3]; try simp only [Ws, Bool.false_xor, OB, Q6, Qc, SS, SZ, Qd, Qj, Qe, Q2, GS, GZ, v0, Qm, Qb, Qh, Q7, c1, Js, kd14, agf, ag0, OM, c2])
 rw [hmem]
 skip
 rw [h14]
 (try dsimp only [c3, W2, OB, Q6, Qc, SS, SZ, Qw, Tv, Q2, GS, GZ, v0, Q3]; try simp only [Uc, decide_true, Bool.true_xor, Bool.not_true, OB, Q1, W3, Qg, Q8, Ql, Qd, R6, Q2, GS, GZ, v0, Qb, X2, Yn, R8, BF, if_false])
 skip
 rw [Ng, Qs PyData.str (fun h => decide (eps ∈ W h)) PyData.str (Q4 g) (fun h hh' => by
  (try dsimp only [R5, SS, SZ, i1, Qt, Ux, Qr, Q2, GS, GZ, v0, Wi, Q9, Q3, i0, Bool.not_false, Bool.true_or, Bool.and_true, OB, U8, Bool.and_self, dreduceIte]; try simp only [E0])
  rw [hcol h hh']
  (try dsimp only [Q3]; try simp only [Ws, Bool.false_xor, OB, Q1])
  by_cases q : eps ∈ W h
  ·(try simp only [q, decide_true, if_true, OB])
  ·(try simp only [q, decide_false, BF, if_false, OB]))]
 rw [hNe]
 (try dsimp only [OM, OB, Q6, Qc, SS, SZ, Qd, Qj, Qe, Q2, GS, GZ, v0, Qm, Qb, Qh, Q7, c1, Js, kd29, agf])
 rw [show PyData.list (N.map PyData.str) = Q5 N from rfl]
 (try dsimp only [Qb, agf, ag0, OM, c2])
 rw [h29]
 (try dsimp only [c3, Wi, Q7, c1, Js, kd30, agf, ag0, OM, c2])
 rw [h30]
 (try dsimp only [c3, W2, OB, Q6, Qc, SS, SZ, Qw, Tv, Qj, Qe, Q2, GS, GZ, v0, Qm, Qh, Q7, c1, Js, kd20, agf, ag0, OM, c2])
 skip
 rw [h20]
 (try dsimp only [c3, W2, Q3]; try simp only [Uc, decide_true, Bool.true_xor, Bool.not_true, OB, Q1, W3, Qg, Q8, Ql, Qw, Yl, p2, Tv, Q2, GS, GZ, v0, Qm, Wa, Qh, Uy, Q3, Do, Bool.false_xor, p1, W2])
 by_cases q : t = []
 ·have q' : decide (t = []) = true := decide_eq_true q
  (try simp only [q', beq_self_eq_true, hempty q, if_true, Wl, OB, Q1, W3, Qg, Q8, Ql, Qw, Yl, p2, Tv, Q2, GS, GZ, v0, Qm, Wa, Qh, Uy, Q3, Do, Bool.true_xor, Bool.not_true, p1, H9, Qj, Qe, Qr, Qq, Qb, W2, Q7, bft, BF, if_false, Hf, decide_true, Kb, Q9])
  rw [hj]
  (try dsimp only [Q3]; try simp only [T9, decide_true, Bool.true_xor, Bool.not_true, OB, Q1, Wl, W3, Qg, Q8, Ql, R3, Wq, Rl, rr])
 ·have q' : decide (t = []) = false := decide_eq_false q
  (try simp only [q', bft, BF, if_false, Wl, OB, Q1, W3, Qg, Q8, Ql, Qw, Yl, p2, Tv, Q2, GS, GZ, v0, Qm, Wa, Qh, Uy, Q3, Do, Bool.true_xor, Bool.not_false, p1, H9, Qj, Qe, Qr, Qq, Qb, W2, Q7, beq_self_eq_true, if_true])
  rw [h0]
  (try dsimp only [Q3, W1, Q7, c1, Js, kd32, agf, ag0, OM, c2])
  rw [h32 q]
  (try dsimp only [c3, W2, OB, Q1, Jt, Wl]; try simp only [Bool.not_true, W3, Qg, Q8, Ql, Qw, Yl, p2, Tv, Q2, GS, GZ, v0, Qm, Q3, Hf, decide_true, Bool.true_xor, OB, Q1, p1, Kb, Qb, Q9, beq_self_eq_true, if_true])
  rw [hj]
  (try dsimp only [Q3]; try simp only [T9, decide_true, Bool.true_xor, Bool.not_true, OB, Q1, Wl, W3, Qg, Q8, Ql, R3, Wq, Rl, rr])
end Mine
end
section
open PySem PySem.W PyProof.Rows
set_option maxHeartbeats 8000000
namespace Mine
theorem chk_of {p : Program} (h : (List.range 34).all (fun f => okAt p f) = true) : ∀ f, f < Yq.length → okAt p f = true := by
 intro f hf
 have : Yq.length = 34 := rfl
 rw [this] at hf
 exact List.all_eq_true.mp h f (List.mem_range.mpr hf)
theorem wints : ∀ (xs : List WData) {vs : List Value} {P : Params} {h : Heap}, WellAll P h vs xs → WShape.hasItems [] xs .int = true → ∃ zs : List Int, xs = zs.map .int ∧ ∀ (prog : Program) (w : World) (Q : Addr → Prop) (h : Heap), RpAll prog w Q h vs (zs.map .int)
 | [], _, _, _, b, _ => by cases b; exact ⟨[], rfl, fun _ _ _ _ => .nil⟩
 | d :: ds, _, P, h, b, hs => by
  cases b with
  | cons a b =>
   have hs := Bool.and_eq_true_iff.mp (show (WShape.has [] d .int && WShape.hasItems [] ds .int) = true from hs)
   obtain ⟨zs, rfl, hr⟩ := wints ds b hs.2
   have h1 := hs.1
   clear hs
   cases a <;> first | exact (Bool.false_ne_true h1).elim | skip
   rename_i i t
   exact ⟨i :: zs, rfl, fun prog w Q h => .cons (.int i t) (hr prog w Q h)⟩
theorem args_of {P : Params} {h : Heap} {vals : List Value} {args : List WData} (hpre : Challenge.rw_wl_augur_3u.row.claim.pre args = true) (hw : WellAll P h vals args) :
  ∃ (zs : List Int) (a : Addr), zs.length ≤ 63 ∧ vals = [.ref a] ∧ args = [.list (zs.map .int)] ∧ ∀ (prog : Program) (w : World), Rp prog w (fun _ => True) h (.ref a) (.list (zs.map .int)) := by
 have hpre' : (WShape.hasAll [] args [.list .int] && (Challenge.rw_wl_augur_3u.pre).holds [] { args := args }) = true := hpre
 simp only [BA] at hpre'
 obtain ⟨h1, h2⟩ := hpre'
 match args, hw with
 | [], _ => exact (Bool.false_ne_true h1).elim
 | d :: e :: _, _ => exact (Bool.false_ne_true (Bool.and_eq_true_iff.mp (show (WShape.has [] d (.list .int) && false) = true from h1)).2).elim
 | [d], .cons a b =>
  cases b
  replace h1 := (Bool.and_eq_true_iff.mp (show (WShape.has [] d (.list .int) && true) = true from h1)).1
  cases a <;> first | exact (Bool.false_ne_true h1).elim | skip
  rename_i a vs xs g r
  obtain ⟨zs, rfl, hr⟩ := wints _ r ((Bool.or_false _).symm.trans h1)
  have hlen : zs.length ≤ 63 := by
   have h3 : (Challenge.rw_wl_augur_3u.pre).holds [] { args := [.list (zs.map WData.int)] } = !decide ((63 : Int) < ((zs.map WData.int).length : Int)) := by
    have hF : ∀ b : Bool, WTm.holds [] (.and (.lit (.bool b)) (.lit (.bool true))) { args := [.list (zs.map WData.int)] } = b := fun b => by cases b <;> rfl
    exact hF (!decide ((63 : Int) < ((zs.map WData.int).length : Int)))
   rw [h3] at h2
   simp only [List.length_map, Bool.not_eq_true', decide_eq_false_iff_not] at h2
   omega
  exact ⟨zs, a, hlen, rfl, rfl, fun prog w => .list trivial ⟨0, g⟩ (by simp only [List.length_map]; unfold lim; omega) (hr prog w _ _)⟩
theorem Ii {args ds : List WData} : Challenge.rw_wl_augur_3u.row.claim.post args (.bool true) ds = true := by
 show (WShape.has [] (.bool true) .bool && WTm.holds [] (.eq .res (.lit (.bool true))) { args := args, res := some (.bool true), after := ds }) = true
 refine Bool.and_eq_true_iff.mpr ⟨rfl, ?_⟩
 simp [WTm.holds, WTm.value, same]
noncomputable def vw : Program := view Challenge.rw_wl_augur_3u.row.prog [1, 2, 3, 4, 5, 6, 7, 8, 9, 10, 11, 12, 13, 14, 15, 16, 17, 18, 19, 20, 21, 23, 24, 25, 26, 27, 28, 29, 30, 31, 32, 33, 34, 35, 36, 37]
theorem law_said : Challenge.rw_wl_augur_3u.wellSaid = true := by
 unfold OpenLaw.wellSaid OpenRow.wellSaid OpenRow.partSaid looksOpen
 with_reducible (repeat' refine look_both ?_ ?_)
 all_goals decide +kernel
theorem top_run : LeftO Challenge.rw_wl_augur_3u.row.prog vw [] (fun s => xlAt vw [] s && recOk (RowW.records Challenge.rw_wl_augur_3u.row.toRowW) s) (Hook.obs Hook.none) (Hook.val Hook.none) 2272 := fun w => by kernel_rfl
theorem holds : PySem.Challenge.rw_wl_augur_3u.Holds := by
 refine holds_law law_said fun said => ?_
 refine holds_open (q := vw) (loose := []) (Xt := fun s => xlAt vw [] s && recOk (RowW.records Challenge.rw_wl_augur_3u.row.toRowW) s) (XP := XL vw []) (Yf := Hook.obs Hook.none) (Ya := Hook.val Hook.none) (YP := Hook.says Hook.none) (N := 2272) top_run (Hook.of Hook.none) (Hook.keeps Hook.none)
  (fun s e => xl_of s (Bool.and_eq_true_iff.mp e).1) XL.keeps (by rfl) (by rfl) (by rfl) (fun s e => recFacts_of (Bool.and_eq_true_iff.mp e).2) (by rfl) (by assumption) (by decide +kernel) ⟨rfl, rfl, rfl, rfl, rfl, by decide +kernel⟩ ?hw ?hc
 (case hw => w_witness2)
 intro w s₀ s₁ mg mb G Y fa o pm cd doc dV kV ho hd hcd hD hmg hg args vals as hpre hlay hrd hwl hlo
 refine Ground.open G ?_
 intro T B D TE TW
 have fnok := law_fn (prog := Challenge.rw_wl_augur_3u.row.prog) (w := w) T (chk_of (by decide +kernel)) (by decide +kernel) ⟨by kernel_rfl, by kernel_rfl⟩ 33 34 (by omega) (by decide)
 obtain ⟨zs, a, hlen, rfl, rfl, rd⟩ := args_of hpre hwl
 obtain ⟨k, hrun⟩ := law_true zs
 have hF : Yq[33]? = some f33 := rfl
 have gok : GOk ⟨mg, mb, s₁.heap.get?⟩ s₁.heap := ⟨T.g, T.b, T.nolimit, fun _ _ e => e⟩
 have rm : Rm 34 callerA := ⟨rfl, by decide +kernel, by decide +kernel⟩
 refine wpAny_call (codeAny_mono (fnok (Str.ofString "law") fa rfl hmg callerA s₁ [.ref a] [.list (zs.map .int)] (fun _ => True) (.bool true) k rm gok ?_ ?_ (fun _ _ => trivial)) fun r s' q => ?_)
 ·rw [B6]
  exact .cons ⟨0, [], Nat.le_refl _, (rd _ w).ow⟩ .nil
 ·rw [W0 (by omega) hF]; exact hrun
 ·obtain ⟨v, rfl, ⟨h', tk, rfl, hk⟩, rr⟩ := q
  obtain rfl := Lf rr.rd
  exact GoodW.toG ⟨.inl ⟨_, .bool true, [], rfl, fun _ => rfl, .bool true, Ii, fun _ => ⟨List.nodup_nil, fun _ h => nomatch h⟩⟩, hk, rfl, hg⟩
end Mine
end
theorem PySem.Challenge.cw_wl_augur_3u_holds : PySem.Challenge.rw_wl_augur_3u.Holds :=
 Mine.holds
