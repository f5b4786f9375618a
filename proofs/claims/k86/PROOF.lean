import PyProof.Rows.All
import Wide.All
import OpenK.AllK
import Wide.FinOn
import KE.KStateDown
import Lean
import HandS.ForMost
import HandS.ForExc
import HandS.More
import HandS.Conv
import HandS.Defaults
import HandS.IsInst
import HandS.Flow
import HandS.Style
import HandS.StrMore
import HandS.TupMul
import HandS.TupAny
import HandS.Walk
import HandS.Zip
import HandS.Head0
import HandS.Head1
import HandS.Head2
import HandS.HeadEnd
import HandS.HeadHook1
import HandS.HeadHook2
import HandS.HeadHook3
import HandS.HeadHook4
import KE.GoesEnum
import HandS.Flt
import HandS.Steps
import HandS.MakeKw
import HandS.MakeKwOnly
import HandS.Wide
import HandS.ExcInit
import HandS.ExcField
import HandS.ExcOwn
import HandS.ExcIs
import KE.KExcIs
import PySem.Challenge.RW_everybudget_k86_judged_point_trees
import KE.BitLaws
set_option Elab.async false
set_option linter.all false
set_option maxRecDepth 100000
set_option maxHeartbeats 4000000
/-! EB: typed representations of values, frames, readings that evaluate. -/
namespace EB
open PySem PySem.Spec PyProof.Rows L2

/-! ### sets of addresses, frames -/
abbrev AS := Addr → Prop
def Ex (H H' : Hp) : Prop := ∀ a o, H a = some o → H' a = some o
theorem Ex.refl (H : Hp) : Ex H H := fun _ _ h => h
theorem Ex.trans {H H1 H2 : Hp} (a : Ex H H1) (b : Ex H1 H2) : Ex H H2 := fun x o h => b x o (a x o h)
theorem Ex.new {H : Hp} {p : Addr} {o : HO} (h : H p = none) : Ex H (upd H p o) := fun a u e => by
  rw [upd_ne (ne_of_none e h)]
  exact e
theorem Ex.back {H H' : Hp} {p : Addr} (e : Ex H H') (h : H' p = none) : H p = none := by
  cases h1 : H p with
  | none => rfl
  | some o => rw [e p o h1] at h; cases h
/-- T may have changed; what was tracked is -/
structure Fr (T : AS) (H H' : Hp) : Prop where
  keep : ∀ a o, ¬ T a → H a = some o → H' a = some o
  dom : ∀ a o, H a = some o → ∃ o', H' a = some o'
theorem Fr.refl {T : AS} (H : Hp) : Fr T H H := ⟨fun _ _ _ h => h, fun _ o h => ⟨o, h⟩⟩
theorem Fr.trans {T : AS} {H H1 H2 : Hp} (a : Fr T H H1) (b : Fr T H1 H2) : Fr T H H2 :=
  ⟨fun x o n h => b.keep x o n (a.keep x o n h), fun x o h => let ⟨o1, h1⟩ := a.dom x o h; b.dom x o1 h1⟩
theorem Ex.fr {T : AS} {H H' : Hp} (e : Ex H H') : Fr T H H' := ⟨fun a o _ h => e a o h, fun a o h => ⟨o, e a o h⟩⟩
theorem Fr.mono {S T : AS} {H H' : Hp} (f : Fr S H H') (h : ∀ b, S b → T b) : Fr T H H' := ⟨fun a o n e => f.keep a o (fun z => n (h a z)) e, f.dom⟩
theorem Fr.back {T : AS} {H H' : Hp} {p : Addr} (e : Fr T H H') (h : H' p = none) : H p = none := by
  cases h1 : H p with
  | none => rfl
  | some o => obtain ⟨o', h2⟩ := e.dom p o h1; rw [h2] at h; cases h
theorem Fr.upd {T : AS} {H : Hp} {p : Addr} {o : HO} (h : T p ∨ H p = none) : Fr T H (upd H p o) := by
  refine ⟨fun a u n e => ?_, fun a u e => ?_⟩
  · have ne : a ≠ p := fun z => by
      subst z
      rcases h with h | h
      · exact n h
      · rw [h] at e; cases e
    rw [upd_ne ne]; exact e
  · by_cases z : a = p
    · subst z; exact ⟨o, upd_same⟩
    · rw [upd_ne z]; exact ⟨u, e⟩
theorem Fr.ex {T : AS} {H H' : Hp} (f : Fr T H H') (h : ∀ b, ¬ T b) : Ex H H' := fun a o e => f.keep a o (h a) e
/-- T is tracked -/
def TD (T : AS) (H : Hp) : Prop := ∀ b, T b → ∃ o, H b = some o
theorem TD.fr {S T : AS} {H H' : Hp} (h : TD T H) (f : Fr S H H') : TD T H' := fun b t => let ⟨o, e⟩ := h b t; f.dom b o e
theorem TD.ex {T : AS} {H H' : Hp} (h : TD T H) (e : Ex H H') : TD T H' := fun b t => let ⟨o, q⟩ := h b t; ⟨o, e b o q⟩
theorem TD.new {T : AS} {H : Hp} {p : Addr} (h : TD T H) (n : H p = none) : ¬ T p := fun t => by
  obtain ⟨o, e⟩ := h p t
  rw [n] at e; cases e
def T0 : AS := fun _ => False
theorem td0 {H : Hp} : TD T0 H := fun _ h => h.elim
/-- T and p -/
def Tp (T : AS) (p : Addr) : AS := fun b => T b ∨ b = p
theorem TD.tp {T : AS} {H : Hp} {p : Addr} {o : HO} (h : TD T H) (e : H p = some o) : TD (Tp T p) H := fun b t => by
  rcases t with t | t
  · exact h b t
  · subst t; exact ⟨o, e⟩

/-! ### lists and tuples off T -/
def KLs (K : PySem.W.Frag) (a : Addr) (xs : List V) : Prop := ∃ (o : Obj) (its : Array Value) (n : Nat), K.lookup a = some o ∧ o.cls = .type "list" ∧ o.dict = none ∧ o.data = .seq its n ∧ its.size ≤ sizeLine ∧ Vals xs its.toList
def KTu (K : PySem.W.Frag) (a : Addr) (xs : List V) : Prop := ∃ (o : Obj) (its : Array Value) (n : Nat), K.lookup a = some o ∧ o.cls = .type "tuple" ∧ o.data = .seq its n ∧ its.size ≤ sizeLine ∧ Vals xs its.toList
def SL (K : PySem.W.Frag) (T : AS) (H : Hp) (a : Addr) (xs : List V) : Prop := (¬ T a ∧ Rd H a (.lst xs)) ∨ KLs K a xs
def ST (K : PySem.W.Frag) (T : AS) (H : Hp) (a : Addr) (xs : List V) : Prop := (¬ T a ∧ Rd H a (.tup xs)) ∨ KTu K a xs
section
variable {K : PySem.W.Frag} {T T' : AS} {H H' : Hp} {a p : Addr} {xs : List V}
theorem SL.sq (h : SL K T H a xs) : SqL K H a xs := h.elim (fun z => .inl z.2) .inr
theorem ST.sq (h : ST K T H a xs) : SqT K H a xs := h.elim (fun z => .inl z.2) .inr
theorem Rd.fr {u : HO} (n : ¬ T a) (f : Fr T H H') (h : Rd H a u) : Rd H' a u := h.elim (fun z => .inl (f.keep a _ n z)) fun ⟨o, z⟩ => .inr ⟨o, f.keep a _ n z⟩
theorem SL.fr (f : Fr T H H') (h : SL K T H a xs) : SL K T H' a xs := h.elim (fun z => .inl ⟨z.1, Rd.fr z.1 f z.2⟩) .inr
theorem ST.fr (f : Fr T H H') (h : ST K T H a xs) : ST K T H' a xs := h.elim (fun z => .inl ⟨z.1, Rd.fr z.1 f z.2⟩) .inr
theorem SL.sub (f : ∀ b, T' b → T b) (h : SL K T H a xs) : SL K T' H a xs := h.elim (fun z => .inl ⟨fun t => z.1 (f a t), z.2⟩) .inr
theorem ST.sub (f : ∀ b, T' b → T b) (h : ST K T H a xs) : ST K T' H a xs := h.elim (fun z => .inl ⟨fun t => z.1 (f a t), z.2⟩) .inr
theorem Rd.ne {u : HO} (n : H p = none) (h : Rd H a u) : a ≠ p := fun z => by
  subst z
  rcases h with h | ⟨o, h⟩ <;> (rw [n] at h; cases h)
theorem SL.lift (n : H p = none) (h : SL K T H a xs) : SL K (Tp T p) H a xs := h.elim (fun z => .inl ⟨fun t => t.elim z.1 (Rd.ne n z.2), z.2⟩) .inr
theorem ST.lift (n : H p = none) (h : ST K T H a xs) : ST K (Tp T p) H a xs := h.elim (fun z => .inl ⟨fun t => t.elim z.1 (Rd.ne n z.2), z.2⟩) .inr
theorem SL.new (n : ¬ T p) (e : H p = some (.lst xs)) : SL K T H p xs := .inl ⟨n, .inl e⟩
theorem ST.new (n : ¬ T p) (e : H p = some (.tup xs)) : ST K T H p xs := .inl ⟨n, .inl e⟩
end

/-! ### representations -/
abbrev Rp (α : Type) := PySem.W.Frag → AS → Hp → V → α → Prop
/-- steps of the heap -/
structure Wd (T : AS) (H : Hp) (T' : AS) (H' : Hp) : Prop where
  fr : Fr T H H'
  nw : ∀ b, T' b → T b ∨ H b = none
section
variable {T T' T'' : AS} {H H' H'' : Hp}
theorem Wd.refl : Wd T H T H := ⟨Fr.refl H, fun _ h => .inl h⟩
theorem Wd.trans (a : Wd T H T' H') (c : Wd T' H' T'' H'') : Wd T H T'' H'' where
  fr := ⟨fun x o n h => c.fr.keep x o (fun t => (a.nw x t).elim n fun z => by rw [z] at h; cases h) (a.fr.keep x o n h), fun x o h => let ⟨o1, h1⟩ := a.fr.dom x o h; c.fr.dom x o1 h1⟩
  nw := fun x t => (c.nw x t).elim (a.nw x) fun z => .inr (a.fr.back z)
theorem Wd.ex (e : Ex H H') : Wd T H T H' := ⟨e.fr, fun _ h => .inl h⟩
theorem Wd.of (f : Fr T H H') : Wd T H T H' := ⟨f, fun _ h => .inl h⟩
theorem Wd.sub (h : ∀ b, T' b → T b) : Wd T H T' H := ⟨Fr.refl H, fun b t => .inl (h b t)⟩
theorem Wd.new {p : Addr} {o : HO} (h : H p = none) : Wd T H (Tp T p) (upd H p o) := ⟨(Ex.new h).fr, fun b t => t.elim .inl fun z => .inr (z ▸ h)⟩
theorem Wd.lift {p : Addr} (h : H p = none) : Wd T H (Tp T p) H := ⟨Fr.refl H, fun b t => t.elim .inl fun z => .inr (z ▸ h)⟩
end
section
variable {K : PySem.W.Frag} {T T' : AS} {H H' : Hp} {a : Addr} {xs : List V} {u : HO}
theorem Rd.wd (w : Wd T H T' H') (n : ¬ T a) (h : Rd H a u) : ¬ T' a ∧ Rd H' a u :=
  ⟨fun t => (w.nw a t).elim n fun z => by rcases h with h | ⟨o, h⟩ <;> (rw [z] at h; cases h), Rd.fr n w.fr h⟩
theorem SL.wd (w : Wd T H T' H') (h : SL K T H a xs) : SL K T' H' a xs := h.elim (fun z => .inl (Rd.wd w z.1 z.2)) .inr
theorem ST.wd (w : Wd T H T' H') (h : ST K T H a xs) : ST K T' H' a xs := h.elim (fun z => .inl (Rd.wd w z.1 z.2)) .inr
end
class Mo {α : Type} (r : Rp α) : Prop where
  wd : ∀ {K T H T' H' v a}, Wd T H T' H' → r K T H v a → r K T' H' v a
theorem Mo.fr {α : Type} {r : Rp α} [Mo r] {K T H H' v a} (f : Fr T H H') (h : r K T H v a) : r K T H' v a := Mo.wd (Wd.of f) h
theorem Mo.sub {α : Type} {r : Rp α} [Mo r] {K T T' H v a} (f : ∀ b, T' b → T b) (h : r K T H v a) : r K T' H v a := Mo.wd (Wd.sub f) h
theorem Mo.lift {α : Type} {r : Rp α} [Mo r] {K T H v a p} (f : H p = none) (h : r K T H v a) : r K (Tp T p) H v a := Mo.wd (Wd.lift f) h
def zI : Rp Int := fun _ _ _ v i => v = .int i
def zB : Rp Bool := fun _ _ _ v b => v = .bl b
def zS : Rp Str := fun _ _ _ v s => v = .str s
def zN : Rp Unit := fun _ _ _ v _ => v = .non
/-- a word of bits, as a text -/
def sgn (b : Bool) : Nat := if b then 49 else 48
def wS (w : List Bool) : Str := ⟨(w.map sgn).toArray⟩
def zW : Rp (List Bool) := fun _ _ _ v w => v = .str (wS w) ∧ w.length ≤ 100000
abbrev All2 {α β : Type} (F : α → β → Prop) : List α → List β → Prop := Paired F
def zL {α : Type} (r : Rp α) : Rp (List α) := fun K T H v xs => ∃ a vs, v = .ref a ∧ SL K T H a vs ∧ All2 (r K T H) vs xs
def zU {α : Type} (r : Rp α) : Rp (List α) := fun K T H v xs => ∃ a vs, v = .ref a ∧ ST K T H a vs ∧ All2 (r K T H) vs xs
def zP {α β : Type} (r : Rp α) (s : Rp β) : Rp (α × β) := fun K T H v p => ∃ a x y, v = .ref a ∧ ST K T H a [x, y] ∧ r K T H x p.1 ∧ s K T H y p.2
def zP3 {α β γ : Type} (r : Rp α) (s : Rp β) (t : Rp γ) : Rp (α × β × γ) := fun K T H v p => ∃ a x y z, v = .ref a ∧ ST K T H a [x, y, z] ∧ r K T H x p.1 ∧ s K T H y p.2.1 ∧ t K T H z p.2.2
def zO {α : Type} (r : Rp α) : Rp (Option α) := fun K T H v o => (v = .non ∧ o = none) ∨ ∃ x, o = some x ∧ r K T H v x
section
theorem all2_imp {α β : Type} {F G : α → β → Prop} (h : ∀ a b, F a b → G a b) : ∀ {xs : List α} {ys : List β}, All2 F xs ys → All2 G xs ys
  | _, _, .nil => .nil
  | _, _, .cons r t => .cons (h _ _ r) (all2_imp h t)
theorem all2_len {α β : Type} {F : α → β → Prop} : ∀ {xs : List α} {ys : List β}, All2 F xs ys → xs.length = ys.length
  | _, _, .nil => rfl
  | _, _, .cons _ t => by simp [all2_len t]
theorem all2_get {α β : Type} {F : α → β → Prop} : ∀ {xs : List α} {ys : List β} {i : Nat} {y : β}, All2 F xs ys → ys[i]? = some y → ∃ x, xs[i]? = some x ∧ F x y
  | _, _, _, _, .nil, e => by simp at e
  | _, _, 0, _, .cons r _, e => by simp at e; subst e; exact ⟨_, rfl, r⟩
  | _, _, i + 1, y, .cons _ t, e => by
    obtain ⟨u, h1, h2⟩ := all2_get (i := i) (y := y) t (by simpa using e)
    exact ⟨u, by simpa using h1, h2⟩
theorem all2_getL {α β : Type} {F : α → β → Prop} : ∀ {xs : List α} {ys : List β} {i : Nat} {x : α}, All2 F xs ys → xs[i]? = some x → ∃ y, ys[i]? = some y ∧ F x y
  | _, _, _, _, .nil, e => by simp at e
  | _, _, 0, _, .cons r _, e => by simp at e; subst e; exact ⟨_, rfl, r⟩
  | _, _, i + 1, y, .cons _ t, e => by
    obtain ⟨u, h1, h2⟩ := all2_getL (i := i) (x := y) t (by simpa using e)
    exact ⟨u, by simpa using h1, h2⟩
theorem all2_app {α β : Type} {F : α → β → Prop} : ∀ {xs us : List α} {ys ws : List β}, All2 F xs ys → All2 F us ws → All2 F (xs ++ us) (ys ++ ws)
  | _, _, _, _, .nil, s => s
  | _, _, _, _, .cons r t, s => .cons r (all2_app t s)
theorem all2_map {α β γ : Type} {F : α → β → Prop} (f : γ → α) (g : γ → β) (h : ∀ c, F (f c) (g c)) : ∀ l : List γ, All2 F (l.map f) (l.map g)
  | [] => .nil
  | c :: r => .cons (h c) (all2_map f g h r)
theorem all2_take {α β : Type} {F : α → β → Prop} : ∀ {xs : List α} {ys : List β} (n : Nat), All2 F xs ys → All2 F (xs.take n) (ys.take n)
  | _, _, 0, _ => .nil
  | _, _, _ + 1, .nil => .nil
  | _, _, n + 1, .cons r t => .cons r (all2_take n t)
theorem all2_drop {α β : Type} {F : α → β → Prop} : ∀ {xs : List α} {ys : List β} (n : Nat), All2 F xs ys → All2 F (xs.drop n) (ys.drop n)
  | _, _, 0, r => r
  | _, _, _ + 1, .nil => .nil
  | _, _, n + 1, .cons _ t => all2_drop n t
theorem all2_set {α β : Type} {F : α → β → Prop} {x : α} {y : β} (r : F x y) : ∀ {xs : List α} {ys : List β} (i : Nat), All2 F xs ys → All2 F (xs.set i x) (ys.set i y)
  | _, _, _, .nil => .nil
  | _, _, 0, .cons _ t => .cons r t
  | _, _, i + 1, .cons q t => .cons q (all2_set r i t)
theorem all2_int {vs : List V} {ns : List Int} {K T H} (h : All2 (zI K T H) vs ns) : vs = ns.map V.int := by
  induction h with
  | nil => rfl
  | cons r _ ih => cases r; rw [ih]; rfl
theorem all2_ints {ns : List Int} {K T H} : All2 (zI K T H) (ns.map V.int) ns := by
  have := all2_map (F := zI K T H) V.int id (fun _ => rfl) ns
  simpa using this
theorem all2_bl {vs : List V} {ns : List Bool} {K T H} (h : All2 (zB K T H) vs ns) : vs = ns.map V.bl := by
  induction h with
  | nil => rfl
  | cons r _ ih => cases r; rw [ih]; rfl
theorem all2_str {vs : List V} {ns : List Str} {K T H} (h : All2 (zS K T H) vs ns) : vs = ns.map V.str := by
  induction h with
  | nil => rfl
  | cons r _ ih => cases r; rw [ih]; rfl
theorem all2_word {vs : List V} {ns : List (List Bool)} {K T H} (h : All2 (zW K T H) vs ns) : vs = (ns.map wS).map V.str := by
  induction h with
  | nil => rfl
  | cons r _ ih => obtain ⟨r, _⟩ := r; cases r; rw [ih]; rfl
instance : Mo zI := ⟨fun _ h => h⟩
instance : Mo zB := ⟨fun _ h => h⟩
instance : Mo zS := ⟨fun _ h => h⟩
instance : Mo zN := ⟨fun _ h => h⟩
instance : Mo zW := ⟨fun _ h => h⟩
variable {α β γ : Type} {r : Rp α} {s : Rp β} {t : Rp γ}
instance [Mo r] : Mo (zL r) := ⟨fun w ⟨a, vs, e, h, q⟩ => ⟨a, vs, e, h.wd w, all2_imp (fun _ _ z => Mo.wd w z) q⟩⟩
instance [Mo r] : Mo (zU r) := ⟨fun w ⟨a, vs, e, h, q⟩ => ⟨a, vs, e, h.wd w, all2_imp (fun _ _ z => Mo.wd w z) q⟩⟩
instance [Mo r] [Mo s] : Mo (zP r s) := ⟨fun w ⟨a, x, y, e, h, q, q'⟩ => ⟨a, x, y, e, h.wd w, Mo.wd w q, Mo.wd w q'⟩⟩
instance [Mo r] [Mo s] [Mo t] : Mo (zP3 r s t) := ⟨fun w ⟨a, x, y, z, e, h, q, q', q2⟩ => ⟨a, x, y, z, e, h.wd w, Mo.wd w q, Mo.wd w q', Mo.wd w q2⟩⟩
instance [Mo r] : Mo (zO r) := ⟨fun w h => h.elim .inl fun ⟨x, e, q⟩ => .inr ⟨x, e, Mo.wd w q⟩⟩
end
theorem wS_app (a b : List Bool) : wS (a ++ b) = wS a ++ wS b := by
  apply TL.ext_tl
  rw [TL.tl_append]
  simp [wS, TL.tl]
theorem wS_len (w : List Bool) : (wS w).length = w.length := by simp [wS, Str.length]
theorem sgn_inj {a b : Bool} (h : sgn a = sgn b) : a = b := by cases a <;> cases b <;> simp [sgn] at h <;> rfl
theorem map_sgn_inj : ∀ {a b : List Bool}, a.map sgn = b.map sgn → a = b
  | [], [], _ => rfl
  | [], _ :: _, h => by simp at h
  | _ :: _, [], h => by simp at h
  | x :: xs, y :: ys, h => by
    simp only [List.map_cons, List.cons.injEq] at h
    rw [sgn_inj h.1, map_sgn_inj h.2]
theorem wS_inj {a b : List Bool} (h : wS a = wS b) : a = b := by
  have : (wS a).cps.toList = (wS b).cps.toList := by rw [h]
  exact map_sgn_inj (by simpa [wS] using this)
theorem wS_eq (a b : List Bool) : decide (V.str (wS a) = V.str (wS b)) = decide (a = b) := by
  by_cases h : a = b
  · subst h; simp
  · rw [decide_eq_false h, decide_eq_false]
    intro e; exact h (wS_inj (V.str.inj e))
theorem wS_nil : wS [] = Str.empty := rfl
end EB

set_option Elab.async false
set_option linter.all false
set_option maxRecDepth 100000
set_option maxHeartbeats 4000000
/-! EB: readings. -/
namespace EB
open PySem PySem.Spec PyProof.Rows L2

/-! ### transport of what is known -/
def Tr (K : PySem.W.Frag) (T : AS) (H : Hp) (T' : AS) (H' : Hp) : Prop := ∀ (α : Type) (r : Rp α), Mo r → ∀ v d, r K T H v d → r K T' H' v d
section
variable {K : PySem.W.Frag} {T T' T2 : AS} {H H' H2 : Hp}
theorem Tr.ap (t : Tr K T H T' H') {α : Type} {r : Rp α} [m : Mo r] {v : V} {d : α} (h : r K T H v d) : r K T' H' v d := t α r m v d h
theorem Tr.refl : Tr K T H T H := fun _ _ _ _ _ h => h
theorem Tr.trans (a : Tr K T H T' H') (b : Tr K T' H' T2 H2) : Tr K T H T2 H2 := fun α r m v d h => b α r m v d (a α r m v d h)
theorem Tr.fr (f : Fr T H H') : Tr K T H T H' := fun _ _ m _ _ h => m.wd (Wd.of f) h
theorem Tr.ex (f : Ex H H') : Tr K T H T H' := fun _ _ m _ _ h => m.wd (Wd.ex f) h
theorem Tr.sub (f : ∀ b, T' b → T b) : Tr K T H T' H := fun _ _ m _ _ h => m.wd (Wd.sub f) h
theorem Tr.wd (w : Wd T H T' H') : Tr K T H T' H' := fun _ _ m _ _ h => m.wd w h
theorem Tr.lift {p : Addr} (n : H p = none) : Tr K T H (Tp T p) H := fun _ _ m _ _ h => m.wd (Wd.lift n) h
end

/-! ### what evaluates to what -/
abbrev Rpl (α : Type) := PySem.W.Frag → AS → Hp → List V → α → Prop
class MoL {α : Type} (r : Rpl α) : Prop where
  wd : ∀ {K T H T' H' v a}, Wd T H T' H' → r K T H v a → r K T' H' v a
theorem MoL.fr {α : Type} {r : Rpl α} [MoL r] {K T H H' v a} (f : Fr T H H') (h : r K T H v a) : r K T H' v a := MoL.wd (Wd.of f) h
theorem MoL.sub {α : Type} {r : Rpl α} [MoL r] {K T T' H v a} (f : ∀ b, T' b → T b) (h : r K T H v a) : r K T' H v a := MoL.wd (Wd.sub f) h
theorem MoL.lift {α : Type} {r : Rpl α} [MoL r] {K T H v a p} (f : H p = none) (h : r K T H v a) : r K (Tp T p) H v a := MoL.wd (Wd.lift f) h
def aN : Rpl Unit := fun _ _ _ vs _ => vs = []
def aC {α β : Type} (r : Rp α) (s : Rpl β) : Rpl (α × β) := fun K T H vs p => ∃ v ws, vs = v :: ws ∧ r K T H v p.1 ∧ s K T H ws p.2
instance : MoL aN := ⟨fun _ h => h⟩
instance {α β : Type} {r : Rp α} {s : Rpl β} [Mo r] [MoL s] : MoL (aC r s) := ⟨fun w ⟨v, ws, e, h, q⟩ => ⟨v, ws, e, Mo.wd w h, MoL.wd w q⟩⟩
/-- homogeneous -/
def aH {α : Type} (r : Rp α) : Rpl (List α) := fun K T H vs xs => All2 (r K T H) vs xs
instance {α : Type} {r : Rp α} [Mo r] : MoL (aH r) := ⟨fun w h => all2_imp (fun _ _ z => Mo.wd w z) h⟩

def Ev (K : PySem.W.Frag) (T : AS) {α : Type} (te : TE) (σ : L2.St) (H : Hp) (r : Rp α) (d : α) : Prop :=
  ∀ H1, Fr T H H1 → ∀ Q : VK, (∀ v H2, Ex H1 H2 → r K T H2 v d → Q v H2) → te σ H1 Q
def EvA (K : PySem.W.Frag) (T : AS) {α : Type} (ta : TA) (σ : L2.St) (H : Hp) (r : Rpl α) (d : α) : Prop :=
  ∀ H1, Fr T H H1 → ∀ Q : List V → Hp → Prop, (∀ vs H2, Ex H1 H2 → r K T H2 vs d → Q vs H2) → ta σ H1 Q
def EvT (T : AS) (tt : TT) (σ : L2.St) (H : Hp) (b : Bool) : Prop :=
  ∀ H1, Fr T H H1 → ∀ Q : Bool → Hp → Prop, (∀ H2, Ex H1 H2 → Q b H2) → tt σ H1 Q
def EvO (T : AS) (to : TO) (σ : L2.St) (H : Hp) (o : Option Int) : Prop :=
  ∀ H1, Fr T H H1 → ∀ Q : Option Int → Hp → Prop, (∀ H2, Ex H1 H2 → Q o H2) → to σ H1 Q
section
variable {K : PySem.W.Frag} {T : AS} {σ : L2.St} {H : Hp} {α β γ : Type} {r : Rp α} {s : Rp β} {ta tb te : TE} {t u : TT}
theorem Ev.to {d d' : α} (h : Ev K T te σ H r d) (e : d = d') : Ev K T te σ H r d' := e ▸ h
theorem EvT.to {d d' : Bool} (h : EvT T t σ H d) (e : d = d') : EvT T t σ H d' := e ▸ h
theorem Ev.fr {d : α} {H' : Hp} (f : Fr T H H') (h : Ev K T te σ H r d) : Ev K T te σ H' r d := fun H1 a => h H1 (f.trans a)
theorem EvT.fr {b : Bool} {H' : Hp} (f : Fr T H H') (h : EvT T t σ H b) : EvT T t σ H' b := fun H1 a => h H1 (f.trans a)
theorem ev_var [Mo r] {i : Nat} {v : V} {d : α} (e : σ[i]? = some (some v)) (h : r K T H v d) : Ev K T (tVar i) σ H r d := fun H1 f _ q => ⟨v, e, q v H1 (Ex.refl H1) (Mo.fr f h)⟩
theorem ev_int {i : Int} : Ev K T (tC (.int i)) σ H zI i := fun H1 _ _ q => q _ H1 (Ex.refl H1) rfl
theorem ev_bl {i : Bool} : Ev K T (tC (.bl i)) σ H zB i := fun H1 _ _ q => q _ H1 (Ex.refl H1) rfl
theorem ev_str {i : Str} : Ev K T (tC (.str i)) σ H zS i := fun H1 _ _ q => q _ H1 (Ex.refl H1) rfl
theorem ev_non : Ev K T (tC .non) σ H zN () := fun H1 _ _ q => q _ H1 (Ex.refl H1) rfl
theorem ev_nonO : Ev K T (tC .non) σ H (zO r) none := fun H1 _ _ q => q _ H1 (Ex.refl H1) (.inl ⟨rfl, rfl⟩)
/-- a written word -/
theorem ev_word {i : Str} (w : List Bool) (e : i = wS w) (hl : w.length ≤ 100000) : Ev K T (tC (.str i)) σ H zW w := fun H1 _ _ q => q _ H1 (Ex.refl H1) ⟨by rw [e], hl⟩
theorem ev_some {d : α} (h : Ev K T te σ H r d) : Ev K T te σ H (zO r) (some d) := fun H1 f Q q => h H1 f Q fun v H2 e x => q v H2 e (.inr ⟨d, rfl, x⟩)
/-- two-place operations -/
theorem ev_op {a : α} {b : β} {c : γ} {s' : Rp γ} {R : R2} [Mo r] (ha : Ev K T ta σ H r a) (hb : Ev K T tb σ H s b) (hr : ∀ x y H1 (Q : VK), Fr T H H1 → r K T H1 x a → s K T H1 y b → (∀ v H2, Ex H1 H2 → s' K T H2 v c → Q v H2) → R x y H1 Q) : Ev K T (tOp R ta tb) σ H s' c :=
  fun H1 f Q q => ha H1 f _ fun x H2 e2 r2 => hb H2 (f.trans e2.fr) _ fun y H3 e3 r3 => hr x y H3 Q ((f.trans e2.fr).trans e3.fr) (Mo.fr e3.fr r2) r3 fun v H4 e4 r4 => q v H4 ((e2.trans e3).trans e4) r4
theorem ev_I0 {g : Int → Int → V} {i j : Int} {c : γ} {s' : Rp γ} (hg : ∀ H1, s' K T H1 (g i j) c) (ha : Ev K T ta σ H zI i) (hb : Ev K T tb σ H zI j) : Ev K T (tOp (rI0 g) ta tb) σ H s' c :=
  ev_op ha hb fun x y H1 Q _ h1 h2 q => ⟨i, j, h1, h2, q _ H1 (Ex.refl H1) (hg H1)⟩
theorem ev_IC {C : Int → Int → Prop} {g : Int → Int → V} {i j : Int} {c : γ} {s' : Rp γ} (hg : ∀ H1, s' K T H1 (g i j) c) (ha : Ev K T ta σ H zI i) (hb : Ev K T tb σ H zI j) (hc : C i j) : Ev K T (tOp (rI C g) ta tb) σ H s' c :=
  ev_op ha hb fun x y H1 Q _ h1 h2 q => ⟨i, j, h1, h2, hc, q _ H1 (Ex.refl H1) (hg H1)⟩
theorem ev_add {i j : Int} (ha : Ev K T ta σ H zI i) (hb : Ev K T tb σ H zI j) : Ev K T (tOp (rI0 fun i j => .int (i + j)) ta tb) σ H zI (i + j) := ev_I0 (fun _ => rfl) ha hb
theorem ev_sub {i j : Int} (ha : Ev K T ta σ H zI i) (hb : Ev K T tb σ H zI j) : Ev K T (tOp (rI0 fun i j => .int (i - j)) ta tb) σ H zI (i - j) := ev_I0 (fun _ => rfl) ha hb
theorem ev_lt {i j : Int} (ha : Ev K T ta σ H zI i) (hb : Ev K T tb σ H zI j) : Ev K T (tOp (rI0 fun i j => .bl (decide (i < j))) ta tb) σ H zB (decide (i < j)) := ev_I0 (fun _ => rfl) ha hb
theorem ev_le {i j : Int} (ha : Ev K T ta σ H zI i) (hb : Ev K T tb σ H zI j) : Ev K T (tOp (rI0 fun i j => .bl (decide (i ≤ j))) ta tb) σ H zB (decide (i ≤ j)) := ev_I0 (fun _ => rfl) ha hb
theorem ev_gt {i j : Int} (ha : Ev K T ta σ H zI i) (hb : Ev K T tb σ H zI j) : Ev K T (tOp (rI0 fun i j => .bl (decide (j < i))) ta tb) σ H zB (decide (j < i)) := ev_I0 (fun _ => rfl) ha hb
theorem ev_ge {i j : Int} (ha : Ev K T ta σ H zI i) (hb : Ev K T tb σ H zI j) : Ev K T (tOp (rI0 fun i j => .bl (decide (j ≤ i))) ta tb) σ H zB (decide (j ≤ i)) := ev_I0 (fun _ => rfl) ha hb
theorem ev_mul {i j : Int} (ha : Ev K T ta σ H zI i) (hb : Ev K T tb σ H zI j) (hc : CMul i j) : Ev K T (tOp (rI CMul fun i j => .int (i * j)) ta tb) σ H zI (i * j) := ev_IC (fun _ => rfl) ha hb hc
theorem ev_mod {i j : Int} (ha : Ev K T ta σ H zI i) (hb : Ev K T tb σ H zI j) (hc : 0 < j) : Ev K T (tOp (rI (fun _ j => 0 < j) fun i j => .int (i % j)) ta tb) σ H zI (i % j) := ev_IC (fun _ => rfl) ha hb hc
theorem ev_fdiv {i j : Int} (ha : Ev K T ta σ H zI i) (hb : Ev K T tb σ H zI j) (hc : CDiv i j) : Ev K T (tOp (rI CDiv fun i j => .int (i / j)) ta tb) σ H zI (i / j) := ev_IC (fun _ => rfl) ha hb hc
theorem ev_pow {i j : Int} (ha : Ev K T ta σ H zI i) (hb : Ev K T tb σ H zI j) (hc : CPow i j) : Ev K T (tOp (rI CPow fun i j => .int (i ^ j.toNat)) ta tb) σ H zI (i ^ j.toNat) := ev_IC (fun _ => rfl) ha hb hc
theorem ev_shl {i j : Int} (ha : Ev K T ta σ H zI i) (hb : Ev K T tb σ H zI j) (hc : CPow i j) : Ev K T (tOp (rI CPow fun i j => .int (i * 2 ^ j.toNat)) ta tb) σ H zI (i * 2 ^ j.toNat) := ev_IC (fun _ => rfl) ha hb hc
theorem ev_neg {i : Int} (ha : Ev K T ta σ H zI i) : Ev K T (tUn (rU fun i => .int (-i)) ta) σ H zI (-i) := fun H1 f Q q => ha H1 f _ fun x H2 e h => ⟨i, h, q _ H2 e rfl⟩
/-- equality of scalars -/
theorem ev_eqI {i j : Int} (ha : Ev K T ta σ H zI i) (hb : Ev K T tb σ H zI j) : Ev K T (tOp rEq ta tb) σ H zB (decide (i = j)) :=
  ev_op ha hb fun x y H1 Q _ h1 h2 q => by cases h1; cases h2; exact ⟨rfl, q _ H1 (Ex.refl H1) (show V.bl (decide (V.int i = V.int j)) = .bl (decide (i = j)) by simp)⟩
theorem ev_neI {i j : Int} (ha : Ev K T ta σ H zI i) (hb : Ev K T tb σ H zI j) : Ev K T (tOp rNe ta tb) σ H zB (!decide (i = j)) :=
  ev_op ha hb fun x y H1 Q _ h1 h2 q => by cases h1; cases h2; exact ⟨rfl, q _ H1 (Ex.refl H1) (show V.bl (!decide (V.int i = V.int j)) = .bl (!decide (i = j)) by simp)⟩
theorem ev_eqS {i j : Str} (ha : Ev K T ta σ H zS i) (hb : Ev K T tb σ H zS j) : Ev K T (tOp rEq ta tb) σ H zB (decide (i = j)) :=
  ev_op ha hb fun x y H1 Q _ h1 h2 q => by cases h1; cases h2; exact ⟨rfl, q _ H1 (Ex.refl H1) (show V.bl (decide (V.str i = V.str j)) = .bl (decide (i = j)) by simp)⟩
theorem ev_eqW {i j : List Bool} (ha : Ev K T ta σ H zW i) (hb : Ev K T tb σ H zW j) : Ev K T (tOp rEq ta tb) σ H zB (decide (i = j)) :=
  ev_op ha hb fun x y H1 Q _ h1 h2 q => by obtain ⟨h1, _⟩ := h1; obtain ⟨h2, _⟩ := h2; cases h1; cases h2; exact ⟨rfl, q _ H1 (Ex.refl H1) (show V.bl (decide (V.str (wS i) = V.str (wS j))) = .bl (decide (i = j)) by rw [wS_eq])⟩
theorem ev_neW {i j : List Bool} (ha : Ev K T ta σ H zW i) (hb : Ev K T tb σ H zW j) : Ev K T (tOp rNe ta tb) σ H zB (!decide (i = j)) :=
  ev_op ha hb fun x y H1 Q _ h1 h2 q => by obtain ⟨h1, _⟩ := h1; obtain ⟨h2, _⟩ := h2; cases h1; cases h2; exact ⟨rfl, q _ H1 (Ex.refl H1) (show V.bl (!decide (V.str (wS i) = V.str (wS j))) = .bl (!decide (i = j)) by rw [wS_eq])⟩
/-- text + text -/
def rCatS : R2 := fun x y H Q => ∃ i j, x = .str i ∧ y = .str j ∧ i.length + j.length ≤ sizeLine ∧ Q (.str (i ++ j)) H
theorem op_addS {X : Cx} : OpR X (binaryOp .Add) rCatS := op_add_str
theorem ev_catW {i j : List Bool} (ha : Ev K T ta σ H zW i) (hb : Ev K T tb σ H zW j) (hl : i.length + j.length ≤ 100000) : Ev K T (tOp rCatS ta tb) σ H zW (i ++ j) :=
  ev_op ha hb fun x y H1 Q _ h1 h2 q => by
    obtain ⟨h1, _⟩ := h1; obtain ⟨h2, _⟩ := h2
    refine ⟨_, _, h1, h2, ?_, q _ H1 (Ex.refl H1) ⟨by rw [wS_app], by simpa using hl⟩⟩
    rw [wS_len, wS_len, sizeLine_eq]; omega
/-- tests -/
theorem et_test {b : Bool} (h : Ev K T te σ H zB b) : EvT T (tTest te) σ H b := fun H1 f _ q => h H1 f _ fun v H2 e2 r2 => ⟨b, r2, q H2 e2⟩
theorem et_B {b : Bool} (h : Ev K T te σ H zB b) : EvT T (tB te) σ H b := fun H1 f _ q => h H1 f _ fun v H2 e2 r2 => ⟨b, r2, q H2 e2⟩
theorem et_yes : EvT T tYes σ H true := fun H1 _ _ q => q H1 (Ex.refl H1)
theorem et_and {a b : Bool} (h1 : EvT T t σ H a) (h2 : a = true → EvT T u σ H b) : EvT T (tAnd t u) σ H (a && b) := fun H1 f Q q => h1 H1 f _ fun H2 e2 => by
  cases a with
  | true => exact h2 rfl H2 (f.trans e2.fr) Q fun H3 e3 => q H3 (e2.trans e3)
  | false => exact q H2 e2
theorem et_or {a b : Bool} (h1 : EvT T t σ H a) (h2 : a = false → EvT T u σ H b) : EvT T (tOr t u) σ H (a || b) := fun H1 f Q q => h1 H1 f _ fun H2 e2 => by
  cases a with
  | true => exact q H2 e2
  | false => exact h2 rfl H2 (f.trans e2.fr) Q fun H3 e3 => q H3 (e2.trans e3)
theorem et_not {a : Bool} (h1 : EvT T t σ H a) : EvT T (tNot t) σ H (!a) := fun H1 f _ q => h1 H1 f _ fun H2 e2 => q H2 e2
theorem ev_andV {a b : Bool} (h1 : Ev K T ta σ H zB a) (h2 : a = true → Ev K T tb σ H zB b) : Ev K T (tAndV ta tb) σ H zB (a && b) := fun H1 f Q q => h1 H1 f _ fun v H2 e2 r2 => ⟨a, r2, by
  cases a with
  | true => exact h2 rfl H2 (f.trans e2.fr) Q fun v H3 e3 r3 => q v H3 (e2.trans e3) r3
  | false => exact q _ H2 e2 rfl⟩
theorem ev_orV {a b : Bool} (h1 : Ev K T ta σ H zB a) (h2 : a = false → Ev K T tb σ H zB b) : Ev K T (tOrV ta tb) σ H zB (a || b) := fun H1 f Q q => h1 H1 f _ fun v H2 e2 r2 => ⟨a, r2, by
  cases a with
  | true => exact q _ H2 e2 rfl
  | false => exact h2 rfl H2 (f.trans e2.fr) Q fun v H3 e3 r3 => q v H3 (e2.trans e3) r3⟩
theorem ev_notV {a : Bool} (h1 : Ev K T ta σ H zB a) : Ev K T (tNotV ta) σ H zB (!a) := fun H1 f _ q => h1 H1 f _ fun v H2 e2 r2 => ⟨a, r2, q _ H2 e2 rfl⟩
theorem ev_if {b : Bool} {d : α} (h : EvT T t σ H b) (h1 : b = true → Ev K T ta σ H r d) (h2 : b = false → Ev K T tb σ H r d) : Ev K T (tIf t ta tb) σ H r d := fun H1 f Q q => h H1 f _ fun H2 e2 => by
  cases b with
  | true => exact h1 rfl H2 (f.trans e2.fr) Q fun v H3 e3 r3 => q v H3 (e2.trans e3) r3
  | false => exact h2 rfl H2 (f.trans e2.fr) Q fun v H3 e3 r3 => q v H3 (e2.trans e3) r3
theorem ev_ite {b : Bool} {d d' : α} (h : EvT T t σ H b) (h1 : b = true → Ev K T ta σ H r d) (h2 : b = false → Ev K T tb σ H r d') : Ev K T (tIf t ta tb) σ H r (if b = true then d else d') := by
  cases b with
  | true => exact ev_if h (fun _ => by simpa using h1 rfl) (fun z => by cases z)
  | false => exact ev_if h (fun z => by cases z) (fun _ => by simpa using h2 rfl)
/-- arguments -/
theorem ea_nil : EvA K T tNil σ H aN () := fun H1 _ _ q => q [] H1 (Ex.refl H1) rfl
theorem ea_cons [Mo r] {tr : TA} {ra : Rpl β} {a : α} {b : β} (h : Ev K T ta σ H r a) (hr : EvA K T tr σ H ra b) : EvA K T (tCons ta tr) σ H (aC r ra) (a, b) := fun H1 f _ q =>
  h H1 f _ fun x H2 e2 r2 => hr H2 (f.trans e2.fr) _ fun vs H3 e3 r3 => q _ H3 (e2.trans e3) ⟨x, vs, rfl, Mo.fr e3.fr r2, r3⟩
theorem eh_nil : EvA K T tNil σ H (aH r) [] := fun H1 _ _ q => q [] H1 (Ex.refl H1) .nil
theorem eh_cons [Mo r] {tr : TA} {a : α} {b : List α} (h : Ev K T ta σ H r a) (hr : EvA K T tr σ H (aH r) b) : EvA K T (tCons ta tr) σ H (aH r) (a :: b) := fun H1 f _ q =>
  h H1 f _ fun x H2 e2 r2 => hr H2 (f.trans e2.fr) _ fun vs H3 e3 r3 => q _ H3 (e2.trans e3) (.cons (Mo.fr e3.fr r2) r3)
/-- displays -/
theorem ev_lst [Mo r] {tr : TA} {xs : List α} (hT : TD T H) (h : EvA K T tr σ H (aH r) xs) (hl : xs.length ≤ 1000) : Ev K T (tLst tr) σ H (zL r) xs := fun H1 f Q q => h H1 f _ fun vs H2 e2 r2 =>
  ⟨by rw [all2_len r2, sizeLine_eq]; omega, fun p hp => q _ _ (e2.trans (Ex.new hp)) ⟨p, vs, rfl, .new (((hT.fr f).ex e2).new hp) upd_same, all2_imp (fun _ _ z => Mo.fr (Ex.new hp).fr z) r2⟩⟩
theorem ev_tupU [Mo r] {tr : TA} {xs : List α} (hT : TD T H) (h : EvA K T tr σ H (aH r) xs) (hl : xs.length ≤ 1000) : Ev K T (tTup tr) σ H (zU r) xs := fun H1 f Q q => h H1 f _ fun vs H2 e2 r2 =>
  ⟨by rw [all2_len r2, sizeLine_eq]; omega, fun p hp => q _ _ (e2.trans (Ex.new hp)) ⟨p, vs, rfl, .new (((hT.fr f).ex e2).new hp) upd_same, all2_imp (fun _ _ z => Mo.fr (Ex.new hp).fr z) r2⟩⟩
theorem ev_tup2 [Mo r] [Mo s] {tr : TA} {a : α} {b : β} (hT : TD T H) (h : EvA K T tr σ H (aC r (aC s aN)) (a, b, ())) : Ev K T (tTup tr) σ H (zP r s) (a, b) := fun H1 f Q q => h H1 f _ fun vs H2 e2 r2 => by
  obtain ⟨x, _, rfl, r2, y, _, rfl, r3, rfl⟩ := r2
  exact ⟨by show 2 ≤ sizeLine; rw [sizeLine_eq]; omega, fun p hp => q _ _ (e2.trans (Ex.new hp)) ⟨p, x, y, rfl, .new (((hT.fr f).ex e2).new hp) upd_same, Mo.fr (Ex.new hp).fr r2, Mo.fr (Ex.new hp).fr r3⟩⟩
theorem ev_tup3 {s' : Rp γ} [Mo r] [Mo s] [Mo s'] {tr : TA} {a : α} {b : β} {c : γ} (hT : TD T H) (h : EvA K T tr σ H (aC r (aC s (aC s' aN))) (a, b, c, ())) : Ev K T (tTup tr) σ H (zP3 r s s') (a, b, c) := fun H1 f Q q => h H1 f _ fun vs H2 e2 r2 => by
  obtain ⟨x, _, rfl, r2, y, _, rfl, r3, z, _, rfl, r4, rfl⟩ := r2
  exact ⟨by show 3 ≤ sizeLine; rw [sizeLine_eq]; omega, fun p hp => q _ _ (e2.trans (Ex.new hp)) ⟨p, x, y, z, rfl, .new (((hT.fr f).ex e2).new hp) upd_same, Mo.fr (Ex.new hp).fr r2, Mo.fr (Ex.new hp).fr r3, Mo.fr (Ex.new hp).fr r4⟩⟩
/-- items -/
theorem atI_pos {x : α} {xs : List α} {i : Int} (h0 : 0 ≤ i) (h : xs[i.toNat]? = some x) : atI xs i = some x := by
  obtain ⟨n, rfl⟩ := Int.eq_ofNat_of_zero_le h0
  exact atI_nat h
theorem all2_at {F : V → α → Prop} {vs : List V} {xs : List α} (h : All2 F vs xs) {i : Int} {d : α} (e : atI xs i = some d) : ∃ v, atI vs i = some v ∧ F v d := by
  unfold atI at e ⊢
  rw [all2_len h]
  cases q : ixN xs.length i with
  | none => rw [q] at e; cases e
  | some j => rw [q] at e; exact all2_get h e
theorem ev_ixL [Mo r] {xs : List α} {i : Int} {d : α} (ha : Ev K T ta σ H (zL r) xs) (hb : Ev K T tb σ H zI i) (hi : atI xs i = some d) : Ev K T (tOp (rIxL K) ta tb) σ H r d :=
  ev_op ha hb fun x y H1 Q _ h1 h2 q => by
    obtain ⟨a, vs, rfl, hs, h⟩ := h1
    obtain ⟨v, hv, hr⟩ := all2_at h hi
    exact ⟨a, vs, i, v, rfl, h2, hs.sq, hv, q v H1 (Ex.refl H1) hr⟩
theorem ev_ixU [Mo r] {xs : List α} {i : Int} {d : α} (ha : Ev K T ta σ H (zU r) xs) (hb : Ev K T tb σ H zI i) (hi : atI xs i = some d) : Ev K T (tOp (rIxT K) ta tb) σ H r d :=
  ev_op ha hb fun x y H1 Q _ h1 h2 q => by
    obtain ⟨a, vs, rfl, hs, h⟩ := h1
    obtain ⟨v, hv, hr⟩ := all2_at h hi
    exact ⟨a, vs, i, v, rfl, h2, hs.sq, hv, q v H1 (Ex.refl H1) hr⟩
theorem ev_ixP0 [Mo r] [Mo s] {p : α × β} (ha : Ev K T ta σ H (zP r s) p) (hb : Ev K T tb σ H zI 0) : Ev K T (tOp (rIxT K) ta tb) σ H r p.1 :=
  ev_op ha hb fun x y H1 Q _ h1 h2 q => by
    obtain ⟨a, u, v, rfl, hs, h, h'⟩ := h1
    exact ⟨a, _, 0, u, rfl, h2, hs.sq, rfl, q u H1 (Ex.refl H1) h⟩
theorem ev_ixP1 [Mo r] [Mo s] {p : α × β} (ha : Ev K T ta σ H (zP r s) p) (hb : Ev K T tb σ H zI 1) : Ev K T (tOp (rIxT K) ta tb) σ H s p.2 :=
  ev_op ha hb fun x y H1 Q _ h1 h2 q => by
    obtain ⟨a, u, v, rfl, hs, h, h'⟩ := h1
    exact ⟨a, _, 1, v, rfl, h2, hs.sq, rfl, q v H1 (Ex.refl H1) h'⟩
theorem atI_map {f : α → β} {xs : List α} {i : Int} {d : α} (h : atI xs i = some d) : atI (xs.map f) i = some (f d) := by
  unfold atI at h ⊢
  rw [List.length_map]
  cases q : ixN xs.length i with
  | none => rw [q] at h; cases h
  | some j =>
    rw [q] at h
    have h' : xs[j]? = some d := h
    show (xs.map f)[j]? = some (f d)
    rw [List.getElem?_map, h']; rfl
theorem ev_ixW {w : List Bool} {i : Int} {d : Bool} (ha : Ev K T ta σ H zW w) (hb : Ev K T tb σ H zI i) (hi : atI w i = some d) : Ev K T (tOp rIxS ta tb) σ H zW [d] :=
  ev_op ha hb fun x y H1 Q _ h1 h2 q => by
    obtain ⟨h1, hl⟩ := h1
    refine ⟨wS w, i, sgn d, h1, h2, by rw [wS_len, sizeLine_eq]; omega, ?_, q _ H1 (Ex.refl H1) ⟨rfl, by simp⟩⟩
    exact atI_map (f := sgn) hi
/-- len -/
def rLenQ (K : PySem.W.Frag) : List V → Hp → VK → Prop := fun xs H Q => ∃ p ys, xs = [.ref p] ∧ (SqL K H p ys ∨ SqT K H p ys) ∧ Q (.int ys.length) H
theorem call_lenQ {X : Cx} : CallR X (.builtin "len") (rLenQ X.K) := call_len_seq
def rLenStr : List V → Hp → VK → Prop := fun xs H Q => ∃ z, xs = [.str z] ∧ z.length ≤ sizeLine ∧ Q (.int z.length) H
theorem call_lenS {X : Cx} : CallR X (.builtin "len") rLenStr := call_len_str
theorem ev_c1 {a : α} {c : γ} {s' : Rp γ} {R : List V → Hp → VK → Prop} (h : Ev K T ta σ H r a) (hr : ∀ x H1 (Q : VK), Fr T H H1 → r K T H1 x a → (∀ v H2, Ex H1 H2 → s' K T H2 v c → Q v H2) → R [x] H1 Q) : Ev K T (tCB R (tCons ta tNil)) σ H s' c :=
  fun H1 f Q q => h H1 f _ fun x H2 e2 r2 => hr x H2 Q (f.trans e2.fr) r2 fun v H3 e3 r3 => q v H3 (e2.trans e3) r3
theorem ev_c2 {a : α} {b : β} {c : γ} {s' : Rp γ} [Mo r] {R : List V → Hp → VK → Prop} (h : Ev K T ta σ H r a) (h' : Ev K T tb σ H s b) (hr : ∀ x y H1 (Q : VK), Fr T H H1 → r K T H1 x a → s K T H1 y b → (∀ v H2, Ex H1 H2 → s' K T H2 v c → Q v H2) → R [x, y] H1 Q) : Ev K T (tCB R (tCons ta (tCons tb tNil))) σ H s' c :=
  fun H1 f Q q => h H1 f _ fun x H2 e2 r2 => h' H2 (f.trans e2.fr) _ fun y H3 e3 r3 => hr x y H3 Q ((f.trans e2.fr).trans e3.fr) (Mo.fr e3.fr r2) r3 fun v H4 e4 r4 => q v H4 ((e2.trans e3).trans e4) r4
theorem ev_lenL {xs : List α} (h : Ev K T ta σ H (zL r) xs) : Ev K T (tCB (rLenQ K) (tCons ta tNil)) σ H zI (xs.length : Int) :=
  ev_c1 h fun x H1 Q _ ⟨a, vs, e, hs, h2⟩ q => ⟨a, vs, by rw [e], .inl hs.sq, q _ H1 (Ex.refl H1) (by rw [all2_len h2]; rfl)⟩
theorem ev_lenU {xs : List α} (h : Ev K T ta σ H (zU r) xs) : Ev K T (tCB (rLenQ K) (tCons ta tNil)) σ H zI (xs.length : Int) :=
  ev_c1 h fun x H1 Q _ ⟨a, vs, e, hs, h2⟩ q => ⟨a, vs, by rw [e], .inr hs.sq, q _ H1 (Ex.refl H1) (by rw [all2_len h2]; rfl)⟩
theorem ev_lenW {w : List Bool} (h : Ev K T ta σ H zW w) : Ev K T (tCB rLenStr (tCons ta tNil)) σ H zI (w.length : Int) :=
  ev_c1 h fun x H1 Q _ ⟨e, hl⟩ q => ⟨wS w, by rw [e], by rw [wS_len, sizeLine_eq]; omega, q _ H1 (Ex.refl H1) (by rw [wS_len]; rfl)⟩
/-- list(..), tuple(..) -/
def rListQ (K : PySem.W.Frag) : List V → Hp → VK → Prop := fun xs H Q => ∃ p ys, xs = [.ref p] ∧ (SqL K H p ys ∨ SqT K H p ys) ∧ ∀ l, H l = none → Q (.ref l) (upd H l (.lst ys))
theorem call_listQ {X : Cx} : CallR X (.type "list") (rListQ X.K) := call_list_of
def rTupleQ (K : PySem.W.Frag) : List V → Hp → VK → Prop := fun xs H Q => ∃ p ys, xs = [.ref p] ∧ ((SqL K H p ys ∧ ∀ l, H l = none → Q (.ref l) (upd H l (.tup ys))) ∨ (SqT K H p ys ∧ Q (.ref p) H))
theorem call_tupleQ {X : Cx} : CallR X (.type "tuple") (rTupleQ X.K) := call_tuple_of
theorem ev_listL [Mo r] {xs : List α} (hT : TD T H) (h : Ev K T ta σ H (zL r) xs) : Ev K T (tCB (rListQ K) (tCons ta tNil)) σ H (zL r) xs :=
  ev_c1 h fun x H1 Q f ⟨a, vs, e, hs, h2⟩ q => ⟨a, vs, by rw [e], .inl hs.sq, fun l hl => q _ _ (Ex.new hl) ⟨l, vs, rfl, .new ((hT.fr f).new hl) upd_same, all2_imp (fun _ _ z => Mo.fr (Ex.new hl).fr z) h2⟩⟩
theorem ev_listU [Mo r] {xs : List α} (hT : TD T H) (h : Ev K T ta σ H (zU r) xs) : Ev K T (tCB (rListQ K) (tCons ta tNil)) σ H (zL r) xs :=
  ev_c1 h fun x H1 Q f ⟨a, vs, e, hs, h2⟩ q => ⟨a, vs, by rw [e], .inr hs.sq, fun l hl => q _ _ (Ex.new hl) ⟨l, vs, rfl, .new ((hT.fr f).new hl) upd_same, all2_imp (fun _ _ z => Mo.fr (Ex.new hl).fr z) h2⟩⟩
theorem ev_tupL [Mo r] {xs : List α} (hT : TD T H) (h : Ev K T ta σ H (zL r) xs) : Ev K T (tCB (rTupleQ K) (tCons ta tNil)) σ H (zU r) xs :=
  ev_c1 h fun x H1 Q f ⟨a, vs, e, hs, h2⟩ q => ⟨a, vs, by rw [e], .inl ⟨hs.sq, fun l hl => q _ _ (Ex.new hl) ⟨l, vs, rfl, .new ((hT.fr f).new hl) upd_same, all2_imp (fun _ _ z => Mo.fr (Ex.new hl).fr z) h2⟩⟩⟩
theorem ev_tupUU [Mo r] {xs : List α} (h : Ev K T ta σ H (zU r) xs) : Ev K T (tCB (rTupleQ K) (tCons ta tNil)) σ H (zU r) xs :=
  ev_c1 h fun x H1 Q f ⟨a, vs, e, hs, h2⟩ q => ⟨a, vs, by rw [e], .inr ⟨hs.sq, q _ H1 (Ex.refl H1) ⟨a, vs, rfl, hs, h2⟩⟩⟩
/-- max, min of two -/
def rMax2 : List V → Hp → VK → Prop := fun xs H Q => ∃ i j, xs = [.int i, .int j] ∧ Q (.int (if j > i then j else i)) H
def rMin2 : List V → Hp → VK → Prop := fun xs H Q => ∃ i j, xs = [.int i, .int j] ∧ Q (.int (if j < i then j else i)) H
/-- max, min, sum, all, any of a list -/
theorem ev_sum {xs : List Int} (h : Ev K T ta σ H (zL zI) xs) : Ev K T (tCB (rSum K) (tCons ta tNil)) σ H zI xs.sum :=
  ev_c1 h fun x H1 Q _ ⟨a, vs, e, hs, h2⟩ q => ⟨a, xs, by rw [e], by rw [← all2_int h2]; exact hs.sq, q _ H1 (Ex.refl H1) rfl⟩
def mxL (xs : List Int) : Int := xs.foldl (fun a b => if a < b then b else a) (xs.headD 0)
def mnL (xs : List Int) : Int := xs.foldl (fun a b => if b < a then b else a) (xs.headD 0)
theorem foldmax_ge : ∀ (xs : List Int) (a : Int), a ≤ xs.foldl (fun a b => if a < b then b else a) a ∧ (∀ y ∈ xs, y ≤ xs.foldl (fun a b => if a < b then b else a) a) ∧ (xs.foldl (fun a b => if a < b then b else a) a = a ∨ xs.foldl (fun a b => if a < b then b else a) a ∈ xs)
  | [], a => by simp
  | x :: xs, a => by
    obtain ⟨h1, h2, h3⟩ := foldmax_ge xs (if a < x then x else a)
    simp only [List.foldl_cons]
    have ha : a ≤ (if a < x then x else a) ∧ x ≤ (if a < x then x else a) := by split <;> omega
    refine ⟨Int.le_trans ha.1 h1, fun y hy => ?_, ?_⟩
    · rcases List.mem_cons.mp hy with rfl | hy
      · exact Int.le_trans ha.2 h1
      · exact h2 y hy
    · rcases h3 with h3 | h3
      · rw [h3]; split
        · exact .inr List.mem_cons_self
        · exact .inl rfl
      · exact .inr (List.mem_cons_of_mem _ h3)
theorem foldmin_le : ∀ (xs : List Int) (a : Int), xs.foldl (fun a b => if b < a then b else a) a ≤ a ∧ (∀ y ∈ xs, xs.foldl (fun a b => if b < a then b else a) a ≤ y) ∧ (xs.foldl (fun a b => if b < a then b else a) a = a ∨ xs.foldl (fun a b => if b < a then b else a) a ∈ xs)
  | [], a => by simp
  | x :: xs, a => by
    obtain ⟨h1, h2, h3⟩ := foldmin_le xs (if x < a then x else a)
    simp only [List.foldl_cons]
    have ha : (if x < a then x else a) ≤ a ∧ (if x < a then x else a) ≤ x := by split <;> omega
    refine ⟨Int.le_trans h1 ha.1, fun y hy => ?_, ?_⟩
    · rcases List.mem_cons.mp hy with rfl | hy
      · exact Int.le_trans h1 ha.2
      · exact h2 y hy
    · rcases h3 with h3 | h3
      · rw [h3]; split
        · exact .inr List.mem_cons_self
        · exact .inl rfl
      · exact .inr (List.mem_cons_of_mem _ h3)
theorem mxL_spec {xs : List Int} (h : xs ≠ []) : mxL xs ∈ xs ∧ ∀ y ∈ xs, y ≤ mxL xs := by
  cases xs with
  | nil => exact absurd rfl h
  | cons x xs =>
    unfold mxL
    obtain ⟨h1, h2, h3⟩ := foldmax_ge (x :: xs) x
    refine ⟨?_, h2⟩
    rcases h3 with h3 | h3
    · show List.foldl _ x (x :: xs) ∈ _
      rw [h3]; exact List.mem_cons_self
    · exact h3
theorem mnL_spec {xs : List Int} (h : xs ≠ []) : mnL xs ∈ xs ∧ ∀ y ∈ xs, mnL xs ≤ y := by
  cases xs with
  | nil => exact absurd rfl h
  | cons x xs =>
    unfold mnL
    obtain ⟨h1, h2, h3⟩ := foldmin_le (x :: xs) x
    refine ⟨?_, h2⟩
    rcases h3 with h3 | h3
    · show List.foldl _ x (x :: xs) ∈ _
      rw [h3]; exact List.mem_cons_self
    · exact h3
theorem ev_max {xs : List Int} (h : Ev K T ta σ H (zL zI) xs) (hn : xs ≠ []) : Ev K T (tCB (rMax K) (tCons ta tNil)) σ H zI (mxL xs) :=
  ev_c1 h fun x H1 Q _ ⟨a, vs, e, hs, h2⟩ q => ⟨a, xs, by rw [e], by rw [← all2_int h2]; exact hs.sq, List.length_pos_iff.mpr hn, fun m hm hy => q _ H1 (Ex.refl H1) (by
    obtain ⟨h3, h4⟩ := mxL_spec hn
    have e1 := hy _ h3
    have e2 := h4 _ hm
    show V.int m = V.int (mxL xs)
    rw [show m = mxL xs by omega])⟩
theorem ev_min {xs : List Int} (h : Ev K T ta σ H (zL zI) xs) (hn : xs ≠ []) : Ev K T (tCB (rMin K) (tCons ta tNil)) σ H zI (mnL xs) :=
  ev_c1 h fun x H1 Q _ ⟨a, vs, e, hs, h2⟩ q => ⟨a, xs, by rw [e], by rw [← all2_int h2]; exact hs.sq, List.length_pos_iff.mpr hn, fun m hm hy => q _ H1 (Ex.refl H1) (by
    obtain ⟨h3, h4⟩ := mnL_spec hn
    have e1 := hy _ h3
    have e2 := h4 _ hm
    show V.int m = V.int (mnL xs)
    rw [show m = mnL xs by omega])⟩
/-- slices -/
theorem eo_none : EvO T tNoPart σ H none := fun H1 _ _ q => q H1 (Ex.refl H1)
theorem eo_some {i : Int} (h : Ev K T te σ H zI i) : EvO T (tPart te) σ H (some i) := fun H1 f _ q => h H1 f _ fun v H2 e2 r2 => ⟨i, r2, q H2 e2⟩
/-- a slice by its bounds as lists have it -/
def cutA (xs : List α) (lo hi : Option Int) : List α := (xs.drop (HT.sIx xs.length 0 lo)).take (HT.sIx xs.length xs.length hi - HT.sIx xs.length 0 lo)
theorem ev_slL [Mo r] {xs : List α} {tl th : TO} {lo hi : Option Int} (hT : TD T H) (h : Ev K T te σ H (zL r) xs) (h1 : EvO T tl σ H lo) (h2 : EvO T th σ H hi) : Ev K T (tSl (rSlL K) te tl th) σ H (zL r) (cutA xs lo hi) := fun H1 f Q q =>
  h H1 f _ fun v H2 e2 r2 => h1 H2 (f.trans e2.fr) _ fun H3 e3 => h2 H3 ((f.trans e2.fr).trans e3.fr) _ fun H4 e4 => by
    obtain ⟨a, vs, rfl, hs, hh⟩ := r2
    have e24 := e3.trans e4
    refine ⟨a, vs, rfl, (hs.fr e24.fr).sq, fun p hp => q _ _ ((e2.trans e24).trans (Ex.new hp)) ⟨p, _, rfl, .new (((hT.fr f).ex (e2.trans e24)).new hp) upd_same, ?_⟩⟩
    have hh' : All2 (r K T (upd H4 p (.lst (cutV vs lo hi)))) vs xs := all2_imp (fun _ _ z => Mo.fr (e24.trans (Ex.new hp)).fr z) hh
    unfold cutA
    rw [← all2_len hh']
    exact all2_take _ (all2_drop _ hh')
/-- calls -/
def PSp (K : PySem.W.Frag) {α β : Type} (ra : Rpl α) (pre : α → Prop) (r : Rp β) (f : α → β) : Sp := fun vs H Q _ => ∃ (T : AS) (a : α), TD T H ∧ ra K T H vs a ∧ pre a ∧ ∀ v H', Ex H H' → r K T H' v (f a) → Q v H'
theorem ev_call {ra : Rpl β} {pre : β → Prop} {f : β → α} {b : β} {tr : TA} {E : XK} (hT : TD T H) (h : EvA K T tr σ H ra b) (hp : pre b) : Ev K T (tCall (PSp K ra pre r f) [] E tr) σ H r (f b) := fun H1 g Q q =>
  h H1 g _ fun vs H2 e2 r2 => by
    show PSp K ra pre r f (vs ++ []) H2 Q E
    rw [List.append_nil]
    exact ⟨T, b, (hT.fr g).ex e2, r2, hp, fun v H3 e3 r3 => q v H3 (e2.trans e3) r3⟩
end
/-! ### statements -/
section
variable {K : PySem.W.Frag} {T : AS} {σ : L2.St} {H : Hp} {α β γ : Type} {r : Rp α} {te : TE} {c : TT} {t u : TS} {D : Ends} {i : Nat} {d : α} {b : Bool}
theorem st_asg (h : Ev K T te σ H r d) (k : ∀ v H2, Ex H H2 → r K T H2 v d → D.nx (σ.set i (some v)) H2) : tAsg te (gName i) D σ H := h H (Fr.refl H) _ k
theorem st_ret (h : Ev K T te σ H r d) (k : ∀ v H2, Ex H H2 → r K T H2 v d → D.rt v H2) : tRet te D σ H := h H (Fr.refl H) _ k
theorem st_drop (h : Ev K T te σ H r d) (k : ∀ H2, Ex H H2 → D.nx σ H2) : tDrop te D σ H := h H (Fr.refl H) _ fun _ H2 e _ => k H2 e
theorem st_if (h : EvT T c σ H b) (k1 : b = true → ∀ H2, Ex H H2 → t D σ H2) (k2 : b = false → ∀ H2, Ex H H2 → u D σ H2) : tIfS c t u D σ H := h H (Fr.refl H) _ fun H2 e => by
  cases b with
  | true => exact k1 rfl H2 e
  | false => exact k2 rfl H2 e
end
end EB

set_option Elab.async false
set_option linter.all false
set_option maxRecDepth 100000
set_option maxHeartbeats 4000000
/-! EB: what is walked; comprehensions. -/
namespace EB
open PySem PySem.Spec PyProof.Rows L2

/-! ### a list, a tuple that is walked, with its size -/
def iListB (K : PySem.W.Frag) (tl : TE) : TI := fun σ H R => tl σ H fun x H1 => ∃ a xs, x = .ref a ∧ SqL K H1 a xs ∧ (xs.length ≤ sizeLine → R (Itl K a) H1)
def iTupB (K : PySem.W.Frag) (tl : TE) : TI := fun σ H R => tl σ H fun x H1 => ∃ a xs, x = .ref a ∧ SqT K H1 a xs ∧ (xs.length ≤ sizeLine → R (Itt K a) H1)
section
variable {X : Cx} {tg : Expr}
theorem pi_listB {l : Expr} {tl : TE} (hl : PE X l tl) : PI X tg l (iListB X.K tl) := by
  refine ⟨fun pins s σ H R I h => ?_⟩
  refine thn (hl.run pins s σ H _ I h) fun v s1 ⟨x, H1, I1, r1, q1⟩ => ?_
  obtain ⟨a, xs, e, hq, q⟩ := q1
  subst e
  cases r1
  obtain ⟨its, rv, p, hz⟩ := I1.list hq
  refine wpAny_pyIter_list p.isList ?_
  refine ⟨s1.heap.objs.size, [s1.heap.objs.size], _, _, H1, rfl, I1.kept (t' := s1.toks) fun b o e => Heap.get?_push_of_some _ e, turn_list a _, ⟨_, Heap.get?_push_size _ rfl, rfl, rfl⟩, fun b hb => ?_, q hz⟩
  have e : b = s1.heap.objs.size := by simpa using hb
  subst e
  exact I1.fpOk (Nat.le_refl _) (I1.hok.fresh (Nat.le_refl _))
theorem pi_tupB {l : Expr} {tl : TE} (hl : PE X l tl) : PI X tg l (iTupB X.K tl) := by
  refine ⟨fun pins s σ H R I h => ?_⟩
  refine thn (hl.run pins s σ H _ I h) fun v s1 ⟨x, H1, I1, r1, q1⟩ => ?_
  obtain ⟨a, xs, e, hq, q⟩ := q1
  subst e
  cases r1
  obtain ⟨its, rv, p, hz⟩ := I1.tuple hq
  refine wpAny_pyIter_tuple (show s1.heap.IsTuple a its.toArray from p) ?_
  refine ⟨s1.heap.objs.size, [s1.heap.objs.size], _, _, H1, rfl, I1.kept (t' := s1.toks) fun b o e => Heap.get?_push_of_some _ e, turn_tuple a _, ⟨_, Heap.get?_push_size _ rfl, rfl, rfl⟩, fun b hb => ?_, q hz⟩
  have e : b = s1.heap.objs.size := by simpa using hb
  subst e
  exact I1.fpOk (Nat.le_refl _) (I1.hok.fresh (Nat.le_refl _))
end

/-! ### typed walks -/
/-- J walks the items xs, read by r, as long as all of H2 stands; an item's object may be new -/
structure Wk (K : PySem.W.Frag) (T : AS) (H2 : Hp) {α : Type} (r : Rp α) (xs : List α) (J : It) : Prop where
  ex : ∃ (n : Nat) (G : Hp → Prop) (Y : Nat → Hp → V → Hp → Prop), n = xs.length ∧ Walk J n G Y ∧ (∀ H', Fr T H2 H' → G H') ∧
    ∀ i H' v H'', i < n → Fr T H2 H' → Y i H' v H'' → Ex H' H'' ∧ ∃ x, xs[i]? = some x ∧ ∀ T', TD T' H' → Tr K T H2 T' H' → r K T' H'' v x
  size : xs.length ≤ sizeLine
/-- an iterable evaluates to a walk -/
def EvI (K : PySem.W.Frag) (T : AS) {α : Type} (wi : TI) (σ : L2.St) (H : Hp) (r : Rp α) (xs : List α) : Prop :=
  ∀ H1, Fr T H H1 → ∀ R : It → Hp → Prop, (∀ J H2, Ex H1 H2 → Wk K T H2 r xs J → R J H2) → wi σ H1 R
section
variable {K : PySem.W.Frag} {T : AS} {σ : L2.St} {H : Hp} {α β γ : Type} {r : Rp α} {s : Rp β} {ta tb te tl : TE} {t u : TT}
theorem ei_list [Mo r] {xs : List α} (h : Ev K T tl σ H (zL r) xs) : EvI K T (iListB K tl) σ H r xs := fun H1 f R q => h H1 f _ fun v H2 e2 r2 => by
  obtain ⟨a, vs, rfl, hs, hv⟩ := r2
  have hl := all2_len hv
  refine ⟨a, vs, rfl, hs.sq, fun hz => q _ H2 e2 ⟨⟨_, _, _, hl, walk_list (xs := vs), fun H' e => (hs.fr e).sq, fun i H' v H'' hi e y => ?_⟩, hl ▸ hz⟩⟩
  obtain ⟨rfl, y⟩ := y
  obtain ⟨x, hx, hr⟩ := all2_getL hv y
  exact ⟨Ex.refl _, x, hx, fun T' _ tr => tr.ap hr⟩
theorem ei_tup [Mo r] {xs : List α} (h : Ev K T tl σ H (zU r) xs) : EvI K T (iTupB K tl) σ H r xs := fun H1 f R q => h H1 f _ fun v H2 e2 r2 => by
  obtain ⟨a, vs, rfl, hs, hv⟩ := r2
  have hl := all2_len hv
  refine ⟨a, vs, rfl, hs.sq, fun hz => q _ H2 e2 ⟨⟨_, _, _, hl, walk_tup (xs := vs), fun H' e => (hs.fr e).sq, fun i H' v H'' hi e y => ?_⟩, hl ▸ hz⟩⟩
  obtain ⟨rfl, y⟩ := y
  obtain ⟨x, hx, hr⟩ := all2_getL hv y
  exact ⟨Ex.refl _, x, hx, fun T' _ tr => tr.ap hr⟩
/-- the numbers lo, lo + 1, .. -/
def rng (lo : Int) (n : Nat) : List Int := (List.range n).map fun (i : Nat) => lo + (i : Int)
theorem rng_len {lo : Int} {n : Nat} : (rng lo n).length = n := by simp [rng]
theorem rng_get {lo : Int} {n i : Nat} (h : i < n) : (rng lo n)[i]? = some (lo + (i : Int)) := by
  unfold rng
  rw [List.getElem?_map, List.getElem?_range h]; rfl
theorem wk_range {H2 : Hp} {lo : Int} {n : Nat} (hn : n ≤ 1000000) : Wk K T H2 zI (rng lo n) (Itr lo n) :=
  ⟨⟨n, _, _, rng_len.symm, walk_range, fun _ _ => trivial, fun i H' v H'' hi _ y => by
    obtain ⟨rfl, rfl⟩ := y
    exact ⟨Ex.refl _, _, rng_get hi, fun _ _ _ => rfl⟩⟩, by rw [rng_len, sizeLine_eq]; omega⟩
theorem ei_range {tl : TA} {j : Int} (h : EvA K T tl σ H (aC zI aN) (j, ())) (hn : j ≤ 1000000) (h0 : -1000000 ≤ j) : EvI K T (iRng1 tl) σ H zI (rng 0 j.toNat) := fun H1 f R q => h H1 f _ fun v H2 e2 r2 => by
  obtain ⟨x, _, rfl, r2, rfl⟩ := r2
  exact ⟨j, by rw [show x = .int j from r2], by omega, by omega, q _ H2 e2 (wk_range (by omega))⟩
theorem ei_range2 {tl : TA} {i j : Int} (h : EvA K T tl σ H (aC zI (aC zI aN)) (i, j, ())) (hn : j ≤ 1000000) (h0 : -1000000 ≤ j) (hi : i ≤ 1000000) (hi0 : 0 ≤ i) : EvI K T (iRng2 tl) σ H zI (rng i (j - i).toNat) := fun H1 f R q => h H1 f _ fun v H2 e2 r2 => by
  obtain ⟨x, _, rfl, r2, y, _, rfl, r3, rfl⟩ := r2
  exact ⟨i, j, by rw [show x = .int i from r2, show y = .int j from r3], by omega, q _ H2 e2 (wk_range (by omega))⟩
/-- a word, sign by sign -/
theorem ei_word {w : List Bool} (h : Ev K T te σ H zW w) : EvI K T (iStr te) σ H zW (w.map fun b => [b]) := fun H1 f R q => h H1 f _ fun v H2 e2 r2 => by
  obtain ⟨r2, hl⟩ := r2
  have ez : (wS w).cps.size = w.length := by simp [wS]
  refine ⟨_, r2, q _ H2 e2 ⟨⟨_, _, _, by rw [List.length_map]; exact ez, walk_str, fun _ _ => trivial, fun i H' v H'' hi _ y => ?_⟩, by rw [List.length_map, sizeLine_eq]; omega⟩⟩
  · obtain ⟨rfl, c, hc, rfl⟩ := y
    rw [ez] at hi
    refine ⟨Ex.refl _, [w[i]], by rw [List.getElem?_map, List.getElem?_eq_getElem hi]; rfl, fun _ _ _ => ⟨?_, by simp⟩⟩
    have : (wS w).cps[i]? = some (sgn w[i]) := by simp [wS, List.getElem?_eq_getElem hi]
    rw [this] at hc
    cases hc
    rfl

/-! ### comprehensions -/
theorem wipe1 {i : Nat} {v : Option V} : wipe ((wipe σ [i]).set i v) [i] = wipe σ [i] := by
  simp [wipe]
theorem take_succ_filter {xs : List α} {p : α → Bool} {f : α → β} {i : Nat} {x : α} (h : xs[i]? = some x) : ((xs.take (i + 1)).filter p).map f = ((xs.take i).filter p).map f ++ (if p x = true then [f x] else []) := by
  rw [List.take_add_one, h]
  simp only [Option.toList_some, List.filter_append, List.map_append]
  congr 1
  by_cases hp : p x = true
  · simp [hp]
  · simp [hp]
theorem ev_lc [Mo r] [Mo s] {wi : TI} {g : TG} {tt : TT} {vs : List Nat} {xs : List α} {p : α → Bool} {f : α → β} (hT : TD T H) (h : EvI K T wi σ H r xs)
    (hs : ∀ (T' : AS) (H' : Hp) (v : V) (x : α), Tr K T H T' H' → TD T' H' → x ∈ xs → r K T' H' v x → ∀ Q : L2.St → Hp → Prop, (∀ σ2, wipe σ2 vs = wipe σ vs → EvT T' tt σ2 H' (p x) → (p x = true → Ev K T' te σ2 H' s (f x)) → Q σ2 H') → g v (wipe σ vs) H' Q) :
    Ev K T (tLc wi g tt te vs) σ H (zL s) ((xs.filter p).map f) := fun H1 fr Q q => h H1 fr _ fun J H2 e2 w => by
  intro D hD
  obtain ⟨⟨n, G, Y, hn, wk, hG, hY⟩, hz⟩ := w
  have hT2 : TD T H2 := (hT.fr fr).ex e2
  have nD : ¬ T D := hT2.new hD
  refine lc_it wk (fun i H' => Ex H2 H' ∧ ∃ acc, H' D = some (.lst acc) ∧ All2 (s K (Tp T D) H') acc (((xs.take i).filter p).map f)) ⟨Ex.new hD, [], upd_same, by simp; exact .nil⟩ (fun i H' _ ⟨e, _⟩ => hG H' e.fr) ?_ ?_
  · intro i v H' H'' hi ⟨e, acc, hacc, hall⟩ y
    obtain ⟨eY, x, hx, hr⟩ := hY i H' v H'' hi e.fr y
    have tr2 : Tr K T H2 (Tp T D) H' := (Tr.lift hD).trans (Tr.ex e)
    have hTD : TD (Tp T D) H' := (hT2.ex e).tp hacc
    have tr : Tr K T H (Tp T D) H'' := ((Tr.fr (fr.trans e2.fr)).trans tr2).trans (Tr.ex eY)
    refine hs (Tp T D) H'' v x tr (hTD.ex eY) (List.mem_of_getElem? hx) (hr _ hTD tr2) _ fun σ2 hw ht he => ⟨hw, ?_⟩
    refine ht H'' (Fr.refl _) _ fun H3 e3 => ?_
    have hlen : acc.length ≤ i := by
      rw [all2_len hall, List.length_map]
      exact Nat.le_trans (List.length_filter_le _ _) (by rw [List.length_take]; omega)
    cases hp : p x with
    | false =>
      simp only [Bool.false_eq_true, if_false]
      refine ⟨(e.trans eY).trans e3, acc, e3 _ _ (eY _ _ hacc), ?_⟩
      rw [take_succ_filter hx, hp]
      simp only [Bool.false_eq_true, if_false, List.append_nil]
      exact all2_imp (fun _ _ z => Mo.fr (eY.trans e3).fr z) hall
    | true =>
      simp only [if_true]
      refine he hp H3 e3.fr _ fun yv H4 e4 r4 => ⟨acc, e4 _ _ (e3 _ _ (eY _ _ hacc)), by omega, ?_⟩
      have fD : Fr (Tp T D) H4 (upd H4 D (.lst (acc ++ [yv]))) := Fr.upd (.inl (.inr rfl))
      refine ⟨fun b o hb => ?_, acc ++ [yv], upd_same, ?_⟩
      · rw [upd_ne (ne_of_none hb hD)]
        exact e4 _ _ (e3 _ _ (eY _ _ (e b o hb)))
      · rw [take_succ_filter hx, hp]
        simp only [if_true]
        refine all2_app (all2_imp (fun _ _ z => Mo.fr fD (Mo.fr ((eY.trans e3).trans e4).fr z)) hall) (.cons (Mo.fr fD r4) .nil)
  · rintro H' ⟨e, acc, hacc, hall⟩
    rw [hn, List.take_length] at hall
    exact q _ H' (e2.trans e) ⟨D, acc, rfl, .new nD hacc, all2_imp (fun _ _ z => Mo.sub (fun b hb => .inl hb) z) hall⟩
/-- no test -/
theorem ev_lc1 [Mo r] [Mo s] {wi : TI} {g : TG} {vs : List Nat} {xs : List α} {f : α → β} (hT : TD T H) (h : EvI K T wi σ H r xs)
    (hs : ∀ (T' : AS) (H' : Hp) (v : V) (x : α), Tr K T H T' H' → TD T' H' → x ∈ xs → r K T' H' v x → ∀ Q : L2.St → Hp → Prop, (∀ σ2, wipe σ2 vs = wipe σ vs → Ev K T' te σ2 H' s (f x) → Q σ2 H') → g v (wipe σ vs) H' Q) :
    Ev K T (tLc wi g tYes te vs) σ H (zL s) (xs.map f) := by
  have h1 := ev_lc (K := K) (te := te) (g := g) (tt := tYes) (vs := vs) (s := s) (p := fun _ => true) (f := f) hT h fun T' H' v x tr hT' hx hr Q q => hs T' H' v x tr hT' hx hr Q fun σ2 hw he => q σ2 hw et_yes fun _ => he
  rw [show xs.filter (fun _ => true) = xs from List.filter_eq_self.mpr (fun _ _ => rfl)] at h1
  exact h1
/-- all, any of a list of answers -/
theorem ev_all {xs : List Bool} (h : Ev K T ta σ H (zL zB) xs) : Ev K T (tCB (rAll K) (tCons ta tNil)) σ H zB (xs.all id) :=
  ev_c1 h fun x H1 Q _ ⟨a, vs, e, hs, h2⟩ q => ⟨a, xs, by rw [e], by rw [← all2_bl h2]; exact hs.sq, q _ H1 (Ex.refl H1) rfl⟩
theorem ev_any {xs : List Bool} (h : Ev K T ta σ H (zL zB) xs) : Ev K T (tCB (rAny K) (tCons ta tNil)) σ H zB (xs.any id) :=
  ev_c1 h fun x H1 Q _ ⟨a, vs, e, hs, h2⟩ q => ⟨a, xs, by rw [e], by rw [← all2_bl h2]; exact hs.sq, q _ H1 (Ex.refl H1) rfl⟩
/-! ### a list or a tuple -/
def zQ {α : Type} (r : Rp α) : Rp (List α) := fun K T H v xs => zL r K T H v xs ∨ zU r K T H v xs
instance [Mo r] : Mo (zQ r) := ⟨fun w h => h.elim (fun z => .inl (Mo.wd w z)) (fun z => .inr (Mo.wd w z))⟩
theorem ev_QL {xs : List α} (h : Ev K T te σ H (zL r) xs) : Ev K T te σ H (zQ r) xs := fun H1 f Q q => h H1 f Q fun v H2 e r2 => q v H2 e (.inl r2)
theorem ev_QU {xs : List α} (h : Ev K T te σ H (zU r) xs) : Ev K T te σ H (zQ r) xs := fun H1 f Q q => h H1 f Q fun v H2 e r2 => q v H2 e (.inr r2)
def iSeqB (K : PySem.W.Frag) (tl : TE) : TI := fun σ H R => tl σ H fun x H1 => ∃ a xs, x = .ref a ∧ ((SqL K H1 a xs ∧ (xs.length ≤ sizeLine → R (Itl K a) H1)) ∨ (SqT K H1 a xs ∧ (xs.length ≤ sizeLine → R (Itt K a) H1)))
theorem pi_seqB {X : Cx} {tg l : Expr} {tl : TE} (hl : PE X l tl) : PI X tg l (iSeqB X.K tl) := by
  refine ⟨fun pins s σ H R I h => ?_⟩
  refine thn (hl.run pins s σ H _ I h) fun v s1 ⟨x, H1, I1, r1, q1⟩ => ?_
  obtain ⟨a, xs, e, hq⟩ := q1
  subst e
  cases r1
  rcases hq with ⟨hq, q⟩ | ⟨hq, q⟩
  · obtain ⟨its, rv, p, hz⟩ := I1.list hq
    refine wpAny_pyIter_list p.isList ?_
    refine ⟨s1.heap.objs.size, [s1.heap.objs.size], _, _, H1, rfl, I1.kept (t' := s1.toks) fun b o e => Heap.get?_push_of_some _ e, turn_list a _, ⟨_, Heap.get?_push_size _ rfl, rfl, rfl⟩, fun b hb => ?_, q hz⟩
    have e : b = s1.heap.objs.size := by simpa using hb
    subst e
    exact I1.fpOk (Nat.le_refl _) (I1.hok.fresh (Nat.le_refl _))
  · obtain ⟨its, rv, p, hz⟩ := I1.tuple hq
    refine wpAny_pyIter_tuple (show s1.heap.IsTuple a its.toArray from p) ?_
    refine ⟨s1.heap.objs.size, [s1.heap.objs.size], _, _, H1, rfl, I1.kept (t' := s1.toks) fun b o e => Heap.get?_push_of_some _ e, turn_tuple a _, ⟨_, Heap.get?_push_size _ rfl, rfl, rfl⟩, fun b hb => ?_, q hz⟩
    have e : b = s1.heap.objs.size := by simpa using hb
    subst e
    exact I1.fpOk (Nat.le_refl _) (I1.hok.fresh (Nat.le_refl _))
theorem ei_seq [Mo r] {xs : List α} (h : Ev K T tl σ H (zQ r) xs) : EvI K T (iSeqB K tl) σ H r xs := fun H1 f R q => h H1 f _ fun v H2 e2 r2 => by
  rcases r2 with ⟨a, vs, rfl, hs, hv⟩ | ⟨a, vs, rfl, hs, hv⟩
  · have hl := all2_len hv
    refine ⟨a, vs, rfl, .inl ⟨hs.sq, fun hz => q _ H2 e2 ⟨⟨_, _, _, hl, walk_list (xs := vs), fun H' e => (hs.fr e).sq, fun i H' v H'' hi e y => ?_⟩, hl ▸ hz⟩⟩⟩
    obtain ⟨rfl, y⟩ := y
    obtain ⟨x, hx, hr⟩ := all2_getL hv y
    exact ⟨Ex.refl _, x, hx, fun T' _ tr => tr.ap hr⟩
  · have hl := all2_len hv
    refine ⟨a, vs, rfl, .inr ⟨hs.sq, fun hz => q _ H2 e2 ⟨⟨_, _, _, hl, walk_tup (xs := vs), fun H' e => (hs.fr e).sq, fun i H' v H'' hi e y => ?_⟩, hl ▸ hz⟩⟩⟩
    obtain ⟨rfl, y⟩ := y
    obtain ⟨x, hx, hr⟩ := all2_getL hv y
    exact ⟨Ex.refl _, x, hx, fun T' _ tr => tr.ap hr⟩
theorem ev_lenQ {xs : List α} (h : Ev K T ta σ H (zQ r) xs) : Ev K T (tCB (rLenQ K) (tCons ta tNil)) σ H zI (xs.length : Int) :=
  ev_c1 h fun x H1 Q _ h2 q => by
    rcases h2 with ⟨a, vs, e, hs, h2⟩ | ⟨a, vs, e, hs, h2⟩
    · exact ⟨a, vs, by rw [e], .inl hs.sq, q _ H1 (Ex.refl H1) (by rw [all2_len h2]; rfl)⟩
    · exact ⟨a, vs, by rw [e], .inr hs.sq, q _ H1 (Ex.refl H1) (by rw [all2_len h2]; rfl)⟩
theorem ev_tupQ [Mo r] {xs : List α} (hT : TD T H) (h : Ev K T ta σ H (zQ r) xs) : Ev K T (tCB (rTupleQ K) (tCons ta tNil)) σ H (zU r) xs :=
  ev_c1 h fun x H1 Q f h2 q => by
    rcases h2 with ⟨a, vs, e, hs, h2⟩ | ⟨a, vs, e, hs, h2⟩
    · exact ⟨a, vs, by rw [e], .inl ⟨hs.sq, fun l hl => q _ _ (Ex.new hl) ⟨l, vs, rfl, .new ((hT.fr f).new hl) upd_same, all2_imp (fun _ _ z => Mo.fr (Ex.new hl).fr z) h2⟩⟩⟩
    · exact ⟨a, vs, by rw [e], .inr ⟨hs.sq, q _ H1 (Ex.refl H1) ⟨a, vs, rfl, hs, h2⟩⟩⟩
theorem ev_listQ [Mo r] {xs : List α} (hT : TD T H) (h : Ev K T ta σ H (zQ r) xs) : Ev K T (tCB (rListQ K) (tCons ta tNil)) σ H (zL r) xs :=
  ev_c1 h fun x H1 Q f h2 q => by
    rcases h2 with ⟨a, vs, e, hs, h2⟩ | ⟨a, vs, e, hs, h2⟩
    · exact ⟨a, vs, by rw [e], .inl hs.sq, fun l hl => q _ _ (Ex.new hl) ⟨l, vs, rfl, .new ((hT.fr f).new hl) upd_same, all2_imp (fun _ _ z => Mo.fr (Ex.new hl).fr z) h2⟩⟩
    · exact ⟨a, vs, by rw [e], .inr hs.sq, fun l hl => q _ _ (Ex.new hl) ⟨l, vs, rfl, .new ((hT.fr f).new hl) upd_same, all2_imp (fun _ _ z => Mo.fr (Ex.new hl).fr z) h2⟩⟩
theorem ev_ixQ [Mo r] {xs : List α} {i : Int} {d : α} (ha : Ev K T ta σ H (zQ r) xs) (hb : Ev K T tb σ H zI i) (hi : atI xs i = some d) : Ev K T (tOp (rIx K) ta tb) σ H r d :=
  ev_op ha hb fun x y H1 Q _ h1 h2 q => by
    rcases h1 with ⟨a, vs, rfl, hs, h⟩ | ⟨a, vs, rfl, hs, h⟩
    · obtain ⟨v, hv, hr⟩ := all2_at h hi
      exact .inl ⟨a, vs, i, v, rfl, h2, hs.sq, hv, q v H1 (Ex.refl H1) hr⟩
    · obtain ⟨v, hv, hr⟩ := all2_at h hi
      exact .inr (.inl ⟨a, vs, i, v, rfl, h2, hs.sq, hv, q v H1 (Ex.refl H1) hr⟩)
end
end EB

set_option Elab.async false
set_option linter.all false
set_option maxRecDepth 100000
set_option maxHeartbeats 4000000
/-! EB: defs, methods, objects; more built-ins. -/
namespace EB
open PySem PySem.Spec PyProof.Rows L2

/-! ### a def that keeps its promise, with how it is called -/
structure Ok (P : Program) (w : World) (K : PySem.W.Frag) (mg : Str → Option Value) (base : Heap) (k : Nat) (x : Str × Option Str) (ps : List Str) (sp : Sp) : Prop where
  ex : ∃ fd, FnOk P w K mg base CX0 k (He.fAd K x) fd ps sp ∧ Binds K fd ps [] ∧ PySem.W.keepIn K (.ref (He.fAd K x)) = true
section
variable {P : Program} {w : World} {K : PySem.W.Frag} {mg : Str → Option Value} {base : Heap} {k : Nat} {x : Str × Option Str} {ps : List Str} {sp : Sp}
theorem Ok.mono {j : Nat} (F : Ok P w K mg base k x ps sp) (h : k ≤ j) : Ok P w K mg base j x ps sp := let ⟨fd, f, b, kp⟩ := F.ex; ⟨fd, f.mono h, b, kp⟩
theorem Ok.imp {sp' : Sp} (F : Ok P w K mg base k x ps sp) (h : ∀ vs H Q E, sp' vs H Q E → sp vs H Q E) : Ok P w K mg base k x ps sp' := let ⟨fd, f, b, kp⟩ := F.ex; ⟨fd, f.imp h, b, kp⟩
end
section
variable {X : Cx} {k j : Nat} {x : Str} {ps : List Str} {sp : Sp} {p pos apos : Pos} {e o : Expr} {es : List Expr} {t : TA} {ta : TE}
theorem pe_callG (F : Ok X.prog X.w X.K X.mg X.base k (x, none) ps sp) (hr : Room j X.A) (hk : k ≤ j) (hg : Gl X x) (hm : X.mg x = some (.ref (He.ga X.K x))) (ha : PA X (e :: es) t) (hdb : (x == ("__debug__" : Str)) = false := by decide)
    (he : starEach (e :: es) X.env = (false, eval e X.env) :: starEach es X.env := by rfl) (hpl : (backTo pos (starEach es X.env)).any (·.1) = false := by rfl) : PE X (.Call (.Name x p) (e :: es) [] pos) (tCall sp [] E0 t) := by
  obtain ⟨fd, f, b, kp⟩ := F.ex
  exact pe_call f (hr.mono hk) hg hm kp b .nil pass0 ha hdb he hpl
theorem pe_callG0 (F : Ok X.prog X.w X.K X.mg X.base k (x, none) ps sp) (hr : Room j X.A) (hk : k ≤ j) (hg : Gl X x) (hm : X.mg x = some (.ref (He.ga X.K x))) (hdb : (x == ("__debug__" : Str)) = false := by decide) : PE X (.Call (.Name x p) [] [] pos) (tCall sp [] E0 tNil) := by
  obtain ⟨fd, f, b, kp⟩ := F.ex
  exact pe_call0 f (hr.mono hk) hg hm kp b .nil pass0 hdb
theorem pe_methG {pl : Sem Bool} {Cn m : Str} (he : PE X o ta) (c : Cls X.K (He.ga X.K Cn)) (hm : Meth X.K (He.ga X.K Cn) m (He.ma X.K (He.ga X.K Cn) m)) (F : Ok X.prog X.w X.K X.mg X.base k (Cn, some m) ps sp) (hr : Room j X.A) (hk : k ≤ j) (ha : PA X (e :: es) t)
    (hst : starEach (e :: es) X.env = (false, eval e X.env) :: starEach es X.env := by rfl) (hpl : (backTo pos (starEach es X.env)).any (·.1) = false := by rfl)
    (ht : eval (.Call (.Attribute o m apos) (e :: es) [] pos) X.env = (do
      let ov ← eval o X.env
      standAt apos.atName
      let (f, first) ← holding [ov] (getMethod ov m pl)
      callWith pos f first (backTo pos (starEach (e :: es) X.env)) (backToKw pos (keywordEach [] X.env))) := by rfl) :
    PE X (.Call (.Attribute o m apos) (e :: es) [] pos) (tMeth (He.ga X.K Cn) m sp [] E0 ta t) := by
  obtain ⟨fd, f, b, kp⟩ := F.ex
  exact pe_meth he c hm f (hr.mono hk) b .nil pass0 ha hst hpl ht
theorem pe_methG0 {pl : Sem Bool} {Cn m : Str} (he : PE X o ta) (c : Cls X.K (He.ga X.K Cn)) (hm : Meth X.K (He.ga X.K Cn) m (He.ma X.K (He.ga X.K Cn) m)) (F : Ok X.prog X.w X.K X.mg X.base k (Cn, some m) ps sp) (hr : Room j X.A) (hk : k ≤ j)
    (ht : eval (.Call (.Attribute o m apos) [] [] pos) X.env = (do
      let ov ← eval o X.env
      standAt apos.atName
      let (f, first) ← holding [ov] (getMethod ov m pl)
      callWith pos f first (backTo pos (starEach [] X.env)) (backToKw pos (keywordEach [] X.env))) := by rfl) :
    PE X (.Call (.Attribute o m apos) [] [] pos) (tMeth (He.ga X.K Cn) m sp [] E0 ta tNil) := by
  obtain ⟨fd, f, b, kp⟩ := F.ex
  exact pe_meth0 he c hm f (hr.mono hk) b .nil pass0 ht
end
/-- a def's proof: where it stands, its scope, its body -/
theorem mk_ok {P : Program} {w : World} {K : PySem.W.Frag} {mg : Str → Option Value} {base : Heap} {k : Nat} {at_ : Str × Option Str} {x qual : Str} {params : Arguments} {body : List Stmt} {scope : Scope} {kws : List (Str × V)} {N ps : List Str} {sp : Sp} {fd : FuncData}
    (F : FunD K x qual params body scope [] kws (He.fAd K at_) fd) (S : FnScope N ps scope) (hb : Binds K fd ps []) (len : ∀ vs H Q E, sp vs H Q E → vs.length = ps.length)
    (hbody : ∀ (cdv : Value) (A : Around) (outer : List Env) (s : Shared) (H : Hp) (vs : List V) (Q : VK) (E : XK), Room k (A.deeper (envOfC qual scope s.heap.objs.size (He.fAd K at_) cdv)) → sp vs H Q E →
      ∃ t, PSs (cxOf CX0 P w K mg base N qual scope (He.fAd K at_) cdv A outer s H E).nox body t ∧ t { nx := fun _ H' => Q .non H', rt := Q } (start N vs) H) : Ok P w K mg base (k + 1) at_ ps sp :=
  ⟨fd, F.ok S len fun cdv A outer s H vs Q E hr h => let ⟨t, h1, h2⟩ := hbody cdv A outer s H vs Q E hr h; ⟨t, h1.nox, h2⟩, hb, F.kp⟩
theorem PSp_len {K : PySem.W.Frag} {α β : Type} {ra : Rpl α} {pre : α → Prop} {r : Rp β} {f : α → β} {n : Nat} (h : ∀ K T H vs a, ra K T H vs a → vs.length = n) : ∀ vs H Q E, PSp K ra pre r f vs H Q E → vs.length = n := fun vs H Q E ⟨T, a, _, hr, _⟩ => h K T H vs a hr
theorem len0 {K T H vs a} (h : aN K T H vs a) : vs.length = 0 := by rw [show vs = [] from h]; rfl
theorem lenS {α β : Type} {r : Rp α} {s : Rpl β} {n : Nat} (h : ∀ K T H vs a, s K T H vs a → vs.length = n) : ∀ K T H vs a, aC r s K T H vs a → vs.length = n + 1 := fun K T H vs a ⟨v, ws, e, _, q⟩ => by rw [e, List.length_cons, h K T H ws a.2 q]
theorem len1 {α : Type} {r : Rp α} : ∀ K T H vs a, aC r aN K T H vs a → vs.length = 1 := lenS fun _ _ _ _ _ h => len0 h
theorem len2 {α β : Type} {r : Rp α} {s : Rp β} : ∀ K T H vs a, aC r (aC s aN) K T H vs a → vs.length = 2 := lenS len1
theorem len3 {α β γ : Type} {r : Rp α} {s : Rp β} {t : Rp γ} : ∀ K T H vs a, aC r (aC s (aC t aN)) K T H vs a → vs.length = 3 := lenS len2
theorem len4 {α β γ δ : Type} {r : Rp α} {s : Rp β} {t : Rp γ} {u : Rp δ} : ∀ K T H vs a, aC r (aC s (aC t (aC u aN))) K T H vs a → vs.length = 4 := lenS len3
theorem len5 {α β γ δ ε : Type} {r : Rp α} {s : Rp β} {t : Rp γ} {u : Rp δ} {q : Rp ε} : ∀ K T H vs a, aC r (aC s (aC t (aC u (aC q aN)))) K T H vs a → vs.length = 5 := lenS len4

/-! ### objects -/
def zA : Rp Addr := fun _ _ _ v a => v = .ref a
instance : Mo zA := ⟨fun _ h => h⟩
def zOb (Cn : Str) (fs : List Str) {α : Type} (ra : Rpl α) : Rp α := fun K T H v a => ∃ p dx vs, v = .ref p ∧ ¬ T p ∧ H p = some (.ins (He.ga K Cn) dx (fs.zip vs)) ∧ ra K T H vs a
instance {Cn : Str} {fs : List Str} {α : Type} {ra : Rpl α} [MoL ra] : Mo (zOb Cn fs ra) := ⟨fun w ⟨p, dx, vs, e, n, h, q⟩ =>
  ⟨p, dx, vs, e, fun t => (w.nw p t).elim n fun z => (by rw [h] at z; cases z), w.fr.keep p _ n h, MoL.wd w q⟩⟩
theorem lookup_zip_none {m : Str} : ∀ {fs : List Str} {vs : List V}, m ∉ fs → (fs.zip vs).lookup m = none
  | [], _, _ => rfl
  | _ :: _, [], _ => rfl
  | f :: fs, v :: vs, h => by
    have hf : (m == f) = false := by
      apply beq_eq_false_iff_ne.mpr
      intro z; exact h (z ▸ List.mem_cons_self)
    rw [List.zip_cons_cons, List.lookup_cons, hf]
    exact lookup_zip_none fun z => h (List.mem_cons_of_mem _ z)
section
variable {K : PySem.W.Frag} {T : AS} {σ : L2.St} {H : Hp} {α β γ : Type} {r : Rp α} {s : Rp β} {ta tb te tl : TE} {t u : TT} {Cn : Str} {fs : List Str}
/-- an attribute, by its place i: g says where it stands among what the object holds -/
theorem ev_fld {ra : Rpl β} {b : β} {f : Str} {a : α} (c : Cls K (He.ga K Cn)) (n : NoAttr K (He.ga K Cn) f) (h : Ev K T ta σ H (zOb Cn fs ra) b) (g : ∀ H1 vs, ra K T H1 vs b → ∃ v, (fs.zip vs).lookup f = some v ∧ r K T H1 v a) : Ev K T (tFld K ta f) σ H r a := fun H1 e Q q =>
  h H1 e _ fun v H2 e2 ⟨p, dx, vs, ev, ht, hp, hr⟩ => by
    obtain ⟨v', hl, hr'⟩ := g H2 vs hr
    exact ⟨p, _, dx, _, v', ev, hp, c, n, hl, q v' H2 e2 hr'⟩
/-- a method that changes nothing -/
theorem ev_meth {ra : Rpl β} {b : β} {rb : Rpl γ} {d : γ} {pre : β × γ → Prop} {f : β × γ → α} {tr : TA} {E : XK} {m : Str} [MoL ra] (hT : TD T H) (hm : m ∉ fs) (h : Ev K T ta σ H (zOb Cn fs ra) b) (h2 : EvA K T tr σ H rb d) (hp : pre (b, d)) :
    Ev K T (tMeth (He.ga K Cn) m (PSp K (aC (zOb Cn fs ra) rb) pre r f) [] E ta tr) σ H r (f (b, d)) := fun H1 g Q q => h H1 g _ fun v H2 e2 r2 => by
  obtain ⟨p, dx, vs, ev, ht, hh, hr⟩ := r2
  refine ⟨p, dx, _, ev, hh, lookup_zip_none hm, ?_⟩
  refine h2 H2 (g.trans e2.fr) _ fun ws H3 e3 r3 => ?_
  show PSp K (aC (zOb Cn fs ra) rb) pre r f (v :: (ws ++ [])) H3 Q E
  rw [List.append_nil]
  exact ⟨T, (b, d), (hT.fr g).ex (e2.trans e3), ⟨v, ws, rfl, ⟨p, dx, vs, ev, ht, e3 _ _ hh, MoL.fr e3.fr hr⟩, r3⟩, hp, fun v' H4 e4 r4 => q v' H4 ((e2.trans e3).trans e4) r4⟩

/-! ### pairs as targets -/
theorem g2_tup {i j : Nat} {p : α × β} {v : V} {H' : Hp} {σ' : L2.St} {Q : L2.St → Hp → Prop} (h : zP r s K T H' v p) (q : ∀ x, r K T H' x p.1 → ∀ y, s K T H' y p.2 → Q ((σ'.set i (some x)).set j (some y)) H') : gTup K 2 (gCons (gName i) (gCons (gName j) gNil)) v σ' H' Q := by
  obtain ⟨a, x, y, e, hs, h1, h2⟩ := h
  exact ⟨a, [x, y], e, hs.sq, rfl, x, [y], rfl, y, [], rfl, rfl, q x h1 y h2⟩
theorem g3_tup {s' : Rp γ} {i j k : Nat} {p : α × β × γ} {v : V} {H' : Hp} {σ' : L2.St} {Q : L2.St → Hp → Prop} (h : zP3 r s s' K T H' v p) (q : ∀ x, r K T H' x p.1 → ∀ y, s K T H' y p.2.1 → ∀ z, s' K T H' z p.2.2 → Q (((σ'.set i (some x)).set j (some y)).set k (some z)) H') :
    gTup K 3 (gCons (gName i) (gCons (gName j) (gCons (gName k) gNil))) v σ' H' Q := by
  obtain ⟨a, x, y, z, e, hs, h1, h2, h3⟩ := h
  exact ⟨a, [x, y, z], e, hs.sq, rfl, x, [y, z], rfl, y, [z], rfl, z, [], rfl, rfl, q x h1 y h2 z h3⟩

/-! ### ints from things -/
def b2 (b : Bool) : Int := if b then 1 else 0
def rInt1 : List V → Hp → VK → Prop := fun xs H Q => (∃ i, xs = [.int i] ∧ Q (.int i) H) ∨ ∃ k, xs = [.bl k] ∧ Q (.int (if k then 1 else 0)) H
theorem call_int1Q {X : Cx} : CallR X (.type "int") rInt1 := call_int1
theorem ev_intI {i : Int} (h : Ev K T ta σ H zI i) : Ev K T (tCB rInt1 (tCons ta tNil)) σ H zI i := ev_c1 h fun x H1 Q _ e q => .inl ⟨i, by rw [show x = .int i from e], q _ H1 (Ex.refl H1) rfl⟩
theorem ev_intB {i : Bool} (h : Ev K T ta σ H zB i) : Ev K T (tCB rInt1 (tCons ta tNil)) σ H zI (b2 i) := ev_c1 h fun x H1 Q _ e q => .inr ⟨i, by rw [show x = .bl i from e], q _ H1 (Ex.refl H1) rfl⟩
def rIntS : List V → Hp → VK → Prop := fun xs H Q => ∃ a n, xs = [.str a] ∧ PySem.intText? a = some n ∧ a.length ≤ 640 ∧ Q (.int n) H
theorem call_intS {X : Cx} : CallR X (.type "int") rIntS := call_int_str
def wInt (w : List Bool) : Int := match w with
  | [b] => b2 b
  | _ => 0
theorem int_sgn (b : Bool) : PySem.intText? (wS [b]) = some (b2 b) := by cases b <;> decide +kernel
theorem ev_intW {w : List Bool} (h : Ev K T ta σ H zW w) (hl : w.length = 1) : Ev K T (tCB rIntS (tCons ta tNil)) σ H zI (wInt w) := ev_c1 h fun x H1 Q _ ⟨e, _⟩ q => by
  match w, hl with
  | [b], _ => exact ⟨wS [b], b2 b, by rw [e], int_sgn b, by rw [wS_len]; simp, q _ H1 (Ex.refl H1) rfl⟩
def rAbs : List V → Hp → VK → Prop := fun xs H Q => ∃ i, xs = [.int i] ∧ Q (.int (if i < 0 then -i else i)) H
theorem call_absQ {X : Cx} : CallR X (.builtin "abs") rAbs := call_abs
def ab (i : Int) : Int := if i < 0 then -i else i
theorem ev_abs {i : Int} (h : Ev K T ta σ H zI i) : Ev K T (tCB rAbs (tCons ta tNil)) σ H zI (ab i) := ev_c1 h fun x H1 Q _ e q => ⟨i, by rw [show x = .int i from e], q _ H1 (Ex.refl H1) rfl⟩
def mx2 (i j : Int) : Int := if j > i then j else i
def mn2 (i j : Int) : Int := if j < i then j else i
def rMx2 : List V → Hp → VK → Prop := fun xs H Q => ∃ i j, xs = [.int i, .int j] ∧ Q (.int (if j > i then j else i)) H
def rMn2 : List V → Hp → VK → Prop := fun xs H Q => ∃ i j, xs = [.int i, .int j] ∧ Q (.int (if j < i then j else i)) H
theorem call_max2Q {X : Cx} (hc : X.calm = true := by rfl) : CallR X (.builtin "max") rMx2 := call_max2 hc
theorem call_min2Q {X : Cx} (hc : X.calm = true := by rfl) : CallR X (.builtin "min") rMn2 := call_min2 hc
theorem ev_max2 {i j : Int} (h : Ev K T ta σ H zI i) (h' : Ev K T tb σ H zI j) : Ev K T (tCB rMx2 (tCons ta (tCons tb tNil))) σ H zI (mx2 i j) := ev_c2 h h' fun x y H1 Q _ e e' q => ⟨i, j, by rw [show x = .int i from e, show y = .int j from e'], q _ H1 (Ex.refl H1) rfl⟩
theorem ev_min2 {i j : Int} (h : Ev K T ta σ H zI i) (h' : Ev K T tb σ H zI j) : Ev K T (tCB rMn2 (tCons ta (tCons tb tNil))) σ H zI (mn2 i j) := ev_c2 h h' fun x y H1 Q _ e e' q => ⟨i, j, by rw [show x = .int i from e, show y = .int j from e'], q _ H1 (Ex.refl H1) rfl⟩
theorem at_get {xs : List α} {i : Int} {d0 : α} (h0 : 0 ≤ i) (h : i < (xs.length : Int)) : atI xs i = some (xs.getD i.toNat d0) := by
  apply atI_pos h0
  have : i.toNat < xs.length := by omega
  rw [List.getD_eq_getElem?_getD, List.getElem?_eq_getElem this]; rfl
/-! ### slices of words, join -/
theorem cut_map {f : α → β} (xs : List α) (lo hi : Option Int) : cutA (xs.map f) lo hi = (cutA xs lo hi).map f := by
  unfold cutA
  rw [List.length_map, ← List.map_drop, ← List.map_take]
theorem cutA_len (xs : List α) (lo hi : Option Int) : (cutA xs lo hi).length ≤ xs.length := by
  unfold cutA
  rw [List.length_take, List.length_drop]
  omega
theorem ev_slW {w : List Bool} {tl th : TO} {lo hi : Option Int} (h : Ev K T te σ H zW w) (h1 : EvO T tl σ H lo) (h2 : EvO T th σ H hi) : Ev K T (tSl rSlS te tl th) σ H zW (cutA w lo hi) := fun H1 f Q q =>
  h H1 f _ fun v H2 e2 r2 => h1 H2 (f.trans e2.fr) _ fun H3 e3 => h2 H3 ((f.trans e2.fr).trans e3.fr) _ fun H4 e4 => by
    obtain ⟨rfl, hl⟩ := r2
    refine ⟨wS w, rfl, by rw [wS_len, sizeLine_eq]; omega, q _ _ ((e2.trans e3).trans e4) ⟨?_, Nat.le_trans (cutA_len _ _ _) hl⟩⟩
    congr 1
    unfold cutS
    rw [wS_len]
    have : (wS w).cps.toList = w.map sgn := by simp [wS]
    rw [this]
    have := cut_map (f := sgn) w lo hi
    unfold cutA at this
    rw [List.length_map] at this
    rw [this]
    rfl
def rJoin (K : PySem.W.Frag) : V → List V → Hp → VK → Prop := fun x xs H Q => ∃ a p, ∃ ys : List Str, x = .str a ∧ xs = [.ref p] ∧ (SqL K H p (ys.map V.str) ∨ SqT K H p (ys.map V.str)) ∧
      (ys.map (·.length)).sum + ys.length * a.length ≤ 16777216 ∧ Q (.str (Txt.join a ys)) H
theorem pe_joinQ {X : Cx} {o e : Expr} {to te : TE} {apos pos : Pos} (ho : PE X o to) (he : PE X e te) (hs : starEach [e] X.env = [(false, eval e X.env)] := by rfl) (hbase : attributeBase o "join" X.env (eval o X.env) = eval o X.env := by rfl) (hline : (apos.endLine == pos.line) = true := by rfl) :
    PE X (.Call (.Attribute o "join" apos) [e] [] pos) (tM1 (rJoin X.K) to te) := pe_join ho he hs hbase hline
theorem joinL_nil : ∀ l : List (List Nat), TL.joinL [] l = l.flatten
  | [] => rfl
  | [p] => by simp [TL.joinL]
  | p :: q :: r => by
    have ih := joinL_nil (q :: r)
    show p ++ ([] ++ TL.joinL [] (q :: r)) = _
    rw [ih]; simp
theorem join_words (ws : List (List Bool)) : Txt.join (wS []) (ws.map wS) = wS ws.flatten := by
  rw [TL.join_eq]
  apply TL.ext_tl
  rw [TL.tl_join]
  have : TL.tl (wS []) = [] := rfl
  rw [this, joinL_nil]
  simp only [List.map_map, TL.tl, wS]
  simp only [List.map_flatten]
  congr 1
theorem ev_joinW {ws : List (List Bool)} (ha : Ev K T ta σ H zW []) (hb : Ev K T tb σ H (zL zW) ws) (hl : ws.flatten.length ≤ 100000) : Ev K T (tM1 (rJoin K) ta tb) σ H zW ws.flatten := fun H1 f Q q => ha H1 f _ fun v H2 e2 r2 => by
  obtain ⟨rfl, _⟩ := r2
  refine ⟨⟨_, rfl⟩, hb H2 (f.trans e2.fr) _ fun y H3 e3 r3 => ?_⟩
  obtain ⟨p, vs, rfl, hs, hall⟩ := r3
  have e := all2_word hall
  refine ⟨wS [], p, ws.map wS, rfl, rfl, .inl (by rw [← e]; exact hs.sq), ?_, ?_⟩
  · have e1 : ((ws.map wS).map (·.length)).sum = ws.flatten.length := by
      rw [List.length_flatten, List.map_map]
      congr 1
      apply List.map_congr_left
      intro w _; exact wS_len w
    rw [e1, wS_len]; simp; simp at hl; omega
  · rw [join_words]
    exact q _ _ (e2.trans e3) ⟨rfl, hl⟩
/-! ### truth -/
/-- an expression by its truth -/
def tTruK (K : PySem.W.Frag) (ta : TE) : TT := fun σ H Q => ta σ H fun x H' => ∃ k, TruV K x H' k ∧ Q k H'
theorem et_truL {xs : List α} (h : Ev K T ta σ H (zL r) xs) : EvT T (tTruK K ta) σ H (!xs.isEmpty) := fun H1 f Q q => h H1 f _ fun v H2 e2 r2 => by
  obtain ⟨a, vs, rfl, hs, hall⟩ := r2
  refine ⟨_, .inl ⟨vs, hs.sq, ?_⟩, q H2 e2⟩
  have := all2_len hall
  cases vs <;> cases xs <;> simp at this <;> rfl
end
end EB

set_option Elab.async false
set_option linter.all false
set_option maxRecDepth 100000
set_option maxHeartbeats 4000000
/-! EB: isinstance, signs in a text, the built-ins' places. -/
namespace EB
open PySem PySem.Spec PyProof.Rows L2
theorem bt_abs : bootBuiltins "abs" = some (.builtin "abs") := by decide +kernel
theorem bt_all : bootBuiltins "all" = some (.builtin "all") := by decide +kernel
theorem bt_any : bootBuiltins "any" = some (.builtin "any") := by decide +kernel
theorem bt_len : bootBuiltins "len" = some (.builtin "len") := by decide +kernel
theorem bt_max : bootBuiltins "max" = some (.builtin "max") := by decide +kernel
theorem bt_min : bootBuiltins "min" = some (.builtin "min") := by decide +kernel
theorem bt_sum : bootBuiltins "sum" = some (.builtin "sum") := by decide +kernel
theorem bt_sorted : bootBuiltins "sorted" = some (.builtin "sorted") := by decide +kernel
theorem bt_isinstance : bootBuiltins "isinstance" = some (.builtin "isinstance") := by decide +kernel
theorem bt_int : bootBuiltins "int" = some (.type "int") := by decide +kernel
theorem bt_bool : bootBuiltins "bool" = some (.type "bool") := by decide +kernel
theorem bt_str : bootBuiltins "str" = some (.type "str") := by decide +kernel
theorem bt_list : bootBuiltins "list" = some (.type "list") := by decide +kernel
theorem bt_tuple : bootBuiltins "tuple" = some (.type "tuple") := by decide +kernel
theorem bt_dict : bootBuiltins "dict" = some (.type "dict") := by decide +kernel
theorem bt_set : bootBuiltins "set" = some (.type "set") := by decide +kernel

/-- a representation's type -/
class Tyd {α : Type} (r : Rp α) (n : outParam String) : Prop where
  ty : ∀ {K T H v a}, r K T H v a → TyX K H v (.type n)
instance : Tyd zI "int" := ⟨fun h => by rw [h]; exact .base (.int _)⟩
instance : Tyd zB "bool" := ⟨fun h => by rw [h]; exact .base (.bl _)⟩
instance : Tyd zS "str" := ⟨fun h => by rw [h]; exact .base (.str _)⟩
instance : Tyd zW "str" := ⟨fun h => by rw [h.1]; exact .base (.str _)⟩
instance : Tyd zN "NoneType" := ⟨fun h => by rw [h]; exact .base .non⟩
instance {α : Type} {r : Rp α} : Tyd (zL r) "list" := ⟨fun ⟨a, vs, e, h, _⟩ => by
  rw [e]
  rcases h with ⟨_, h | ⟨o, h⟩⟩ | ⟨o, its, n, h1, h2, _⟩
  · exact .base (.lst h)
  · exact .base (.frz h)
  · exact .kList h1 h2⟩
instance {α : Type} {r : Rp α} : Tyd (zU r) "tuple" := ⟨fun ⟨a, vs, e, h, _⟩ => by
  rw [e]
  rcases h with ⟨_, h | ⟨o, h⟩⟩ | ⟨o, its, n, h1, h2, _⟩
  · exact .base (.tup h)
  · exact .fTuple h
  · exact .kTuple h1 h2⟩
instance {α β : Type} {r : Rp α} {s : Rp β} : Tyd (zP r s) "tuple" := ⟨fun ⟨a, x, y, e, h, _⟩ => by
  rw [e]
  rcases h with ⟨_, h | ⟨o, h⟩⟩ | ⟨o, its, n, h1, h2, _⟩
  · exact .base (.tup h)
  · exact .fTuple h
  · exact .kTuple h1 h2⟩
section
variable {X : Cx} {K : PySem.W.Frag} {T : AS} {σ : L2.St} {H : Hp} {α β γ : Type} {r : Rp α} {s : Rp β} {ta tb te tl : TE}
/-- a built-in class as a value -/
theorem pe_cls {x : Str} {n : String} {pos : Pos} (hg : Gl X x) (hm : X.mg x = none) (hv : bootBuiltins x = some (.type n)) (hn : x ≠ "__name__" := by decide) (hd : (x == ("__debug__" : Str)) = false := by decide) : PE X (.Name x pos) (tC (.ty n)) := pe_bltn (v := .ty n) hg hm hv rfl hn hd
theorem ev_isi {n n' : String} [Tyd r n'] {a : α} {b : Bool} (h : Ev K T ta σ H r a) (hk : kitB n' n = some b := by decide +kernel) : Ev K T (tCB (rIsi K) (tCons ta (tCons (tC (.ty n)) tNil))) σ H zB b := fun H1 f Q q =>
  h H1 f _ fun v H2 e2 r2 => ⟨v, .ty n, _, _, b, rfl, .ty n, Tyd.ty r2, kit_ty hk, q _ H2 e2 rfl⟩
theorem isi2_at {n1 n2 n' : String} {v : V} {H2 : Hp} {b1 b2 : Bool} {Q : VK} (t : TyX K H2 v (.type n')) (hk : kitB n' n1 = some b1) (hk2 : kitB n' n2 = some b2) (q : ∀ H3, Ex H2 H3 → Q (.bl (b1 || b2)) H3) :
    2 ≤ sizeLine ∧ ∀ p, H2 p = none → rIsiT K [v, .ref p] (upd H2 p (.tup [.ty n1, .ty n2])) Q :=
  ⟨by rw [sizeLine_eq]; omega, fun p hp => ⟨v, p, [.ty n1, .ty n2], .type n', [.type n1, .type n2], b1 || b2, rfl, upd_same, .cons (.ty _) (.cons (.ty _) .nil), by
    cases t with
    | base t => cases t with
      | non => exact .base .non
      | bl => exact .base (.bl _)
      | int => exact .base (.int _)
      | str => exact .base (.str _)
      | flt => exact .base (.flt _)
      | lst e => exact .base (.lst (by rw [upd_ne (ne_of_none e hp)]; exact e))
      | frz e => exact .base (.frz (by rw [upd_ne (ne_of_none e hp)]; exact e))
      | tup e => exact .base (.tup (by rw [upd_ne (ne_of_none e hp)]; exact e))
      | dK e => exact .base (.dK (by rw [upd_ne (ne_of_none e hp)]; exact e))
      | dT e => exact .base (.dT (by rw [upd_ne (ne_of_none e hp)]; exact e))
    | byt => exact .byt _
    | set e => exact .set (by rw [upd_ne (ne_of_none e hp)]; exact e)
    | kList e c => exact .kList e c
    | kTuple e c => exact .kTuple e c
    | kDict e c => exact .kDict e c
    | fTuple e => exact .fTuple (by rw [upd_ne (ne_of_none e hp)]; exact e)
    | fDict e => exact .fDict (by rw [upd_ne (ne_of_none e hp)]; exact e), kitAny_cons (kit_ty hk) (fun z => by
      subst z
      exact kitAny_cons (kit_ty hk2) (fun z => by subst z; exact kitAny_nil) (fun z => by subst z; rfl)) (fun z => by subst z; rfl), q _ (Ex.new hp)⟩⟩
theorem ev_isi2 {n1 n2 n' : String} [Tyd r n'] {a : α} {b1 b2 : Bool} (h : Ev K T ta σ H r a) (hk : kitB n' n1 = some b1 := by decide +kernel) (hk2 : kitB n' n2 = some b2 := by decide +kernel) :
    Ev K T (tCB (rIsiT K) (tCons ta (tCons (tTup (tCons (tC (.ty n1)) (tCons (tC (.ty n2)) tNil))) tNil))) σ H zB (b1 || b2) := fun H1 f Q q =>
  h H1 f _ fun v H2 e2 r2 => isi2_at (Tyd.ty r2) hk hk2 fun H3 e3 => q _ H3 (e2.trans e3) rfl
/-- a list or a tuple is one -/
theorem ev_isiQ {xs : List α} (h : Ev K T ta σ H (zQ r) xs) : Ev K T (tCB (rIsiT K) (tCons ta (tCons (tTup (tCons (tC (.ty "tuple")) (tCons (tC (.ty "list")) tNil))) tNil))) σ H zB true := fun H1 f Q q =>
  h H1 f _ fun v H2 e2 r2 => by
    rcases r2 with r2 | r2
    · exact isi2_at (b1 := false) (b2 := true) (Tyd.ty r2) (by decide +kernel) (by decide +kernel) fun H3 e3 => q _ H3 (e2.trans e3) rfl
    · exact isi2_at (b1 := true) (b2 := false) (Tyd.ty r2) (by decide +kernel) (by decide +kernel) fun H3 e3 => q _ H3 (e2.trans e3) rfl
/-- one sign in "01" -/
def rInSg : R2 := fun x y H Q => ∃ (c : Nat) (z : Str), x = .str ⟨#[c]⟩ ∧ y = .str z ∧ Q (.bl (decide (c ∈ z.cps.toList))) H
theorem op_inSg : OpR X (compareOp .In) rInSg := op_in_sign
theorem len_sign {w : List Bool} {x : List Bool} (h : x ∈ w.map fun b => [b]) : x.length = 1 := by
  obtain ⟨b, _, rfl⟩ := List.mem_map.mp h
  rfl
theorem ev_in01 {w : List Bool} (h : Ev K T ta σ H zW w) (hl : w.length = 1) : Ev K T (tOp rInSg ta (tC (.str ("01" : Str)))) σ H zB true := fun H1 f Q q => h H1 f _ fun v H2 e2 ⟨r2, _⟩ => by
  match w, hl with
  | [b], _ =>
    subst r2
    refine ⟨sgn b, ("01" : Str), rfl, rfl, ?_⟩
    have : decide (sgn b ∈ ("01" : Str).cps.toList) = true := by cases b <;> decide +kernel
    rw [this]
    exact q _ H2 e2 rfl
end
end EB

set_option Elab.async false
set_option linter.all false
set_option maxRecDepth 100000
set_option maxHeartbeats 4000000
/-! EB: the rules whose readings name the written part, told by it. -/
namespace EB
open PySem PySem.Spec PyProof.Rows L2
section
variable {X : Cx} {K : PySem.W.Frag} {tg l e o i : Expr} {pos : Pos} {tl te : TE} {es : List Expr}
theorem kx_list (hK : X.K = K := by rfl) : IxR X (rIxL K) := hK ▸ ix_list
theorem kx_tup (hK : X.K = K := by rfl) : IxR X (rIxT K) := hK ▸ ix_tup
theorem kx_seq (hK : X.K = K := by rfl) : IxR X (rIx K) := hK ▸ ix_seq
theorem kc_len (hK : X.K = K := by rfl) : CallR X (.builtin "len") (rLenQ K) := hK ▸ call_lenQ
theorem kc_list (hK : X.K = K := by rfl) : CallR X (.type "list") (rListQ K) := hK ▸ call_listQ
theorem kc_tuple (hK : X.K = K := by rfl) : CallR X (.type "tuple") (rTupleQ K) := hK ▸ call_tupleQ
theorem ks_list (hK : X.K = K := by rfl) : SlR X (rSlL K) := hK ▸ sl_list
theorem kp_list (hl : PE X l tl) (hK : X.K = K := by rfl) : PI X tg l (iListB K tl) := hK ▸ pi_listB hl
theorem kp_tup (hl : PE X l tl) (hK : X.K = K := by rfl) : PI X tg l (iTupB K tl) := hK ▸ pi_tupB hl
theorem kp_seq (hl : PE X l tl) (hK : X.K = K := by rfl) : PI X tg l (iSeqB K tl) := hK ▸ pi_seqB hl
theorem kr_all (hc : X.calm = true) (hK : X.K = K := by rfl) : CallR X (.builtin "all") (rAll K) := hK ▸ cr_all hc
theorem kr_any (hc : X.calm = true) (hK : X.K = K := by rfl) : CallR X (.builtin "any") (rAny K) := hK ▸ cr_any hc
theorem kr_sum (hc : X.calm = true) (hK : X.K = K := by rfl) : CallR X (.builtin "sum") (rSum K) := hK ▸ cr_sum hc
theorem kr_max (hc : X.calm = true) (hK : X.K = K := by rfl) : CallR X (.builtin "max") (rMax K) := hK ▸ cr_max hc
theorem kr_min (hc : X.calm = true) (hK : X.K = K := by rfl) : CallR X (.builtin "min") (rMin K) := hK ▸ cr_min hc
theorem kc_isi (hK : X.K = K := by rfl) : CallR X (.builtin "isinstance") (rIsi K) := hK ▸ call_isi
theorem kc_isiT (hK : X.K = K := by rfl) : CallR X (.builtin "isinstance") (rIsiT K) := hK ▸ call_isiT
theorem ke_fld {f : Str} (he : PE X e te) (hb : attributeBase e f X.env (eval e X.env) = eval e X.env := by rfl) (hK : X.K = K := by rfl) : PE X (.Attribute e f pos) (tFld K te f) := hK ▸ pe_fld he hb
theorem kg_tup {k n : Nat} {t : TGs} (hc : X.calm = true) (h : PGs X es t) (hn : (assignEach es X.env).length = n := by rfl) (hst : (assignEach es X.env).findIdx? (·.1) = none := by rfl) (hK : X.K = K := by rfl) : PG X (.Tuple es k pos) (gTup K n t) := hK ▸ pg_tup hc h hn hst
theorem kt_truth (ha : PE X e te) (he : ∀ whole, isTrue e X.env whole = (do let v ← whole; standAt e.pos; holding [v] (truthy v)) := by intro _; rfl) (hK : X.K = K := by rfl) : PT X e (tTruK K te) := hK ▸ pt_truth ha he
theorem ke_join {to : TE} {apos : Pos} (ho : PE X o to) (he : PE X e te) (hs : starEach [e] X.env = [(false, eval e X.env)] := by rfl) (hbase : attributeBase o "join" X.env (eval o X.env) = eval o X.env := by rfl) (hline : (apos.endLine == pos.line) = true := by rfl) (hK : X.K = K := by rfl) :
    PE X (.Call (.Attribute o "join" apos) [e] [] pos) (tM1 (rJoin K) to te) := hK ▸ pe_joinQ ho he hs hbase hline
end
section
variable {P : Program} {w : World} {K : PySem.W.Frag} {mg : Str → Option Value} {base : Heap} {X : Cx} {k j : Nat} {x : Str} {ps : List Str} {sp : Sp} {p pos apos : Pos} {e o : Expr} {es : List Expr} {t : TA} {ta : TE}
theorem ke_meth {pl : Sem Bool} {Cn m : Str} (he : PE X o ta) (c : Cls K (He.ga K Cn)) (hm : Meth K (He.ga K Cn) m (He.ma K (He.ga K Cn) m)) (F : Ok X.prog X.w K X.mg X.base k (Cn, some m) ps sp) (hr : Room j X.A) (hk : k ≤ j) (ha : PA X (e :: es) t)
    (hst : starEach (e :: es) X.env = (false, eval e X.env) :: starEach es X.env := by rfl) (hpl : (backTo pos (starEach es X.env)).any (·.1) = false := by rfl)
    (ht : eval (.Call (.Attribute o m apos) (e :: es) [] pos) X.env = (do
      let ov ← eval o X.env
      standAt apos.atName
      let (f, first) ← holding [ov] (getMethod ov m pl)
      callWith pos f first (backTo pos (starEach (e :: es) X.env)) (backToKw pos (keywordEach [] X.env))) := by rfl) (hK : X.K = K := by rfl) :
    PE X (.Call (.Attribute o m apos) (e :: es) [] pos) (tMeth (He.ga K Cn) m sp [] E0 ta t) := by
  subst hK
  exact pe_methG he c hm F hr hk ha hst hpl ht
theorem ke_meth0 {pl : Sem Bool} {Cn m : Str} (he : PE X o ta) (c : Cls K (He.ga K Cn)) (hm : Meth K (He.ga K Cn) m (He.ma K (He.ga K Cn) m)) (F : Ok X.prog X.w K X.mg X.base k (Cn, some m) ps sp) (hr : Room j X.A) (hk : k ≤ j)
    (ht : eval (.Call (.Attribute o m apos) [] [] pos) X.env = (do
      let ov ← eval o X.env
      standAt apos.atName
      let (f, first) ← holding [ov] (getMethod ov m pl)
      callWith pos f first (backTo pos (starEach [] X.env)) (backToKw pos (keywordEach [] X.env))) := by rfl) (hK : X.K = K := by rfl) :
    PE X (.Call (.Attribute o m apos) [] [] pos) (tMeth (He.ga K Cn) m sp [] E0 ta tNil) := by
  subst hK
  exact pe_methG0 he c hm F hr hk ht
end
end EB

set_option Elab.async false
set_option linter.all false
set_option maxRecDepth 100000
set_option maxHeartbeats 4000000
/-! EB: loops as statements, lists that are being made. -/
namespace EB
open PySem PySem.Spec PyProof.Rows L2

/-! ### a loop's run on data -/
inductive Out (ρ σ : Type) where
  | ret (r : ρ) | nx (s : σ) | brk (s : σ)
def runL {α ρ σ : Type} (step : σ → α → Out ρ σ) : σ → List α → Out ρ σ
  | s, [] => .nx s
  | s, x :: xs => match step s x with
    | .nx s' => runL step s' xs
    | o => o
section
variable {α ρ σ : Type} {step : σ → α → Out ρ σ}
theorem runL_app : ∀ {xs : List α} {s s' : σ} {x : α}, runL step s xs = .nx s' → runL step s (xs ++ [x]) = step s' x
  | [], s, s', x, h => by
    cases h
    show (match step s x with | .nx s' => runL step s' [] | o => o) = step s x
    cases step s x <;> rfl
  | y :: ys, s, s', x, h => by
    have h' : (match step s y with | .nx s' => runL step s' ys | o => o) = .nx s' := h
    show (match step s y with | .nx s' => runL step s' (ys ++ [x]) | o => o) = step s' x
    cases e : step s y with
    | nx s2 => rw [e] at h'; exact runL_app h'
    | ret r => rw [e] at h'; cases h'
    | brk r => rw [e] at h'; cases h'
theorem runL_take {xs : List α} {s s' : σ} {x : α} {i : Nat} (h : runL step s (xs.take i) = .nx s') (hx : xs[i]? = some x) : runL step s (xs.take (i + 1)) = step s' x := by
  rw [List.take_add_one, hx]
  exact runL_app h
theorem runL_stop : ∀ {xs ys : List α} {s : σ} {o : Out ρ σ}, runL step s xs = o → (∀ s', o ≠ .nx s') → runL step s (xs ++ ys) = o
  | [], ys, s, o, h, n => absurd h.symm (n s)
  | y :: ys, zs, s, o, h, n => by
    have h' : (match step s y with | .nx s' => runL step s' ys | o => o) = o := h
    show (match step s y with | .nx s' => runL step s' (ys ++ zs) | o => o) = o
    cases e : step s y with
    | nx s2 => rw [e] at h'; exact runL_stop h' n
    | ret r => rw [e] at h'; exact h'
    | brk r => rw [e] at h'; exact h'
theorem runL_ret {xs : List α} {s s' : σ} {x : α} {i : Nat} {o : Out ρ σ} (h : runL step s (xs.take i) = .nx s') (hx : xs[i]? = some x) (hs : step s' x = o) (n : ∀ s', o ≠ .nx s') : runL step s xs = o := by
  have h1 := runL_stop (ys := xs.drop (i + 1)) ((runL_take h hx).trans hs) n
  rwa [List.take_append_drop] at h1
end

/-! ### frames of what was made here -/
theorem Fr.exOf {S : AS} {H H' : Hp} (f : Fr S H H') (n : ∀ b, S b → H b = none) : Ex H H' := fun a o e => f.keep a o (fun z => by rw [n a z] at e; cases e) e
theorem Fr.tp {S : AS} {H H' : Hp} {p : Addr} (f : Fr S H H') : Fr (Tp S p) H H' := f.mono fun _ h => .inl h
theorem hS_tp {S : AS} {H H' : Hp} {p : Addr} (hS : ∀ b, S b → H b = none) (f : Fr S H H') (n : H' p = none) : ∀ b, Tp S p b → H b = none := fun b h => h.elim (hS b) fun z => by subst z; exact f.back n
/-- a list of ours, being made -/
structure HM {α : Type} (r : Rp α) (K : PySem.W.Frag) (T : AS) (H : Hp) (p : Addr) (xs : List α) : Prop where
  mem : T p
  ex : ∃ vs, H p = some (.lst vs) ∧ All2 (r K T H) vs xs
section
variable {K : PySem.W.Frag} {T T' S : AS} {σ : L2.St} {H H' : Hp} {α β γ : Type} {r : Rp α} {te : TE} {D : Ends} {i : Nat} {p : Addr} {xs : List α} {d : α}
theorem HM.ex' [Mo r] (h : HM r K T H p xs) (e : Ex H H') : HM r K T H' p xs := let ⟨vs, h1, h2⟩ := h.ex; ⟨h.mem, vs, e _ _ h1, all2_imp (fun _ _ z => Mo.fr e.fr z) h2⟩
theorem HM.fr [Mo r] (h : HM r K T H p xs) (f : Fr S H H') (n : ¬ S p) (hST : ∀ b, S b → T b) : HM r K T H' p xs := let ⟨vs, h1, h2⟩ := h.ex; ⟨h.mem, vs, f.keep _ _ n h1, all2_imp (fun _ _ z => Mo.fr (f.mono hST) z) h2⟩
theorem HM.lift [Mo r] {q : Addr} (h : HM r K T H p xs) (n : H q = none) : HM r K (Tp T q) H p xs := let ⟨vs, h1, h2⟩ := h.ex; ⟨.inl h.mem, vs, h1, all2_imp (fun _ _ z => Mo.lift n z) h2⟩
/-- it is done -/
theorem HM.done [Mo r] (h : HM r K T H p xs) (hs : ∀ b, T' b → T b) (n : ¬ T' p) : zL r K T' H (.ref p) xs := let ⟨vs, h1, h2⟩ := h.ex; ⟨p, vs, rfl, .new n h1, all2_imp (fun _ _ z => Mo.sub hs z) h2⟩
theorem HM.sub [Mo r] (h : HM r K T H p xs) (hs : ∀ b, T' b → T b) (m : T' p) : HM r K T' H p xs := let ⟨vs, h1, h2⟩ := h.ex; ⟨m, vs, h1, all2_imp (fun _ _ z => Mo.sub hs z) h2⟩
theorem HM.app [Mo r] {v : V} (h : HM r K T H p xs) (hv : r K T H v d) : ∃ vs, H p = some (.lst vs) ∧ vs.length = xs.length ∧ HM r K T (upd H p (.lst (vs ++ [v]))) p (xs ++ [d]) ∧ Fr T H (upd H p (.lst (vs ++ [v]))) := by
  obtain ⟨vs, h1, h2⟩ := h.ex
  have f : Fr T H (upd H p (.lst (vs ++ [v]))) := Fr.upd (.inl h.mem)
  exact ⟨vs, h1, all2_len h2, ⟨h.mem, _, upd_same, all2_app (all2_imp (fun _ _ z => Mo.fr f z) h2) (.cons (Mo.fr f hv) .nil)⟩, f⟩
/-- x = [..], a list that is to be changed -/
theorem st_mlist [Mo r] {ta : TA} (h : EvA K T ta σ H (aH r) xs) (hl : xs.length ≤ 1000) (k : ∀ p H1 H2 v, H2 = upd H1 p v → Ex H H1 → H1 p = none → Fr (Tp S p) H1 H2 → HM r K (Tp T p) H2 p xs → D.nx (σ.set i (some (.ref p))) H2) : tAsg (tLst ta) (gName i) D σ H :=
  h H (Fr.refl H) _ fun vs H1 e1 r1 => ⟨by rw [all2_len r1, sizeLine_eq]; omega, fun p hp => k p H1 _ _ rfl e1 hp (Fr.upd (.inl (.inr rfl))) ⟨.inr rfl, vs, upd_same, all2_imp (fun _ _ z => Mo.fr (Ex.new hp).fr (Mo.lift hp z)) r1⟩⟩
/-- x.append(e) -/
theorem st_append [Mo r] (hv : σ[i]? = some (some (.ref p))) (m : HM r K T H p xs) (h : Ev K T te σ H r d) (hl : xs.length ≤ 1000000) (k : ∀ H1 H2 v, H2 = upd H1 p v → Ex H H1 → Fr (Tp S p) H1 H2 → Fr T H1 H2 → HM r K T H2 p (xs ++ [d]) → D.nx σ H2) : tDrop (tBM K "list" rAppend (tVar i) (tCons te tNil)) D σ H := by
  obtain ⟨vs, h1, h2⟩ := m.ex
  refine ⟨.ref p, hv, .inl ⟨rfl, vs, .inl (.inl h1)⟩, ?_⟩
  refine h H (Fr.refl H) _ fun v H1 e1 r1 => ?_
  obtain ⟨vs', h1', hl', m', f'⟩ := (m.ex' e1).app r1
  exact ⟨p, vs', v, rfl, rfl, h1', by rw [hl', sizeLine_eq]; omega, k H1 _ _ rfl e1 (Fr.upd (.inl (.inr rfl))) f' m'⟩
/-- reading such a list -/
theorem evM_ix {ta tb : TE} {j : Int} [Mo r] (hv : ∀ H', Fr T H H' → HM r K T H' p xs → Ev K T ta σ H zA p) : True := trivial
/-- for -/
theorem st_for [Mo r] {wi : TI} {g : TG} {tb : TS} (hT : TD T H) (h : EvI K T wi σ H r xs)
    (k : ∀ H2, Ex H H2 → ∃ Pv : Nat → L2.St → Hp → Prop, Pv 0 σ H2 ∧ (∀ i σ' H', i ≤ xs.length → Pv i σ' H' → Fr T H2 H') ∧
      (∀ i x σ' H' v H'', xs[i]? = some x → Pv i σ' H' → Ex H' H'' → r K T H'' v x → g v σ' H'' fun σ3 H3 => tb { D with nx := Pv (i + 1), ct := Pv (i + 1), bk := D.nx } σ3 H3) ∧
      (∀ σ' H', Pv xs.length σ' H' → D.nx σ' H')) : tFor wi g tb D σ H :=
  h H (Fr.refl H) _ fun J H2 e2 w => by
    obtain ⟨⟨n, G, Y, hn, wk, hG, hY⟩, hz⟩ := w
    subst hn
    obtain ⟨Pv, h0, hF, hs, hd⟩ := k H2 e2
    refine for_it wk Pv h0 (fun i σ' H' hi q => hG H' (hF i σ' H' hi q)) (fun i v σ' H' H'' hi q y => ?_) hd
    have f := hF i σ' H' (by omega) q
    obtain ⟨eY, x, hx, hr⟩ := hY i H' v H'' hi f y
    exact hs i x σ' H' v H'' hx q eY (hr T ((hT.ex e2).fr f) (Tr.fr f))
end
end EB

set_option Elab.async false
set_option linter.all false
set_option maxRecDepth 100000
set_option maxHeartbeats 4000000
/-! EB: enumerate and zip of lists, tuples, texts in any mix. -/
namespace EB
open PySem PySem.Spec PyProof.Rows L2

set_option maxHeartbeats 4000000 in
/-- enumerate's making over anything that begins -/
theorem meets_enum1 {v : Value} {o : Obj} {Hb : Heap → Prop} (B : Begins v o Hb) :
    Meets (Builtin.«enumerate.__new__» ⟨[.type "enumerate", v], []⟩) (fun _ R s => Hb s.heap ∧
      R (.ok (.ret (.ref (s.heap.push o).objs.size))) { s with heap := (s.heap.push o).push { cls := .type "enumerate", data := .fields #[.none, .bool false, .ref s.heap.objs.size, rawInt 0, .none, .none] } }) :=
  .of_wp fun prog w A R s h => by
    obtain ⟨hp, g, d, tk, os⟩ := s; obtain ⟨h1, h⟩ := h
    have hsub := sub_enumerate
    have q1 : ∀ {A' : Around} {E : Value → Shared → Prop} {Q : Value → Shared → Prop}, Q (.ref hp.objs.size) ⟨hp.push o, g, d, tk, os⟩ → wpAny (model prog w) A' (pyIter v) Q E ⟨hp, g, d, tk, os⟩ :=
      fun q => B.iter prog w _ _ ⟨hp, g, d, tk, os⟩ _ h1 q
    wp_walk using q1
    refine wpAny_stack_any fun st => wpAny_pure ?_
    split
    · rename_i c _ _ _ _ _
      cases (c == Value.type "enumerate") <;> (wp_walk using q1; exact ⟨_, rfl, h⟩)
    · wp_walk using q1
      exact ⟨_, rfl, h⟩
theorem enum_begins1 {prog : Program} {w : World} {A : Around} {E : Value → Shared → Prop} {s : Shared} {v : Value} {o : Obj} {Hb : Heap → Prop} {Q : Value → Shared → Prop} (B : Begins v o Hb) (h1 : Hb s.heap)
    (h : ∀ h', IsEnum h' (s.heap.objs.size + 1) s.heap.objs.size 0 .none → h'.get? s.heap.objs.size = some o → h'.objs.size = s.heap.objs.size + 2 → (∀ b o, s.heap.get? b = some o → h'.get? b = some o) → Q (.ref (s.heap.objs.size + 1)) { s with heap := h' }) :
    wpAny (model prog w) A (call (.type "enumerate") [v]) Q E s := by
  refine callType_new F.called_enumerate (by decide) (F.typeCall_enumerate_1 _) (F.newCall_enumerate_1 _) (fun obj => F.args_object_init_2 obj _) F.entry_enumerate_new (meets_enum1 B) ⟨h1, ?_⟩
  have hz : (s.heap.push o).objs.size = s.heap.objs.size + 1 := Heap.size_push ..
  show _ ∧ _
  rw [hz]
  have he := Heap.get?_push_size (s.heap.push o) (o := { cls := .type "enumerate", data := .fields #[.none, .bool false, .ref s.heap.objs.size, rawInt 0, .none, .none] }) rfl
  rw [hz] at he
  exact ⟨⟨_, he, rfl⟩, h _ he (Heap.get?_push_of_some _ (Heap.get?_push_size _ B.free)) (by rw [Heap.size_push, hz]) fun b o x => Heap.get?_push_of_some _ (Heap.get?_push_of_some _ x)⟩

inductive Src where
  | l (a : Addr) | t (a : Addr) | s (x : Str) (tk : Tok)
def Src.fp : Src → Addr → List Addr
  | .l a, it => [it, a]
  | .t a, it => [it, a]
  | .s _ _, it => [it]
def Src.rd (K : PySem.W.Frag) (H : Hp) : Src → List V → Prop
  | .l a, xs => SqL K H a xs
  | .t a, xs => SqT K H a xs
  | .s x _, xs => xs = x.cps.toList.map fun c => V.str ⟨#[c]⟩
def Src.at_ : Src → Addr → Nat → Heap → Prop
  | .l a, it, i, h => h.IsListIter it a i
  | .t a, it, i, h => h.IsTupleIter it a i
  | .s x tk, it, i, h => h.IsStrIter it (strIterType x) x tk i
def Src.val : Src → Value
  | .l a => .ref a
  | .t a => .ref a
  | .s x tk => .str x tk
/-- the source is none of these -/
def Src.off : Src → List Addr → Prop
  | .l a, fs => a ∉ fs
  | .t a, fs => a ∉ fs
  | .s _ _, _ => True
theorem Src.off.fp {S : Src} {fs : List Addr} {it b : Addr} (h : S.off fs) (hb : b ∈ fs) (hne : b ≠ it) : b ∉ S.fp it := by
  cases S with
  | l a =>
    intro q
    have e : b = it ∨ b = a := by simpa [Src.fp] using q
    rcases e with e | e
    · exact hne e
    · subst e; exact h hb
  | t a =>
    intro q
    have e : b = it ∨ b = a := by simpa [Src.fp] using q
    rcases e with e | e
    · exact hne e
    · subst e; exact h hb
  | s x t =>
    intro q
    have e : b = it := by simpa [Src.fp] using q
    exact hne e
theorem Src.mem_fp {S : Src} {it : Addr} : it ∈ S.fp it := by cases S <;> simp [Src.fp]
theorem Src.at_obj {S : Src} {it : Addr} {i : Nat} {h : Heap} (q : S.at_ it i h) : ∃ o, h.get? it = some o ∧ ∀ v, o.data ≠ .cell v := by
  cases S with
  | l a => obtain ⟨o, ho, hc, hd⟩ := q; exact ⟨o, ho, fun v q => by rw [hd] at q; cases q⟩
  | t a => obtain ⟨o, ho, hc, hd⟩ := q; exact ⟨o, ho, fun v q => by rw [hd] at q; cases q⟩
  | s x t => obtain ⟨o, ho, hc, hd⟩ := q; exact ⟨o, ho, fun v q => by rw [hd] at q; cases q⟩
theorem Src.at_keep {S : Src} {it : Addr} {i : Nat} {h h' : Heap} (q : S.at_ it i h) (k : ∀ o, h.get? it = some o → h'.get? it = some o) : S.at_ it i h' := by
  cases S with
  | l a => obtain ⟨o, ho, z⟩ := q; exact ⟨o, k o ho, z⟩
  | t a => obtain ⟨o, ho, z⟩ := q; exact ⟨o, k o ho, z⟩
  | s x t => obtain ⟨o, ho, z⟩ := q; exact ⟨o, k o ho, z⟩
section
variable {X : Cx} {pins : List (Addr × Obj)} {σ : L2.St} {H : Hp} {s : Shared}
theorem Src.inj {S : Src} (I : Inv X pins σ H s) {xs ys : List V} (h : S.rd X.K H xs) (h' : S.rd X.K H ys) : xs = ys := by
  cases S with
  | l a => exact I.list_inj h h'
  | t a => exact I.tuple_inj h h'
  | s x t => exact h.trans h'.symm
theorem Src.draws {S : Src} (I : Inv X pins σ H s) {xs : List V} (h : S.rd X.K H xs) (hc : X.A.in1.handled = none) {it : Addr} {i : Nat} (hat : S.at_ it i s.heap) (ho : S.off [it]) :
    ∃ (P : Nat → Value → Prop) (St : Nat → Heap → Prop), Draws X.prog X.w X.A.in1 it (S.fp it) xs.length P St ∧ St i s.heap ∧ (∀ j v, P j v → ∃ x, xs[j]? = some x ∧ RelV x v) ∧ ∀ j h', St j h' → S.at_ it j h' := by
  cases S with
  | l a =>
    obtain ⟨its, rv, p, _⟩ := I.list h
    have e : its.toArray.size = xs.length := by simp [rv.length]
    refine ⟨_, _, e ▸ Draws.list hc it a (fun z => ho (by simp [z])) its.toArray, ⟨hat, p.isList⟩, fun j v q => ?_, fun j h' q => q.1⟩
    have q' : its[j]? = some v := by simpa using q
    exact all2_getR rv q'
  | t a =>
    obtain ⟨its, rv, p, _⟩ := I.tuple h
    have e : its.toArray.size = xs.length := by simp [rv.length]
    refine ⟨_, _, e ▸ Draws.tuple hc it a (fun z => ho (by simp [z])) its.toArray, ⟨hat, p⟩, fun j v q => ?_, fun j h' q => q.1⟩
    have q' : its[j]? = some v := by simpa using q
    exact all2_getR rv q'
  | s x t =>
    have h' : xs = x.cps.toList.map fun c => V.str ⟨#[c]⟩ := h
    subst h'
    have e : x.cps.size = (x.cps.toList.map fun c => V.str ⟨#[c]⟩).length := by simp
    refine ⟨_, _, e ▸ Draws.text hc it x t, hat, fun j v q => ?_, fun j h' q => q⟩
    obtain ⟨c, u, h1, rfl⟩ := q
    exact ⟨.str ⟨#[c]⟩, by simp [h1], u, rfl⟩
where
  all2_getR {xs : List V} {us : List Value} (r : Vals xs us) {j : Nat} {v : Value} (h : us[j]? = some v) : ∃ x, xs[j]? = some x ∧ RelV x v := by
    induction r generalizing j with
    | nil => simp at h
    | cons q t ih => cases j with
      | zero => simp at h; subst h; exact ⟨_, rfl, q⟩
      | succ j => obtain ⟨x, h1, h2⟩ := ih (by simpa using h); exact ⟨x, by simpa using h1, h2⟩
end
/-- enumerate(..) -/
def Ie (K : PySem.W.Frag) (S : Src) : It :=
  ⟨fun i H => ∃ (xs : List V) (x : V), S.rd K H xs ∧ xs[i]? = some x, fun i H v H' => ∃ T x, v = .ref T ∧ H T = none ∧ H' = upd H T (.tup [.int (i : Nat), x]) ∧ ∀ xs, S.rd K H xs → xs[i]? = some x, fun i H => ∃ xs : List V, S.rd K H xs ∧ xs.length = i⟩
theorem turn_en {P : Program} {w : World} {K : PySem.W.Frag} {elts : List Expr} {kk : Nat} {tpos : Pos} (S : Src) (e it : Addr) (hoff : S.off [e, it]) :
    Turn P w K (.Tuple elts kk tpos) (Ie K S) [e, it] e (fun i h => (∃ old, IsEnum h e it ((i : Nat) : Int) old) ∧ S.at_ it i h ∧ e ≠ it) where
  mem := by simp
  obj := fun i h st b hb => by
    obtain ⟨⟨old, he⟩, hit, _⟩ := st
    have e' : b = e ∨ b = it := by simpa using hb
    rcases e' with z | z
    · rw [z]; exact ⟨_, he, fun v q => nomatch q⟩
    · rw [z]; exact Src.at_obj hit
  keep := fun i h h' st k => let ⟨⟨old, he⟩, hi, hne⟩ := st; ⟨⟨old, k e (by simp) _ he⟩, Src.at_keep hi fun o q => k it (by simp) o q, hne⟩
  item := by
    intro X hP hw hK hc i pins s σ H E I hf st hg
    subst hP hw hK
    obtain ⟨⟨old, he⟩, hit, hne⟩ := st
    obtain ⟨xs, x, hq, hx⟩ := hg
    have ho1 : S.off [it] := by cases S <;> simp_all [Src.off]
    obtain ⟨Pv, St, D, hst, hPv, hAt⟩ := Src.draws I hq (I.ok.hd hc) hit ho1
    have hel : e < s.heap.objs.size := Heap.lt_size he
    have hil : it < s.heap.objs.size := by obtain ⟨_, q, _⟩ := Src.at_obj hit; exact Heap.lt_size q
    have hlt : i < xs.length := (List.getElem?_eq_some_iff.mp hx).1
    have hef : e ∉ S.fp it := hoff.fp (by simp) hne
    refine wpAny_pyNext_enum_itemC D he hst hlt hne hef fun u h' tk hPu ho hs' hT hsz hk => ?_
    obtain ⟨x', hx', ru⟩ := hPv i u hPu
    rw [hx] at hx'; cases hx'
    refine ⟨_, rfl, wpAny_letOwnedTupleGo_enum (s := { s with heap := h', toks := tk + 1 }) ho fun h'' he' sb => ?_⟩
    have hT2 : h''.get? s.heap.objs.size = some { cls := .type "tuple", data := .seq #[.int i tk, u] } := (sb.2 _ (Nat.ne_of_gt hel)).trans hT
    have new : ObjOk X.prog X.w (upd H s.heap.objs.size (.tup [.int (i : Nat), x])) h'' s.heap.objs.size (.tup [.int (i : Nat), x]) :=
      ⟨by show 2 ≤ sizeLine; decide, [.int i tk, u], .cons ⟨_, rfl⟩ (.cons ru .nil), ⟨_, hT2, rfl, _, rfl⟩⟩
    have I1 : Inv X pins σ (upd H s.heap.objs.size (.tup [.int (i : Nat), x])) { s with heap := h'', toks := tk + 1 } :=
      I.turnedNew (ch := [e, it]) (fun b ob hb q => (sb.2 b (fun z => hb (by simp [z]))).trans (hk b ob (fun z => hb (by simp [z])) (fun z => hb (by simp [z])) q)) hf (Nat.le_refl _) new
    refine ⟨.ref s.heap.objs.size, _, I1, rfl, ⟨_, x, rfl, I.hok.fresh (Nat.le_refl _), rfl, fun ys hy => by rw [Src.inj I hy hq]; exact hx⟩, ⟨⟨u, ?_⟩, Src.at_keep (hAt _ _ hs') fun o q => (sb.2 it (Ne.symm hne)).trans q, hne⟩, fun b hb => ?_⟩
    · have e1 : ((i + 1 : Nat) : Int) = (i : Int) + 1 := by omega
      rw [e1]; exact he'
    · have hb' : b < s.heap.objs.size := by
        have e' : b = e ∨ b = it := by simpa using hb
        rcases e' with z | z
        · rw [z]; exact hel
        · rw [z]; exact hil
      rw [upd_ne (Nat.ne_of_lt hb')]
      exact (hf b hb).1
  done := by
    intro X hP hw hK hc i pins s σ H E I hf st hg
    subst hP hw hK
    obtain ⟨⟨old, he⟩, hit, hne⟩ := st
    obtain ⟨xs, hq, hx⟩ := hg
    subst hx
    have ho1 : S.off [it] := by cases S <;> simp_all [Src.off]
    obtain ⟨Pv, St, D, hst, hPv, hAt⟩ := Src.draws I hq (I.ok.hd hc) hit ho1
    obtain ⟨f0, f1, f2, f3, f4, f5⟩ := hf it (by simp)
    exact wpAny_pyNext_enum_endD D he hst fun h' eb => ⟨rfl, I.turned (t' := s.toks) (fun b o hb q => eb b o hb q) f0 f1 f3 f4 f5⟩
  self := fun A i s Q E st h => let ⟨⟨_, he⟩, _⟩ := st; wpAny_pyIter_enum he h
/-- zip(.., ..) -/
def Iz (K : PySem.W.Frag) (S1 S2 : Src) : It :=
  ⟨fun i H => ∃ (xs ys : List V) (x y : V), S1.rd K H xs ∧ S2.rd K H ys ∧ xs[i]? = some x ∧ ys[i]? = some y,
    fun i H v H' => ∃ T x y, v = .ref T ∧ H T = none ∧ H' = upd H T (.tup [x, y]) ∧ (∀ xs, S1.rd K H xs → xs[i]? = some x) ∧ ∀ ys, S2.rd K H ys → ys[i]? = some y,
    fun i H => ∃ xs ys : List V, S1.rd K H xs ∧ S2.rd K H ys ∧ i = min xs.length ys.length⟩
theorem turn_zi {P : Program} {w : World} {K : PySem.W.Frag} {elts : List Expr} {kk : Nat} {tpos : Pos} (S1 S2 : Src) (z TI TO i1 i2 : Addr) (D : ZipSep2 z TI TO i1 i2 (S1.fp i1) (S2.fp i2)) (h1 : S1.off [i1]) (h2 : S2.off [i2]) :
    Turn P w K (.Tuple elts kk tpos) (Iz K S1 S2) [z, TI, TO, i1, i2] z (fun i h => IsZip h z TI TO .none ∧ IsTupOf2 h TI (.ref i1) (.ref i2) ∧ (∃ x y, IsTupOf2 h TO x y) ∧ S1.at_ i1 i h ∧ S2.at_ i2 i h) where
  mem := by simp
  obj := fun i h st c hc => by
    obtain ⟨hz, hTI, ⟨x, y, hTO⟩, e1, e2⟩ := st
    have e' : c = z ∨ c = TI ∨ c = TO ∨ c = i1 ∨ c = i2 := by simpa using hc
    rcases e' with q | q | q | q | q
    · rw [q]; exact ⟨_, hz, fun v q => nomatch q⟩
    · rw [q]; exact ⟨_, hTI, fun v q => nomatch q⟩
    · rw [q]; exact ⟨_, hTO, fun v q => nomatch q⟩
    · rw [q]; exact Src.at_obj e1
    · rw [q]; exact Src.at_obj e2
  keep := fun i h h' st k => by
    obtain ⟨hz, hTI, ⟨x, y, hTO⟩, h1, h2⟩ := st
    exact ⟨k z (by simp) _ hz, k TI (by simp) _ hTI, ⟨x, y, k TO (by simp) _ hTO⟩, Src.at_keep h1 fun o q => k i1 (by simp) o q, Src.at_keep h2 fun o q => k i2 (by simp) o q⟩
  item := by
    intro X hP hw hK hc i pins s σ H E I hf st hg
    subst hP hw hK
    obtain ⟨hz, hTI, ⟨x0, y0, hTO⟩, a1, a2⟩ := st
    obtain ⟨xs, ys, x, y, hqx, hqy, hx, hy⟩ := hg
    obtain ⟨P1, St1, D1, hst1, hP1, hA1⟩ := Src.draws I hqx (I.ok.hd hc) a1 h1
    obtain ⟨P2, St2, D2, hst2, hP2, hA2⟩ := Src.draws I hqy (I.ok.hd hc) a2 h2
    have hzl : z < s.heap.objs.size := Heap.lt_size hz
    refine wpAny_pyNext_zipD2_item D D1 D2 hz hTI hTO hst1 hst2 (List.getElem?_eq_some_iff.mp hx).1 (List.getElem?_eq_some_iff.mp hy).1 fun u u2 h' tk p1 p2 z' TO' s1' s2' hT hsz hk => ?_
    obtain ⟨x', hx', ru⟩ := hP1 i u p1
    obtain ⟨y', hy', ru2⟩ := hP2 i u2 p2
    rw [hx] at hx'; cases hx'
    rw [hy] at hy'; cases hy'
    refine ⟨_, rfl, wpAny_letOwnedTupleGo_zip (s := { s with heap := h', toks := tk }) z' fun h'' z'' sb => ?_⟩
    have hT2 : h''.get? s.heap.objs.size = some { cls := .type "tuple", data := .seq #[u, u2] } := (sb.2 _ (Nat.ne_of_gt hzl)).trans hT
    have new : ObjOk X.prog X.w (upd H s.heap.objs.size (.tup [x, y])) h'' s.heap.objs.size (.tup [x, y]) :=
      ⟨by show 2 ≤ sizeLine; decide, [u, u2], .cons ru (.cons ru2 .nil), ⟨_, hT2, rfl, _, rfl⟩⟩
    have I1 : Inv X pins σ (upd H s.heap.objs.size (.tup [x, y])) { s with heap := h'', toks := tk } :=
      I.turnedNew (t' := tk) (ch := [z, TI, TO, i1, i2]) (fun c o hb q => (sb.2 c (fun q' => hb (by simp [q']))).trans (hk c o (fun q' => hb (by simp [q'])) (fun q' => hb (by simp [q'])) (fun q' => hb (by simp [q'])) (fun q' => hb (by simp [q'])) q)) hf (Nat.le_refl _) new
    refine ⟨.ref s.heap.objs.size, _, I1, rfl, ⟨_, x, y, rfl, I.hok.fresh (Nat.le_refl _), rfl, fun l hl => by rw [Src.inj I hl hqx]; exact hx, fun l hl => by rw [Src.inj I hl hqy]; exact hy⟩, ⟨z'', ?_, ⟨u, u2, ?_⟩, ?_, ?_⟩, fun c hcm => ?_⟩
    · exact (sb.2 _ D.TIz).trans (hk _ _ D.TIz D.TITO D.TIi1 D.TIi2 hTI)
    · exact (sb.2 _ D.TOz).trans TO'
    · exact Src.at_keep (hA1 _ _ s1') fun o q => (sb.2 _ D.zi1.symm).trans q
    · exact Src.at_keep (hA2 _ _ s2') fun o q => (sb.2 _ D.zi2.symm).trans q
    · have hlt : c < s.heap.objs.size := by
        have e' : c = z ∨ c = TI ∨ c = TO ∨ c = i1 ∨ c = i2 := by simpa using hcm
        rcases e' with q | q | q | q | q
        · rw [q]; exact hzl
        · rw [q]; exact Heap.lt_size hTI
        · rw [q]; exact Heap.lt_size hTO
        · rw [q]; obtain ⟨_, e1, _⟩ := Src.at_obj a1; exact Heap.lt_size e1
        · rw [q]; obtain ⟨_, e2, _⟩ := Src.at_obj a2; exact Heap.lt_size e2
      rw [upd_ne (Nat.ne_of_lt hlt)]
      exact (hf c hcm).1
  done := by
    intro X hP hw hK hc i pins s σ H E I hf st hg
    subst hP hw hK
    obtain ⟨hz, hTI, ⟨x0, y0, hTO⟩, a1, a2⟩ := st
    obtain ⟨xs, ys, hqx, hqy, hend⟩ := hg
    obtain ⟨P1, St1, D1, hst1, hP1, hA1⟩ := Src.draws I hqx (I.ok.hd hc) a1 h1
    obtain ⟨P2, St2, D2, hst2, hP2, hA2⟩ := Src.draws I hqy (I.ok.hd hc) a2 h2
    exact wpAny_pyNext_zipD2_end D D1 D2 hz hTI hTO hst1 hst2 (by omega) (by omega) (by omega) fun h' tk hk => ⟨rfl, I.turnedL (t' := tk) (ch := [z, TI, TO, i1, i2]) (fun c o hb q =>
      hk c o (fun q' => hb (by simp [q'])) (fun q' => hb (by simp [q'])) (fun q' => hb (by simp [q'])) (fun q' => hb (by simp [q'])) q) hf⟩
  self := fun A i s Q E st h => wpAny_pyIter_zip st.1 h
/-! ### as iterables -/
def SrcFor (K : PySem.W.Frag) (H : Hp) (v : V) (xs : List V) (φ : Src → Prop) : Prop :=
  (∃ a, v = .ref a ∧ SqL K H a xs ∧ (xs.length ≤ sizeLine → φ (.l a))) ∨ (∃ a, v = .ref a ∧ SqT K H a xs ∧ (xs.length ≤ sizeLine → φ (.t a))) ∨ ∃ x, v = .str x ∧ (xs = x.cps.toList.map fun c => V.str ⟨#[c]⟩) ∧ ∀ tk, φ (.s x tk)
def Src.below : Src → Nat → Prop
  | .l a, n => a < n
  | .t a, n => a < n
  | .s _ _, _ => True
theorem Src.below.off {S : Src} {n : Nat} {fs : List Addr} (h : S.below n) (hf : ∀ b ∈ fs, n ≤ b) : S.off fs := by
  cases S with
  | l a => exact fun z => absurd h (Nat.not_lt.mpr (hf a z))
  | t a => exact fun z => absurd h (Nat.not_lt.mpr (hf a z))
  | s _ _ => trivial
theorem Src.below.fp {S : Src} {n : Nat} {it : Addr} (h : S.below n) : ∃ fp, S.fp it = it :: fp ∧ ∀ b ∈ fp, b < n := by
  cases S with
  | l a => exact ⟨[a], rfl, fun b hb => by have e : b = a := by simpa using hb
                                           subst e; exact h⟩
  | t a => exact ⟨[a], rfl, fun b hb => by have e : b = a := by simpa using hb
                                           subst e; exact h⟩
  | s _ _ => exact ⟨[], rfl, fun b hb => by cases hb⟩
section
variable {X : Cx} {pins : List (Addr × Obj)} {σ : L2.St} {H : Hp} {s : Shared}
theorem src_start {v : V} {u : Value} {xs : List V} {φ : Src → Prop} (I : Inv X pins σ H s) (r : RelV v u) (h : SrcFor X.K H v xs φ) :
    ∃ (S : Src) (o : Obj) (Hb : Heap → Prop), φ S ∧ S.rd X.K H xs ∧ S.below s.heap.objs.size ∧ Begins u o Hb ∧ Hb s.heap ∧ ∀ it h', h'.get? it = some o → S.at_ it 0 h' := by
  rcases h with ⟨a, rfl, hq, q⟩ | ⟨a, rfl, hq, q⟩ | ⟨x, rfl, hq, q⟩
  · cases r
    obtain ⟨its, rv, p, hz⟩ := I.list hq
    exact ⟨.l a, _, _, q hz, hq, p.lt, begins_list a its.toArray, p.isList, fun it h' e => ⟨_, e, rfl, rfl⟩⟩
  · cases r
    obtain ⟨its, rv, p, hz⟩ := I.tuple hq
    exact ⟨.t a, _, _, q hz, hq, p.lt, begins_tuple a its.toArray, p, fun it h' e => ⟨_, e, rfl, rfl⟩⟩
  · obtain ⟨t, rfl⟩ := r
    exact ⟨.s x t, _, _, q t, hq, trivial, begins_text x t, trivial, fun it h' e => ⟨_, e, rfl, rfl⟩⟩
end
def iEn (K : PySem.W.Frag) (ta : TA) : TI := fun σ H R => ta σ H fun vs H1 => ∃ v xs, vs = [v] ∧ SrcFor K H1 v xs fun S => R (Ie K S) H1
def iZn (K : PySem.W.Frag) (ta : TA) : TI := fun σ H R => ta σ H fun vs H1 => ∃ v1 v2 xs ys, vs = [v1, v2] ∧ SrcFor K H1 v1 xs fun S1 => SrcFor K H1 v2 ys fun S2 => R (Iz K S1 S2) H1
section
variable {X : Cx} {K : PySem.W.Frag}
theorem boot_zero {n : Nat} : ((0 : Nat) : Int) = 0 := rfl
theorem pi_en {e : Expr} {ta : TA} {p pos tpos : Pos} {elts : List Expr} {kk : Nat} (hg : Gl X "enumerate") (hm : X.mg "enumerate" = none) (ha : PA X [e] ta) (hs : starEach [e] X.env = [(false, eval e X.env)] := by rfl) (hK : X.K = K := by rfl) :
    PI X (.Tuple elts kk tpos) (.Call (.Name "enumerate" p) [e] [] pos) (iEn K ta) := by
  subst hK
  refine ⟨fun pins s σ H R I h => ?_⟩
  refine Call_ (ld_blt I hg hm boot_enumerate (PyProof.Rows.callWith_type1 (thn (ha.run pos pins s σ H _ I h) fun us s1 ⟨vs, H1, I1, r1, q1⟩ => ?_) hs rfl))
  obtain ⟨v, xs, ex, q1⟩ := q1
  subst ex
  cases r1 with
  | cons r rr =>
    cases rr
    obtain ⟨S, o, Hb, q, hrd, hbl, B, hHb, hat⟩ := src_start I1 r q1
    refine enum_begins1 B hHb fun h' he hit hsz hk => wpAny_pyIter_enum he ?_
    have I2 : Inv X pins σ H1 { s1 with heap := h' } := I1.kept (t' := s1.toks) hk
    have hoff : S.off [s1.heap.objs.size + 1, s1.heap.objs.size] := hbl.off fun b hb => by
      have e' : b = s1.heap.objs.size + 1 ∨ b = s1.heap.objs.size := by simpa using hb
      rcases e' with z | z
      · rw [z]; exact Nat.le_add_right _ _
      · rw [z]; exact Nat.le_refl _
    refine ⟨s1.heap.objs.size + 1, [s1.heap.objs.size + 1, s1.heap.objs.size], _, _, H1, rfl, I2, turn_en S (s1.heap.objs.size + 1) s1.heap.objs.size hoff, ⟨⟨.none, he⟩, hat _ _ hit, Nat.succ_ne_self _⟩, fun b hb => ?_, q⟩
    have e' : b = s1.heap.objs.size + 1 ∨ b = s1.heap.objs.size := by simpa using hb
    have hle : s1.heap.objs.size ≤ b := by
      rcases e' with z | z
      · rw [z]; exact Nat.le_add_right _ _
      · rw [z]; exact Nat.le_refl _
    exact I1.fpOk hle (I1.hok.fresh hle)
theorem pi_zn {e e2 : Expr} {ta : TA} {p pos tpos : Pos} {elts : List Expr} {kk : Nat} (hg : Gl X "zip") (hm : X.mg "zip" = none) (ha : PA X [e, e2] ta)
    (hs : starEach [e, e2] X.env = (false, eval e X.env) :: starEach [e2] X.env := by rfl) (hpl : (backTo pos (starEach [e2] X.env)).any (·.1) = false := by rfl) (hK : X.K = K := by rfl) :
    PI X (.Tuple elts kk tpos) (.Call (.Name "zip" p) [e, e2] [] pos) (iZn K ta) := by
  subst hK
  refine ⟨fun pins s σ H R I h => ?_⟩
  refine Call_ (ld_blt I hg hm PyProof.Rows.boot_zip (PyProof.Rows.callWith_type1 (thn (ha.run pos pins s σ H _ I h) fun us s1 ⟨vs, H1, I1, r1, q1⟩ => ?_) hs hpl))
  obtain ⟨v1, v2, xs, ys, ex, q1⟩ := q1
  subst ex
  cases r1 with
  | cons r rr =>
    cases rr with
    | cons r' rr =>
      cases rr
      obtain ⟨S1, o1, Hb1, q1, hrd1, hbl1, B1, hHb1, hat1⟩ := src_start I1 r q1
      obtain ⟨S2, o2, Hb2, q2, hrd2, hbl2, B2, hHb2, hat2⟩ := src_start I1 r' q1
      refine zip_begins2 B1 B2 hHb1 hHb2 fun h' hz hTI hTO g1 g2 hsz hk => wpAny_pyIter_zip hz ?_
      have I2 : Inv X pins σ H1 { s1 with heap := h' } := I1.kept (t' := s1.toks) hk
      obtain ⟨f1, e1, b1⟩ := hbl1.fp (it := s1.heap.objs.size)
      obtain ⟨f2, e2, b2⟩ := hbl2.fp (it := s1.heap.objs.size + 1)
      have D : ZipSep2 (s1.heap.objs.size + 4) (s1.heap.objs.size + 2) (s1.heap.objs.size + 3) s1.heap.objs.size (s1.heap.objs.size + 1) (S1.fp s1.heap.objs.size) (S2.fp (s1.heap.objs.size + 1)) := by
        rw [e1, e2]
        exact zip_sep2 b1 b2
      have o1' : S1.off [s1.heap.objs.size] := hbl1.off fun b hb => by
        have e' : b = s1.heap.objs.size := by simpa using hb
        rw [e']; exact Nat.le_refl _
      have o2' : S2.off [s1.heap.objs.size + 1] := hbl2.off fun b hb => by
        have e' : b = s1.heap.objs.size + 1 := by simpa using hb
        rw [e']; exact Nat.le_add_right _ _
      refine ⟨s1.heap.objs.size + 4, [s1.heap.objs.size + 4, s1.heap.objs.size + 2, s1.heap.objs.size + 3, s1.heap.objs.size, s1.heap.objs.size + 1], _, _, H1, rfl, I2, turn_zi S1 S2 _ _ _ _ _ D o1' o2', ⟨hz, hTI, ⟨_, _, hTO⟩, hat1 _ _ g1, hat2 _ _ g2⟩, fun c hcm => ?_, q2⟩
      have e' : c = s1.heap.objs.size + 4 ∨ c = s1.heap.objs.size + 2 ∨ c = s1.heap.objs.size + 3 ∨ c = s1.heap.objs.size ∨ c = s1.heap.objs.size + 1 := by simpa using hcm
      have hle : s1.heap.objs.size ≤ c := by
        rcases e' with z | z | z | z | z
        · rw [z]; exact Nat.le_add_right _ _
        · rw [z]; exact Nat.le_add_right _ _
        · rw [z]; exact Nat.le_add_right _ _
        · rw [z]; exact Nat.le_refl _
        · rw [z]; exact Nat.le_add_right _ _
      exact I1.fpOk hle (I1.hok.fresh hle)
end
end EB

set_option Elab.async false
set_option linter.all false
set_option maxRecDepth 100000
set_option maxHeartbeats 4000000
/-! EB: enumerate and zip, typed. -/
namespace EB
open PySem PySem.Spec PyProof.Rows L2
def enL {α : Type} (xs : List α) : List (Int × α) := (rng 0 xs.length).zip xs
theorem enL_len {α : Type} {xs : List α} : (enL xs).length = xs.length := by simp [enL, rng_len]
theorem enL_get {α : Type} {xs : List α} {i : Nat} {x : α} (h : xs[i]? = some x) : (enL xs)[i]? = some ((i : Int), x) := by
  have hi := (List.getElem?_eq_some_iff.mp h).1
  unfold enL
  rw [List.getElem?_zip_eq_some]
  refine ⟨?_, h⟩
  rw [rng_get hi]; simp
theorem mem_enL {α : Type} {xs : List α} {p : Int × α} (h : p ∈ enL xs) : 0 ≤ p.1 ∧ p.1 < (xs.length : Int) ∧ xs[p.1.toNat]? = some p.2 := by
  obtain ⟨i, hi⟩ := List.mem_iff_getElem?.mp h
  have hl := (List.getElem?_eq_some_iff.mp hi).1
  rw [enL_len] at hl
  have e := enL_get (List.getElem?_eq_getElem hl)
  rw [hi] at e
  cases e
  exact ⟨Int.natCast_nonneg _, by simpa using hl, by simp [List.getElem?_eq_getElem hl]⟩
/-- what may be gone through by places -/
class Sq {β : Type} {α : outParam Type} (q : Rp β) (s : outParam (Rp α)) (f : outParam (β → List α)) : Prop where
  mo : Mo s
  sq : ∀ {K T H v b}, q K T H v b → ∃ vs, All2 (s K T H) vs (f b) ∧ ((∃ a, v = .ref a ∧ SL K T H a vs) ∨ (∃ a, v = .ref a ∧ ST K T H a vs) ∨ ∃ x, v = .str x ∧ (vs = x.cps.toList.map fun c => V.str ⟨#[c]⟩) ∧ vs.length ≤ 100000)
instance {α : Type} {r : Rp α} [m : Mo r] : Sq (zL r) r (fun xs => xs) := ⟨m, fun ⟨a, vs, e, h, q⟩ => ⟨vs, q, .inl ⟨a, e, h⟩⟩⟩
instance {α : Type} {r : Rp α} [m : Mo r] : Sq (zU r) r (fun xs => xs) := ⟨m, fun ⟨a, vs, e, h, q⟩ => ⟨vs, q, .inr (.inl ⟨a, e, h⟩)⟩⟩
instance {α : Type} {r : Rp α} [m : Mo r] : Sq (zQ r) r (fun xs => xs) := ⟨m, fun h => h.elim (fun ⟨a, vs, e, h, q⟩ => ⟨vs, q, .inl ⟨a, e, h⟩⟩) fun ⟨a, vs, e, h, q⟩ => ⟨vs, q, .inr (.inl ⟨a, e, h⟩)⟩⟩
instance : Sq zW zW (fun w => w.map fun b => [b]) := ⟨inferInstance, fun {K T H v b} ⟨e, hl⟩ => ⟨(wS b).cps.toList.map fun c => V.str ⟨#[c]⟩, by
  have : (wS b).cps.toList = b.map sgn := by simp [wS]
  rw [this, List.map_map]
  exact all2_map _ _ (fun c => ⟨rfl, by simp⟩) b, .inr (.inr ⟨wS b, e, rfl, by simp [wS]; omega⟩)⟩⟩
section
variable {K : PySem.W.Frag} {T : AS} {σ : L2.St} {H : Hp} {α β γ δ : Type} {q : Rp β} {s : Rp α} {f : β → List α} {q' : Rp δ} {s' : Rp γ} {f' : δ → List γ} {te te' : TE}
theorem src_of {v : V} {vs : List V} {φ : Src → Prop} (h : (∃ a, v = .ref a ∧ SL K T H a vs) ∨ (∃ a, v = .ref a ∧ ST K T H a vs) ∨ ∃ x, v = .str x ∧ (vs = x.cps.toList.map fun c => V.str ⟨#[c]⟩) ∧ vs.length ≤ 100000)
    (k : ∀ S, vs.length ≤ sizeLine → (∀ H', Fr T H H' → S.rd K H' vs) → φ S) : SrcFor K H v vs φ := by
  rcases h with ⟨a, e, h⟩ | ⟨a, e, h⟩ | ⟨x, e, e2, hl⟩
  · exact .inl ⟨a, e, h.sq, fun hz => k _ hz fun H' fr => (h.fr fr).sq⟩
  · exact .inr (.inl ⟨a, e, h.sq, fun hz => k _ hz fun H' fr => (h.fr fr).sq⟩)
  · exact .inr (.inr ⟨x, e, e2, fun tk => k _ (by rw [sizeLine_eq]; omega) fun H' _ => e2⟩)
theorem pair_new {r : Rp α} {r' : Rp γ} [Mo r] [Mo r'] {H' : Hp} {p : Addr} {x y : V} {a : α} {c : γ} {T' : AS} (hp : H' p = none) (hT : TD T' H') (h1 : r K T' H' x a) (h2 : r' K T' H' y c) : zP r r' K T' (upd H' p (.tup [x, y])) (.ref p) (a, c) :=
  ⟨p, x, y, rfl, .new (hT.new hp) upd_same, Mo.fr (Ex.new hp).fr h1, Mo.fr (Ex.new hp).fr h2⟩
theorem ei_en [m : Sq q s f] {b : β} (h : Ev K T te σ H q b) : EvI K T (iEn K (tCons te tNil)) σ H (zP zI s) (enL (f b)) := fun H1 fr R k => h H1 fr _ fun v H2 e2 r2 => by
  have := m.mo
  obtain ⟨vs, ha, hs⟩ := m.sq r2
  refine ⟨v, vs, rfl, src_of hs fun S hz hrd => k _ H2 e2 ⟨⟨vs.length, fun H => S.rd K H vs, YPair (fun i => some (.int (i : Nat))) (fun i => vs[i]?), by rw [enL_len, all2_len ha], ?_, hrd, ?_⟩, ?_⟩⟩
  · refine ⟨fun i H hi g => ⟨vs, vs[i], g, by simp [hi]⟩, fun H g => ⟨vs, g, rfl⟩, fun i H v H' hi g y => ?_⟩
    obtain ⟨t, x, h1, h2, h3, h4⟩ := y
    exact ⟨t, _, x, h1, h2, h3, rfl, h4 vs g⟩
  · intro i H' v H'' hi fr' ⟨p, x, y, e1, hp, e2, hx, hy⟩
    subst e1 e2
    cases hx
    obtain ⟨d, hd, hr⟩ := all2_getL ha hy
    exact ⟨Ex.new hp, _, enL_get hd, fun T' hT' tr => pair_new hp hT' rfl (tr.ap hr)⟩
  · rw [enL_len, ← all2_len ha]; exact hz
theorem ei_zn [m : Sq q s f] [m' : Sq q' s' f'] [Mo q] {b : β} {d : δ} (h : Ev K T te σ H q b) (h' : Ev K T te' σ H q' d) : EvI K T (iZn K (tCons te (tCons te' tNil))) σ H (zP s s') ((f b).zip (f' d)) := fun H1 fr R k => h H1 fr _ fun v H2 e2 r2 => h' H2 (fr.trans e2.fr) _ fun v' H3 e3 r3 => by
  have := m.mo
  have := m'.mo
  have r2' : q K T H3 v b := Mo.fr e3.fr r2
  obtain ⟨vs, ha, hs⟩ := m.sq r2'
  obtain ⟨ws, hb, hs'⟩ := m'.sq r3
  refine ⟨v, v', vs, ws, rfl, src_of hs fun S1 hz hrd => src_of hs' fun S2 hz' hrd' => ?_⟩
  refine k _ H3 (e2.trans e3) ⟨⟨min vs.length ws.length, fun H => S1.rd K H vs ∧ S2.rd K H ws, YPair (fun i => vs[i]?) (fun i => ws[i]?), by rw [List.length_zip, all2_len ha, all2_len hb], ?_, fun H' fr' => ⟨hrd H' fr', hrd' H' fr'⟩, ?_⟩, ?_⟩
  · refine ⟨fun i H hi g => ⟨vs, ws, vs[i]'(by omega), ws[i]'(by omega), g.1, g.2, by rw [List.getElem?_eq_getElem], by rw [List.getElem?_eq_getElem]⟩, fun H g => ⟨vs, ws, g.1, g.2, rfl⟩, fun i H v H' hi g y => ?_⟩
    obtain ⟨t, x, y, h1, h2, h3, h4, h5⟩ := y
    exact ⟨t, x, y, h1, h2, h3, h4 vs g.1, h5 ws g.2⟩
  · intro i H' v H'' hi fr' ⟨p, x, y, e1, hp, e2, hx, hy⟩
    subst e1 e2
    obtain ⟨a, h1, hr1⟩ := all2_getL ha hx
    obtain ⟨c, h2, hr2⟩ := all2_getL hb hy
    exact ⟨Ex.new hp, (a, c), List.getElem?_zip_eq_some.mpr ⟨h1, h2⟩, fun T' hT' tr => pair_new hp hT' (tr.ap hr1) (tr.ap hr2)⟩
  · rw [List.length_zip, ← all2_len ha, ← all2_len hb]; omega
end
end EB

set_option Elab.async false
set_option linter.all false
set_option maxRecDepth 100000
set_option maxHeartbeats 4000000
/-! EB: more statements. -/
namespace EB
open PySem PySem.Spec PyProof.Rows L2
theorem foldl_take {α β : Type} {f : β → α → β} {s : β} {xs : List α} {i : Nat} {x : α} (h : xs[i]? = some x) : (xs.take (i + 1)).foldl f s = f ((xs.take i).foldl f s) x := by
  rw [List.take_add_one, h]
  simp
section
variable {K : PySem.W.Frag} {T T' S : AS} {σ : L2.St} {H H' : Hp} {α β γ : Type} {r : Rp α} {s : Rp β} {te ta tb : TE} {D : Ends} {i j : Nat} {p : Addr} {xs : List α} {d : α} {v : V} {Q : L2.St → Hp → Prop}
theorem gn (h : Q (σ.set i (some v)) H) : gName i v σ H Q := h
/-- x += e of ints -/
theorem st_augI {a b : Int} (hv : σ[i]? = some (some v)) (h : zI K T H v a) (he : Ev K T te σ H zI b) (k : ∀ w H2, Ex H H2 → zI K T H2 w (a + b) → D.nx (σ.set i (some w)) H2) : tAug i te (ipI fun i j => i + j) D σ H :=
  ⟨v, hv, he H (Fr.refl H) _ fun y H1 e1 r1 => ⟨a, b, h, r1, k _ H1 e1 rfl⟩⟩
theorem st_augS {a b : Int} (hv : σ[i]? = some (some v)) (h : zI K T H v a) (he : Ev K T te σ H zI b) (k : ∀ w H2, Ex H H2 → zI K T H2 w (a - b) → D.nx (σ.set i (some w)) H2) : tAug i te (ipI fun i j => i - j) D σ H :=
  ⟨v, hv, he H (Fr.refl H) _ fun y H1 e1 r1 => ⟨a, b, h, r1, k _ H1 e1 rfl⟩⟩
/-- a, b = e (a pair) -/
theorem st_asgP {q : α × β} (h : Ev K T te σ H (zP r s) q) (k : ∀ x y H2, Ex H H2 → r K T H2 x q.1 → s K T H2 y q.2 → D.nx ((σ.set i (some x)).set j (some y)) H2) : tAsg te (gTup K 2 (gCons (gName i) (gCons (gName j) gNil))) D σ H :=
  h H (Fr.refl H) _ fun v H1 e1 r1 => g2_tup r1 fun x rx y ry => k x y H1 e1 rx ry
/-- a, b = e1, e2 -/
theorem st_par [Mo r] {a : α} {b : β} (ha : Ev K T ta σ H r a) (hb : Ev K T tb σ H s b) (k : ∀ x y H2, Ex H H2 → r K T H2 x a → s K T H2 y b → D.nx ((σ.set i (some x)).set j (some y)) H2) : tPar i j (tCons ta (tCons tb tNil)) D σ H :=
  ha H (Fr.refl H) _ fun x H1 e1 r1 => hb H1 e1.fr _ fun y H2 e2 r2 => ⟨x, y, rfl, k x y H2 (e1.trans e2) (Mo.fr e2.fr r1) r2⟩
/-- xs[i] = e, a list of ours -/
theorem HM.set [Mo r] {j : Nat} (h : HM r K T H p xs) (hv : r K T H v d) : ∃ vs, H p = some (.lst vs) ∧ vs.length = xs.length ∧ HM r K T (upd H p (.lst (vs.set j v))) p (xs.set j d) ∧ Fr T H (upd H p (.lst (vs.set j v))) := by
  obtain ⟨vs, h1, h2⟩ := h.ex
  have f : Fr T H (upd H p (.lst (vs.set j v))) := Fr.upd (.inl h.mem)
  exact ⟨vs, h1, all2_len h2, ⟨h.mem, _, upd_same, all2_set (Mo.fr f hv) j (all2_imp (fun _ _ z => Mo.fr f z) h2)⟩, f⟩
theorem st_setM [Mo r] {ti : TE} {n : Int} (hv : σ[i]? = some (some (.ref p))) (m : HM r K T H p xs) (h : Ev K T te σ H r d) (hi : Ev K T ti σ H zI n) (h0 : 0 ≤ n) (hn : n < xs.length)
    (k : ∀ H1 H2 v, H2 = upd H1 p v → Ex H H1 → Fr (Tp S p) H1 H2 → Fr T H1 H2 → HM r K T H2 p (xs.set n.toNat d) → D.nx σ H2) : tAsg te (gSub (tVar i) ti rSetL) D σ H := by
  refine h H (Fr.refl H) _ fun v H1 e1 r1 => ?_
  refine ⟨.ref p, hv, ?_⟩
  refine hi H1 e1.fr _ fun iv H2 e2 r2 => ?_
  obtain ⟨vs', h1', hl', m', f'⟩ := (m.ex' (e1.trans e2)).set (j := n.toNat) (Mo.fr e2.fr r1)
  refine ⟨p, vs', n, n.toNat, rfl, r2, h1', ?_, k H2 _ _ rfl (e1.trans e2) (Fr.upd (.inl (.inr rfl))) f' m'⟩
  unfold ixN
  rw [if_pos h0, if_pos (by rw [hl']; exact hn)]
end
/-- x += text -/
def rAugS : TIp := fun x y H Q => ∃ i j, x = .str i ∧ y = .str j ∧ i.length + j.length ≤ sizeLine ∧ Q (.str (i ++ j)) H
end EB
namespace EB
open PySem PySem.Spec PyProof.Rows L2
/-! ### bookkeeping for lists that are being made -/
theorem Fr.drop {S : AS} {H H' : Hp} {p : Addr} (f : Fr (Tp S p) H H') (n : H p = none) : Fr S H H' :=
  ⟨fun a o h e => f.keep a o (fun z => z.elim h fun q => by subst q; rw [n] at e; cases e) e, f.dom⟩
theorem TD.of_mem {T : AS} {H H' : Hp} {p : Addr} {S : AS} (h : TD T H) (f : Fr S H H') (e : ∃ o, H' p = some o) : TD (Tp T p) H' := fun b t => by
  rcases t with t | t
  · exact h.fr f b t
  · subst t; exact e
theorem HM.dom {α : Type} {r : Rp α} {K : PySem.W.Frag} {T : AS} {H : Hp} {p : Addr} {xs : List α} (m : HM r K T H p xs) : ∃ o, H p = some o := let ⟨vs, h, _⟩ := m.ex; ⟨_, h⟩
theorem HM.ne {α : Type} {r : Rp α} {K : PySem.W.Frag} {T : AS} {H : Hp} {p q : Addr} {xs : List α} (m : HM r K T H p xs) (n : H q = none) : p ≠ q := fun z => by
  obtain ⟨vs, h, _⟩ := m.ex
  subst z; rw [n] at h; cases h
theorem TD.sub {T T' : AS} {H : Hp} (h : TD T H) (f : ∀ b, T' b → T b) : TD T' H := fun b t => h b (f b t)
section
variable {K : PySem.W.Frag} {T S : AS} {σ : L2.St} {H H' : Hp} {α β γ : Type} {r : Rp α} {D : Ends} {xs : List α}
/-- for, with a break -/
theorem st_forB [Mo r] {wi : TI} {g : TG} {tb : TS} (hT : TD T H) (h : EvI K T wi σ H r xs)
    (k : ∀ H2, Ex H H2 → ∃ (Pv : Nat → L2.St → Hp → Prop) (Pe : L2.St → Hp → Prop), Pv 0 σ H2 ∧ (∀ i σ' H', i ≤ xs.length → Pv i σ' H' → Fr T H2 H') ∧
      ((∀ σ' H', Pe σ' H' → D.nx σ' H') → ∀ i x σ' H' v H'', xs[i]? = some x → Pv i σ' H' → Ex H' H'' → r K T H'' v x → g v σ' H'' fun σ3 H3 => tb { D with nx := Pv (i + 1), ct := Pv (i + 1), bk := D.nx } σ3 H3) ∧
      (∀ σ' H', Pv xs.length σ' H' → Pe σ' H') ∧ (∀ σ' H', Pe σ' H' → D.nx σ' H')) : tFor wi g tb D σ H :=
  st_for hT h fun H2 e => let ⟨Pv, Pe, h0, hF, hs, hd, he⟩ := k H2 e; ⟨Pv, h0, hF, hs he, fun σ' H' q => he σ' H' (hd σ' H' q)⟩
end
end EB
namespace EB
open PySem PySem.Spec PyProof.Rows L2
theorem Ex.thenFr {S : AS} {H0 H1 H2 : Hp} (a : Ex H0 H1) (f : Fr S H1 H2) (n : ∀ b, S b → H0 b = none) : Ex H0 H2 := fun x o e => f.keep x o (fun z => by rw [n x z] at e; cases e) (a x o e)
theorem Fr.thenFr {S S' : AS} {H0 H1 H2 : Hp} (a : Fr S' H0 H1) (f : Fr S H1 H2) (n : ∀ b, S b → S' b ∨ H0 b = none) : Fr S' H0 H2 :=
  ⟨fun x o h e => f.keep x o (fun z => (n x z).elim h fun q => by rw [q] at e; cases e) (a.keep x o h e), fun x o e => let ⟨o1, e1⟩ := a.dom x o e; f.dom x o1 e1⟩
end EB
namespace EB
open PySem PySem.Spec PyProof.Rows L2
theorem ktu_of {K : PySem.W.Frag} {x : Str} {vs : List He.Dv} (h : He.tupB K x vs = true) : KTu K (He.ga K x) (vs.map (He.Dv.v K)) := by
  rcases He.tupB_ok h (fun _ => none) with z | z
  · rcases z with z | ⟨_, z⟩ <;> cases z
  · exact z
theorem kls_of {K : PySem.W.Frag} {x : Str} {vs : List He.Dv} (h : He.lstB K x vs = true) : KLs K (He.ga K x) (vs.map (He.Dv.v K)) := by
  rcases He.lstB_ok h (fun _ => none) with z | z
  · rcases z with z | ⟨_, z⟩ <;> cases z
  · exact z
theorem ev_kU {K : PySem.W.Frag} {T : AS} {σ : L2.St} {H : Hp} {α : Type} {r : Rp α} {x : Str} {vs : List He.Dv} {xs : List α} (h : He.tupB K x vs = true) (a : ∀ H, All2 (r K T H) (vs.map (He.Dv.v K)) xs) : Ev K T (tC (.ref (He.ga K x))) σ H (zU r) xs :=
  fun H1 _ _ q => q _ H1 (Ex.refl H1) ⟨_, _, rfl, .inr (ktu_of h), a H1⟩
theorem ev_kL {K : PySem.W.Frag} {T : AS} {σ : L2.St} {H : Hp} {α : Type} {r : Rp α} {x : Str} {vs : List He.Dv} {xs : List α} (h : He.lstB K x vs = true) (a : ∀ H, All2 (r K T H) (vs.map (He.Dv.v K)) xs) : Ev K T (tC (.ref (He.ga K x))) σ H (zL r) xs :=
  fun H1 _ _ q => q _ H1 (Ex.refl H1) ⟨_, _, rfl, .inr (kls_of h), a H1⟩
end EB

set_option Elab.async false
set_option linter.all false
set_option maxRecDepth 100000
set_option maxHeartbeats 4000000
/-! EB: expressions that change a resource (a tape, a table of what is known) and give one of many values. -/
namespace EB
open PySem PySem.Spec PyProof.Rows L2
/-- W: the cells that change; I n: what holds of them, n draws being left -/
structure Re (W : AS) (I : Nat → Hp → Prop) : Prop where
  st : ∀ n H H', (∀ b, W b → H' b = H b) → I n H → I n H'
  dom : ∀ n H b, I n H → W b → ∃ o, H b = some o
  less : ∀ n m H, I (n + m) H → I n H
theorem Re.ex {W : AS} {I : Nat → Hp → Prop} (R : Re W I) {n : Nat} {H H' : Hp} (h : I n H) (e : Ex H H') : I n H' := R.st n H H' (fun b w => by
  obtain ⟨o, ho⟩ := R.dom n H b h w
  rw [ho, e b o ho]) h
theorem Re.fr {W S : AS} {I : Nat → Hp → Prop} (R : Re W I) {n : Nat} {H H' : Hp} (h : I n H) (f : Fr S H H') (d : ∀ b, W b → ¬ S b) : I n H' := R.st n H H' (fun b w => by
  obtain ⟨o, ho⟩ := R.dom n H b h w
  rw [ho, f.keep b o (d b w) ho]) h
def EvN (K : PySem.W.Frag) (T W : AS) (I : Nat → Hp → Prop) (c : Nat) {α : Type} (te : TE) (σ : L2.St) (H : Hp) (r : Rp α) (φ : α → Prop) : Prop :=
  ∀ n H1, Fr T H H1 → I (n + c) H1 → ∀ Q : VK, (∀ v H2 d, Fr W H1 H2 → I n H2 → r K T H2 v d → φ d → Q v H2) → te σ H1 Q
def EvNA (K : PySem.W.Frag) (T W : AS) (I : Nat → Hp → Prop) (c : Nat) {α : Type} (ta : TA) (σ : L2.St) (H : Hp) (r : Rpl α) (φ : α → Prop) : Prop :=
  ∀ n H1, Fr T H H1 → I (n + c) H1 → ∀ Q : List V → Hp → Prop, (∀ vs H2 d, Fr W H1 H2 → I n H2 → r K T H2 vs d → φ d → Q vs H2) → ta σ H1 Q
section
variable {K : PySem.W.Frag} {T W : AS} {I : Nat → Hp → Prop} {σ : L2.St} {H : Hp} {α β γ : Type} {r : Rp α} {s : Rp β} {ta tb te : TE} {c c' : Nat} {φ : α → Prop} {ψ : β → Prop}
theorem en_of {d : α} (R : Re W I) (h : Ev K T te σ H r d) : EvN K T W I 0 te σ H r (fun x => x = d) := fun n H1 f i Q q => h H1 f Q fun v H2 e r2 => q v H2 d e.fr (R.ex i e) r2 rfl
theorem EvN.to {φ' : α → Prop} (h : EvN K T W I c te σ H r φ) (k : ∀ d, φ d → φ' d) : EvN K T W I c te σ H r φ' := fun n H1 f i Q q => h n H1 f i Q fun v H2 d fr i' r2 p => q v H2 d fr i' r2 (k d p)
theorem EvN.more (R : Re W I) (h : EvN K T W I c te σ H r φ) (k : c ≤ c') : EvN K T W I c' te σ H r φ := fun n H1 f i Q q => h n H1 f (R.less _ (c' - c) _ (by rw [show n + c + (c' - c) = n + c' by omega]; exact i)) Q q
theorem EvN.cast (h : EvN K T W I c te σ H r φ) (k : c = c') : EvN K T W I c' te σ H r φ := k ▸ h
/-- two-place operations -/
theorem en_op {R2' : R2} {s' : Rp γ} {χ : γ → Prop} [Mo r] (hW : ∀ b, W b → T b) (R : Re W I) (ha : EvN K T W I c ta σ H r φ) (hb : EvN K T W I c' tb σ H s ψ)
    (hr : ∀ a b x y H1 (Q : VK), φ a → ψ b → Fr T H H1 → r K T H1 x a → s K T H1 y b → (∀ v H2 d, Ex H1 H2 → s' K T H2 v d → χ d → Q v H2) → R2' x y H1 Q) : EvN K T W I (c + c') (tOp R2' ta tb) σ H s' χ :=
  fun n H1 f i Q q => ha (n + c') H1 f (by rw [show n + c' + c = n + (c + c') by omega]; exact i) _ fun x H2 a f2 i2 r2 p2 => hb n H2 (f.trans (f2.mono hW)) i2 _ fun y H3 b f3 i3 r3 p3 =>
    hr a b x y H3 Q p2 p3 ((f.trans (f2.mono hW)).trans (f3.mono hW)) (Mo.fr (f3.mono hW) r2) r3 fun v H4 d e4 r4 p4 => q v H4 d ((f2.trans f3).trans e4.fr) (R.ex i3 e4) r4 p4
theorem en_I0 {g : Int → Int → Int} {φ ψ : Int → Prop} (hW : ∀ b, W b → T b) (R : Re W I) (ha : EvN K T W I c ta σ H zI φ) (hb : EvN K T W I c' tb σ H zI ψ) : EvN K T W I (c + c') (tOp (rI0 fun i j => .int (g i j)) ta tb) σ H zI (fun d => ∃ a b, φ a ∧ ψ b ∧ d = g a b) :=
  en_op hW R ha hb fun a b x y H1 Q pa pb _ ra rb q => ⟨a, b, ra, rb, q _ H1 _ (Ex.refl H1) rfl ⟨a, b, pa, pb, rfl⟩⟩
theorem en_cmp {g : Int → Int → Bool} {φ ψ : Int → Prop} (hW : ∀ b, W b → T b) (R : Re W I) (ha : EvN K T W I c ta σ H zI φ) (hb : EvN K T W I c' tb σ H zI ψ) : EvN K T W I (c + c') (tOp (rI0 fun i j => .bl (g i j)) ta tb) σ H zB (fun d => ∃ a b, φ a ∧ ψ b ∧ d = g a b) :=
  en_op hW R ha hb fun a b x y H1 Q pa pb _ ra rb q => ⟨a, b, ra, rb, q _ H1 _ (Ex.refl H1) rfl ⟨a, b, pa, pb, rfl⟩⟩
theorem en_eqI {φ ψ : Int → Prop} (hW : ∀ b, W b → T b) (R : Re W I) (ha : EvN K T W I c ta σ H zI φ) (hb : EvN K T W I c' tb σ H zI ψ) : EvN K T W I (c + c') (tOp rEq ta tb) σ H zB (fun d => ∃ a b, φ a ∧ ψ b ∧ d = decide (a = b)) :=
  en_op hW R ha hb fun a b x y H1 Q pa pb _ ra rb q => by cases ra; cases rb; exact ⟨rfl, q _ H1 _ (Ex.refl H1) (show V.bl (decide (V.int a = V.int b)) = .bl (decide (a = b)) by simp) ⟨a, b, pa, pb, rfl⟩⟩
/-- an item -/
theorem en_ixL [Mo r] {χ : List α → Prop} {ψ : Int → Prop} {θ : α → Prop} (hW : ∀ b, W b → T b) (R : Re W I) (ha : EvN K T W I c ta σ H (zL r) χ) (hb : EvN K T W I c' tb σ H zI ψ) (hi : ∀ xs i, χ xs → ψ i → ∃ d, atI xs i = some d ∧ θ d) : EvN K T W I (c + c') (tOp (rIxL K) ta tb) σ H r θ :=
  en_op hW R ha hb fun xs i x y H1 Q pa pb _ h1 h2 q => by
    obtain ⟨a, vs, rfl, hs, h⟩ := h1
    obtain ⟨d, hd, hθ⟩ := hi xs i pa pb
    obtain ⟨v, hv, hr⟩ := all2_at h hd
    exact ⟨a, vs, i, v, rfl, h2, hs.sq, hv, q v H1 d (Ex.refl H1) hr hθ⟩
theorem en_ixU [Mo r] {χ : List α → Prop} {ψ : Int → Prop} {θ : α → Prop} (hW : ∀ b, W b → T b) (R : Re W I) (ha : EvN K T W I c ta σ H (zU r) χ) (hb : EvN K T W I c' tb σ H zI ψ) (hi : ∀ xs i, χ xs → ψ i → ∃ d, atI xs i = some d ∧ θ d) : EvN K T W I (c + c') (tOp (rIxT K) ta tb) σ H r θ :=
  en_op hW R ha hb fun xs i x y H1 Q pa pb _ h1 h2 q => by
    obtain ⟨a, vs, rfl, hs, h⟩ := h1
    obtain ⟨d, hd, hθ⟩ := hi xs i pa pb
    obtain ⟨v, hv, hr⟩ := all2_at h hd
    exact ⟨a, vs, i, v, rfl, h2, hs.sq, hv, q v H1 d (Ex.refl H1) hr hθ⟩
theorem en_ixW {χ : List Bool → Prop} {ψ : Int → Prop} {θ : List Bool → Prop} (hW : ∀ b, W b → T b) (R : Re W I) (ha : EvN K T W I c ta σ H zW χ) (hb : EvN K T W I c' tb σ H zI ψ) (hi : ∀ xs i, χ xs → ψ i → ∃ d, atI xs i = some d ∧ θ [d]) : EvN K T W I (c + c') (tOp rIxS ta tb) σ H zW θ :=
  en_op hW R ha hb fun w i x y H1 Q pa pb _ h1 h2 q => by
    obtain ⟨h1, hl⟩ := h1
    obtain ⟨d, hd, hθ⟩ := hi w i pa pb
    exact ⟨wS w, i, sgn d, h1, h2, by rw [wS_len, sizeLine_eq]; omega, atI_map (f := sgn) hd, q _ H1 _ (Ex.refl H1) ⟨rfl, by simp⟩ hθ⟩
/-- + of words -/
theorem en_catW {φ ψ : List Bool → Prop} (hW : ∀ b, W b → T b) (R : Re W I) (ha : EvN K T W I c ta σ H zW φ) (hb : EvN K T W I c' tb σ H zW ψ) (hl : ∀ a b, φ a → ψ b → a.length + b.length ≤ 100000) : EvN K T W I (c + c') (tOp rCatS ta tb) σ H zW (fun d => ∃ a b, φ a ∧ ψ b ∧ d = a ++ b) :=
  en_op hW R ha hb fun a b x y H1 Q pa pb _ h1 h2 q => by
    obtain ⟨h1, _⟩ := h1; obtain ⟨h2, _⟩ := h2
    have hl' := hl a b pa pb
    refine ⟨_, _, h1, h2, ?_, q _ H1 _ (Ex.refl H1) ⟨by rw [wS_app], by simpa using hl'⟩ ⟨a, b, pa, pb, rfl⟩⟩
    rw [wS_len, wS_len, sizeLine_eq]; omega
/-- a test -/
theorem en_test {Q : Bool → Hp → Prop} {φ : Bool → Prop} (h : EvN K T W I c te σ H zB φ) {n : Nat} (i : I (n + c) H) (k : ∀ H2 b, Fr W H H2 → I n H2 → φ b → Q b H2) : tTest te σ H Q :=
  h n H (Fr.refl H) i _ fun v H2 b f i2 r2 p => ⟨b, r2, k H2 b f i2 p⟩
/-- arguments -/
theorem na_of {ra : Rpl α} {a : α} {t : TA} (R : Re W I) (h : EvA K T t σ H ra a) : EvNA K T W I 0 t σ H ra (fun x => x = a) := fun n H1 f i Q q => h H1 f Q fun v H2 e r2 => q v H2 a e.fr (R.ex i e) r2 rfl
theorem na_cons [Mo r] {tr : TA} {ra : Rpl β} (hW : ∀ b, W b → T b) (h : EvN K T W I c ta σ H r φ) (hr : EvNA K T W I c' tr σ H ra ψ) : EvNA K T W I (c + c') (tCons ta tr) σ H (aC r ra) (fun p => φ p.1 ∧ ψ p.2) := fun n H1 f i Q q =>
  h (n + c') H1 f (by rw [show n + c' + c = n + (c + c') by omega]; exact i) _ fun x H2 a f2 i2 r2 p2 => hr n H2 (f.trans (f2.mono hW)) i2 _ fun vs H3 b f3 i3 r3 p3 => q _ H3 (a, b) (f2.trans f3) i3 ⟨x, vs, rfl, Mo.fr (f3.mono hW) r2, r3⟩ ⟨p2, p3⟩
/-- a call that changes the resource of its argument -/
def NSp (K : PySem.W.Frag) {α β : Type} (ra : Rpl α) (W : α → AS) (I : α → Nat → Hp → Prop) (c : α → Nat) (pre : α → Prop) (r : Rp β) (φ : α → β → Prop) : Sp := fun vs H Q _ =>
  ∃ (T : AS) (a : α) (n : Nat), TD T H ∧ (∀ b, W a b → T b) ∧ ra K T H vs a ∧ pre a ∧ I a (n + c a) H ∧ ∀ v H' d, Fr (W a) H H' → I a n H' → r K T H' v d → φ a d → Q v H'
theorem en_call {ra : Rpl β} {W : β → AS} {I : β → Nat → Hp → Prop} {cc : β → Nat} {pre : β → Prop} {φ : β → α → Prop} {b : β} {tr : TA} {E : XK} (R : Re (W b) (I b)) (hT : TD T H) (hW : ∀ x, W b x → T x) (h : EvA K T tr σ H ra b) (hp : pre b) :
    EvN K T (W b) (I b) (cc b) (tCall (NSp K ra W I cc pre r φ) [] E tr) σ H r (φ b) := fun n H1 g i Q q =>
  h H1 g _ fun vs H2 e2 r2 => by
    show NSp K ra W I cc pre r φ (vs ++ []) H2 Q E
    rw [List.append_nil]
    exact ⟨T, b, n, (hT.fr g).ex e2, hW, r2, hp, R.ex i e2, fun v H3 d f3 i3 r3 p3 => q v H3 d (e2.fr.trans f3) i3 r3 p3⟩
/-- a method that does so -/
theorem en_meth {Cn : Str} {fs : List Str} {ra : Rpl β} {b : β} {rb : Rpl γ} {d : γ} {W : β × γ → AS} {I : β × γ → Nat → Hp → Prop} {cc : β × γ → Nat} {pre : β × γ → Prop} {φ : β × γ → α → Prop} {tr : TA} {E : XK} {m : Str} [MoL ra] (R : Re (W (b, d)) (I (b, d))) (hT : TD T H) (hW : ∀ x, W (b, d) x → T x) (hm : m ∉ fs)
    (h : Ev K T ta σ H (zOb Cn fs ra) b) (h2 : EvA K T tr σ H rb d) (hp : pre (b, d)) :
    EvN K T (W (b, d)) (I (b, d)) (cc (b, d)) (tMeth (He.ga K Cn) m (NSp K (aC (zOb Cn fs ra) rb) W I cc pre r φ) [] E ta tr) σ H r (φ (b, d)) := fun n H1 g i Q q => h H1 g _ fun v H2 e2 r2 => by
  obtain ⟨p, dx, vs, ev, ht, hh, hr⟩ := r2
  refine ⟨p, dx, _, ev, hh, lookup_zip_none hm, ?_⟩
  refine h2 H2 (g.trans e2.fr) _ fun ws H3 e3 r3 => ?_
  show NSp K (aC (zOb Cn fs ra) rb) W I cc pre r φ (v :: (ws ++ [])) H3 Q E
  rw [List.append_nil]
  exact ⟨T, (b, d), n, (hT.fr g).ex (e2.trans e3), hW, ⟨v, ws, rfl, ⟨p, dx, vs, ev, ht, e3 _ _ hh, MoL.fr e3.fr hr⟩, r3⟩, hp, R.ex i (e2.trans e3), fun v' H4 d' f4 i4 r4 p4 => q v' H4 d' ((e2.trans e3).fr.trans f4) i4 r4 p4⟩
theorem tYes_if {σ : L2.St} {H : Hp} {A B : Hp → Prop} (h : A H) : tYes σ H (fun b H3 => if b = true then A H3 else B H3) := by
  show (if true = true then A H else B H)
  rw [if_pos rfl]; exact h
/-- a comprehension whose element changes the resource, c for each item -/
theorem en_lc [Mo r] [Mo s] {wi : TI} {g : TG} {vs : List Nat} {xs : List α} {φ : α → β → Prop} (R : Re W I) (hT : TD T H) (hW : ∀ b, W b → T b) (h : EvI K T wi σ H r xs)
    (hs : ∀ (T' : AS) (H' : Hp) (v : V) (x : α), Tr K T H T' H' → TD T' H' → (∀ b, W b → T' b) → x ∈ xs → r K T' H' v x → ∀ Q : L2.St → Hp → Prop, (∀ σ2, wipe σ2 vs = wipe σ vs → EvN K T' W I c te σ2 H' s (φ x) → Q σ2 H') → g v (wipe σ vs) H' Q) :
    EvN K T W I (xs.length * c) (tLc wi g tYes te vs) σ H (zL s) (fun ys => All2 (fun y x => φ x y) ys xs) := fun n H1 fr i1 Q q => h H1 fr _ fun J H2 e2 w => by
  intro D hD
  obtain ⟨⟨m, G, Y, hn, wk, hG, hY⟩, hz⟩ := w
  subst hn
  have i2 := R.ex i1 e2
  have hT2 : TD T H2 := (hT.fr fr).ex e2
  have nD : ¬ T D := hT2.new hD
  have nW : ¬ W D := fun z => nD (hW D z)
  refine lc_it wk (fun i H' => Fr W H2 H' ∧ I (n + (xs.length - i) * c) H' ∧ ∃ acc ys, H' D = some (.lst acc) ∧ All2 (s K (Tp T D) H') acc ys ∧ All2 (fun y x => φ x y) ys (xs.take i)) ⟨(Ex.new hD).fr, R.ex i2 (Ex.new hD), [], [], upd_same, .nil, by simp; exact .nil⟩ (fun i H' _ ⟨e, _⟩ => hG H' (e.mono hW)) ?_ ?_
  · intro i v H' H'' hi ⟨e, hI, acc, ys, hacc, hall, hφ⟩ y
    obtain ⟨eY, x, hx, hr⟩ := hY i H' v H'' hi (e.mono hW) y
    have tr2 : Tr K T H2 (Tp T D) H' := (Tr.lift hD).trans (Tr.fr (e.mono fun b hb => .inl (hW b hb)))
    have hTD : TD (Tp T D) H' := (hT2.fr e).tp hacc
    have tr : Tr K T H (Tp T D) H'' := ((Tr.fr (fr.trans e2.fr)).trans tr2).trans (Tr.ex eY)
    refine hs (Tp T D) H'' v x tr (hTD.ex eY) (fun b hb => .inl (hW b hb)) (List.mem_of_getElem? hx) (hr _ hTD tr2) _ fun σ2 hw he => ⟨hw, ?_⟩
    have hlen : acc.length ≤ i := by
      have h1 := all2_len hall
      have h2 := all2_len hφ
      rw [List.length_take] at h2
      omega
    refine tYes_if ?_
    refine he (n + (xs.length - (i + 1)) * c) H'' (Fr.refl _) ?_ _ fun yv H4 d f4 i4 r4 p4 => ⟨acc, f4.keep _ _ nW (eY _ _ hacc), by omega, ?_⟩
    · have e1 : xs.length - i = (xs.length - (i + 1)) + 1 := by omega
      have e2 : n + (xs.length - (i + 1)) * c + c = n + (xs.length - i) * c := by rw [e1, Nat.succ_mul]; omega
      rw [e2]; exact R.ex hI eY
    · have fD : Fr (Tp T D) H4 (upd H4 D (.lst (acc ++ [yv]))) := Fr.upd (.inl (.inr rfl))
      have f4' : Fr (Tp T D) H'' H4 := f4.mono fun b hb => .inl (hW b hb)
      refine ⟨⟨fun b o nb hb => ?_, fun b o hb => ?_⟩, R.st _ H4 _ (fun b wb => upd_ne (fun z => nW (z ▸ wb))) i4, acc ++ [yv], ys ++ [d], upd_same, ?_, ?_⟩
      · rw [upd_ne (ne_of_none hb hD)]
        exact f4.keep _ _ nb (eY _ _ (e.keep b o nb hb))
      · obtain ⟨o1, h1⟩ := e.dom b o hb
        obtain ⟨o2, h2⟩ := f4.dom b o1 (eY _ _ h1)
        exact ⟨o2, by rw [upd_ne (ne_of_none hb hD)]; exact h2⟩
      · exact all2_app (all2_imp (fun _ _ z => Mo.fr fD (Mo.fr f4' (Mo.fr eY.fr z))) hall) (.cons (Mo.fr fD r4) .nil)
      · rw [List.take_add_one, hx]
        exact all2_app hφ (.cons p4 .nil)
  · rintro H' ⟨e, hI, acc, ys, hacc, hall, hφ⟩
    rw [List.take_length] at hφ
    rw [Nat.sub_self, Nat.zero_mul] at hI
    exact q _ H' ys (e2.fr.trans e) hI ⟨D, acc, rfl, .new nD hacc, all2_imp (fun _ _ z => Mo.sub (fun b hb => .inl hb) z) hall⟩ hφ
/-- ''.join of such -/
theorem en_joinW {χ : List (List Bool) → Prop} {tj : TE} (R : Re W I) (ha : Ev K T tj σ H zW []) (hb : EvN K T W I c tb σ H (zL zW) χ) (hl : ∀ ws, χ ws → ws.flatten.length ≤ 100000) : EvN K T W I c (tM1 (rJoin K) tj tb) σ H zW (fun d => ∃ ws, χ ws ∧ d = ws.flatten) := fun n H1 f i Q q => ha H1 f _ fun v H2 e2 r2 => by
  obtain ⟨rfl, _⟩ := r2
  refine ⟨⟨_, rfl⟩, hb n H2 (f.trans e2.fr) (R.ex i e2) _ fun y H3 ws f3 i3 r3 p3 => ?_⟩
  have h9 := ev_joinW (K := K) (T := T) (σ := [some (.str (wS [])), some y]) (H := H3) (ta := tVar 0) (tb := tVar 1) (ws := ws) (ev_var rfl ⟨rfl, by simp⟩) (ev_var rfl r3) (hl ws p3) H3 (Fr.refl _) Q fun v H4 e4 r4 => q v H4 _ ((e2.fr.trans f3).trans e4.fr) (R.ex i3 e4) r4 ⟨ws, p3, rfl⟩
  obtain ⟨_, z1, _, _, z2, h9⟩ := h9
  cases z1; cases z2
  exact h9
end
/-! ### statements -/
section
variable {K : PySem.W.Frag} {T W : AS} {I : Nat → Hp → Prop} {σ : L2.St} {H : Hp} {α β : Type} {r : Rp α} {te : TE} {D : Ends} {i c n : Nat} {φ : α → Prop} {t u : TS}
theorem sn_asg (h : EvN K T W I c te σ H r φ) (hi : I (n + c) H) (k : ∀ v H2 d, Fr W H H2 → I n H2 → r K T H2 v d → φ d → D.nx (σ.set i (some v)) H2) : tAsg te (gName i) D σ H := h n H (Fr.refl H) hi _ k
theorem sn_ret (h : EvN K T W I c te σ H r φ) (hi : I (n + c) H) (k : ∀ v H2 d, Fr W H H2 → I n H2 → r K T H2 v d → φ d → D.rt v H2) : tRet te D σ H := h n H (Fr.refl H) hi _ k
theorem sn_drop (h : EvN K T W I c te σ H r φ) (hi : I (n + c) H) (k : ∀ v H2 d, Fr W H H2 → I n H2 → r K T H2 v d → φ d → D.nx σ H2) : tDrop te D σ H := h n H (Fr.refl H) hi _ k
theorem sn_if {φ : Bool → Prop} (h : EvN K T W I c te σ H zB φ) (hi : I (n + c) H) (k : ∀ H2 b, Fr W H H2 → I n H2 → φ b → if b = true then t D σ H2 else u D σ H2) : tIfS (tTest te) t u D σ H := en_test h hi k
end
end EB

set_option Elab.async false
set_option linter.all false
set_option maxRecDepth 100000
set_option maxHeartbeats 4000000
/-! EB: readings are opened step by step; effects. -/
namespace EB
open PySem PySem.Spec PyProof.Rows L2
section
variable {K : PySem.W.Frag} {T S : AS} {σ : L2.St} {H : Hp} {α β γ : Type} {r : Rp α} {s : Rp β} {te ta tb : TE} {tr : TA} {tt tu : TT} {t u : TS} {D : Ends} {i j : Nat} {p : Addr} {xs : List α} {d : α} {v w x : V} {Q : VK} {Qb : Bool → Hp → Prop} {F : List V → Hp → Prop} {R : R2} {R1 : V → Hp → VK → Prop} {RL : List V → Hp → VK → Prop} {sp : Sp} {dvs : List V} {E : XK} {A B : Prop}
theorem x_run (h : Ev K T te σ H r d) (k : ∀ v H2, Ex H H2 → r K T H2 v d → Q v H2) : te σ H Q := h H (Fr.refl H) Q k
theorem t_run {b : Bool} (h : EvT T tt σ H b) (k : ∀ H2, Ex H H2 → Qb b H2) : tt σ H Qb := h H (Fr.refl H) Qb k
theorem x_to {Q' : VK} (h : te σ H Q') (e : Q' = Q) : te σ H Q := e ▸ h
theorem asg_open (h : te σ H fun v H1 => D.nx (σ.set i (some v)) H1) : tAsg te (gName i) D σ H := h
theorem asgt_open {g : TG} (h : te σ H fun v H1 => g v σ H1 D.nx) : tAsg te g D σ H := h
theorem ret_open (h : te σ H D.rt) : tRet te D σ H := h
theorem drop_open (h : te σ H fun _ H1 => D.nx σ H1) : tDrop te D σ H := h
theorem ifs_open (h : tt σ H fun b H1 => if b = true then t D σ H1 else u D σ H1) : tIfS tt t u D σ H := h
theorem nx_ {a : L2.St → Hp → Prop} {b : V → Hp → Prop} {c e : L2.St → Hp → Prop} (h : a σ H) : (Ends.mk a b c e).nx σ H := h
theorem op_open (h : ta σ H fun x H1 => tb σ H1 fun y H2 => R x y H2 Q) : tOp R ta tb σ H Q := h
theorem un_open (h : ta σ H fun x H1 => R1 x H1 Q) : tUn R1 ta σ H Q := h
theorem cb_open (h : tr σ H fun vs H1 => RL vs H1 Q) : tCB RL tr σ H Q := h
theorem lst_open (h : tr σ H fun xs H1 => xs.length ≤ sizeLine ∧ ∀ p, H1 p = none → Q (.ref p) (upd H1 p (.lst xs))) : tLst tr σ H Q := h
theorem tup_open (h : tr σ H fun xs H1 => xs.length ≤ sizeLine ∧ ∀ p, H1 p = none → Q (.ref p) (upd H1 p (.tup xs))) : tTup tr σ H Q := h
theorem call_open (h : tr σ H fun vs H1 => sp (vs ++ dvs) H1 Q E) : tCall sp dvs E tr σ H Q := h
theorem cons_open (h : ta σ H fun x H1 => tr σ H1 fun xs H2 => F (x :: xs) H2) : tCons ta tr σ H F := h
theorem nil_open (h : F [] H) : tNil σ H F := h
theorem test_open (h : ta σ H fun x H1 => ∃ k, x = .bl k ∧ Qb k H1) : tTest ta σ H Qb := h
theorem tB_open (h : ta σ H fun x H1 => ∃ k, x = .bl k ∧ Qb k H1) : tB ta σ H Qb := h
theorem not_open (h : tt σ H fun c H1 => Qb (!c) H1) : tNot tt σ H Qb := h
theorem and_open (h : tt σ H fun c H1 => if c = true then tu σ H1 Qb else Qb false H1) : tAnd tt tu σ H Qb := h
theorem or_open (h : tt σ H fun c H1 => if c = true then Qb true H1 else tu σ H1 Qb) : tOr tt tu σ H Qb := h
theorem andv_open (h : ta σ H fun x H1 => ∃ c, x = .bl c ∧ if c = true then tb σ H1 Q else Q (.bl false) H1) : tAndV ta tb σ H Q := h
theorem orv_open (h : ta σ H fun x H1 => ∃ c, x = .bl c ∧ if c = true then Q (.bl true) H1 else tb σ H1 Q) : tOrV ta tb σ H Q := h
theorem ifx_open (h : tt σ H fun c H1 => if c = true then ta σ H1 Q else tb σ H1 Q) : tIf tt ta tb σ H Q := h
theorem notv_open (h : ta σ H fun x H1 => ∃ c, x = .bl c ∧ Q (.bl (!c)) H1) : tNotV ta σ H Q := h
theorem iteB {b : Bool} (h1 : b = true → A) (h2 : b = false → B) : if b = true then A else B := by
  cases b with
  | true => rw [if_pos rfl]; exact h1 rfl
  | false => rw [if_neg (by decide)]; exact h2 rfl
theorem ite1 (h : A) : if true = true then A else B := by rw [if_pos rfl]; exact h
theorem ite0 (h : B) : if false = true then A else B := by rw [if_neg (by decide)]; exact h
theorem of_op (h : tOp R (tVar 0) (tVar 1) [some v, some w] H Q) : R v w H Q := by obtain ⟨_, z1, _, z2, h⟩ := h; cases z1; cases z2; exact h
theorem of_un (h : tUn R1 (tVar 0) [some v] H Q) : R1 v H Q := by obtain ⟨_, z1, h⟩ := h; cases z1; exact h
theorem of_cb1 (h : tCB RL (tCons (tVar 0) tNil) [some v] H Q) : RL [v] H Q := by obtain ⟨_, z1, h⟩ := h; cases z1; exact h
theorem of_cb2 (h : tCB RL (tCons (tVar 0) (tCons (tVar 1) tNil)) [some v, some w] H Q) : RL [v, w] H Q := by obtain ⟨_, z1, _, z2, h⟩ := h; cases z1; cases z2; exact h
theorem of_l1 (h : tLst (tCons (tVar 0) tNil) [some v] H Q) : [v].length ≤ sizeLine ∧ ∀ p, H p = none → Q (.ref p) (upd H p (.lst [v])) := by obtain ⟨_, z1, h⟩ := h; cases z1; exact h
theorem of_l2 (h : tLst (tCons (tVar 0) (tCons (tVar 1) tNil)) [some v, some w] H Q) : [v, w].length ≤ sizeLine ∧ ∀ p, H p = none → Q (.ref p) (upd H p (.lst [v, w])) := by obtain ⟨_, z1, _, z2, h⟩ := h; cases z1; cases z2; exact h
theorem of_l3 (h : tLst (tCons (tVar 0) (tCons (tVar 1) (tCons (tVar 2) tNil))) [some v, some w, some x] H Q) : [v, w, x].length ≤ sizeLine ∧ ∀ p, H p = none → Q (.ref p) (upd H p (.lst [v, w, x])) := by obtain ⟨_, z1, _, z2, _, z3, h⟩ := h; cases z1; cases z2; cases z3; exact h
theorem of_t2 (h : tTup (tCons (tVar 0) (tCons (tVar 1) tNil)) [some v, some w] H Q) : [v, w].length ≤ sizeLine ∧ ∀ p, H p = none → Q (.ref p) (upd H p (.tup [v, w])) := by obtain ⟨_, z1, _, z2, h⟩ := h; cases z1; cases z2; exact h
/-! ### calls, the arguments being read -/
theorem call_v {ra : Rpl β} {pre : β → Prop} {f : β → α} {b : β} {vs : List V} (hT : TD T H) (hr : ra K T H vs b) (hp : pre b) (k : ∀ v H', Ex H H' → r K T H' v (f b) → Q v H') : PSp K ra pre r f (vs ++ []) H Q E := by
  rw [List.append_nil]; exact ⟨T, b, hT, hr, hp, k⟩
theorem callm_v {ra : Rpl β} {pre : β → Prop} {f : β → α} {b : β} {vs : List V} (hT : TD T H) (hr : ra K T H (v :: vs) b) (hp : pre b) (k : ∀ v H', Ex H H' → r K T H' v (f b) → Q v H') : PSp K ra pre r f (v :: (vs ++ [])) H Q E := by
  rw [List.append_nil]; exact ⟨T, b, hT, hr, hp, k⟩
theorem ncall_v {ra : Rpl β} {W : β → AS} {I : β → Nat → Hp → Prop} {cc : β → Nat} {pre : β → Prop} {φ : β → α → Prop} {b : β} {vs : List V} {n : Nat} (hT : TD T H) (hW : ∀ x, W b x → T x) (hr : ra K T H vs b) (hp : pre b) (hI : I b (n + cc b) H) (k : ∀ v H' d, Fr (W b) H H' → I b n H' → r K T H' v d → φ b d → Q v H') :
    NSp K ra W I cc pre r φ (vs ++ []) H Q E := by
  rw [List.append_nil]; exact ⟨T, b, n, hT, hW, hr, hp, hI, k⟩
theorem ncallm_v {ra : Rpl β} {W : β → AS} {I : β → Nat → Hp → Prop} {cc : β → Nat} {pre : β → Prop} {φ : β → α → Prop} {b : β} {vs : List V} {n : Nat} (hT : TD T H) (hW : ∀ x, W b x → T x) (hr : ra K T H (v :: vs) b) (hp : pre b) (hI : I b (n + cc b) H) (k : ∀ v H' d, Fr (W b) H H' → I b n H' → r K T H' v d → φ b d → Q v H') :
    NSp K ra W I cc pre r φ (v :: (vs ++ [])) H Q E := by
  rw [List.append_nil]; exact ⟨T, b, n, hT, hW, hr, hp, hI, k⟩
theorem meth_open {C : Addr} {m : Str} (h : ta σ H fun x H1 => ∃ a dx fs, x = .ref a ∧ H1 a = some (.ins C dx fs) ∧ fs.lookup m = none ∧ tr σ H1 fun vs H2 => sp (x :: (vs ++ dvs)) H2 Q E) : tMeth C m sp dvs E ta tr σ H Q := h
theorem meth_v {Cn : Str} {fs : List Str} {ra : Rpl β} {b : β} {m : Str} (h : zOb Cn fs ra K T H v b) (hm : m ∉ fs) (k : tr σ H fun vs H2 => sp (v :: (vs ++ dvs)) H2 Q E) :
    ∃ a dx gs, v = .ref a ∧ H a = some (.ins (He.ga K Cn) dx gs) ∧ gs.lookup m = none ∧ tr σ H fun vs H2 => sp (v :: (vs ++ dvs)) H2 Q E := by
  obtain ⟨p, dx, vs, ev, ht, hh, hr⟩ := h
  exact ⟨p, dx, _, ev, hh, lookup_zip_none hm, k⟩
/-! ### stores -/
theorem append_open (hv : σ[i]? = some (some (.ref p))) (m : HM r K T H p xs) (h : te σ H fun v H1 => rAppend (.ref p) [v] H1 fun _ H2 => D.nx σ H2) : tDrop (tBM K "list" rAppend (tVar i) (tCons te tNil)) D σ H := by
  obtain ⟨vs, h1, h2⟩ := m.ex
  exact ⟨.ref p, hv, .inl ⟨rfl, vs, .inl (.inl h1)⟩, h⟩
theorem append_v [Mo r] (m : HM r K T H p xs) (hd : r K T H v d) (hl : xs.length ≤ 1000000) (k : ∀ H2 v', H2 = upd H p v' → Fr (Tp S p) H H2 → Fr T H H2 → HM r K T H2 p (xs ++ [d]) → Q .non H2) : rAppend (.ref p) [v] H Q := by
  obtain ⟨vs', h1', hl', m', f'⟩ := m.app hd
  exact ⟨p, vs', v, rfl, rfl, h1', by rw [hl', sizeLine_eq]; omega, k _ _ rfl (Fr.upd (.inl (.inr rfl))) f' m'⟩
theorem set_v [Mo r] {ti : TE} {n : Int} (hv : σ[i]? = some (some (.ref p))) (m : HM r K T H p xs) (hd : r K T H v d) (hi : Ev K T ti σ H zI n) (h0 : 0 ≤ n) (hn : n < xs.length)
    (k : ∀ H1 H2 v, H2 = upd H1 p v → Ex H H1 → Fr (Tp S p) H1 H2 → Fr T H1 H2 → HM r K T H2 p (xs.set n.toNat d) → D.nx σ H2) : gSub (tVar i) ti rSetL v σ H D.nx := by
  refine ⟨.ref p, hv, ?_⟩
  refine hi H (Fr.refl H) _ fun iv H2 e2 r2 => ?_
  obtain ⟨vs', h1', hl', m', f'⟩ := (m.ex' e2).set (j := n.toNat) (Mo.fr e2.fr hd)
  refine ⟨p, vs', n, n.toNat, rfl, r2, h1', ?_, k H2 _ _ rfl e2 (Fr.upd (.inl (.inr rfl))) f' m'⟩
  unfold ixN
  rw [if_pos h0, if_pos (by rw [hl']; exact hn)]
theorem ev_mlist [Mo r] (h : EvA K T tr σ H (aH r) xs) (hl : xs.length ≤ 1000) (k : ∀ p H1 H2 v, H2 = upd H1 p v → Ex H H1 → H1 p = none → Fr (Tp S p) H1 H2 → HM r K (Tp T p) H2 p xs → Q (.ref p) H2) : tLst tr σ H Q :=
  h H (Fr.refl H) _ fun vs H1 e1 r1 => ⟨by rw [all2_len r1, sizeLine_eq]; omega, fun p hp => k p H1 _ _ rfl e1 hp (Fr.upd (.inl (.inr rfl))) ⟨.inr rfl, vs, upd_same, all2_imp (fun _ _ z => Mo.fr (Ex.new hp).fr (Mo.lift hp z)) r1⟩⟩
/-- any list value that is new: p is where it lies -/
theorem lst_new {vs : List V} [Mo r] (h : All2 (r K T H) vs xs) (hl : xs.length ≤ 1000) (k : ∀ p H2 v, H2 = upd H p v → H p = none → Fr (Tp S p) H H2 → HM r K (Tp T p) H2 p xs → Q (.ref p) H2) : vs.length ≤ sizeLine ∧ ∀ p, H p = none → Q (.ref p) (upd H p (.lst vs)) :=
  ⟨by rw [all2_len h, sizeLine_eq]; omega, fun p hp => k p _ _ rfl hp (Fr.upd (.inl (.inr rfl))) ⟨.inr rfl, vs, upd_same, all2_imp (fun _ _ z => Mo.fr (Ex.new hp).fr (Mo.lift hp z)) h⟩⟩
end
theorem Re.cut {W : AS} {I : Nat → Hp → Prop} (R : Re W I) {n m : Nat} {H : Hp} (h : I n H) (e : m ≤ n) : I m H := R.less m (n - m) H (by rw [show m + (n - m) = n by omega]; exact h)
/-- a list with things of many kinds -/
def zH {α : Type} (ra : Rpl α) : Rp α := fun K T H v d => ∃ a vs, v = .ref a ∧ SL K T H a vs ∧ ra K T H vs d
instance {α : Type} {ra : Rpl α} [MoL ra] : Mo (zH ra) := ⟨fun w ⟨a, vs, e, h, q⟩ => ⟨a, vs, e, h.wd w, MoL.wd w q⟩⟩
section
variable {K : PySem.W.Frag} {T : AS} {σ : L2.St} {H : Hp} {α β : Type} {ra : Rpl α} {r : Rp β} {te tb : TE} {d : α} {x : β} {i : Int}
theorem ev_ixH [MoL ra] (h : Ev K T te σ H (zH ra) d) (hb : Ev K T tb σ H zI i) (g : ∀ H1 vs, ra K T H1 vs d → ∃ v, atI vs i = some v ∧ r K T H1 v x) : Ev K T (tOp (rIxL K) te tb) σ H r x :=
  ev_op h hb fun v w H1 Q _ h1 h2 q => by
    obtain ⟨a, vs, rfl, hs, hr⟩ := h1
    obtain ⟨u, hu, hr'⟩ := g H1 vs hr
    exact ⟨a, vs, i, u, rfl, h2, hs.sq, hu, q u H1 (Ex.refl H1) hr'⟩
end
end EB
namespace EB
open PySem PySem.Spec PyProof.Rows L2
theorem m1_open {R : V → List V → Hp → VK → Prop} {ta tb : TE} {σ : L2.St} {H : Hp} {Q : VK} (h : ta σ H fun x H1 => (∃ z : Str, x = .str z) ∧ tb σ H1 fun y H2 => R x [y] H2 Q) : tM1 R ta tb σ H Q := h
theorem of_m1 {R : V → List V → Hp → VK → Prop} {v w : V} {H : Hp} {Q : VK} (h : tM1 R (tVar 0) (tVar 1) [some v, some w] H Q) : R v [w] H Q := by obtain ⟨_, z1, _, _, z2, h⟩ := h; cases z1; cases z2; exact h
theorem all2_mem {α β : Type} {F : α → β → Prop} : ∀ {xs : List α} {ys : List β} {x : α}, All2 F xs ys → x ∈ xs → ∃ y, y ∈ ys ∧ F x y
  | _, _, _, .nil, h => by cases h
  | _, _, x, .cons r t, h => by
    rcases List.mem_cons.mp h with rfl | h
    · exact ⟨_, List.mem_cons_self, r⟩
    · obtain ⟨y, hy, hf⟩ := all2_mem t h
      exact ⟨y, List.mem_cons_of_mem _ hy, hf⟩
theorem getD_mem {α : Type} {xs : List α} {i : Int} {d : α} (h0 : 0 ≤ i) (h : i < (xs.length : Int)) : xs.getD i.toNat d ∈ xs := by
  have : i.toNat < xs.length := by omega
  rw [List.getD_eq_getElem?_getD, List.getElem?_eq_getElem this]
  exact List.getElem_mem this
theorem mn2_spec (i j : Int) : (mn2 i j = i ∧ i ≤ j) ∨ (mn2 i j = j ∧ j ≤ i) := by unfold mn2; split <;> omega
theorem mx2_spec (i j : Int) : (mx2 i j = i ∧ j ≤ i) ∨ (mx2 i j = j ∧ i ≤ j) := by unfold mx2; split <;> omega
theorem cutA_upto {α : Type} (w : List α) (d : Nat) (h : d ≤ w.length) : cutA w none (some (d : Int)) = w.take d := by
  have h2 : HT.sIx w.length w.length (some (d : Int)) = d := by
    unfold HT.sIx
    simp only
    split <;> omega
  have h3 : HT.sIx w.length 0 none = 0 := rfl
  unfold cutA
  rw [h2, h3]
  simp
theorem cutA_up {α : Type} (w : List α) (d : Int) : (0 ≤ d → d ≤ (w.length : Int) → ((cutA w none (some d)).length : Int) = d) ∧ (cutA w none (some d)).length ≤ w.length := by
  refine ⟨fun h1 h2 => ?_, cutA_len _ _ _⟩
  obtain ⟨n, rfl⟩ := Int.eq_ofNat_of_zero_le h1
  rw [cutA_upto w n (by omega), List.length_take]
  omega
theorem flat_len {ws : List (List Bool)} {k : Nat} (h : ∀ w ∈ ws, w.length = k) : ws.flatten.length = ws.length * k := by
  induction ws with
  | nil => simp
  | cons w ws ih =>
    rw [List.flatten_cons, List.length_append, ih (fun x hx => h x (List.mem_cons_of_mem _ hx)), h w List.mem_cons_self, List.length_cons, Nat.succ_mul]
    omega
end EB

set_option Elab.async false
set_option linter.all false
set_option maxRecDepth 100000
set_option maxHeartbeats 4000000
/-! EB: the tape of draws. -/
namespace EB
open PySem PySem.Spec PyProof.Rows L2
/-- [great, seed, count] at d.1, great at d.2 -/
structure TpI (d : Addr × Addr) (n : Nat) (H : Hp) : Prop where
  ex : ∃ (gs : List Int) (seed cnt : Int), H d.1 = some (.lst [.ref d.2, .int seed, .int cnt]) ∧ H d.2 = some (.lst (gs.map V.int)) ∧ (∀ g ∈ gs, 0 ≤ g) ∧ 0 ≤ cnt ∧ cnt + n < 2 ^ 63 ∧ d.1 ≠ d.2 ∧ gs.length ≤ 100
def zTp : Rp (Addr × Addr) := fun _ _ _ v d => v = .ref d.1
instance : Mo zTp := ⟨fun _ h => h⟩
def WTp (d : Addr × Addr) : AS := fun b => b = d.1 ∨ b = d.2
theorem re_tape {d : Addr × Addr} : Re (WTp d) (TpI d) where
  st n H H' h i := by
    obtain ⟨gs, seed, cnt, h1, h2, h3⟩ := i.ex
    exact ⟨gs, seed, cnt, by rw [h _ (.inl rfl)]; exact h1, by rw [h _ (.inr rfl)]; exact h2, h3⟩
  dom n H b i w := by
    obtain ⟨gs, seed, cnt, h1, h2, _⟩ := i.ex
    rcases w with w | w
    · subst w; exact ⟨_, h1⟩
    · subst w; exact ⟨_, h2⟩
  less n m H i := by
    obtain ⟨gs, seed, cnt, h1, h2, h3, h4, h5, h6⟩ := i.ex
    exact ⟨gs, seed, cnt, h1, h2, h3, h4, by omega, h6⟩
abbrev sp_draw (K : PySem.W.Frag) : Sp := NSp K (aC zTp (aC zI aN)) (fun (a : (Addr × Addr) × Int × Unit) => WTp a.1) (fun a => TpI a.1) (fun _ => 1) (fun a => 0 < a.2.1 ∧ a.2.1 < 1073741824) zI (fun (a : (Addr × Addr) × Int × Unit) (d : Int) => 0 ≤ d ∧ d < a.2.1)
theorem NSp_len {K : PySem.W.Frag} {α β : Type} {ra : Rpl α} {W : α → AS} {I : α → Nat → Hp → Prop} {c : α → Nat} {pre : α → Prop} {r : Rp β} {φ : α → β → Prop} {n : Nat} (h : ∀ K T H vs a, ra K T H vs a → vs.length = n) : ∀ vs H Q E, NSp K ra W I c pre r φ vs H Q E → vs.length = n :=
  fun vs H Q E ⟨T, a, _, _, _, hr, _⟩ => h K T H vs a hr
theorem zl0 {K : PySem.W.Frag} {H : Hp} {p : Addr} {gs : List Int} (h : H p = some (.lst (gs.map V.int))) : zL zI K T0 H (.ref p) gs := ⟨p, _, rfl, .new (fun z => z) h, all2_ints⟩
theorem zh0 {K : PySem.W.Frag} {H : Hp} {p q : Addr} {a b : Int} (h : H p = some (.lst [.ref q, .int a, .int b])) : zH (aC zA (aC zI (aC zI aN))) K T0 H (.ref p) (q, a, b, ()) := ⟨p, _, rfl, .new (fun z => z) h, _, _, rfl, rfl, _, _, rfl, rfl, _, _, rfl, rfl, rfl⟩
section
variable {K : PySem.W.Frag} {T : AS} {σ : L2.St} {H : Hp} {te : TE} {d : Addr × Int × Int × Unit}
theorem ev_h0 (h : Ev K T te σ H (zH (aC zA (aC zI (aC zI aN)))) d) : Ev K T (tOp (rIxL K) te (tC (.int 0))) σ H zA d.1 := ev_ixH h ev_int fun H1 vs hr => by
  obtain ⟨_, _, rfl, h1, _, _, rfl, h2, _, _, rfl, h3, rfl⟩ := hr
  exact ⟨_, rfl, h1⟩
theorem ev_h1 (h : Ev K T te σ H (zH (aC zA (aC zI (aC zI aN)))) d) : Ev K T (tOp (rIxL K) te (tC (.int 1))) σ H zI d.2.1 := ev_ixH h ev_int fun H1 vs hr => by
  obtain ⟨_, _, rfl, h1, _, _, rfl, h2, _, _, rfl, h3, rfl⟩ := hr
  exact ⟨_, rfl, h2⟩
theorem ev_h2 (h : Ev K T te σ H (zH (aC zA (aC zI (aC zI aN)))) d) : Ev K T (tOp (rIxL K) te (tC (.int 2))) σ H zI d.2.2.1 := ev_ixH h ev_int fun H1 vs hr => by
  obtain ⟨_, _, rfl, h1, _, _, rfl, h2, _, _, rfl, h3, rfl⟩ := hr
  exact ⟨_, rfl, h3⟩
end
end EB

set_option Elab.async false
set_option linter.all false
set_option maxRecDepth 100000
set_option maxHeartbeats 4000000
/-! EB: == of data; lists that are new. -/
namespace EB
open PySem PySem.Spec PyProof.Rows L2
class Dt {α : Type} (r : Rp α) where
  toD : α → PyData
  dep : Nat
  dp : ∀ {K T H v d}, r K T H v d → Dp K H v (toD d)
  lay : ∀ d, (toD d).canLay0 = true
  hdep : ∀ d, (toD d).depth ≤ dep
  eq : ∀ a b, PyData.eqv (toD a) (toD b) = true ↔ a = b
instance : Dt zI := ⟨.int, 0, fun h => by cases h; exact .int _, fun _ => rfl, fun _ => Nat.le_refl 0, fun a b => by simp [PyData.eqv]⟩
instance : Dt zB := ⟨.bool, 0, fun h => by cases h; exact .bl _, fun _ => rfl, fun _ => Nat.le_refl 0, fun a b => by simp [PyData.eqv]⟩
instance : Dt zN := ⟨fun _ => .none, 0, fun h => by cases h; exact .non, fun _ => rfl, fun _ => Nat.le_refl 0, fun a b => by simp [PyData.eqv]⟩
theorem strOk_wS (w : List Bool) : PyData.canLay0 (.str (wS w)) = true := by
  simp only [PyData.canLay0, PyData.strOk, wS, Array.all_eq_true']
  intro x hx
  simp only [List.mem_toArray, List.mem_map] at hx
  obtain ⟨b, _, rfl⟩ := hx
  cases b <;> decide
theorem str_beq (a b : Str) : ((a == b) = true) ↔ a = b := by simp
instance : Dt zW := ⟨fun w => .str (wS w), 0, fun h => by obtain ⟨rfl, _⟩ := h; exact .str _, strOk_wS, fun _ => Nat.le_refl 0, fun a b => by
  simp only [PyData.eqv, str_beq]
  exact ⟨wS_inj, fun h => by rw [h]⟩⟩
section
variable {α β γ : Type} {r : Rp α} {s : Rp β}
theorem dpAll {K T H} [Dt r] {vs : List V} {xs : List α} (h : All2 (r K T H) vs xs) : DpAll K H vs (xs.map (Dt.toD r)) := by
  induction h with
  | nil => exact .nil
  | cons a _ ih => exact .cons (Dt.dp a) ih
theorem layAll [Dt r] : ∀ xs : List α, PyData.canLayAll0 (xs.map (Dt.toD r)) = true
  | [] => rfl
  | x :: xs => by simp only [List.map_cons, PyData.canLayAll0, Dt.lay, layAll xs, Bool.and_self]
theorem depAll [Dt r] : ∀ xs : List α, PyData.depthAll (xs.map (Dt.toD r)) ≤ Dt.dep r
  | [] => Nat.zero_le _
  | x :: xs => by
    simp only [List.map_cons, PyData.depthAll]
    exact Nat.max_le.mpr ⟨Dt.hdep x, depAll xs⟩
theorem eqAll [Dt r] : ∀ xs ys : List α, PyData.eqvAll (xs.map (Dt.toD r)) (ys.map (Dt.toD r)) = true ↔ xs = ys
  | [], [] => by simp [PyData.eqvAll]
  | [], _ :: _ => by simp [PyData.eqvAll]
  | _ :: _, [] => by simp [PyData.eqvAll]
  | x :: xs, y :: ys => by
    simp only [List.map_cons, PyData.eqvAll, Bool.and_eq_true, Dt.eq, eqAll xs ys, List.cons.injEq]
instance [Dt r] : Dt (zL r) := ⟨fun xs => .list (xs.map (Dt.toD r)), Dt.dep r + 1, fun h => by
  obtain ⟨a, vs, rfl, hs, hh⟩ := h
  exact .lst hs.sq (dpAll hh), fun xs => by simp only [PyData.canLay0]; exact layAll xs, fun xs => by simp only [PyData.depth]; exact Nat.succ_le_succ (depAll xs), fun a b => by simp only [PyData.eqv]; exact eqAll a b⟩
instance [Dt r] : Dt (zU r) := ⟨fun xs => .tuple (xs.map (Dt.toD r)), Dt.dep r + 1, fun h => by
  obtain ⟨a, vs, rfl, hs, hh⟩ := h
  exact .tup hs.sq (dpAll hh), fun xs => by simp only [PyData.canLay0]; exact layAll xs, fun xs => by simp only [PyData.depth]; exact Nat.succ_le_succ (depAll xs), fun a b => by simp only [PyData.eqv]; exact eqAll a b⟩
class DtL {α : Type} (r : Rpl α) where
  toD : α → List PyData
  dep : Nat
  dp : ∀ {K T H v d}, r K T H v d → DpAll K H v (toD d)
  lay : ∀ d, PyData.canLayAll0 (toD d) = true
  hdep : ∀ d, PyData.depthAll (toD d) ≤ dep
  eq : ∀ a b, PyData.eqvAll (toD a) (toD b) = true ↔ a = b
instance : DtL aN := ⟨fun _ => [], 0, fun h => by rw [show _ = [] from h]; exact .nil, fun _ => rfl, fun _ => Nat.le_refl 0, fun a b => by simp [PyData.eqvAll]⟩
instance {t : Rpl β} [Dt r] [DtL t] : DtL (aC r t) := ⟨fun p => Dt.toD r p.1 :: DtL.toD t p.2, max (Dt.dep r) (DtL.dep t), fun h => by
  obtain ⟨v, ws, rfl, h1, h2⟩ := h
  exact .cons (Dt.dp h1) (DtL.dp h2), fun p => by simp only [PyData.canLayAll0, Dt.lay, DtL.lay, Bool.and_self], fun p => by
    simp only [PyData.depthAll]
    have h1 := Dt.hdep (r := r) p.1
    have h2 := DtL.hdep (r := t) p.2
    omega, fun a b => by
    simp only [PyData.eqvAll, Bool.and_eq_true, Dt.eq, DtL.eq]
    exact ⟨fun h => Prod.ext h.1 h.2, fun h => by rw [h]; exact ⟨rfl, rfl⟩⟩⟩
instance {t : Rpl β} [DtL t] : Dt (zH t) := ⟨fun xs => .list (DtL.toD t xs), DtL.dep t + 1, fun h => by
  obtain ⟨a, vs, rfl, hs, hh⟩ := h
  exact .lst hs.sq (DtL.dp hh), fun xs => by simp only [PyData.canLay0]; exact DtL.lay xs, fun xs => by simp only [PyData.depth]; exact Nat.succ_le_succ (DtL.hdep xs), fun a b => by simp only [PyData.eqv]; exact DtL.eq a b⟩
theorem shaped_toD [Dt r] (h : Dt.dep r ≤ 64) (d : α) : SeqAt.shaped (Dt.toD r d) = true := by
  unfold SeqAt.shaped
  rw [Dt.lay, Bool.true_and, decide_eq_true_eq]
  exact Nat.le_trans (Dt.hdep d) h
theorem eqv_toD [Dt r] [DecidableEq α] (a b : α) : PyData.eqv (Dt.toD r a) (Dt.toD r b) = decide (a = b) := by
  by_cases h : a = b
  · rw [decide_eq_true h]; exact (Dt.eq a b).mpr h
  · rw [decide_eq_false h]
    cases e : PyData.eqv (Dt.toD r a) (Dt.toD r b) with
    | true => exact absurd ((Dt.eq a b).mp e) h
    | false => rfl
variable {K : PySem.W.Frag} {T : AS} {σ : L2.St} {H : Hp} {te ta tb : TE}
theorem ev_eqD [Mo r] [Dt r] [DecidableEq α] {a b : α} (ha : Ev K T ta σ H r a) (hb : Ev K T tb σ H r b) (hd : Dt.dep r ≤ 64 := by decide) : Ev K T (tOp (rEqD K) ta tb) σ H zB (decide (a = b)) :=
  ev_op ha hb fun x y H1 Q _ h1 h2 q => ⟨_, _, Dt.dp h1, Dt.dp h2, shaped_toD hd a, shaped_toD hd b, q _ H1 (Ex.refl H1) (by rw [eqv_toD]; rfl)⟩
theorem ev_neD [Mo r] [Dt r] [DecidableEq α] {a b : α} (ha : Ev K T ta σ H r a) (hb : Ev K T tb σ H r b) (hd : Dt.dep r ≤ 64 := by decide) : Ev K T (tOp (rNeD K) ta tb) σ H zB (!decide (a = b)) :=
  ev_op ha hb fun x y H1 Q _ h1 h2 q => ⟨_, _, Dt.dp h1, Dt.dp h2, shaped_toD hd a, shaped_toD hd b, q _ H1 (Ex.refl H1) (by rw [eqv_toD]; rfl)⟩
theorem op_eqDQ {X : Cx} (hu : X.A.units + 64 < cLine) (hK : X.K = K := by rfl) : OpR X (compareOp .Eq) (rEqD K) := hK ▸ op_eqD hu
theorem op_neDQ {X : Cx} (hu : X.A.units + 64 < cLine) (hK : X.K = K := by rfl) : OpR X (compareOp .NotEq) (rNeD K) := hK ▸ op_neD hu
end
/-! ### lists that are new: p lies where nothing lay -/
def EvF (K : PySem.W.Frag) (T : AS) {α : Type} (te : TE) (σ : L2.St) (H : Hp) (r : Rp α) (xs : List α) : Prop :=
  ∀ H1, Fr T H H1 → ∀ Q : VK, (∀ p H2 H3, Ex H1 H2 → H2 p = none → Fr (fun b => b = p) H2 H3 → Ex H2 H3 → HM r K (Tp T p) H3 p xs → Q (.ref p) H3) → te σ H1 Q
section
variable {K : PySem.W.Frag} {T : AS} {σ : L2.St} {H : Hp} {α β : Type} {r : Rp α} {s : Rp β} {te ta tb : TE} {tr : TA} {xs : List α} {Q : VK}
theorem f_run (h : EvF K T te σ H r xs) (k : ∀ p H2 H3, Ex H H2 → H2 p = none → Fr (fun b => b = p) H2 H3 → Ex H2 H3 → HM r K (Tp T p) H3 p xs → Q (.ref p) H3) : te σ H Q := h H (Fr.refl H) Q k
theorem hm_new [Mo r] {p : Addr} {vs : List V} (n : H p = none) (h : All2 (r K T H) vs xs) : Fr (fun b => b = p) H (upd H p (.lst vs)) ∧ Ex H (upd H p (.lst vs)) ∧ HM r K (Tp T p) (upd H p (.lst vs)) p xs :=
  ⟨Fr.upd (.inl rfl), Ex.new n, .inr rfl, vs, upd_same, all2_imp (fun _ _ z => Mo.fr (Ex.new n).fr (Mo.lift n z)) h⟩
theorem ef_lst [Mo r] (h : EvA K T tr σ H (aH r) xs) (hl : xs.length ≤ 1000) : EvF K T (tLst tr) σ H r xs := fun H1 f Q q => h H1 f _ fun vs H2 e2 r2 =>
  ⟨by rw [all2_len r2, sizeLine_eq]; omega, fun p hp => let ⟨a, b, c⟩ := hm_new hp r2; q p H2 _ e2 hp a b c⟩
theorem ef_listL [Mo r] (h : Ev K T ta σ H (zL r) xs) : EvF K T (tCB (rListQ K) (tCons ta tNil)) σ H r xs := fun H1 f Q q => h H1 f _ fun v H2 e2 ⟨a, vs, e, hs, hh⟩ =>
  ⟨a, vs, by rw [e], .inl hs.sq, fun p hp => let ⟨a, b, c⟩ := hm_new hp hh; q p H2 _ e2 hp a b c⟩
theorem ef_listU [Mo r] (h : Ev K T ta σ H (zU r) xs) : EvF K T (tCB (rListQ K) (tCons ta tNil)) σ H r xs := fun H1 f Q q => h H1 f _ fun v H2 e2 ⟨a, vs, e, hs, hh⟩ =>
  ⟨a, vs, by rw [e], .inr hs.sq, fun p hp => let ⟨a, b, c⟩ := hm_new hp hh; q p H2 _ e2 hp a b c⟩
theorem lst_newF [Mo r] {vs : List V} (h : All2 (r K T H) vs xs) (hl : xs.length ≤ 1000) (k : ∀ p H3, H p = none → Fr (fun b => b = p) H H3 → Ex H H3 → HM r K (Tp T p) H3 p xs → Q (.ref p) H3) : vs.length ≤ sizeLine ∧ ∀ p, H p = none → Q (.ref p) (upd H p (.lst vs)) :=
  ⟨by rw [all2_len h, sizeLine_eq]; omega, fun p hp => let ⟨a, b, c⟩ := hm_new hp h; k p _ hp a b c⟩
theorem ef_listQ [Mo r] (h : Ev K T ta σ H (zQ r) xs) : EvF K T (tCB (rListQ K) (tCons ta tNil)) σ H r xs := fun H1 f Q q => h H1 f _ fun v H2 e2 h2 => by
  rcases h2 with ⟨a, vs, e, hs, hh⟩ | ⟨a, vs, e, hs, hh⟩
  · exact ⟨a, vs, by rw [e], .inl hs.sq, fun p hp => let ⟨a, b, c⟩ := hm_new hp hh; q p H2 _ e2 hp a b c⟩
  · exact ⟨a, vs, by rw [e], .inr hs.sq, fun p hp => let ⟨a, b, c⟩ := hm_new hp hh; q p H2 _ e2 hp a b c⟩
end
end EB

set_option Elab.async false
set_option linter.all false
set_option maxRecDepth 100000
set_option maxHeartbeats 4000000
/-! EB: more built-ins. -/
namespace EB
open PySem PySem.Spec PyProof.Rows L2
section
variable {K : PySem.W.Frag} {T : AS} {σ : L2.St} {H : Hp} {α β : Type} {r : Rp α} {te ta tb tc : TE} {i j k : Int}
theorem nuMax2_int (i j : Int) : nuMax2 (.int i) (.int j) = some (.int (mx2 i j)) := by
  show some (if decide (i < j) = true then V.int j else .int i) = some (.int (if j > i then j else i))
  by_cases h : i < j
  · rw [decide_eq_true h, if_pos rfl, if_pos h]
  · rw [decide_eq_false h, if_neg (by decide), if_neg h]
theorem nuMin2_int (i j : Int) : nuMin2 (.int i) (.int j) = some (.int (mn2 i j)) := by
  show some (if decide (j < i) = true then V.int j else .int i) = some (.int (if j < i then j else i))
  by_cases h : j < i
  · rw [decide_eq_true h, if_pos rfl, if_pos h]
  · rw [decide_eq_false h, if_neg (by decide), if_neg h]
theorem call_max3Q {X : Cx} (hc : X.calm = true := by rfl) : CallR X (.builtin "max") (rNuC3 nuMax3) := call_max3Nu hc
theorem call_min3Q {X : Cx} (hc : X.calm = true := by rfl) : CallR X (.builtin "min") (rNuC3 nuMin3) := call_min3Nu hc
theorem ev_max3 (h : Ev K T ta σ H zI i) (h' : Ev K T tb σ H zI j) (h'' : Ev K T tc σ H zI k) : Ev K T (tCB (rNuC3 nuMax3) (tCons ta (tCons tb (tCons tc tNil)))) σ H zI (mx2 (mx2 i j) k) := fun H1 f Q q =>
  h H1 f _ fun x H2 e2 r2 => h' H2 (f.trans e2.fr) _ fun y H3 e3 r3 => h'' H3 ((f.trans e2.fr).trans e3.fr) _ fun z H4 e4 r4 => by
    cases r2; cases r3; cases r4
    exact ⟨_, _, _, _, rfl, by unfold nuMax3; rw [nuMax2_int]; exact nuMax2_int _ _, q _ H4 ((e2.trans e3).trans e4) rfl⟩
theorem ev_min3 (h : Ev K T ta σ H zI i) (h' : Ev K T tb σ H zI j) (h'' : Ev K T tc σ H zI k) : Ev K T (tCB (rNuC3 nuMin3) (tCons ta (tCons tb (tCons tc tNil)))) σ H zI (mn2 (mn2 i j) k) := fun H1 f Q q =>
  h H1 f _ fun x H2 e2 r2 => h' H2 (f.trans e2.fr) _ fun y H3 e3 r3 => h'' H3 ((f.trans e2.fr).trans e3.fr) _ fun z H4 e4 r4 => by
    cases r2; cases r3; cases r4
    exact ⟨_, _, _, _, rfl, by unfold nuMin3; rw [nuMin2_int]; exact nuMin2_int _ _, q _ H4 ((e2.trans e3).trans e4) rfl⟩
end
end EB

set_option Elab.async false
set_option linter.all false
set_option maxRecDepth 100000
set_option maxHeartbeats 4000000
/-! EB: tables of what is known. -/
namespace EB
open PySem PySem.Spec PyProof.Rows L2
theorem nodup_le {α : Type} [DecidableEq α] : ∀ {xs ys : List α}, xs.Nodup → (∀ x ∈ xs, x ∈ ys) → xs.length ≤ ys.length
  | [], _, _, _ => Nat.zero_le _
  | x :: xs, ys, hn, hs => by
    have hx : x ∈ ys := hs x List.mem_cons_self
    obtain ⟨hn1, hn2⟩ := List.nodup_cons.mp hn
    have h1 : ∀ y ∈ xs, y ∈ ys.erase x := fun y hy => by
      have : y ≠ x := fun z => hn1 (z ▸ hy)
      exact (List.mem_erase_of_ne this).mpr (hs y (List.mem_cons_of_mem _ hy))
    have h2 := nodup_le hn2 h1
    rw [List.length_erase_of_mem hx] at h2
    have h3 := List.length_pos_of_mem hx
    rw [List.length_cons]
    omega
structure MmI {α : Type} (a : Addr) (kf : α → Key) (U : List α) (ok : α → Int → Prop) (n : Nat) (H : Hp) : Prop where
  inj : ∀ x y, kf x = kf y → x = y
  few : U.length ≤ 1000000
  ex : ∃ kvs : List (Key × V), H a = some (.dK kvs) ∧ (kvs.map (·.1)).Nodup ∧ ∀ q ∈ kvs, ∃ w i, q = (kf w, V.int i) ∧ w ∈ U ∧ ok w i
def W1 (a : Addr) : AS := fun b => b = a
theorem re_memo {α : Type} {a : Addr} {kf : α → Key} {U : List α} {ok : α → Int → Prop} : Re (W1 a) (MmI a kf U ok) where
  st n H H' h i := ⟨i.inj, i.few, by obtain ⟨kvs, h1, h2⟩ := i.ex; exact ⟨kvs, by rw [h a rfl]; exact h1, h2⟩⟩
  dom n H b i w := by
    obtain ⟨kvs, h1, h2⟩ := i.ex
    cases w
    exact ⟨_, h1⟩
  less n m H i := ⟨i.inj, i.few, i.ex⟩
def HasE {α : Type} (kf : α → Key) (a : Addr) (w : α) (i : Int) (H : Hp) : Prop := ∃ kvs : List (Key × V), H a = some (.dK kvs) ∧ valV kvs (kf w) = some (.int i)
theorem valV_mem {kvs : List (Key × V)} {k : Key} {v : V} (h : valV kvs k = some v) : (k, v) ∈ kvs := by
  unfold valV at h
  cases e : kvs.find? fun kv => decide (kv.1 = k) with
  | none => rw [e] at h; cases h
  | some q =>
    rw [e] at h
    have h1 := List.mem_of_find?_eq_some e
    have h2 := List.find?_some e
    simp only [decide_eq_true_eq] at h2
    cases h
    rw [← h2]
    exact h1
section
variable {K : PySem.W.Frag} {T : AS} {σ : L2.St} {H : Hp} {α : Type} {a : Addr} {kf : α → Key} {U : List α} {ok : α → Int → Prop} {n : Nat} {w : α} {i : Int} {y v : V} {Q : VK} {D : Ends}
theorem HasE.ex {H' : Hp} (h : HasE kf a w i H) (e : Ex H H') : HasE kf a w i H' := let ⟨kvs, h1, h2⟩ := h; ⟨kvs, e _ _ h1, h2⟩
theorem notin_v (hI : MmI a kf U ok n H) (hy : y = kV (kf w)) (k1 : (∀ kvs, H a = some (.dK kvs) → valV kvs (kf w) = none) → Q (.bl true) H) (k2 : ∀ i, ok w i → HasE kf a w i H → Q (.bl false) H) :
    ∃ a' o, V.ref a = .ref a' ∧ DGet H a' y o ∧ Q (.bl (!o.isSome)) H := by
  obtain ⟨kvs, h1, h2, h3⟩ := hI.ex
  refine ⟨a, valV kvs (kf w), rfl, .inl ⟨kvs, _, .inl h1, hy, rfl⟩, ?_⟩
  cases e : valV kvs (kf w) with
  | none => exact k1 fun kvs' h' => by rw [h1] at h'; cases h'; exact e
  | some u =>
    obtain ⟨w', i, e1, _, ho⟩ := h3 _ (valV_mem e)
    injection e1 with e2 e3
    subst e3
    have e4 := hI.inj _ _ e2
    subst e4
    exact k2 i ho ⟨kvs, h1, e⟩
theorem in_v (hI : MmI a kf U ok n H) (hy : y = kV (kf w)) (k1 : (∀ kvs, H a = some (.dK kvs) → valV kvs (kf w) = none) → Q (.bl false) H) (k2 : ∀ i, ok w i → HasE kf a w i H → Q (.bl true) H) :
    ∃ a' o, V.ref a = .ref a' ∧ DGet H a' y o ∧ Q (.bl o.isSome) H := by
  obtain ⟨kvs, h1, h2, h3⟩ := hI.ex
  refine ⟨a, valV kvs (kf w), rfl, .inl ⟨kvs, _, .inl h1, hy, rfl⟩, ?_⟩
  cases e : valV kvs (kf w) with
  | none => exact k1 fun kvs' h' => by rw [h1] at h'; cases h'; exact e
  | some u =>
    obtain ⟨w', i, e1, _, ho⟩ := h3 _ (valV_mem e)
    injection e1 with e2 e3
    subst e3
    have e4 := hI.inj _ _ e2
    subst e4
    exact k2 i ho ⟨kvs, h1, e⟩
theorem get_v (h : HasE kf a w i H) (hy : y = kV (kf w)) (k : Q (.int i) H) : ∃ a' v, V.ref a = .ref a' ∧ DGet H a' y (some v) ∧ Q v H := by
  obtain ⟨kvs, h1, h2⟩ := h
  exact ⟨a, _, rfl, .inl ⟨kvs, _, .inl h1, hy, h2.symm⟩, k⟩
theorem putK_keys {kvs : List (Key × V)} {k : Key} {v : V} : (∀ q ∈ putK kvs k v, q = (k, v) ∨ q ∈ kvs) ∧ ((kvs.map (·.1)).Nodup → ((putK kvs k v).map (·.1)).Nodup) := by
  unfold putK
  by_cases h : (kvs.any fun kv => decide (kv.1 = k)) = true
  · rw [if_pos h]
    constructor
    · intro q hq
      rw [List.mem_map] at hq
      obtain ⟨u, hu, rfl⟩ := hq
      by_cases e : u.1 = k
      · rw [if_pos e]; left; rw [e]
      · rw [if_neg e]; right; exact hu
    · intro hn
      rw [List.map_map, show ((fun x : Key × V => x.1) ∘ fun kv => if kv.1 = k then (kv.1, v) else kv) = (fun x => x.1) from funext fun u => by
        show (if u.1 = k then (u.1, v) else u).1 = u.1
        split <;> rfl]
      exact hn
  · rw [if_neg h]
    constructor
    · intro q hq
      rcases List.mem_append.mp hq with hq | hq
      · exact .inr hq
      · simp only [List.mem_singleton] at hq; exact .inl hq
    · intro hn
      rw [List.map_append, List.nodup_append]
      refine ⟨hn, by simp, fun x hx y hy z => ?_⟩
      simp only [List.map_cons, List.map_nil, List.mem_singleton] at hy
      subst hy; subst z
      apply h
      rw [List.any_eq_true]
      rw [List.mem_map] at hx
      obtain ⟨q, hq, e⟩ := hx
      exact ⟨q, hq, decide_eq_true e⟩
theorem valV_putK {kvs : List (Key × V)} {k : Key} {v : V} : valV (putK kvs k v) k = some v := by
  unfold putK valV
  by_cases h : (kvs.any fun kv => decide (kv.1 = k)) = true
  · rw [if_pos h]
    induction kvs with
    | nil => cases h
    | cons u us ih =>
      by_cases e : u.1 = k
      · simp [List.find?_cons, e]
      · have h' : (us.any fun kv => decide (kv.1 = k)) = true := by simpa [e] using h
        simp only [List.map_cons, e, if_false, List.find?_cons, decide_false]
        exact ih h'
  · rw [if_neg h]
    have hn : (kvs.find? fun kv => decide (kv.1 = k)) = none := by
      rw [List.find?_eq_none]
      intro x hx hd
      exact h (List.any_eq_true.mpr ⟨x, hx, hd⟩)
    rw [List.find?_append, hn]
    simp
theorem put_v (hI : MmI a kf U ok n H) (hy : y = kV (kf w)) (hw : w ∈ U) (ho : ok w i) (k : ∀ H', Fr (W1 a) H H' → MmI a kf U ok n H' → HasE kf a w i H' → D.nx σ H') :
    ∃ a' H', V.ref a = .ref a' ∧ DPut H a' y (.int i) H' ∧ D.nx σ H' := by
  obtain ⟨kvs, h1, h2, h3⟩ := hI.ex
  have hl : kvs.length ≤ U.length := by
    have := nodup_le (ys := U.map kf) h2 fun x hx => by
      rw [List.mem_map] at hx
      obtain ⟨q, hq, e⟩ := hx
      obtain ⟨w', i', rfl, hu, _⟩ := h3 q hq
      exact List.mem_map.mpr ⟨w', hu, e⟩
    simpa using this
  have hf := hI.few
  refine ⟨a, _, rfl, .inl ⟨kvs, _, h1, hy, by rw [sizeLine_eq]; omega, rfl⟩, ?_⟩
  refine k _ (Fr.upd (.inl rfl)) ⟨hI.inj, hI.few, _, upd_same, putK_keys.2 h2, fun q hq => ?_⟩ ⟨_, upd_same, valV_putK⟩
  rcases putK_keys.1 q hq with rfl | hq
  · exact ⟨w, i, rfl, hw, ho⟩
  · exact h3 q hq
end
def kW (w : List Bool) : Key := .inr (wS w)
theorem kW_inj (x y : List Bool) (h : kW x = kW y) : x = y := by
  injection h with h
  exact wS_inj h
def wordsTo : Nat → List (List Bool)
  | 0 => [[]]
  | L + 1 => [] :: ((wordsTo L).map (false :: ·) ++ (wordsTo L).map (true :: ·))
theorem mem_wordsTo : ∀ {L : Nat} {w : List Bool}, w.length ≤ L → w ∈ wordsTo L
  | 0, w, h => by
    have : w = [] := List.length_eq_zero_iff.mp (by omega)
    subst this; simp [wordsTo]
  | L + 1, [], _ => by simp [wordsTo]
  | L + 1, b :: w, h => by
    have := mem_wordsTo (L := L) (w := w) (by simpa using h)
    cases b <;> simp [wordsTo, this]
theorem len_wordsTo : ∀ L, (wordsTo L).length = 2 ^ (L + 1) - 1
  | 0 => rfl
  | L + 1 => by
    simp only [wordsTo, List.length_cons, List.length_append, List.length_map, len_wordsTo L]
    have := Nat.one_le_two_pow (n := L + 1)
    rw [Nat.pow_succ 2 (L + 1)]
    omega
theorem few_wordsTo {L : Nat} (h : L ≤ 15) : (wordsTo L).length ≤ 1000000 := by
  rw [len_wordsTo]
  have : 2 ^ (L + 1) ≤ 2 ^ 16 := Nat.pow_le_pow_right (by decide) (by omega)
  omega
end EB
namespace EB
open PySem PySem.Spec PyProof.Rows L2
section
variable {K : PySem.W.Frag} {T W : AS} {I : Nat → Hp → Prop} {σ : L2.St} {H : Hp} {α β γ : Type} {r : Rp α} {s : Rp β} {ta tb te : TE} {c c' : Nat} {φ : α → Prop} {ψ : β → Prop}
/-- a comprehension whose element changes the resource, as a list that is new -/
theorem en_lcF [Mo r] [Mo s] {wi : TI} {g : TG} {vs : List Nat} {xs : List α} {φ : α → β → Prop} (R : Re W I) (hT : TD T H) (hW : ∀ b, W b → T b) (h : EvI K T wi σ H r xs)
    (hs : ∀ (T' : AS) (H' : Hp) (v : V) (x : α), Tr K T H T' H' → TD T' H' → (∀ b, W b → T' b) → x ∈ xs → r K T' H' v x → ∀ Q : L2.St → Hp → Prop, (∀ σ2, wipe σ2 vs = wipe σ vs → EvN K T' W I c te σ2 H' s (φ x) → Q σ2 H') → g v (wipe σ vs) H' Q) :
    ∀ n H1, Fr T H H1 → I (n + xs.length * c) H1 → ∀ Q : VK, (∀ p H2 ys, Fr W H1 H2 → H1 p = none → I n H2 → HM s K (Tp T p) H2 p ys → All2 (fun y x => φ x y) ys xs → Q (.ref p) H2) → tLc wi g tYes te vs σ H1 Q := fun n H1 fr i1 Q q => h H1 fr _ fun J H2 e2 w => by
  intro D hD
  obtain ⟨⟨m, G, Y, hn, wk, hG, hY⟩, hz⟩ := w
  subst hn
  have i2 := R.ex i1 e2
  have hT2 : TD T H2 := (hT.fr fr).ex e2
  have nD : ¬ T D := hT2.new hD
  have nW : ¬ W D := fun z => nD (hW D z)
  refine lc_it wk (fun i H' => Fr W H2 H' ∧ I (n + (xs.length - i) * c) H' ∧ ∃ acc ys, H' D = some (.lst acc) ∧ All2 (s K (Tp T D) H') acc ys ∧ All2 (fun y x => φ x y) ys (xs.take i)) ⟨(Ex.new hD).fr, R.ex i2 (Ex.new hD), [], [], upd_same, .nil, by simp; exact .nil⟩ (fun i H' _ ⟨e, _⟩ => hG H' (e.mono hW)) ?_ ?_
  · intro i v H' H'' hi ⟨e, hI, acc, ys, hacc, hall, hφ⟩ y
    obtain ⟨eY, x, hx, hr⟩ := hY i H' v H'' hi (e.mono hW) y
    have tr2 : Tr K T H2 (Tp T D) H' := (Tr.lift hD).trans (Tr.fr (e.mono fun b hb => .inl (hW b hb)))
    have hTD : TD (Tp T D) H' := (hT2.fr e).tp hacc
    have tr : Tr K T H (Tp T D) H'' := ((Tr.fr (fr.trans e2.fr)).trans tr2).trans (Tr.ex eY)
    refine hs (Tp T D) H'' v x tr (hTD.ex eY) (fun b hb => .inl (hW b hb)) (List.mem_of_getElem? hx) (hr _ hTD tr2) _ fun σ2 hw he => ⟨hw, ?_⟩
    have hlen : acc.length ≤ i := by
      have h1 := all2_len hall
      have h2 := all2_len hφ
      rw [List.length_take] at h2
      omega
    refine tYes_if ?_
    refine he (n + (xs.length - (i + 1)) * c) H'' (Fr.refl _) ?_ _ fun yv H4 d f4 i4 r4 p4 => ⟨acc, f4.keep _ _ nW (eY _ _ hacc), by omega, ?_⟩
    · have e1 : xs.length - i = (xs.length - (i + 1)) + 1 := by omega
      have e2 : n + (xs.length - (i + 1)) * c + c = n + (xs.length - i) * c := by rw [e1, Nat.succ_mul]; omega
      rw [e2]; exact R.ex hI eY
    · have fD : Fr (Tp T D) H4 (upd H4 D (.lst (acc ++ [yv]))) := Fr.upd (.inl (.inr rfl))
      have f4' : Fr (Tp T D) H'' H4 := f4.mono fun b hb => .inl (hW b hb)
      refine ⟨⟨fun b o nb hb => ?_, fun b o hb => ?_⟩, R.st _ H4 _ (fun b wb => upd_ne (fun z => nW (z ▸ wb))) i4, acc ++ [yv], ys ++ [d], upd_same, ?_, ?_⟩
      · rw [upd_ne (ne_of_none hb hD)]
        exact f4.keep _ _ nb (eY _ _ (e.keep b o nb hb))
      · obtain ⟨o1, h1⟩ := e.dom b o hb
        obtain ⟨o2, h2⟩ := f4.dom b o1 (eY _ _ h1)
        exact ⟨o2, by rw [upd_ne (ne_of_none hb hD)]; exact h2⟩
      · exact all2_app (all2_imp (fun _ _ z => Mo.fr fD (Mo.fr f4' (Mo.fr eY.fr z))) hall) (.cons (Mo.fr fD r4) .nil)
      · rw [List.take_add_one, hx]
        exact all2_app hφ (.cons p4 .nil)
  · rintro H' ⟨e, hI, acc, ys, hacc, hall, hφ⟩
    rw [List.take_length] at hφ
    rw [Nat.sub_self, Nat.zero_mul] at hI
    exact q D H' ys (e2.fr.trans e) (e2.back hD) hI ⟨.inr rfl, acc, hacc, hall⟩ hφ
end
end EB
namespace EB
open PySem PySem.Spec PyProof.Rows L2
theorem room_1 {k : Nat} {A : Around} (r : Room k A) : A.units + 1 < cLine := by have := r.un; omega
theorem room_64 {k : Nat} {A : Around} (r : Room k A) : A.units + 64 < cLine := by have := r.un; omega
theorem dni_open {td ty : TE} {σ : L2.St} {H : Hp} {Q : VK} (h : ty σ H fun y H1 => td σ H1 fun x H2 => ∃ a o, x = .ref a ∧ DGet H2 a y o ∧ Q (.bl (!o.isSome)) H2) : tDNotIn ty td σ H Q := h
theorem din_open {td ty : TE} {σ : L2.St} {H : Hp} {Q : VK} (h : ty σ H fun y H1 => td σ H1 fun x H2 => ∃ a o, x = .ref a ∧ DGet H2 a y o ∧ Q (.bl o.isSome) H2) : tDIn ty td σ H Q := h
theorem dget_open {td ty : TE} {σ : L2.St} {H : Hp} {Q : VK} (h : td σ H fun x H1 => ty σ H1 fun y H2 => ∃ a v, x = .ref a ∧ DGet H2 a y (some v) ∧ Q v H2) : tDGet td ty σ H Q := h
theorem dput_open {td ty tv : TE} {σ : L2.St} {H : Hp} {D : Ends} (h : tv σ H fun v H1 => td σ H1 fun x H2 => ty σ H2 fun y H3 => ∃ a H4, x = .ref a ∧ DPut H3 a y v H4 ∧ D.nx σ H4) : sDPut td ty tv D σ H := h
theorem all2_eqmap {α β : Type} {f : β → α} : ∀ {ys : List α} {xs : List β}, All2 (fun y x => y = f x) ys xs → ys = xs.map f
  | _, _, .nil => rfl
  | _, _, .cons r t => by rw [r, all2_eqmap t]; rfl
end EB
namespace EB
open PySem PySem.Spec PyProof.Rows L2
theorem mem_rng {lo x : Int} {n : Nat} (h : x ∈ rng lo n) : lo ≤ x ∧ x < lo + n := by
  unfold rng at h
  rw [List.mem_map] at h
  obtain ⟨i, hi, rfl⟩ := h
  rw [List.mem_range] at hi
  omega
theorem mem_bits {w : List Bool} (h : w ∈ ([[false], [true]] : List (List Bool))) : w.length = 1 := by
  simp only [List.mem_cons, List.not_mem_nil, or_false] at h
  rcases h with rfl | rfl <;> rfl
end EB
namespace EB
open PySem PySem.Spec PyProof.Rows L2
theorem notin_if {H : Hp} {α : Type} {a : Addr} {kf : α → Key} {U : List α} {ok : α → Int → Prop} {n : Nat} {w : α} {y : V} {A B : Prop} (hI : MmI a kf U ok n H) (hy : y = kV (kf w)) (k1 : (∀ kvs, H a = some (.dK kvs) → valV kvs (kf w) = none) → A) (k2 : ∀ i, ok w i → HasE kf a w i H → B) :
    ∃ a' o, V.ref a = .ref a' ∧ DGet H a' y o ∧ ∃ k, V.bl (!o.isSome) = .bl k ∧ if k = true then A else B :=
  notin_v (Q := fun v _ => ∃ k, v = .bl k ∧ if k = true then A else B) hI hy (fun h => ⟨true, rfl, by rw [if_pos rfl]; exact k1 h⟩) (fun i h1 h2 => ⟨false, rfl, by rw [if_neg (by decide)]; exact k2 i h1 h2⟩)
end EB
namespace EB
open PySem PySem.Spec PyProof.Rows L2
theorem foldl_filter {α β : Type} (c : α → Bool) (f : α → β) : ∀ (xs : List α) (s : List β), xs.foldl (fun s x => if c x = true then s ++ [f x] else s) s = s ++ (xs.filter c).map f
  | [], s => by simp
  | x :: xs, s => by
    rw [List.foldl_cons, foldl_filter c f xs, List.filter_cons]
    by_cases h : c x = true
    · rw [if_pos h, if_pos h, List.map_cons, List.append_assoc]; rfl
    · rw [if_neg h, if_neg h]
end EB

set_option Elab.async false
set_option linter.all false
set_option maxRecDepth 100000
set_option maxHeartbeats 4000000
/-! EB: tuple * int; is; objects that are made. -/
namespace EB
open PySem PySem.Spec PyProof.Rows L2
theorem tuple_mul1 (l : Addr) (items : Array Value) (n : Nat) (dd : Option Addr) (sl : Array (Option Value)) (u : Tok) :
    Meets (Builtin.«tuple.__mul__» ⟨[.ref l, .int 1 u], []⟩) (fun _ R s => s.heap.get? l = some { cls := .type "tuple", dict := dd, data := .seq items n, slots := sl } ∧
      R (.ok (.ret (Value.ref l))) s) :=
  .of_wp fun prog w A R s h => by
    obtain ⟨hp, g, d, tk, os⟩ := s
    obtain ⟨hl, h⟩ := h
    have f1 := AutoSeq1.idx_int
    wp_walk using wpAny_loadPart' hl
    exact ⟨_, rfl, h⟩
/-- a tuple times an int from 1 on -/
def rRepC (K : PySem.W.Frag) : R2 := fun x y H Q => ∃ l k xs, x = .ref l ∧ y = .int k ∧ SqT K H l xs ∧ xs ≠ [] ∧ 1 ≤ k ∧ k ≤ 1000 ∧ xs.length ≤ 1000 ∧ ((k = 1 ∧ Q (.ref l) H) ∨ (2 ≤ k ∧ ∀ p, H p = none → Q (.ref p) (upd H p (.tup (List.replicate k.toNat xs).flatten))))
theorem op_repC {X : Cx} {K : PySem.W.Frag} (hK : X.K = K := by rfl) : OpR X (binaryOp .Mult) (rRepC K) := by
  subst hK
  intro pins s σ H x y v u Q I rx ry h
  obtain ⟨l, k, xs, rfl, rfl, hT, hne, h1, h2, hz, q⟩ := h
  rcases q with ⟨rfl, q⟩ | ⟨h3, q⟩
  · cases rx
    obtain ⟨t, rfl⟩ := ry
    obtain ⟨its, r, ⟨⟨cls, dd, data, sl⟩, ho, hc, n, hd⟩, hs⟩ := I.tuple hT
    simp only at hc hd
    subst hc hd
    refine wpAny_binaryOp_repeat_ref (T := "tuple") (U := "int") (by decide) ⟨_, ho, rfl⟩ (fun s' => typeIs_int s' 1 t) noFill_tuple_mul F.fills_int_mul F.slot_int_rmul repeat_tuple F.slot_int_index.lookup
      (call_meets F.slot_int_rmul (typeIs_int s 1 t) F.entry_int_rmul (F.args_int_rmul_2 _ _) (int_rmul_tuple 1 t l its.toArray n dd sl)
        ⟨ho, rfl, ⟨_, ho, rfl⟩, call_meets F.slot_tuple_mul ⟨_, ho, rfl⟩ F.entry_tuple_mul (F.args_tuple_mul_2 _ _) (tuple_mul1 l its.toArray n dd sl t) ⟨ho, ?_⟩⟩)
    exact ⟨.ref l, H, I, rfl, q⟩
  · exact op_repT pins s σ H _ _ v u Q I rx ry ⟨l, k, xs, rfl, rfl, hT, hne, h3, h2, hz, q⟩
section
variable {K : PySem.W.Frag} {T : AS} {σ : L2.St} {H : Hp} {α β γ : Type} {r : Rp α} {s : Rp β} {te ta tb tv : TE} {D : Ends} {i : Nat}
theorem all2_rep {F : V → α → Prop} {vs : List V} {xs : List α} (h : All2 F vs xs) : ∀ n : Nat, All2 F (List.replicate n vs).flatten (List.replicate n xs).flatten
  | 0 => .nil
  | n + 1 => by
    rw [List.replicate_succ, List.replicate_succ, List.flatten_cons, List.flatten_cons]
    exact all2_app h (all2_rep h n)
theorem ev_repU [Mo r] {xs : List α} {k : Int} (hT : TD T H) (ha : Ev K T ta σ H (zU r) xs) (hb : Ev K T tb σ H zI k) (hne : xs ≠ []) (h1 : 1 ≤ k) (h2 : k ≤ 1000) (hl : xs.length ≤ 1000) : Ev K T (tOp (rRepC K) ta tb) σ H (zU r) (List.replicate k.toNat xs).flatten :=
  ev_op ha hb fun x y H1 Q f h3 h4 q => by
    obtain ⟨a, vs, rfl, hs, hh⟩ := h3
    have hlen := all2_len hh
    refine ⟨a, k, vs, rfl, h4, hs.sq, fun z => hne (by rw [z] at hlen; exact List.eq_nil_of_length_eq_zero hlen.symm), h1, h2, by omega, ?_⟩
    by_cases e : k = 1
    · subst e
      refine .inl ⟨rfl, q _ H1 (Ex.refl H1) ⟨a, vs, rfl, hs, ?_⟩⟩
      show All2 (r K T H1) vs (List.replicate 1 xs).flatten
      simp only [List.replicate, List.flatten_cons, List.flatten_nil, List.append_nil]
      exact hh
    · exact .inr ⟨by omega, fun p hp => q _ _ (Ex.new hp) ⟨p, _, rfl, .new ((hT.fr f).new hp) upd_same, all2_imp (fun _ _ z => Mo.fr (Ex.new hp).fr z) (all2_rep hh _)⟩⟩
theorem ev_isB {a b : Bool} (ha : Ev K T ta σ H zB a) (hb : Ev K T tb σ H zB b) : Ev K T (tOp rIsB ta tb) σ H zB (decide (a = b)) :=
  ev_op ha hb fun x y H1 Q _ h1 h2 q => ⟨a, b, h1, h2, q _ H1 (Ex.refl H1) rfl⟩
theorem ev_notB {a b : Bool} (ha : Ev K T ta σ H zB a) (hb : Ev K T tb σ H zB b) : Ev K T (tOp rNotB ta tb) σ H zB (!decide (a = b)) :=
  ev_op ha hb fun x y H1 Q _ h1 h2 q => ⟨a, b, h1, h2, q _ H1 (Ex.refl H1) rfl⟩
/-- x is None, where what is there is told -/
class NN (r : Rp α) : Prop where
  ne : ∀ {K T H v d}, r K T H v d → v ≠ .non
instance : NN zI := ⟨fun h => by cases h; intro z; cases z⟩
instance : NN zB := ⟨fun h => by cases h; intro z; cases z⟩
instance : NN zW := ⟨fun h => by obtain ⟨rfl, _⟩ := h; intro z; cases z⟩
instance : NN (zL r) := ⟨fun h => by obtain ⟨a, vs, rfl, _⟩ := h; intro z; cases z⟩
instance : NN (zU r) := ⟨fun h => by obtain ⟨a, vs, rfl, _⟩ := h; intro z; cases z⟩
instance : NN (zQ r) := ⟨fun h => by rcases h with h | h <;> (obtain ⟨a, vs, rfl, _⟩ := h; intro z; cases z)⟩
instance : NN (zP r s) := ⟨fun h => by obtain ⟨a, x, y, rfl, _⟩ := h; intro z; cases z⟩
theorem ev_isNO [NN r] {o : Option α} (ha : Ev K T ta σ H (zO r) o) : Ev K T (tOp rIsN ta (tC .non)) σ H zB o.isNone := fun H1 f Q q => ha H1 f _ fun v H2 e2 r2 => by
  refine ⟨rfl, ?_⟩
  rcases r2 with ⟨rfl, rfl⟩ | ⟨x, rfl, hx⟩
  · exact q _ H2 e2 rfl
  · rw [decide_eq_false (NN.ne hx)]; exact q _ H2 e2 rfl
theorem ev_notNO [NN r] {o : Option α} (ha : Ev K T ta σ H (zO r) o) : Ev K T (tOp rNotN ta (tC .non)) σ H zB o.isSome := fun H1 f Q q => ha H1 f _ fun v H2 e2 r2 => by
  refine ⟨rfl, ?_⟩
  rcases r2 with ⟨rfl, rfl⟩ | ⟨x, rfl, hx⟩
  · exact q _ H2 e2 rfl
  · rw [decide_eq_false (NN.ne hx)]; exact q _ H2 e2 rfl
/-- what is there, where it is there -/
theorem ev_O {d : α} (ha : Ev K T ta σ H (zO r) (some d)) : Ev K T ta σ H r d := fun H1 f Q q => ha H1 f Q fun v H2 e2 r2 => by
  rcases r2 with ⟨_, h⟩ | ⟨x, h, hx⟩
  · cases h
  · cases h; exact q v H2 e2 hx
/-- self.f = e, of an object that is being made -/
theorem st_fld {x : Addr} {C : Addr} {dx : Addr} {fs : List (Str × V)} {f : Str} {d : α} (h : Ev K T tv σ H r d) (hx : σ[i]? = some (some (.ref x))) (hi : H x = some (.ins C dx fs)) (c : Cls K C) (n : NoAttr K C f) (hl : fs.length < 1000)
    (k : ∀ y H1 H2, Ex H H1 → r K T H1 y d → Fr (fun b => b = x) H1 H2 → H2 x = some (.ins C dx (putF f y fs)) → D.nx σ H2) : sFld K (tVar i) tv f D σ H :=
  h H (Fr.refl H) _ fun y H1 e1 r1 => ⟨.ref x, hx, x, C, dx, fs, rfl, e1 _ _ hi, c, n, hl, k y H1 _ e1 r1 (Fr.upd (.inl rfl)) upd_same⟩
theorem st_fldD {x : Addr} {C : Addr} {dx : Addr} {fs : List (Str × V)} {f : Str} (hx : σ[i]? = some (some (.ref x))) (hi : H x = some (.ins C dx fs)) (c : Cls K C) (n : NoAttr K C f) (hl : fs.length < 1000)
    (k : ∀ kk H1 H2, H kk = none → H1 = upd H kk (.dK []) → Fr (fun b => b = x) H1 H2 → H2 x = some (.ins C dx (putF f (.ref kk) fs)) → D.nx σ H2) : sFld K (tVar i) tDNewK f D σ H := fun kk hk =>
  ⟨.ref x, hx, x, C, dx, fs, rfl, by rw [upd_ne (ne_of_none hi hk)]; exact hi, c, n, hl, k kk _ _ hk rfl (Fr.upd (.inl rfl)) upd_same⟩
end
/-- __init__ of a class whose objects hold one empty table -/
def ISp (K : PySem.W.Frag) {α β : Type} (Cn : Str) (fs : List Str) (ra : Rpl α) (pre : α → Prop) (rf : Rpl β) (Fd : α → Addr → β) : Sp := fun vs H Q _ =>
  ∃ (T : AS) (a : α) (x dx : Addr) (ws : List V), TD (Tp T x) H ∧ ¬ T x ∧ vs = .ref x :: ws ∧ H x = some (.ins (He.ga K Cn) dx []) ∧ ra K (Tp T x) H ws a ∧ pre a ∧
    ∀ H' kk us, Fr (fun b => b = x) H H' → H kk = none → H' kk = some (.dK []) → H' x = some (.ins (He.ga K Cn) dx (fs.zip us)) → rf K (Tp (Tp T x) kk) H' us (Fd a kk) → Q .non H'
theorem make_v {K : PySem.W.Frag} {T : AS} {H : Hp} {α β : Type} {Cn : Str} {fs : List Str} {ra : Rpl α} {pre : α → Prop} {rf : Rpl β} {Fd : α → Addr → β} {a : α} {ws : List V} {Q : Addr → Hp → Prop} {E : XK} [MoL ra] [MoL rf] (hT : TD T H) (hr : ra K T H ws a) (hp : pre a)
    (k : ∀ p kk H2, Ex H H2 → H kk = none → H2 kk = some (.dK []) → zOb Cn fs rf K (Tp T kk) H2 (.ref p) (Fd a kk) → Q p H2) :
    ∀ x dx, H x = none → H dx = none → dx ≠ x → ISp K Cn fs ra pre rf Fd (.ref x :: ws) (upd (upd H dx (.own x)) x (.ins (He.ga K Cn) dx [])) (fun v H2 => v = .non ∧ Q x H2) E := fun x dx hx hd hne => by
  have e1 : Ex H (upd H dx (.own x)) := Ex.new hd
  have hx1 : upd H dx (.own x) x = none := by rw [upd_ne (Ne.symm hne)]; exact hx
  have e2 : Ex (upd H dx (.own x)) (upd (upd H dx (.own x)) x (.ins (He.ga K Cn) dx [])) := Ex.new hx1
  have e := e1.trans e2
  have nx : ¬ T x := hT.new hx
  refine ⟨T, a, x, dx, ws, (hT.ex e).tp upd_same, nx, rfl, upd_same, MoL.fr e.fr (MoL.lift hx hr), hp, fun H' kk us f hk hk' hx' hu => ⟨rfl, ?_⟩⟩
  have hkx : kk ≠ x := fun z => by rw [z, upd_same] at hk; cases hk
  refine k x kk H' ?_ (e.back hk) hk' ⟨x, dx, us, rfl, fun z => z.elim nx (fun z => hkx z.symm), hx', MoL.sub (fun b hb => hb.elim (fun z => .inl (.inl z)) .inr) hu⟩
  exact e.thenFr f (fun b hb => by cases hb; exact hx)
/-- a def with its arguments' form at hand -/
structure OkD (P : Program) (w : World) (K : PySem.W.Frag) (mg : Str → Option Value) (base : Heap) (k : Nat) (x : Str × Option Str) (ps : List Str) (sp : Sp) (n q : Str) (params : Arguments) (body : List Stmt) (scope : Scope) (dvs : List V) (kws : List (Str × V)) : Prop where
  ex : ∃ fd, FnOk P w K mg base CX0 k (He.fAd K x) fd ps sp ∧ FunD K n q params body scope dvs kws (He.fAd K x) fd
theorem mk_okD {P : Program} {w : World} {K : PySem.W.Frag} {mg : Str → Option Value} {base : Heap} {k : Nat} {at_ : Str × Option Str} {x qual : Str} {params : Arguments} {body : List Stmt} {scope : Scope} {dvs : List V} {kws : List (Str × V)} {N ps : List Str} {sp : Sp} {fd : FuncData}
    (F : FunD K x qual params body scope dvs kws (He.fAd K at_) fd) (S : FnScope N ps scope) (len : ∀ vs H Q E, sp vs H Q E → vs.length = ps.length)
    (hbody : ∀ (cdv : Value) (A : Around) (outer : List Env) (s : Shared) (H : Hp) (vs : List V) (Q : VK) (E : XK), Room k (A.deeper (envOfC qual scope s.heap.objs.size (He.fAd K at_) cdv)) → sp vs H Q E →
      ∃ t, PSs (cxOf CX0 P w K mg base N qual scope (He.fAd K at_) cdv A outer s H E).nox body t ∧ t { nx := fun _ H' => Q .non H', rt := Q } (start N vs) H) : OkD P w K mg base (k + 1) at_ ps sp x qual params body scope dvs kws :=
  ⟨fd, F.ok S len fun cdv A outer s H vs Q E hr h => let ⟨t, h1, h2⟩ := hbody cdv A outer s H vs Q E hr h; ⟨t, h1.nox, h2⟩, F⟩
end EB
namespace EB
open PySem PySem.Spec PyProof.Rows L2
theorem vals_app {vs ws : List V} {us zs : List Value} (h : Vals vs us) (g : Vals ws zs) : Vals (vs ++ ws) (us ++ zs) := by
  induction h with
  | nil => exact g
  | cons a _ ih => exact .cons a ih
section
variable {X : Cx} {k j n : Nat} {Cn : Str} {ps ks : List Str} {sp : Sp} {x nm q : Str} {params : Arguments} {body : List Stmt} {scope : Scope} {dkws : List (Str × V)} {p pos : Pos} {e : Expr} {es : List Expr} {kws : List Keyword} {t tk : TA}
/-- C(a, .., k = v, ..): all that __init__ takes is given, in its order -/
theorem pe_mkA (F : OkD X.prog X.w X.K X.mg X.base k (Cn, some "__init__") ps sp nm q params body scope [] dkws) (M : Mk X.K (He.ga X.K Cn) (He.ma X.K (He.ga X.K Cn) "__init__")) (hr : Room j X.A) (hk : k + 1 ≤ j) (hg : Gl X x) (hm : X.mg x = some (.ref (He.ga X.K Cn)))
    (hne : dkws ≠ []) (n : Nat) (ks : List Str)
    (hb : ∀ (D : Addr) (doc pm : Value) (an : Option Addr) (cdv ct : Value) (us ws : List Value), us.length = n + 1 → ws.length = ks.length → bindArgs (PySem.W.fnOf nm q params body scope .none (.ref D) doc pm an cdv ct) ⟨us, ks.zip ws⟩ = pure (ps.zip (us ++ ws)))
    (ha : PA X (e :: es) t) (hkw : PK X kws tk)
    (hall : (backToKw pos (keywordEach kws X.env)).all (·.1.isSome) = true := by rfl) (hks : (backToKw pos (keywordEach kws X.env)).filterMap (·.1) = ks := by rfl) (hdb : (x == ("__debug__" : Str)) = false := by decide)
    (he : starEach (e :: es) X.env = (false, eval e X.env) :: starEach es X.env := by rfl) (hpl : ((backTo pos (starEach (e :: es) X.env)).any (·.1) || (backToKw pos (keywordEach kws X.env)).any (·.1.isNone)) = false := by rfl) :
    PE X (.Call (.Name x p) (e :: es) kws pos) (tMakeK (He.ga X.K Cn) n ks.length sp (fun vs zs => vs ++ zs) E0 t tk) := by
  obtain ⟨fd, f, D⟩ := F.ex
  obtain ⟨mv, hK⟩ := D.kbinds0 (n + 1) ks [] (fun us mv ws => us ++ ws) hne (fun q h => by cases h) (fun a _ b => vals_app a b) (fun D doc pm an cdv ct us mv ws h1 h2 h3 => by
    cases mv with
    | nil => exact hb D doc pm an cdv ct us ws h1 h3
    | cons a l => cases h2)
  exact pe_makeK M f (hr.mono hk) hg hm hK pass0 ha hkw hall hks hdb he hpl
/-- C(a, ..): the keyword-only ones lack -/
theorem pe_mkB (F : OkD X.prog X.w X.K X.mg X.base k (Cn, some "__init__") ps sp nm q params body scope [] dkws) (M : Mk X.K (He.ga X.K Cn) (He.ma X.K (He.ga X.K Cn) "__init__")) (hr : Room j X.A) (hk : k + 1 ≤ j) (hg : Gl X x) (hm : X.mg x = some (.ref (He.ga X.K Cn)))
    (hne : dkws ≠ []) (n : Nat) (hn : n + 1 + dkws.length = ps.length)
    (hb : ∀ (D : Addr) (doc pm : Value) (an : Option Addr) (cdv ct : Value) (us ks : List Value), us.length = n + 1 → ks.length = dkws.length → KwChain D ((dkws.map (·.1)).zip ks) (bindArgs (PySem.W.fnOf nm q params body scope .none (.ref D) doc pm an cdv ct) ⟨us, []⟩) (ps.zip (us ++ ks)))
    (ha : PA X (e :: es) t) (hdb : (x == ("__debug__" : Str)) = false := by decide) (he : starEach (e :: es) X.env = (false, eval e X.env) :: starEach es X.env := by rfl) (hpl : (backTo pos (starEach es X.env)).any (·.1) = false := by rfl) :
    PE X (.Call (.Name x p) (e :: es) [] pos) (tMake (He.ga X.K Cn) sp (dkws.map (·.2)) E0 t) := by
  obtain ⟨fd, f, D⟩ := F.ex
  obtain ⟨ds, hd, hB⟩ := D.binds0 (n + 1) hne hn hb
  exact pe_make M f (hr.mono hk) hg hm hB hd pass0 ha hdb he hpl
end
end EB
namespace EB
open PySem PySem.Spec PyProof.Rows L2
theorem all2_reverse {α β : Type} {F : α → β → Prop} {xs : List α} {ys : List β} (h : All2 F xs ys) : All2 F xs.reverse ys.reverse := by
  induction h with
  | nil => exact .nil
  | cons a _ ih => rw [List.reverse_cons, List.reverse_cons]; exact all2_app ih (.cons a .nil)
section
variable {K : PySem.W.Frag} {T S : AS} {σ : L2.St} {H : Hp} {α : Type} {r : Rp α} {xs : List α} {p : Addr} {i : Nat} {D : Ends}
theorem st_reverse [Mo r] (hv : σ[i]? = some (some (.ref p))) (m : HM r K T H p xs) (k : ∀ H2 v, H2 = upd H p v → Fr (Tp S p) H H2 → Fr T H H2 → HM r K T H2 p xs.reverse → D.nx σ H2) : tDrop (tBM0 K "list" rReverse (tVar i)) D σ H := by
  obtain ⟨vs, h1, h2⟩ := m.ex
  have f : Fr T H (upd H p (.lst vs.reverse)) := Fr.upd (.inl m.mem)
  exact ⟨.ref p, hv, .inl ⟨rfl, vs, .inl (.inl h1)⟩, p, vs, rfl, rfl, h1, k _ _ rfl (Fr.upd (.inl (.inr rfl))) f ⟨m.mem, _, upd_same, all2_imp (fun _ _ z => Mo.fr f z) (all2_reverse h2)⟩⟩
end
/-- a new tape is made -/
def TSp (K : PySem.W.Frag) : Sp := fun vs H Q _ => ∃ (T : AS) (v : V) (ns : List Int), TD T H ∧ vs = [v] ∧ zL zI K T H v ns ∧ ns.length ≤ 63 ∧ ∀ ta tg H', Ex H H' → H ta = none → H tg = none → TpI (ta, tg) 1000000000 H' → Q (.ref ta) H'
theorem ab_nn (i : Int) : 0 ≤ ab i := by unfold ab; split <;> omega
end EB
namespace EB
open PySem PySem.Spec PyProof.Rows L2
/-- what holds no list is the same where lists may change -/
class Li {α : Type} (r : Rp α) : Prop where
  up : ∀ {K T T1 H v a}, (∀ b, T b → T1 b ∨ ∃ xs, H b = some (.lst xs)) → r K T1 H v a → r K T H v a
class LiL {α : Type} (r : Rpl α) : Prop where
  up : ∀ {K T T1 H v a}, (∀ b, T b → T1 b ∨ ∃ xs, H b = some (.lst xs)) → r K T1 H v a → r K T H v a
instance : Li zI := ⟨fun _ h => h⟩
instance : Li zB := ⟨fun _ h => h⟩
instance : Li zW := ⟨fun _ h => h⟩
instance : Li zN := ⟨fun _ h => h⟩
instance : Li zA := ⟨fun _ h => h⟩
instance {α : Type} {r : Rp α} [Li r] : Li (zU r) := ⟨fun {K T T1 H v d} f h => by
  obtain ⟨a, vs, e, hs, hh⟩ := h
  refine ⟨a, vs, e, ?_, all2_imp (fun _ _ z => Li.up f z) hh⟩
  rcases hs with ⟨n, h⟩ | h
  · refine .inl ⟨fun t => ?_, h⟩
    rcases f a t with z | ⟨xs, z⟩
    · exact n z
    · rcases h with h | ⟨o, h⟩
      · rw [z] at h; cases h
      · rw [z] at h; cases h
  · exact .inr h⟩
instance : LiL aN := ⟨fun _ h => h⟩
instance {α β : Type} {r : Rp α} {s : Rpl β} [Li r] [LiL s] : LiL (aC r s) := ⟨fun f ⟨v, ws, e, h, q⟩ => ⟨v, ws, e, Li.up f h, LiL.up f q⟩⟩
instance {Cn : Str} {fs : List Str} {α : Type} {ra : Rpl α} [LiL ra] : Li (zOb Cn fs ra) := ⟨fun {K T T1 H v d} f h => by
  obtain ⟨p, dx, vs, e, n, h, q⟩ := h
  refine ⟨p, dx, vs, e, fun t => ?_, h, LiL.up f q⟩
  rcases f p t with z | ⟨xs, z⟩
  · exact n z
  · rw [z] at h; cases h⟩
section
variable {K : PySem.W.Frag} {T : AS} {σ : L2.St} {H : Hp} {α β γ δ : Type} {r : Rp α} {s : Rp β} {t : Rp γ} {te : TE} {tr : TA} {Q : VK} {v : V} {E : XK}
theorem ev_hmL [Mo r] {p : Addr} {xs : List α} (h : Ev K T te σ H zA p) (m : zL r K T H (.ref p) xs) : Ev K T te σ H (zL r) xs := fun H1 f Q q => h H1 f Q fun v H2 e r2 => by
  cases r2; exact q _ H2 e (Mo.fr (f.trans e.fr) m)
theorem ev_hA30 {d : Addr × Addr × Addr × Unit} (h : Ev K T te σ H (zH (aC zA (aC zA (aC zA aN)))) d) : Ev K T (tOp (rIxL K) te (tC (.int 0))) σ H zA d.1 := ev_ixH h ev_int fun H1 vs hr => by
  obtain ⟨_, _, rfl, h1, _, _, rfl, h2, _, _, rfl, h3, rfl⟩ := hr
  exact ⟨_, rfl, h1⟩
theorem ev_hA31 {d : Addr × Addr × Addr × Unit} (h : Ev K T te σ H (zH (aC zA (aC zA (aC zA aN)))) d) : Ev K T (tOp (rIxL K) te (tC (.int 1))) σ H zA d.2.1 := ev_ixH h ev_int fun H1 vs hr => by
  obtain ⟨_, _, rfl, h1, _, _, rfl, h2, _, _, rfl, h3, rfl⟩ := hr
  exact ⟨_, rfl, h2⟩
theorem ev_hA32 {d : Addr × Addr × Addr × Unit} (h : Ev K T te σ H (zH (aC zA (aC zA (aC zA aN)))) d) : Ev K T (tOp (rIxL K) te (tC (.int 2))) σ H zA d.2.2.1 := ev_ixH h ev_int fun H1 vs hr => by
  obtain ⟨_, _, rfl, h1, _, _, rfl, h2, _, _, rfl, h3, rfl⟩ := hr
  exact ⟨_, rfl, h3⟩
theorem up3 {p q u : Addr} {x : List α} {y : List β} {z : List γ} (h : zH (aC zA (aC zA (aC zA aN))) K T H v (p, q, u, ())) (m0 : zL r K T H (.ref p) x) (m1 : zL s K T H (.ref q) y) (m2 : zL t K T H (.ref u) z) : zH (aC (zL r) (aC (zL s) (aC (zL t) aN))) K T H v (x, y, z, ()) := by
  obtain ⟨a, vs, e, hs, _, _, rfl, h1, _, _, rfl, h2, _, _, rfl, h3, rfl⟩ := h
  cases h1; cases h2; cases h3
  exact ⟨a, _, e, hs, _, _, rfl, m0, _, _, rfl, m1, _, _, rfl, m2, rfl⟩
theorem ev_lstH {ra : Rpl α} [MoL ra] {d : α} (hT : TD T H) (h : EvA K T tr σ H ra d) (hl : ∀ H vs, ra K T H vs d → vs.length ≤ 1000) : Ev K T (tLst tr) σ H (zH ra) d := fun H1 f Q q => h H1 f _ fun vs H2 e2 r2 =>
  ⟨by have := hl H2 vs r2; rw [sizeLine_eq]; omega, fun p hp => q _ _ (e2.trans (Ex.new hp)) ⟨p, vs, rfl, .new (((hT.fr f).ex e2).new hp) upd_same, MoL.fr (Ex.new hp).fr r2⟩⟩
theorem tape_v {ns : List Int} (hT : TD T H) (hr : zL zI K T H v ns) (hl : ns.length ≤ 63) (k : ∀ ta tg H', Ex H H' → H ta = none → H tg = none → TpI (ta, tg) 1000000000 H' → Q (.ref ta) H') : TSp K ([v] ++ []) H Q E := ⟨T, v, ns, hT, rfl, hr, hl, k⟩
theorem mkK_open {C : Addr} {n m : Nat} {sp : Sp} {gV : List V → List V → List V} {t tk : TA} (h : t σ H fun vs H1 => tk σ H1 fun zs H2 => vs.length = n ∧ zs.length = m ∧ ∀ x dx, H2 x = none → H2 dx = none → dx ≠ x → sp (gV (.ref x :: vs) zs) (upd (upd H2 dx (.own x)) x (.ins C dx [])) (fun v H3 => v = .non ∧ Q (.ref x) H3) E) : tMakeK C n m sp gV E t tk σ H Q := h
theorem mk_open {C : Addr} {sp : Sp} {dvs : List V} {t : TA} (h : t σ H fun vs H1 => ∀ x dx, H1 x = none → H1 dx = none → dx ≠ x → sp (.ref x :: (vs ++ dvs)) (upd (upd H1 dx (.own x)) x (.ins C dx [])) (fun v H2 => v = .non ∧ Q (.ref x) H2) E) : tMake C sp dvs E t σ H Q := h
end
theorem memo_new {α : Type} {a : Addr} {kf : α → Key} {U : List α} {ok : α → Int → Prop} {n : Nat} {H : Hp} (h : H a = some (.dK [])) (inj : ∀ x y, kf x = kf y → x = y) (few : U.length ≤ 1000000) : MmI a kf U ok n H :=
  ⟨inj, few, [], h, List.nodup_nil, fun q hq => by cases hq⟩
end EB

set_option Elab.async false
set_option linter.all false
set_option maxRecDepth 100000
set_option maxHeartbeats 4000000
/-! EB, second layer: what is known is packed; mirrors that may have no answer. -/
namespace EB
open PySem PySem.Spec PyProof.Rows L2

/-! ### facts, cells -/
structure Fact (K : PySem.W.Frag) where
  P : AS → Hp → Prop
  st : ∀ {T H T' H'}, Wd T H T' H' → P T H → P T' H'
@[reducible] def fR {K : PySem.W.Frag} {α : Type} (r : Rp α) [Mo r] (v : V) (d : α) : Fact K := ⟨fun T H => r K T H v d, fun w h => Mo.wd w h⟩
@[reducible] def fL {K : PySem.W.Frag} {α : Type} (r : Rpl α) [MoL r] (v : List V) (d : α) : Fact K := ⟨fun T H => r K T H v d, fun w h => MoL.wd w h⟩
structure Cel (K : PySem.W.Frag) where
  own : List Addr
  P : AS → Hp → Prop
  st : ∀ {T H T' H'}, Wd T H T' H' → (∀ a ∈ own, H' a = H a) → P T H → P T' H'
/-- a list of ours -/
@[reducible] def cL {K : PySem.W.Frag} {α : Type} (r : Rp α) [Mo r] (p : Addr) (xs : List α) : Cel K :=
  ⟨[p], fun T H => ∃ vs, H p = some (.lst vs) ∧ All2 (r K T H) vs xs, fun w h ⟨vs, h1, h2⟩ => ⟨vs, by rw [h p (by simp)]; exact h1, all2_imp (fun _ _ z => Mo.wd w z) h2⟩⟩
/-- an object of ours, as it stands -/
@[reducible] def cV {K : PySem.W.Frag} (p : Addr) (o : HO) : Cel K := ⟨[p], fun _ H => H p = some o, fun _ h h1 => by rw [h p (by simp)]; exact h1⟩
/-- two in one -/
@[reducible] def cM {K : PySem.W.Frag} (c d : Cel K) : Cel K := ⟨c.own ++ d.own, fun T H => c.P T H ∧ d.P T H, fun w h q => ⟨c.st w (fun a ha => h a (List.mem_append_left _ ha)) q.1, d.st w (fun a ha => h a (List.mem_append_right _ ha)) q.2⟩⟩
structure Bs where
  T : AS
  W : List Addr
  H : Hp
def owns {K : PySem.W.Frag} (cs : List (Cel K)) : List Addr := (cs.map (·.own)).flatten
structure En (K : PySem.W.Frag) (b : Bs) (fs : List (Fact K)) (cs : List (Cel K)) (T : AS) (H : Hp) : Prop where
  btd : TD b.T b.H
  sup : ∀ a, b.T a → T a
  td : TD T H
  wd : Wd b.T b.H T H
  fr : Fr (fun a => a ∈ b.W) b.H H
  fac : ∀ (k : Nat) (f : Fact K), fs[k]? = some f → f.P T H
  cel : ∀ c ∈ cs, c.P T H ∧ ∀ a ∈ c.own, T a ∧ (a ∈ b.W ∨ b.H a = none)
  dis : (owns cs).Nodup
section
variable {K : PySem.W.Frag} {b : Bs} {fs : List (Fact K)} {cs : List (Cel K)} {T T' : AS} {H H' : Hp} {α β γ : Type} {r : Rp α} {s : Rp β}
theorem En.at (E : En K b fs cs T H) {f : Fact K} (k : Nat) (h : fs[k]? = some f) : f.P T H := E.fac k f h
theorem En.c (E : En K b fs cs T H) {c : Cel K} (k : Nat) (h : cs[k]? = some c) : c.P T H := (E.cel c (List.mem_of_getElem? h)).1
theorem En.ex (E : En K b fs cs T H) (e : Ex H H') : En K b fs cs T H' where
  btd := E.btd
  sup := E.sup
  td := E.td.ex e
  wd := E.wd.trans (Wd.ex e)
  fr := E.fr.trans e.fr
  fac k f h := f.st (Wd.ex e) (E.fac k f h)
  cel c h := ⟨c.st (Wd.ex e) (fun a ha => by
    obtain ⟨o, ho⟩ := E.td a ((E.cel c h).2 a ha).1
    rw [ho, e a o ho]) (E.cel c h).1, (E.cel c h).2⟩
  dis := E.dis
theorem En.add {f : Fact K} (E : En K b fs cs T H) (h : f.P T H) : En K b (f :: fs) cs T H where
  btd := E.btd
  sup := E.sup
  td := E.td
  wd := E.wd
  fr := E.fr
  fac k f' h' := by
    cases k with
    | zero => cases h'; exact h
    | succ k => exact E.fac k f' (by simpa using h')
  cel := E.cel
  dis := E.dis
/-- other facts, fewer cells -/
def Fcs {K : PySem.W.Frag} (T : AS) (H : Hp) : List (Fact K) → Prop
  | [] => True
  | f :: r => f.P T H ∧ Fcs T H r
theorem Fcs.get {T : AS} {H : Hp} : ∀ {fs : List (Fact K)}, Fcs T H fs → ∀ (k : Nat) (f : Fact K), fs[k]? = some f → f.P T H
  | [], _, k, f, e => by simp at e
  | f :: r, h, 0, g, e => by simp at e; subst e; exact h.1
  | f :: r, h, k + 1, g, e => Fcs.get h.2 k g (by simpa using e)
theorem En.facts {fs' : List (Fact K)} (E : En K b fs cs T H) (h : Fcs T H fs') : En K b fs' cs T H := ⟨E.btd, E.sup, E.td, E.wd, E.fr, h.get, E.cel, E.dis⟩
theorem sub_flat {α : Type} {l l' : List (List α)} (h : l.Sublist l') : l.flatten.Sublist l'.flatten := by
  induction h with
  | slnil => exact List.Sublist.refl _
  | cons a _ ih => rw [List.flatten_cons]; exact ih.trans (List.sublist_append_right _ _)
  | cons_cons a _ ih => rw [List.flatten_cons, List.flatten_cons]; exact List.Sublist.append (List.Sublist.refl _) ih
theorem En.cells {cs' : List (Cel K)} (E : En K b fs cs T H) (h : cs'.Sublist cs) : En K b fs cs' T H :=
  ⟨E.btd, E.sup, E.td, E.wd, E.fr, E.fac, fun c hc => E.cel c (h.subset hc), (sub_flat (h.map (fun c : Cel K => c.own))).nodup (show ((cs.map fun c : Cel K => c.own).flatten).Nodup from E.dis)⟩
/-- runs -/
theorem En.run [Mo r] {te : TE} {σ : L2.St} {d : α} {Q : VK} (E : En K b fs cs T H) (h : Ev K T te σ H r d) (k : ∀ v H', En K b (fR r v d :: fs) cs T H' → Q v H') : te σ H Q :=
  h H (Fr.refl H) Q fun v H' e q => k v H' ((E.ex e).add q)
theorem En.runA {ra : Rpl α} [MoL ra] {tr : TA} {σ : L2.St} {d : α} {Q : List V → Hp → Prop} (E : En K b fs cs T H) (h : EvA K T tr σ H ra d) (k : ∀ v H', En K b (fL ra v d :: fs) cs T H' → Q v H') : tr σ H Q :=
  h H (Fr.refl H) Q fun v H' e q => k v H' ((E.ex e).add q)
theorem En.test {tt : TT} {σ : L2.St} {d : Bool} {Q : Bool → Hp → Prop} (E : En K b fs cs T H) (h : EvT T tt σ H d) (k : ∀ H', En K b fs cs T H' → Q d H') : tt σ H Q :=
  h H (Fr.refl H) Q fun H' e => k H' (E.ex e)
/-- a new cell -/
theorem En.newc {c : Cel K} {T' : AS} (E : En K b fs cs T H) (w : Wd T H T' H') (e : Ex H H') (sub : ∀ b, T b → T' b) (td : TD T' H') (hc : c.P T' H') (ho : ∀ a ∈ c.own, H a = none ∧ T' a) (hn : c.own.Nodup) : En K b fs (c :: cs) T' H' where
  btd := E.btd
  sup := fun a h => sub a (E.sup a h)
  td := td
  wd := E.wd.trans w
  fr := E.fr.trans e.fr
  fac k f h := f.st w (E.fac k f h)
  cel c' h := by
    rcases List.mem_cons.mp h with rfl | h
    · exact ⟨hc, fun a ha => ⟨(ho a ha).2, .inr (E.fr.back (ho a ha).1)⟩⟩
    · refine ⟨c'.st w (fun a ha => ?_) (E.cel c' h).1, fun a ha => ⟨sub a ((E.cel c' h).2 a ha).1, ((E.cel c' h).2 a ha).2⟩⟩
      obtain ⟨o, ho⟩ := E.td a ((E.cel c' h).2 a ha).1
      rw [ho, e a o ho]
  dis := by
    unfold owns
    rw [List.map_cons, List.flatten_cons, List.nodup_append]
    refine ⟨hn, E.dis, fun a ha x hx z => ?_⟩
    subst z
    rw [List.mem_flatten] at hx
    obtain ⟨l, hl, hal⟩ := hx
    rw [List.mem_map] at hl
    obtain ⟨c', hc', rfl⟩ := hl
    obtain ⟨o, h1⟩ := E.td a ((E.cel c' hc').2 a hal).1
    rw [(ho a ha).1] at h1
    cases h1
theorem En.newL [Mo r] {te : TE} {σ : L2.St} {xs : List α} {Q : VK} (E : En K b fs cs T H) (h : EvF K T te σ H r xs) (k : ∀ p H', En K b (fR zA (.ref p) p :: fs) (cL r p xs :: cs) (Tp T p) H' → Q (.ref p) H') : te σ H Q :=
  h H (Fr.refl H) Q fun p H2 H3 e2 n f e3 m => by
    have E2 := E.ex e2
    obtain ⟨vs, h1, h2⟩ := m.ex
    refine k p H3 (En.add (E2.newc (c := cL r p xs) (T' := Tp T p) ⟨e3.fr, fun b t => t.elim .inl fun z => .inr (z ▸ n)⟩ e3 (fun b h => .inl h) ((E2.td.ex e3).tp h1) ⟨vs, h1, h2⟩ (fun a ha => ?_) (by simp)) rfl)
    simp only [List.mem_singleton] at ha
    subst ha
    exact ⟨n, .inr rfl⟩
/-- a cell changes -/
theorem nd_mem {cs : List (Cel K)} {k : Nat} {c c' : Cel K} {a : Addr} (hd : (cs.map (·.own)).flatten.Nodup) (h : cs[k]? = some c) {j : Nat} (h' : cs[j]? = some c') (ha : a ∈ c.own) (ha' : a ∈ c'.own) : k = j := by
  induction cs generalizing k j with
  | nil => simp at h
  | cons x cs ih =>
    rw [List.map_cons, List.flatten_cons, List.nodup_append] at hd
    obtain ⟨_, h2, h3⟩ := hd
    have key : ∀ {i : Nat} {d : Cel K}, cs[i]? = some d → a ∈ d.own → a ∈ (cs.map (·.own)).flatten := fun {i d} hi hd => List.mem_flatten.mpr ⟨d.own, List.mem_map.mpr ⟨d, List.mem_of_getElem? hi, rfl⟩, hd⟩
    cases k with
    | zero =>
      simp at h
      subst h
      cases j with
      | zero => rfl
      | succ j => exact absurd rfl (h3 a ha a (key (by simpa using h') ha'))
    | succ k =>
      cases j with
      | zero =>
        simp at h'
        subst h'
        exact absurd rfl (h3 a ha' a (key (by simpa using h) ha))
      | succ j => exact congrArg (· + 1) (ih h2 (by simpa using h) (by simpa using h'))
theorem own_set {cs : List (Cel K)} {k : Nat} {c c' : Cel K} (h : cs[k]? = some c) (ho : c'.own = c.own) : (cs.set k c').map (·.own) = cs.map (·.own) := by
  induction cs generalizing k with
  | nil => rfl
  | cons x cs ih =>
    cases k with
    | zero => simp at h; subst h; simp [ho]
    | succ k => simp only [List.set_cons_succ, List.map_cons]; rw [ih (by simpa using h)]
theorem En.chg {c c' : Cel K} (E : En K b fs cs T H) (k : Nat) (hk : cs[k]? = some c) (f : Fr (fun a => a ∈ c.own) H H') (hc : c'.P T H') (ho : c'.own = c.own) : En K b fs (cs.set k c') T H' := by
  have hcel := (E.cel c (List.mem_of_getElem? hk)).2
  have fT : Fr T H H' := f.mono fun a ha => (hcel a ha).1
  refine ⟨E.btd, E.sup, E.td.fr f, E.wd.trans (Wd.of fT), E.fr.thenFr f (fun a ha => (hcel a ha).2), fun j g h => g.st (Wd.of fT) (E.fac j g h), fun d hd => ?_, by unfold owns; rw [own_set hk ho]; exact E.dis⟩
  obtain ⟨j, hj⟩ := List.mem_iff_getElem?.mp hd
  rw [List.getElem?_set] at hj
  by_cases hne : k = j
  · rw [if_pos hne] at hj
    split at hj
    · cases hj
      exact ⟨hc, fun a ha => hcel a (ho ▸ ha)⟩
    · cases hj
  · rw [if_neg hne] at hj
    have hm := List.mem_of_getElem? hj
    refine ⟨d.st (Wd.of fT) (fun a ha => ?_) (E.cel d hm).1, (E.cel d hm).2⟩
    obtain ⟨o, h1⟩ := E.td a ((E.cel d hm).2 a ha).1
    rw [h1]
    exact f.keep a o (fun z => hne (nd_mem E.dis hk hj z ha)) h1
/-- as it stands: nothing changes but the way it is told -/
theorem En.retell {c c' : Cel K} (E : En K b fs cs T H) (k : Nat) (hk : cs[k]? = some c) (hc : c.P T H → c'.P T H) (ho : c'.own = c.own) : En K b fs (cs.set k c') T H :=
  E.chg k hk (Fr.refl H) (hc (E.c k hk)) ho
/-- one cell is two -/
theorem En.split {c d : Cel K} (E : En K b fs (cM c d :: cs) T H) : En K b fs (c :: d :: cs) T H := by
  have h := E.cel (cM c d) List.mem_cons_self
  refine ⟨E.btd, E.sup, E.td, E.wd, E.fr, E.fac, fun x hx => ?_, ?_⟩
  · rcases List.mem_cons.mp hx with rfl | hx
    · exact ⟨h.1.1, fun a ha => h.2 a (List.mem_append_left _ ha)⟩
    · rcases List.mem_cons.mp hx with rfl | hx
      · exact ⟨h.1.2, fun a ha => h.2 a (List.mem_append_right _ ha)⟩
      · exact E.cel x (List.mem_cons_of_mem _ hx)
  · have := E.dis
    simp only [owns, List.map_cons, List.flatten_cons, List.append_assoc] at this ⊢
    exact this
theorem En.merge {c d : Cel K} (E : En K b fs (c :: d :: cs) T H) : En K b fs (cM c d :: cs) T H := by
  have h := E.cel c List.mem_cons_self
  have h' := E.cel d (List.mem_cons_of_mem _ List.mem_cons_self)
  refine ⟨E.btd, E.sup, E.td, E.wd, E.fr, E.fac, fun x hx => ?_, ?_⟩
  · rcases List.mem_cons.mp hx with rfl | hx
    · exact ⟨⟨h.1, h'.1⟩, fun a ha => (List.mem_append.mp ha).elim (h.2 a) (h'.2 a)⟩
    · exact E.cel x (List.mem_cons_of_mem _ (List.mem_cons_of_mem _ hx))
  · have := E.dis
    simp only [owns, List.map_cons, List.flatten_cons, List.append_assoc] at this ⊢
    exact this
/-- a cell comes to the front -/
theorem erase_perm {α : Type} : ∀ {cs : List α} {k : Nat} {c : α}, cs[k]? = some c → (c :: cs.eraseIdx k).Perm cs
  | [], _, _, h => by simp at h
  | x :: cs, 0, c, h => by simp at h; subst h; exact List.Perm.refl _
  | x :: cs, k + 1, c, h => by
    have := erase_perm (cs := cs) (k := k) (c := c) (by simpa using h)
    exact (List.Perm.swap x c _).trans (this.cons x)
theorem En.front {c : Cel K} (E : En K b fs cs T H) (k : Nat) (hk : cs[k]? = some c) : En K b fs (c :: cs.eraseIdx k) T H := by
  have hp : (c :: cs.eraseIdx k).Perm cs := erase_perm hk
  refine ⟨E.btd, E.sup, E.td, E.wd, E.fr, E.fac, fun x hx => E.cel x (hp.subset hx), ?_⟩
  exact (hp.map _).flatten.nodup_iff.mpr E.dis
/-- a list is done -/
def Td (T : AS) (p : Addr) : AS := fun b => T b ∧ b ≠ p
theorem En.freeze [Mo r] {p : Addr} {xs : List α} (E : En K b fs (cL r p xs :: cs) T H) (hW : ∀ a ∈ b.W, a ∈ owns cs) : En K b (fR (zL r) (.ref p) xs :: fs) cs (Td T p) H := by
  have w : Wd T H (Td T p) H := Wd.sub fun _ h => h.1
  obtain ⟨⟨vs, h1, h2⟩, h3⟩ := E.cel _ List.mem_cons_self
  have hd := E.dis
  unfold owns at hd
  rw [List.map_cons, List.flatten_cons, List.nodup_append] at hd
  have hp : ¬ b.T p := fun z => by
    rcases (h3 p (by simp)).2 with h | h
    · exact hd.2.2 p (by simp) p (hW p h) rfl
    · obtain ⟨o, ho⟩ := E.btd p z
      rw [ho] at h; cases h
  refine En.add ⟨E.btd, fun a h => ⟨E.sup a h, fun z => hp (z ▸ h)⟩, E.td.sub fun _ h => h.1, E.wd.trans w, E.fr, fun k g h => g.st w (E.fac k g h), fun c hc => ?_, hd.2.1⟩ ?_
  · have hc' := E.cel c (List.mem_cons_of_mem _ hc)
    refine ⟨c.st w (fun _ _ => rfl) hc'.1, fun a ha => ⟨⟨(hc'.2 a ha).1, fun z => ?_⟩, (hc'.2 a ha).2⟩⟩
    subst z
    exact hd.2.2 a (by simp) a (List.mem_flatten.mpr ⟨c.own, List.mem_map.mpr ⟨c, hc, rfl⟩, ha⟩) rfl
  · exact ⟨p, vs, rfl, .new (fun z => z.2 rfl) h1, all2_imp (fun _ _ z => Mo.wd w z) h2⟩
/-- bases -/
theorem mem_owns {c : Cel K} {a : Addr} (hc : c ∈ cs) (ha : a ∈ c.own) : a ∈ owns cs := List.mem_flatten.mpr ⟨c.own, List.mem_map.mpr ⟨c, hc, rfl⟩, ha⟩
theorem owns_mem {a : Addr} (h : a ∈ owns cs) : ∃ c ∈ cs, a ∈ c.own := by
  obtain ⟨l, hl, ha⟩ := List.mem_flatten.mp h
  obtain ⟨c, hc, rfl⟩ := List.mem_map.mp hl
  exact ⟨c, hc, ha⟩
theorem En.rebase (E : En K b fs cs T H) : En K ⟨T, owns cs, H⟩ fs cs T H :=
  ⟨E.td, fun _ h => h, E.td, Wd.refl, Fr.refl H, E.fac, fun c hc => ⟨(E.cel c hc).1, fun a ha => ⟨((E.cel c hc).2 a ha).1, .inl (mem_owns hc ha)⟩⟩, E.dis⟩
theorem En.back {fs' : List (Fact K)} {cs' : List (Cel K)} (E : En K b fs cs T H) (E' : En K ⟨T, owns cs, H⟩ fs' cs' T' H') : En K b fs' cs' T' H' :=
  ⟨E.btd, fun a h => E'.sup a (E.sup a h), E'.td, E.wd.trans E'.wd, E.fr.thenFr E'.fr (fun a h => let ⟨c, hc, ha⟩ := owns_mem h; ((E.cel c hc).2 a ha).2), E'.fac, fun c hc => ⟨(E'.cel c hc).1, fun a ha => ⟨((E'.cel c hc).2 a ha).1, by
    rcases ((E'.cel c hc).2 a ha).2 with h | h
    · obtain ⟨c1, h1, h2⟩ := owns_mem h
      exact ((E.cel c1 h1).2 a h2).2
    · exact .inr (E.fr.back h)⟩⟩, E'.dis⟩
/-- where a def begins, where it hands back -/
theorem En.start {T : AS} {H : Hp} {fs : List (Fact K)} (td : TD T H) (h : Fcs T H fs) : En K ⟨T, [], H⟩ fs [] T H :=
  ⟨td, fun _ h => h, td, Wd.refl, Fr.refl H, h.get, fun c hc => (by cases hc), (by simp [owns])⟩
theorem En.start1 {T : AS} {H : Hp} {fs : List (Fact K)} {c : Cel K} (td : TD T H) (h : Fcs T H fs) (hc : c.P T H) (ho : ∀ a ∈ c.own, T a) (hn : c.own.Nodup) : En K ⟨T, c.own, H⟩ fs [c] T H :=
  ⟨td, fun _ h => h, td, Wd.refl, Fr.refl H, h.get, fun c' hc' => by rw [List.mem_singleton] at hc'; subst hc'; exact ⟨hc, fun a ha => ⟨ho a ha, .inl ha⟩⟩, by simpa [owns] using hn⟩
theorem En.isEx {T0 : AS} {H0 : Hp} (E : En K ⟨T0, [], H0⟩ fs cs T H) : Ex H0 H := E.fr.ex fun _ h => by cases h
theorem En.out {v : V} {d : α} [Mo r] (E : En K b fs cs T H) (h : r K T H v d) : r K b.T H v d := Mo.wd (Wd.sub E.sup) h
theorem En.outc {c : Cel K} (E : En K b fs cs T H) (k : Nat) (h : cs[k]? = some c) : c.P b.T H := c.st (Wd.sub E.sup) (fun _ _ => rfl) (E.c k h)
end
end EB

set_option Elab.async false
set_option linter.all false
set_option maxRecDepth 100000
set_option maxHeartbeats 4000000
/-! EB, second layer: promises whose mirrors may have no answer; loops; lists of ours. -/
namespace EB
open PySem PySem.Spec PyProof.Rows L2

/-! ### answers that may be lacking -/
theorem bnd {α β : Type} {o : Option α} {f : α → Option β} {r : β} (h : o.bind f = some r) : ∃ a, o = some a ∧ f a = some r := by
  cases o with
  | none => cases h
  | some a => exact ⟨a, rfl, h⟩
def grd (c : Prop) [Decidable c] : Option Unit := if c then some () else none
theorem grd_ok {c : Prop} [Decidable c] {u : Unit} (h : grd c = some u) : c := by
  unfold grd at h
  split at h
  · assumption
  · cases h
theorem grd_some {c : Prop} [Decidable c] (h : c) : grd c = some () := if_pos h
def forO {α ρ S : Type} (f : S → α → Option (Out ρ S)) : S → List α → Option (Out ρ S)
  | s, [] => some (.nx s)
  | s, x :: xs => (f s x).bind fun o => match o with
    | .nx s' => forO f s' xs
    | .brk s' => some (.nx s')
    | .ret r => some (.ret r)
def forP {α S : Type} (f : S → α → Option S) : S → List α → Option S
  | s, [] => some s
  | s, x :: xs => (f s x).bind fun s' => forP f s' xs
def mapO {α β : Type} (f : α → Option β) : List α → Option (List β)
  | [] => some []
  | x :: xs => (f x).bind fun y => (mapO f xs).bind fun ys => some (y :: ys)
def mapS {α β S : Type} (f : S → α → Option (β × S)) : S → List α → Option (List β × S)
  | s, [] => some ([], s)
  | s, x :: xs => (f s x).bind fun p => (mapS f p.2 xs).bind fun q => some (p.1 :: q.1, q.2)
theorem mapO_mem {α β : Type} {f : α → Option β} : ∀ {xs : List α} {ys : List β}, mapO f xs = some ys → xs.map f = ys.map some
  | [], ys, h => by cases h; rfl
  | x :: xs, ys, h => by
    obtain ⟨y, h1, h⟩ := bnd h
    obtain ⟨zs, h2, h⟩ := bnd h
    cases h
    rw [List.map_cons, List.map_cons, h1, mapO_mem h2]
theorem mapO_get {α β : Type} {f : α → Option β} {xs : List α} {ys : List β} (h : mapO f xs = some ys) {x : α} (hx : x ∈ xs) : ∃ y, f x = some y := by
  have : f x ∈ xs.map f := List.mem_map.mpr ⟨x, hx, rfl⟩
  rw [mapO_mem h] at this
  obtain ⟨y, _, e⟩ := List.mem_map.mp this
  exact ⟨y, e.symm⟩
theorem mapS_take {α β S : Type} {f : S → α → Option (β × S)} : ∀ {xs : List α} {s s1 : S} {ys : List β}, mapS f s xs = some (ys, s1) → ∀ i, i < xs.length → ∃ s' y s'' x, xs[i]? = some x ∧ mapS f s (xs.take i) = some (ys.take i, s') ∧ f s' x = some (y, s'') ∧ mapS f s (xs.take (i + 1)) = some (ys.take (i + 1), s'') ∧ ys.take (i + 1) = ys.take i ++ [y]
  | [], s, s1, ys, h, i, hi => by simp at hi
  | x :: xs, s, s1, ys, h, i, hi => by
    obtain ⟨⟨y, s2⟩, h1, h⟩ := bnd h
    obtain ⟨⟨zs, s3⟩, h2, h⟩ := bnd h
    cases h
    cases i with
    | zero => exact ⟨s, y, s2, x, rfl, rfl, h1, by simp [mapS, h1], rfl⟩
    | succ i =>
      obtain ⟨s', y', s'', x', e1, e2, e3, e4, e5⟩ := mapS_take h2 i (by simpa using hi)
      refine ⟨s', y', s'', x', by simpa using e1, ?_, e3, ?_, ?_⟩
      · simp only [List.take_succ_cons, mapS]; rw [h1]; simp only [Option.bind_some]; rw [e2]; rfl
      · simp only [List.take_succ_cons, mapS]; rw [h1]; simp only [Option.bind_some]; rw [e4]; rfl
      · simp only [List.take_succ_cons, List.cons_append]; rw [e5]
theorem mapS_len {α β S : Type} {f : S → α → Option (β × S)} : ∀ {xs : List α} {s s1 : S} {ys : List β}, mapS f s xs = some (ys, s1) → ys.length = xs.length
  | [], s, s1, ys, h => by cases h; rfl
  | x :: xs, s, s1, ys, h => by
    obtain ⟨⟨y, s2⟩, h1, h⟩ := bnd h
    obtain ⟨⟨zs, s3⟩, h2, h⟩ := bnd h
    cases h
    simp [mapS_len h2]

/-! ### promises -/
def FSp (K : PySem.W.Frag) {α β : Type} (ra : Rpl α) (r : Rp β) (m : α → Option β) : Sp := fun vs H Q _ =>
  ∃ (T : AS) (a : α) (d : β), TD T H ∧ ra K T H vs a ∧ m a = some d ∧ ∀ v H', Ex H H' → r K T H' v d → Q v H'
def GSp (K : PySem.W.Frag) {α S β : Type} (ra : Rpl α) (c : α → S → Cel K) (r : Rp β) (m : α → S → Option (β × S)) : Sp := fun vs H Q _ =>
  ∃ (T : AS) (a : α) (s : S) (d : β) (s' : S), TD T H ∧ ra K T H vs a ∧ (c a s).P T H ∧ (∀ x ∈ (c a s).own, T x) ∧ (c a s).own.Nodup ∧ m a s = some (d, s') ∧
    ∀ v H', Fr (fun x => x ∈ (c a s).own) H H' → (c a s').P T H' → r K T H' v d → Q v H'
/-- a promise of something new that is ours to change -/
def NewSp (K : PySem.W.Frag) {α ι S : Type} (ra : Rpl α) (c : ι → S → Cel K) (rv : ι → V) (m : α → Option S) : Sp := fun vs H Q _ =>
  ∃ (T : AS) (a : α) (s : S), TD T H ∧ ra K T H vs a ∧ m a = some s ∧ ∀ i H', Ex H H' → (c i s).own.Nodup → (∀ x ∈ (c i s).own, H x = none ∧ ∃ o, H' x = some o) → (c i s).P (fun b => T b ∨ b ∈ (c i s).own) H' → Q (rv i) H'
theorem FSp_len {K : PySem.W.Frag} {α β : Type} {ra : Rpl α} {r : Rp β} {m : α → Option β} {n : Nat} (h : ∀ K T H vs a, ra K T H vs a → vs.length = n) : ∀ vs H Q E, FSp K ra r m vs H Q E → vs.length = n := fun vs H Q E ⟨T, a, _, _, hr, _⟩ => h K T H vs a hr
theorem GSp_len {K : PySem.W.Frag} {α S β : Type} {ra : Rpl α} {c : α → S → Cel K} {r : Rp β} {m : α → S → Option (β × S)} {n : Nat} (h : ∀ K T H vs a, ra K T H vs a → vs.length = n) : ∀ vs H Q E, GSp K ra c r m vs H Q E → vs.length = n := fun vs H Q E ⟨T, a, _, _, _, _, hr, _⟩ => h K T H vs a hr
theorem NewSp_len {K : PySem.W.Frag} {α ι S : Type} {ra : Rpl α} {c : ι → S → Cel K} {rv : ι → V} {m : α → Option S} {n : Nat} (h : ∀ K T H vs a, ra K T H vs a → vs.length = n) : ∀ vs H Q E, NewSp K ra c rv m vs H Q E → vs.length = n := fun vs H Q E ⟨T, a, _, _, hr, _⟩ => h K T H vs a hr
section
variable {K : PySem.W.Frag} {b : Bs} {fs : List (Fact K)} {cs : List (Cel K)} {T T' : AS} {H H' : Hp} {σ : L2.St} {α β γ S ι ρ : Type} {r : Rp α} {s : Rp β} {tr : TA} {te ta tb : TE} {E' : XK} {Q : VK} {D : Ends}
theorem ev_callO {ra : Rpl β} {m : β → Option α} {a : β} {d : α} (hT : TD T H) (h : EvA K T tr σ H ra a) (hm : m a = some d) : Ev K T (tCall (FSp K ra r m) [] E' tr) σ H r d := fun H1 g Q q =>
  h H1 g _ fun vs H2 e2 r2 => by
    show FSp K ra r m (vs ++ []) H2 Q E'
    rw [List.append_nil]
    exact ⟨T, a, d, (hT.fr g).ex e2, r2, hm, fun v H3 e3 r3 => q v H3 (e2.trans e3) r3⟩
theorem ev_methO {Cn : Str} {fn : List Str} {ra : Rpl β} {rb : Rpl γ} {m : β × γ → Option α} {a : β} {g : γ} {d : α} {mn : Str} [MoL ra] (hT : TD T H) (hm : mn ∉ fn) (h : Ev K T ta σ H (zOb Cn fn ra) a) (h2 : EvA K T tr σ H rb g) (he : m (a, g) = some d) :
    Ev K T (tMeth (He.ga K Cn) mn (FSp K (aC (zOb Cn fn ra) rb) r m) [] E' ta tr) σ H r d := fun H1 g' Q q => h H1 g' _ fun v H2 e2 r2 => by
  obtain ⟨p, dx, vs, ev, ht, hh, hr⟩ := r2
  refine ⟨p, dx, _, ev, hh, lookup_zip_none hm, ?_⟩
  refine h2 H2 (g'.trans e2.fr) _ fun ws H3 e3 r3 => ?_
  show FSp K (aC (zOb Cn fn ra) rb) r m (v :: (ws ++ [])) H3 Q E'
  rw [List.append_nil]
  exact ⟨T, (a, g), d, (hT.fr g').ex (e2.trans e3), ⟨v, ws, rfl, ⟨p, dx, vs, ev, ht, e3 _ _ hh, MoL.fr e3.fr hr⟩, r3⟩, he, fun v' H4 e4 r4 => q v' H4 ((e2.trans e3).trans e4) r4⟩
theorem En.gcall {ra : Rpl β} [Mo r] {c : β → S → Cel K} {m : β → S → Option (α × S)} {a : β} {s0 s1 : S} {d : α} (E : En K b fs cs T H) (h : EvA K T tr σ H ra a) (k : Nat) (hk : cs[k]? = some (c a s0)) (hm : m a s0 = some (d, s1)) (ho : (c a s1).own = (c a s0).own)
    (q : ∀ v H', En K b (fR r v d :: fs) (cs.set k (c a s1)) T H' → Q v H') : tCall (GSp K ra c r m) [] E' tr σ H Q :=
  h H (Fr.refl H) _ fun vs H2 e2 r2 => by
    show GSp K ra c r m (vs ++ []) H2 Q E'
    rw [List.append_nil]
    have E2 := E.ex e2
    have hc := E2.cel _ (List.mem_of_getElem? hk)
    refine ⟨T, a, s0, d, s1, E2.td, r2, hc.1, fun x hx => (hc.2 x hx).1, ?_, hm, fun v H3 f3 c3 r3 => q v H3 ((E2.chg k hk f3 c3 ho).add r3)⟩
    have hd := E2.dis
    obtain ⟨l1, l2, rfl⟩ := List.append_of_mem (List.mem_of_getElem? hk)
    simp only [owns, List.map_append, List.map_cons, List.flatten_append, List.flatten_cons] at hd
    exact (List.nodup_append.mp (List.nodup_append.mp hd).2.1).1
theorem En.newcall {ra : Rpl β} {c : ι → S → Cel K} {rv : ι → V} {m : β → Option S} {a : β} {s0 : S} (E : En K b fs cs T H) (h : EvA K T tr σ H ra a) (hm : m a = some s0)
    (q : ∀ i H', En K b fs (c i s0 :: cs) (fun b => T b ∨ b ∈ (c i s0).own) H' → Q (rv i) H') : tCall (NewSp K ra c rv m) [] E' tr σ H Q :=
  h H (Fr.refl H) _ fun vs H2 e2 r2 => by
    show NewSp K ra c rv m (vs ++ []) H2 Q E'
    rw [List.append_nil]
    have E2 := E.ex e2
    exact ⟨T, a, s0, E2.td, r2, hm, fun i H3 e3 hn hx hc => q i H3 (E2.newc (H' := H3) ⟨e3.fr, fun b t => t.elim .inl fun z => .inr (hx b z).1⟩ e3 (fun b h => .inl h) (fun b t => t.elim (E2.td.ex e3 b) fun z => (hx b z).2) hc (fun x hx' => ⟨(hx x hx').1, .inr hx'⟩) hn)⟩
/-! ### tests and choices whose parts may lack an answer -/
theorem ev_andO {c d : Bool} {m : Option Bool} (h1 : Ev K T ta σ H zB c) (h2 : c = true → ∀ x, m = some x → Ev K T tb σ H zB x) (hm : (if c = true then m else some false) = some d) : Ev K T (tAndV ta tb) σ H zB d := by
  cases c with
  | true =>
    rw [if_pos rfl] at hm
    have := ev_andV h1 (b := d) fun _ => h2 rfl d hm
    simpa using this
  | false =>
    rw [if_neg (by decide)] at hm
    cases hm
    have := ev_andV (tb := tb) h1 (b := false) fun z => by cases z
    simpa using this
theorem ev_orO {c d : Bool} {m : Option Bool} (h1 : Ev K T ta σ H zB c) (h2 : c = false → ∀ x, m = some x → Ev K T tb σ H zB x) (hm : (if c = true then some true else m) = some d) : Ev K T (tOrV ta tb) σ H zB d := by
  cases c with
  | false =>
    rw [if_neg (by decide)] at hm
    have := ev_orV h1 (b := d) fun _ => h2 rfl d hm
    simpa using this
  | true =>
    rw [if_pos rfl] at hm
    cases hm
    have := ev_orV (tb := tb) h1 (b := true) fun z => by cases z
    simpa using this
theorem et_andO {t u : TT} {c d : Bool} {m : Option Bool} (h1 : EvT T t σ H c) (h2 : c = true → ∀ x, m = some x → EvT T u σ H x) (hm : (if c = true then m else some false) = some d) : EvT T (tAnd t u) σ H d := by
  cases c with
  | true =>
    rw [if_pos rfl] at hm
    have := et_and h1 (b := d) fun _ => h2 rfl d hm
    simpa using this
  | false =>
    rw [if_neg (by decide)] at hm
    cases hm
    have := et_and (u := u) h1 (b := false) fun z => by cases z
    simpa using this
theorem et_orO {t u : TT} {c d : Bool} {m : Option Bool} (h1 : EvT T t σ H c) (h2 : c = false → ∀ x, m = some x → EvT T u σ H x) (hm : (if c = true then some true else m) = some d) : EvT T (tOr t u) σ H d := by
  cases c with
  | false =>
    rw [if_neg (by decide)] at hm
    have := et_or h1 (b := d) fun _ => h2 rfl d hm
    simpa using this
  | true =>
    rw [if_pos rfl] at hm
    cases hm
    have := et_or (u := u) h1 (b := true) fun z => by cases z
    simpa using this
theorem ev_iteO {t : TT} {c : Bool} {d : α} {m1 m2 : Option α} (h : EvT T t σ H c) (h1 : c = true → ∀ x, m1 = some x → Ev K T ta σ H r x) (h2 : c = false → ∀ x, m2 = some x → Ev K T tb σ H r x) (hm : (if c = true then m1 else m2) = some d) : Ev K T (tIf t ta tb) σ H r d := by
  cases c with
  | true => exact ev_if h (fun z => h1 z d (by simpa using hm)) (fun z => by cases z)
  | false => exact ev_if h (fun z => by cases z) (fun z => h2 z d (by simpa using hm))
/-! ### comprehensions -/
def zSm (s : Rp β) : Rp (Option β) := fun K T H v o => ∃ d, o = some d ∧ s K T H v d
instance [Mo s] : Mo (zSm s) := ⟨fun w ⟨d, e, h⟩ => ⟨d, e, Mo.wd w h⟩⟩
theorem all2_sm {vs : List V} {ys : List β} (h : All2 (zSm s K T H) vs (ys.map some)) : All2 (s K T H) vs ys := by
  induction ys generalizing vs with
  | nil => cases h; exact .nil
  | cons y ys ih =>
    rw [List.map_cons] at h
    cases h with
    | cons r t =>
      obtain ⟨d, e, h⟩ := r
      cases e
      exact .cons h (ih t)
theorem ev_lcO [Mo r] [Mo s] {wi : TI} {g : TG} {tt : TT} {vs : List Nat} {xs : List α} {p : α → Bool} {f : α → Option β} {ys : List β} (hT : TD T H) (h : EvI K T wi σ H r xs) (hm : mapO f (xs.filter p) = some ys)
    (hs : ∀ (T' : AS) (H' : Hp) (v : V) (x : α), Tr K T H T' H' → TD T' H' → x ∈ xs → r K T' H' v x → ∀ Q : L2.St → Hp → Prop, (∀ σ2, wipe σ2 vs = wipe σ vs → EvT T' tt σ2 H' (p x) → (p x = true → ∀ y, f x = some y → Ev K T' te σ2 H' s y) → Q σ2 H') → g v (wipe σ vs) H' Q) :
    Ev K T (tLc wi g tt te vs) σ H (zL s) ys := by
  have h1 := ev_lc (K := K) (s := zSm s) (f := f) (p := p) (te := te) (tt := tt) hT h fun T' H' v x tr hT' hx hr Q q => hs T' H' v x tr hT' hx hr Q fun σ2 hw ht he => q σ2 hw ht fun hp => by
    obtain ⟨y, hy⟩ := mapO_get hm (List.mem_filter.mpr ⟨hx, hp⟩)
    rw [hy]
    exact fun H1 f1 Q1 q1 => he hp y hy H1 f1 Q1 fun v' H2 e2 r2 => q1 v' H2 e2 ⟨y, rfl, r2⟩
  intro H1 f1 Q1 q1
  refine h1 H1 f1 Q1 fun v H2 e2 ⟨a, ws, e, hs', hh⟩ => q1 v H2 e2 ⟨a, ws, e, hs', ?_⟩
  rw [mapO_mem hm] at hh
  exact all2_sm hh
theorem ev_lcO1 [Mo r] [Mo s] {wi : TI} {g : TG} {vs : List Nat} {xs : List α} {f : α → Option β} {ys : List β} (hT : TD T H) (h : EvI K T wi σ H r xs) (hm : mapO f xs = some ys)
    (hs : ∀ (T' : AS) (H' : Hp) (v : V) (x : α), Tr K T H T' H' → TD T' H' → x ∈ xs → r K T' H' v x → ∀ Q : L2.St → Hp → Prop, (∀ σ2, wipe σ2 vs = wipe σ vs → (∀ y, f x = some y → Ev K T' te σ2 H' s y) → Q σ2 H') → g v (wipe σ vs) H' Q) :
    Ev K T (tLc wi g tYes te vs) σ H (zL s) ys :=
  ev_lcO (p := fun _ => true) hT h (by rw [List.filter_eq_self.mpr (fun _ _ => rfl)]; exact hm) fun T' H' v x tr hT' hx hr Q q => hs T' H' v x tr hT' hx hr Q fun σ2 hw he => q σ2 hw et_yes fun _ => he
/-- one whose element changes cells: Cs tells the cells -/
theorem En.lc [Mo r] [Mo s] {wi : TI} {g : TG} {vs : List Nat} {xs : List α} {f : S → α → Option (β × S)} {Cs : S → List (Cel K)} {s0 s1 : S} {ys : List β} (hown : ∀ s, owns (Cs s) = owns (Cs s0)) (E : En K b fs (Cs s0) T H) (h : EvI K T wi σ H r xs) (hm : mapS f s0 xs = some (ys, s1))
    (hs : ∀ (b' : Bs) (T' : AS) (H' : Hp) (v : V) (x : α) (sx sy : S) (y : β), x ∈ xs → Wd T H T' H' → r K T' H' v x → En K b' (fR r v x :: fs) (Cs sx) T' H' → (∀ a, a ∈ b'.W ↔ a ∈ owns (Cs sx)) → f sx x = some (y, sy) → ∀ Q : L2.St → Hp → Prop, (∀ σ2, wipe σ2 vs = wipe σ vs → (∀ Qe : VK, (∀ v' fs' T'' H'', En K b' (fR s v' y :: fs') (Cs sy) T'' H'' → Qe v' H'') → te σ2 H' Qe) → Q σ2 H') → g v (wipe σ vs) H' Q)
    (q : ∀ p H', En K b (fR zA (.ref p) p :: fs) (cL s p ys :: Cs s1) (Tp T p) H' → Q (.ref p) H') : tLc wi g tYes te vs σ H Q := by
  refine h H (Fr.refl H) _ fun J H2 e2 w => ?_
  intro D hD
  obtain ⟨⟨n, G, Y, hn, wk, hG, hY⟩, hz⟩ := w
  subst hn
  have E2 := E.ex e2
  have nD : ¬ T D := E2.td.new hD
  -- the list that is made is a cell of its own
  have E3 : En K b (fR zA (.ref D) D :: fs) (cL s D [] :: Cs s0) (Tp T D) (upd H2 D (.lst [])) :=
    En.add (E2.newc (c := cL s D []) (Wd.new hD) (Ex.new hD) (fun _ h => .inl h) ((E2.td.ex (Ex.new hD)).tp upd_same) ⟨[], upd_same, .nil⟩ (fun a ha => by simp only [List.mem_singleton] at ha; subst ha; exact ⟨hD, .inr rfl⟩) (by simp)) rfl
  have hlen := mapS_len hm
  refine lc_it wk (fun i H' => ∃ si, mapS f s0 (xs.take i) = some (ys.take i, si) ∧ En K b (fR zA (.ref D) D :: fs) (cL s D (ys.take i) :: Cs si) (Tp T D) H' ∧ Fr T H2 H') ⟨s0, rfl, by simpa using E3, (Ex.new hD).fr⟩ (fun i H' _ ⟨_, _, _, f⟩ => hG H' f) ?_ ?_
  · intro i v H' H'' hi ⟨si, hsi, Ei, fi⟩ y
    obtain ⟨eY, x, hx, hr⟩ := hY i H' v H'' hi fi y
    obtain ⟨sx, yv, sy, x', hx', e1, e2', e3, e4⟩ := mapS_take hm i hi
    rw [hx] at hx'; cases hx'
    rw [hsi] at e1; cases e1
    have Ei2 := Ei.ex eY
    -- within: the cells without the list
    have hcel := Ei2.cel
    have hd := Ei2.dis
    simp only [owns, List.map_cons, List.flatten_cons] at hd
    have w2 : Wd T H2 (Tp T D) H' := ⟨fi, fun a t => t.elim .inl fun z => .inr (z ▸ hD)⟩
    have rx := hr (Tp T D) Ei.td (Tr.wd w2)
    have Eb : En K ⟨Tp T D, owns (Cs si), H''⟩ (fR r v x :: fs) (Cs si) (Tp T D) H'' := by
      refine En.add ⟨Ei2.td, fun _ h => h, Ei2.td, Wd.refl, Fr.refl _, fun k g hk => Ei2.fac (k + 1) g (by simpa using hk), fun c hc => ⟨(hcel c (List.mem_cons_of_mem _ hc)).1, fun a ha => ⟨((hcel c (List.mem_cons_of_mem _ hc)).2 a ha).1, .inl (mem_owns hc ha)⟩⟩, (List.nodup_append.mp hd).2.1⟩ rx
    have hDn : D ∉ owns (Cs si) := fun z => (List.nodup_append.mp hd).2.2 D (by simp) D z rfl
    refine hs _ _ _ v x si sy yv (List.mem_of_getElem? hx) (((Wd.ex e2).trans w2).trans (Wd.ex eY)) rx Eb (fun a => Iff.rfl) e2' _ fun σ2 hw he => ⟨hw, tYes_if ?_⟩
    refine he _ fun v' fs' T'' H4 E4 => ?_
    obtain ⟨⟨acc, hacc, hall⟩, _⟩ := hcel _ List.mem_cons_self
    have hkeep : H4 D = some (.lst acc) := E4.fr.keep D _ hDn hacc
    have hl : acc.length = i := by rw [all2_len hall, List.length_take, hlen]; omega
    refine ⟨acc, hkeep, by omega, sy, e3, ?_, ?_⟩
    · -- all of it after the store
      have f4 : Fr (fun a => a ∈ owns (Cs si)) H'' H4 := E4.fr
      have w4 : Wd (Tp T D) H'' (Tp T D) H4 := Wd.of (f4.mono fun a ha => by
        obtain ⟨c, hc, hac⟩ := owns_mem ha
        exact ((hcel c (List.mem_cons_of_mem _ hc)).2 a hac).1)
      have fD : Fr (fun a => a = D) H4 (upd H4 D (.lst (acc ++ [v']))) := Fr.upd (.inl rfl)
      have wD : Wd (Tp T D) H4 (Tp T D) (upd H4 D (.lst (acc ++ [v']))) := Wd.of (fD.mono fun a ha => .inr ha)
      have ry : s K (Tp T D) H4 v' yv := E4.out (E4.at 0 rfl)
      refine ⟨Ei2.btd, Ei2.sup, (Ei2.td.fr w4.fr).fr wD.fr, (Ei2.wd.trans w4).trans wD, ?_, fun k g hk => g.st (w4.trans wD) (Ei2.fac k g hk), fun c hc => ?_, ?_⟩
      · refine Fr.thenFr (Fr.thenFr Ei2.fr f4 fun a ha => ?_) fD fun a ha => ?_
        · obtain ⟨c, hc, hac⟩ := owns_mem ha
          exact ((hcel c (List.mem_cons_of_mem _ hc)).2 a hac).2
        · subst ha
          exact ((hcel _ List.mem_cons_self).2 a (by simp)).2
      · rcases List.mem_cons.mp hc with rfl | hc
        · refine ⟨⟨_, upd_same, ?_⟩, (hcel (cL s D (ys.take i)) List.mem_cons_self).2⟩
          rw [e4]
          exact all2_app (all2_imp (fun _ _ z => Mo.wd (w4.trans wD) z) hall) (.cons (Mo.wd wD ry) .nil)
        · have hc4 := E4.cel c hc
          have hP : c.P (Tp T D) H4 := c.st (Wd.sub E4.sup) (fun _ _ => rfl) hc4.1
          have hin : ∀ a ∈ c.own, a ∈ owns (Cs si) := fun a ha => by rw [hown si, ← hown sy]; exact mem_owns hc ha
          refine ⟨c.st wD (fun a ha => upd_ne (fun z => hDn (z ▸ hin a ha))) hP, fun a ha => ?_⟩
          obtain ⟨c1, h1, h2⟩ := owns_mem (hin a ha)
          exact (hcel c1 (List.mem_cons_of_mem _ h1)).2 a h2
      · simp only [owns, List.map_cons, List.flatten_cons, List.nodup_append]
        refine ⟨by simp, E4.dis, fun a ha x hx z => ?_⟩
        subst z
        simp only [List.mem_singleton] at ha
        subst ha
        refine hDn ?_
        rw [hown si, ← hown sy]
        exact hx
    · refine Fr.thenFr (Fr.thenFr (fi.trans eY.fr) E4.fr fun a ha => .inl ?_) (Fr.upd (T := fun a => a = D) (.inl rfl)) fun a ha => .inr (ha ▸ hD)
      obtain ⟨c1, h1, h2⟩ := owns_mem ha
      rcases ((hcel c1 (List.mem_cons_of_mem _ h1)).2 a h2).1 with h | h
      · exact h
      · exact absurd (h ▸ ha) hDn
  · rintro H' ⟨si, hsi, Ei, fi⟩
    rw [List.take_length] at hsi
    rw [hm] at hsi
    have h1 : ys = ys.take xs.length := by rw [← hlen, List.take_length]
    injection hsi with h2
    injection h2 with h3 h4
    subst h4
    rw [← h1] at Ei
    exact q D H' Ei
theorem mapS_of {f : α → Option β} : ∀ {xs : List α} {ys : List β}, mapO f xs = some ys → mapS (fun (_ : Unit) x => (f x).map fun y => (y, ())) () xs = some (ys, ())
  | [], ys, h => by cases h; rfl
  | x :: xs, ys, h => by
    obtain ⟨y, h1, h⟩ := bnd h
    obtain ⟨zs, h2, h⟩ := bnd h
    cases h
    show ((f x).map _).bind _ = _
    rw [h1]
    show (mapS _ () xs).bind _ = _
    rw [mapS_of h2]
    rfl
/-- a list that is new, by a comprehension that changes nothing -/
theorem En.lcP [Mo r] [Mo s] {wi : TI} {g : TG} {vs : List Nat} {xs : List α} {f : α → Option β} {ys : List β} (E : En K b fs cs T H) (h : EvI K T wi σ H r xs) (hm : mapO f xs = some ys)
    (hs : ∀ (T' : AS) (H' : Hp) (v : V) (x : α), Tr K T H T' H' → TD T' H' → x ∈ xs → r K T' H' v x → ∀ Q : L2.St → Hp → Prop, (∀ σ2, wipe σ2 vs = wipe σ vs → (∀ y, f x = some y → Ev K T' te σ2 H' s y) → Q σ2 H') → g v (wipe σ vs) H' Q)
    (q : ∀ p H', En K b (fR zA (.ref p) p :: fs) (cL s p ys :: cs) (Tp T p) H' → Q (.ref p) H') : tLc wi g tYes te vs σ H Q :=
  En.lc (s := s) (Cs := fun (_ : Unit) => cs) (fun _ => rfl) E h (mapS_of hm) (fun b' T' H' v x sx sy y hx w rx E' _ hf Q1 q1 => hs T' H' v x (Tr.wd w) E'.td hx rx Q1 fun σ2 hw he => q1 σ2 hw fun Qe hQe => by
    cases hy : f x with
    | none => rw [hy] at hf; cases hf
    | some z =>
      rw [hy] at hf
      cases hf
      exact he y hy H' (Fr.refl H') Qe fun v' H'' e r' => hQe v' _ T' H'' ((E'.ex e).add r')) q
/-! ### loops -/
theorem forO_take {f : S → α → Option (Out ρ S)} : ∀ {xs : List α} {s0 : S} {o : Out ρ S} {i : Nat} {x : α} {si : S}, forO f s0 xs = some o → xs[i]? = some x → forO f s0 (xs.take i) = some (.nx si) → (∀ j, j < i → ∀ y sj, xs[j]? = some y → forO f s0 (xs.take j) = some (.nx sj) → ∃ sk, f sj y = some (.nx sk)) → ∃ o', f si x = some o' ∧ (∀ sj, o' = .nx sj → forO f s0 (xs.take (i + 1)) = some (.nx sj)) ∧ (∀ sj, o' = .brk sj → o = .nx sj) ∧ (∀ q, o' = .ret q → o = .ret q)
  | [], s0, o, i, x, si, h, hx, _, _ => by simp at hx
  | y :: xs, s0, o, 0, x, si, h, hx, h1, _ => by
    simp at hx; subst hx
    cases h1
    obtain ⟨o', e1, e2⟩ := bnd h
    refine ⟨o', e1, fun sj ej => ?_, fun sj ej => ?_, fun q ej => ?_⟩
    · subst ej
      simp [forO, e1]
    · subst ej
      cases e2; rfl
    · subst ej
      cases e2; rfl
  | y :: xs, s0, o, i + 1, x, si, h, hx, h1, hp => by
    obtain ⟨o1, e1, e2⟩ := bnd h
    obtain ⟨sk, hk⟩ := hp 0 (by omega) y s0 rfl rfl
    rw [e1] at hk
    cases hk
    rw [List.take_succ_cons] at h1
    have h1' : forO f sk (xs.take i) = some (.nx si) := by
      have : forO f s0 (y :: xs.take i) = forO f sk (xs.take i) := by
        show (f s0 y).bind _ = _
        rw [e1]; rfl
      rw [← this]; exact h1
    obtain ⟨o', q1, q2, q3, q4⟩ := forO_take (xs := xs) (s0 := sk) (o := o) (i := i) (x := x) (si := si) e2 (by simpa using hx) h1' fun j hj z sj hz hzj => by
      refine hp (j + 1) (by omega) z sj (by simpa using hz) ?_
      rw [List.take_succ_cons]
      show (f s0 y).bind _ = _
      rw [e1]; exact hzj
    refine ⟨o', q1, fun sj ej => ?_, q3, q4⟩
    rw [List.take_succ_cons]
    show (f s0 y).bind _ = _
    rw [e1]; exact q2 sj ej
/-- for; I tells what holds between two turns, for a base, the state, what may change, slots and heap -/
theorem En.for_ [Mo r] {wi : TI} {g : TG} {tb : TS} {xs : List α} {f : S → α → Option (Out ρ S)} {s0 : S} {o : Out ρ S} (I : Bs → S → AS → L2.St → Hp → Prop)
    (E : En K b fs cs T H) (h : EvI K T wi σ H r xs) (hm : forO f s0 xs = some o)
    (h0 : ∀ H2, En K ⟨T, owns cs, H2⟩ fs cs T H2 → I ⟨T, owns cs, H2⟩ s0 T σ H2)
    (hI : ∀ b' sx T' σ' H', I b' sx T' σ' H' → Wd b'.T b'.H T' H' ∧ TD T' H')
    (step : ∀ Hb (E2 : En K b fs cs T Hb) sx x o' T' σ' H' H'' v (D' : Ends), x ∈ xs → I ⟨T, owns cs, Hb⟩ sx T' σ' H' → Ex H' H'' → r K T' H'' v x → f sx x = some o' → D'.rt = D.rt → (∀ q, o' = .ret q → o = .ret q) →
      (∀ sy T2 σ2 H2, o' = .nx sy → I ⟨T, owns cs, Hb⟩ sy T2 σ2 H2 → D'.nx σ2 H2 ∧ D'.ct σ2 H2) → (∀ sy T2 σ2 H2, o' = .brk sy → I ⟨T, owns cs, Hb⟩ sy T2 σ2 H2 → D'.bk σ2 H2) → g v σ' H'' fun σ3 H3 => tb D' σ3 H3)
    (k : ∀ H2 sx T' σ' H', En K b fs cs T H2 → o = .nx sx → I ⟨T, owns cs, H2⟩ sx T' σ' H' → D.nx σ' H') : tFor wi g tb D σ H := by
  refine h H (Fr.refl H) _ fun J H2 e2 w => ?_
  obtain ⟨⟨n, G, Y, hn, wk, hG, hY⟩, hz⟩ := w
  subst hn
  have E2 := E.ex e2
  -- within turn i the turns ahead went on
  refine for_it wk (fun i σ' H' => ∃ sx T', forO f s0 (xs.take i) = some (.nx sx) ∧ (∀ j, j < i → ∀ y sj, xs[j]? = some y → forO f s0 (xs.take j) = some (.nx sj) → ∃ sk, f sj y = some (.nx sk)) ∧ I ⟨T, owns cs, H2⟩ sx T' σ' H') ⟨s0, T, rfl, fun j hj => by omega, h0 H2 E2.rebase⟩ (fun i σ' H' _ ⟨_, _, _, _, q⟩ => hG H' (hI _ _ _ _ _ q).1.fr) ?_ ?_
  · rintro i v σ' H' H'' hi ⟨sx, T', e1, e3, q⟩ y
    have hw := hI _ _ _ _ _ q
    obtain ⟨eY, x, hx, hr⟩ := hY i H' v H'' hi hw.1.fr y
    obtain ⟨o', q1, q2, q3, q4⟩ := forO_take hm hx e1 e3
    refine step H2 E2 sx x o' T' σ' H' H'' v _ (List.mem_of_getElem? hx) q eY (hr T' hw.2 (Tr.wd hw.1)) q1 rfl q4 (fun sy T2 σ2 H3 ho I2 => ?_) (fun sy T2 σ2 H3 ho I2 => ?_)
    · have hq : ∃ sx T', forO f s0 (xs.take (i + 1)) = some (.nx sx) ∧ (∀ j, j < i + 1 → ∀ y sj, xs[j]? = some y → forO f s0 (xs.take j) = some (.nx sj) → ∃ sk, f sj y = some (.nx sk)) ∧ I ⟨T, owns cs, H2⟩ sx T' σ2 H3 := by
        refine ⟨sy, T2, q2 sy ho, fun j hj z sj hz hzj => ?_, I2⟩
        rcases Nat.lt_or_ge j i with hji | hji
        · exact e3 j hji z sj hz hzj
        · have : j = i := by omega
          subst this
          rw [hx] at hz; cases hz
          rw [e1] at hzj; cases hzj
          exact ⟨sy, by rw [q1, ho]⟩
      exact ⟨hq, hq⟩
    · exact k H2 sy T2 σ2 H3 E2 (q3 sy ho) I2
  · rintro σ' H' ⟨sx, T', e1, e3, q⟩
    rw [List.take_length, hm] at e1
    cases e1
    exact k H2 sx T' σ' H' E2 rfl q
/-! ### lists of ours -/
theorem En.cl [Mo r] {p : Addr} {xs : List α} (E : En K b fs cs T H) (k : Nat) (hk : cs[k]? = some (cL r p xs)) : T p ∧ ∃ vs, H p = some (.lst vs) ∧ All2 (r K T H) vs xs :=
  ⟨((E.cel _ (List.mem_of_getElem? hk)).2 p (by simp)).1, (E.cel _ (List.mem_of_getElem? hk)).1⟩
theorem En.store [Mo r] {p : Addr} {xs ys : List α} {vs : List V} (E : En K b fs cs T H) (k : Nat) (hk : cs[k]? = some (cL r p xs)) (h : All2 (r K T H) vs ys) : En K b fs (cs.set k (cL r p ys)) T (upd H p (.lst vs)) :=
  E.chg k hk (Fr.upd (.inl (by simp))) ⟨vs, upd_same, all2_imp (fun _ _ z => Mo.fr (Fr.upd (.inl (E.cl k hk).1)) z) h⟩ rfl
theorem En.bm {p : Addr} {xs : List α} {i : Nat} {rX : V → List V → Hp → VK → Prop} [Mo r] (E : En K b fs cs T H) (hv : σ[i]? = some (some (.ref p))) (k : Nat) (hk : cs[k]? = some (cL r p xs)) (h : tr σ H fun vs H1 => rX (.ref p) vs H1 Q) : tBM K "list" rX (tVar i) tr σ H Q := by
  obtain ⟨_, vs, h1, _⟩ := E.cl k hk
  exact ⟨.ref p, hv, .inl ⟨rfl, vs, .inl (.inl h1)⟩, h⟩
theorem En.append [Mo r] {p : Addr} {xs : List α} {v : V} {d : α} (E : En K b fs cs T H) (k : Nat) (hk : cs[k]? = some (cL r p xs)) (hv : r K T H v d) (hl : xs.length < 1000000) (q : ∀ H', En K b fs (cs.set k (cL r p (xs ++ [d]))) T H' → Q .non H') : rAppend (.ref p) [v] H Q := by
  obtain ⟨_, vs, h1, h2⟩ := E.cl k hk
  exact ⟨p, vs, v, rfl, rfl, h1, by rw [all2_len h2, sizeLine_eq]; omega, q _ (E.store k hk (all2_app h2 (.cons hv .nil)))⟩
def setO (xs : List α) (i : Int) (d : α) : Option (List α) := (ixN xs.length i).map fun j => xs.set j d
theorem En.setitem [Mo r] {p : Addr} {xs ys : List α} {v : V} {d : α} {i : Nat} {ti : TE} {n : Int} {Qs : L2.St → Hp → Prop} (E : En K b fs cs T H) (hp : σ[i]? = some (some (.ref p))) (k : Nat) (hk : cs[k]? = some (cL r p xs)) (hv : r K T H v d) (hi : Ev K T ti σ H zI n) (hm : setO xs n d = some ys)
    (q : ∀ H', En K b fs (cs.set k (cL r p ys)) T H' → Qs σ H') : gSub (tVar i) ti rSetL v σ H Qs := by
  refine ⟨.ref p, hp, ?_⟩
  refine hi H (Fr.refl H) _ fun iv H2 e2 r2 => ?_
  have E2 := E.ex e2
  obtain ⟨_, vs, h1, h2⟩ := E2.cl k hk
  unfold setO at hm
  cases hj : ixN xs.length n with
  | none => rw [hj] at hm; cases hm
  | some j =>
    rw [hj] at hm
    cases hm
    exact ⟨p, vs, n, j, rfl, r2, h1, by rw [all2_len h2]; exact hj, q _ (E2.store k hk (all2_set (Mo.fr e2.fr hv) j h2))⟩
def popO (xs : List α) : Option (α × List α) := (xs[xs.length - 1]?).map fun x => (x, xs.dropLast)
theorem all2_dropLast {F : V → α → Prop} : ∀ {vs : List V} {xs : List α}, All2 F vs xs → All2 F vs.dropLast xs.dropLast
  | _, _, .nil => .nil
  | _, _, .cons r .nil => .nil
  | _, _, .cons r (.cons r' t) => .cons r (all2_dropLast (.cons r' t))
theorem En.pop [Mo r] {p : Addr} {xs ys : List α} {d : α} (E : En K b fs cs T H) (k : Nat) (hk : cs[k]? = some (cL r p xs)) (hm : popO xs = some (d, ys)) (q : ∀ v H', En K b (fR r v d :: fs) (cs.set k (cL r p ys)) T H' → Q v H') : rPop (.ref p) [] H Q := by
  obtain ⟨hT, vs, h1, h2⟩ := E.cl k hk
  unfold popO at hm
  cases hj : xs[xs.length - 1]? with
  | none => rw [hj] at hm; cases hm
  | some x =>
    rw [hj] at hm
    cases hm
    obtain ⟨v, hv, hr⟩ := all2_get h2 hj
    have f : Fr T H (upd H p (.lst vs.dropLast)) := Fr.upd (.inl hT)
    exact ⟨p, vs, v, rfl, rfl, h1, by rw [all2_len h2]; exact hv, q _ _ (En.add (E.store k hk (all2_dropLast h2)) (Mo.fr f hr))⟩
theorem En.reverse [Mo r] {p : Addr} {xs : List α} (E : En K b fs cs T H) (k : Nat) (hk : cs[k]? = some (cL r p xs)) (q : ∀ H', En K b fs (cs.set k (cL r p xs.reverse)) T H' → Q .non H') : rReverse (.ref p) [] H Q := by
  obtain ⟨hT, vs, h1, h2⟩ := E.cl k hk
  exact ⟨p, vs, rfl, rfl, h1, q _ (E.store k hk (all2_reverse h2))⟩
/-! ### reading what is ours -/
class At {α : Type} (r : Rp α) : Prop where
  up : ∀ {K T H T' H' v a}, r K T H v a → r K T' H' v a
instance : At zI := ⟨fun h => h⟩
instance : At zB := ⟨fun h => h⟩
instance : At zS := ⟨fun h => h⟩
instance : At zN := ⟨fun h => h⟩
instance : At zW := ⟨fun h => h⟩
instance : At zA := ⟨fun h => h⟩
instance [At r] : At (zO r) := ⟨fun h => h.elim .inl fun ⟨x, e, q⟩ => .inr ⟨x, e, At.up q⟩⟩
/-- without our cells -/
def Tb (T : AS) (cs : List (Cel K)) : AS := fun a => T a ∧ a ∉ owns cs
theorem En.tdB (E : En K b fs cs T H) : TD (Tb T cs) H := E.td.sub fun _ h => h.1
theorem En.atB (E : En K b fs cs T H) {f : Fact K} (k : Nat) (h : fs[k]? = some f) : f.P (Tb T cs) H := f.st (Wd.sub fun _ h => h.1) (E.fac k f h)
theorem En.clB [Mo r] {p : Addr} {xs : List α} (E : En K b fs cs T H) (k : Nat) (hk : cs[k]? = some (cL r p xs)) : zL r K (Tb T cs) H (.ref p) xs := by
  obtain ⟨hT, vs, h1, h2⟩ := E.cl k hk
  exact ⟨p, vs, rfl, .new (fun z => z.2 (mem_owns (List.mem_of_getElem? hk) (by simp))) h1, all2_imp (fun _ _ z => Mo.wd (Wd.sub fun _ h => h.1) z) h2⟩
theorem En.cvB {p : Addr} {vs : List V} (E : En K b fs cs T H) (k : Nat) (hk : cs[k]? = some (cV p (.lst vs))) : SL K (Tb T cs) H p vs :=
  .new (fun z => z.2 (mem_owns (List.mem_of_getElem? hk) (by simp))) (E.c k hk)
theorem En.runB [Mo r] [At r] {d : α} (E : En K b fs cs T H) (h : Ev K (Tb T cs) te σ H r d) (k : ∀ v H', En K b (fR r v d :: fs) cs T H' → Q v H') : te σ H Q :=
  h H (Fr.refl H) Q fun v H' e q => k v H' ((E.ex e).add (At.up q))
theorem En.testB {tt : TT} {d : Bool} {Qb : Bool → Hp → Prop} (E : En K b fs cs T H) (h : EvT (Tb T cs) tt σ H d) (k : ∀ H', En K b fs cs T H' → Qb d H') : tt σ H Qb :=
  h H (Fr.refl H) Qb fun H' e => k H' (E.ex e)
theorem En.newLB [Mo r] [At r] {xs : List α} (E : En K b fs cs T H) (h : EvF K (Tb T cs) te σ H r xs) (k : ∀ p H', En K b (fR zA (.ref p) p :: fs) (cL r p xs :: cs) (Tp T p) H' → Q (.ref p) H') : te σ H Q :=
  h H (Fr.refl H) Q fun p H2 H3 e2 n f e3 m => by
    have E2 := E.ex e2
    obtain ⟨vs, h1, h2⟩ := m.ex
    refine k p H3 (En.add (E2.newc (c := cL r p xs) (T' := Tp T p) ⟨e3.fr, fun b t => t.elim .inl fun z => .inr (z ▸ n)⟩ e3 (fun b h => .inl h) ((E2.td.ex e3).tp h1) ⟨vs, h1, all2_imp (fun _ _ z => At.up z) h2⟩ (fun a ha => ?_) (by simp)) rfl)
    simp only [List.mem_singleton] at ha
    subst ha
    exact ⟨n, .inr rfl⟩
/-- an item of a list of things of many kinds, by its place -/
theorem ev_ixV [Mo r] {p : Addr} {vs : List V} {i : Int} {v : V} {d : α} (ha : Ev K T ta σ H zA p) (hb : Ev K T tb σ H zI i) (hs : SL K T H p vs) (hi : atI vs i = some v) (hv : r K T H v d) : Ev K T (tOp (rIxL K) ta tb) σ H r d := fun H1 f Q q =>
  ha H1 f _ fun x H2 e2 rx => hb H2 (f.trans e2.fr) _ fun y H3 e3 ry => by
    have fr3 := (f.trans e2.fr).trans e3.fr
    exact ⟨p, vs, i, v, rx, ry, (hs.fr fr3).sq, hi, q v H3 (e2.trans e3) (Mo.fr fr3 hv)⟩
/-- a store into a list as it stands -/
theorem En.setraw {p : Addr} {vs : List V} {v : V} {i j : Nat} {ti : TE} {n : Int} {Qs : L2.St → Hp → Prop} (E : En K b fs cs T H) (hp : σ[i]? = some (some (.ref p))) (k : Nat) (hk : cs[k]? = some (cV p (.lst vs))) (hi : Ev K T ti σ H zI n) (hm : ixN vs.length n = some j)
    (q : ∀ H', En K b fs (cs.set k (cV p (.lst (vs.set j v)))) T H' → Qs σ H') : gSub (tVar i) ti rSetL v σ H Qs := by
  refine ⟨.ref p, hp, ?_⟩
  refine hi H (Fr.refl H) _ fun iv H2 e2 r2 => ?_
  have E2 := E.ex e2
  exact ⟨p, vs, n, j, rfl, r2, E2.c k hk, hm, q _ (E2.chg k hk (Fr.upd (.inl (by simp))) upd_same rfl)⟩
end
end EB

set_option Elab.async false
set_option linter.all false
set_option maxRecDepth 100000
set_option maxHeartbeats 4000000
/-! EB, second layer: more operations; guards. -/
namespace EB
open PySem PySem.Spec PyProof.Rows L2
instance {i j : Int} : Decidable (CMulW i j) := by unfold CMulW; infer_instance
instance {i j : Int} : Decidable (CDivW i j) := by unfold CDivW; infer_instance
instance {i j : Int} : Decidable (CPow i j) := by unfold CPow; infer_instance
section
variable {K : PySem.W.Frag} {b : Bs} {fs : List (Fact K)} {cs : List (Cel K)} {T T' : AS} {H H' : Hp} {σ : L2.St} {α β γ S ι ρ : Type} {r : Rp α} {s : Rp β} {tr : TA} {te ta tb : TE} {E' : XK} {Q : VK} {D : Ends}
theorem ev_mulW {i j : Int} (ha : Ev K T ta σ H zI i) (hb : Ev K T tb σ H zI j) (hc : CMulW i j) : Ev K T (tOp (rI CMulW fun i j => .int (i * j)) ta tb) σ H zI (i * j) := ev_IC (fun _ => rfl) ha hb hc
theorem ev_fdivW {i j : Int} (ha : Ev K T ta σ H zI i) (hb : Ev K T tb σ H zI j) (hc : CDivW i j) : Ev K T (tOp (rI CDivW fun i j => .int (i / j)) ta tb) σ H zI (i / j) := ev_IC (fun _ => rfl) ha hb hc
theorem ev_shr {i j : Int} (ha : Ev K T ta σ H zI i) (hb : Ev K T tb σ H zI j) (hc : 0 ≤ j) : Ev K T (tOp (rI (fun _ j => 0 ≤ j) fun i j => .int (i / 2 ^ j.toNat)) ta tb) σ H zI (i / 2 ^ j.toNat) := ev_IC (fun _ => rfl) ha hb hc
theorem ev_band {i j : Int} (ha : Ev K T ta σ H zI i) (hb : Ev K T tb σ H zI j) : Ev K T (tOp (rI0 fun i j => .int (Builtin.bitAnd i j)) ta tb) σ H zI (Builtin.bitAnd i j) := ev_I0 (fun _ => rfl) ha hb
theorem ev_bor {i j : Int} (ha : Ev K T ta σ H zI i) (hb : Ev K T tb σ H zI j) : Ev K T (tOp (rI0 fun i j => .int (Builtin.bitOr i j)) ta tb) σ H zI (Builtin.bitOr i j) := ev_I0 (fun _ => rfl) ha hb
theorem ev_bxor {i j : Int} (ha : Ev K T ta σ H zI i) (hb : Ev K T tb σ H zI j) : Ev K T (tOp (rI0 fun i j => .int (Builtin.bitXor i j)) ta tb) σ H zI (Builtin.bitXor i j) := ev_I0 (fun _ => rfl) ha hb
/-- int(word) of one sign -/
def wInt1 (w : List Bool) : Option Int := match w with
  | [b] => some (b2 b)
  | _ => none
theorem ev_intW1 {w : List Bool} {i : Int} (h : Ev K T ta σ H zW w) (hl : wInt1 w = some i) : Ev K T (tCB rIntS (tCons ta tNil)) σ H zI i := by
  match w, hl with
  | [b], hl =>
    have e : b2 b = i := Option.some.inj hl
    subst e
    exact ev_intW h rfl
/-- the way a block goes on -/
theorem cut_ {t : TS} {σ : L2.St} {H : Hp} (J : L2.St → Hp → Prop) (h : ∀ σ' H', J σ' H' → D.nx σ' H') (k : (∀ σ' H', J σ' H' → D.nx σ' H') → t D σ H) : t D σ H := k h
theorem En.augI {f : Int → Int → Int} {i : Nat} {v : V} {x y : Int} (E : En K b fs cs T H) (hv : σ[i]? = some (some v)) (h : zI K T H v x) (he : Ev K T te σ H zI y) (k : ∀ w H', En K b (fR zI w (f x y) :: fs) cs T H' → D.nx (σ.set i (some w)) H') : tAug i te (ipI f) D σ H :=
  ⟨v, hv, E.run he fun w H' E' => ⟨x, y, h, E'.at (f := fR zI w y) 0 rfl, k _ H' ((show En K b fs cs T H' from ⟨E'.btd, E'.sup, E'.td, E'.wd, E'.fr, fun j g hj => E'.fac (j + 1) g (by simpa using hj), E'.cel, E'.dis⟩).add rfl)⟩⟩
theorem seq_open {t u : TS} {σ : L2.St} {H : Hp} (h : t { D with nx := u D } σ H) : tSeq t u D σ H := h
theorem ifs_open' {tt : TT} {t u : TS} {σ : L2.St} {H : Hp} (h : tt σ H fun c H1 => if c = true then t D σ H1 else u D σ H1) : tIfS tt t u D σ H := h
/-- plain loops -/
theorem forP_O {f : S → α → Option S} : ∀ {xs : List α} {s0 s1 : S}, forP f s0 xs = some s1 → forO (ρ := ρ) (fun s x => (f s x).bind fun s' => some (.nx s')) s0 xs = some (.nx s1)
  | [], s0, s1, h => by cases h; rfl
  | x :: xs, s0, s1, h => by
    obtain ⟨s2, h1, h2⟩ := bnd h
    show ((f s0 x).bind _).bind _ = _
    rw [h1]
    exact forP_O h2
theorem En.forP [Mo r] {wi : TI} {g : TG} {tb : TS} {xs : List α} {f : S → α → Option S} {s0 s1 : S} (I : Bs → S → AS → L2.St → Hp → Prop)
    (E : En K b fs cs T H) (h : EvI K T wi σ H r xs) (hm : forP f s0 xs = some s1)
    (h0 : ∀ H2, En K ⟨T, owns cs, H2⟩ fs cs T H2 → I ⟨T, owns cs, H2⟩ s0 T σ H2)
    (hI : ∀ b' sx T' σ' H', I b' sx T' σ' H' → Wd b'.T b'.H T' H' ∧ TD T' H')
    (step : ∀ b' sx x sy T' σ' H' H'' v (D' : Ends), x ∈ xs → I b' sx T' σ' H' → Ex H' H'' → r K T' H'' v x → f sx x = some sy → D'.rt = D.rt →
      (∀ T2 σ2 H2, I b' sy T2 σ2 H2 → D'.nx σ2 H2 ∧ D'.ct σ2 H2) → g v σ' H'' fun σ3 H3 => tb D' σ3 H3)
    (k : ∀ H2 T' σ' H', En K b fs cs T H2 → I ⟨T, owns cs, H2⟩ s1 T' σ' H' → D.nx σ' H') : tFor wi g tb D σ H :=
  En.for_ (ρ := Unit) I E h (forP_O hm) h0 hI (fun Hb _ sx x o' T' σ' H' H'' v D' hx hI' ex hr hf hd _ hn _ => by
    obtain ⟨sy, h1, h2⟩ := bnd hf
    cases h2
    exact step _ sx x sy T' σ' H' H'' v D' hx hI' ex hr h1 hd fun T2 σ2 H2 i2 => hn sy T2 σ2 H2 rfl i2) fun H2 sx T' σ' H' E2 ho i2 => by cases ho; exact k H2 T' σ' H' E2 i2
/-- facts by their places -/
theorem En.rd [Mo r] {v : V} {d : α} (E : En K b fs cs T H) (k : Nat) (h : fs[k]? = some (fR r v d)) : r K T H v d := E.at k h
theorem En.rdB [Mo r] {v : V} {d : α} (E : En K b fs cs T H) (k : Nat) (h : fs[k]? = some (fR r v d)) : r K (Tb T cs) H v d := E.atB k h
/-- more that lists of ours do -/
def popAtO (xs : List α) (i : Int) : Option (α × List α) := if -1000000 ≤ i ∧ i < 1000000 then (seqIndex? i xs.length).bind fun k => (xs[k]?).map fun x => (x, xs.eraseIdx k) else none
theorem all2_erase {F : V → α → Prop} : ∀ {vs : List V} {xs : List α} (k : Nat), All2 F vs xs → All2 F (vs.eraseIdx k) (xs.eraseIdx k)
  | _, _, _, .nil => .nil
  | _, _, 0, .cons r t => t
  | _, _, k + 1, .cons r t => .cons r (all2_erase k t)
theorem En.popAt [Mo r] {p : Addr} {xs ys : List α} {d : α} {i : Int} (E : En K b fs cs T H) (k : Nat) (hk : cs[k]? = some (cL r p xs)) (hm : popAtO xs i = some (d, ys)) (q : ∀ v H', En K b (fR r v d :: fs) (cs.set k (cL r p ys)) T H' → Q v H') : rPopAt (.ref p) [.int i] H Q := by
  obtain ⟨hT, vs, h1, h2⟩ := E.cl k hk
  unfold popAtO at hm
  split at hm
  · rename_i hi
    obtain ⟨j, hj, hm⟩ := bnd hm
    cases hx : xs[j]? with
    | none => rw [hx] at hm; cases hm
    | some x =>
      rw [hx] at hm
      cases hm
      obtain ⟨v, hv, hr⟩ := all2_get h2 hx
      have f : Fr T H (upd H p (.lst (vs.eraseIdx j))) := Fr.upd (.inl hT)
      exact ⟨p, vs, i, j, v, rfl, rfl, h1, by omega, by omega, by rw [all2_len h2]; exact hj, hv, q _ _ (En.add (E.store k hk (all2_erase j h2)) (Mo.fr f hr))⟩
  · cases hm
def insO (xs : List α) (i : Int) (d : α) : Option (List α) := if 0 ≤ i ∧ i < 1000000 ∧ xs.length < 1000000 then some (xs.take i.toNat ++ [d] ++ xs.drop i.toNat) else none
theorem En.insert [Mo r] {p : Addr} {xs ys : List α} {d : α} {i : Int} {v : V} (E : En K b fs cs T H) (k : Nat) (hk : cs[k]? = some (cL r p xs)) (hv : r K T H v d) (hm : insO xs i d = some ys) (q : ∀ H', En K b fs (cs.set k (cL r p ys)) T H' → Q .non H') :
    ∃ (l : Addr) (xs : List V) (i' : Int) (y : V), V.ref p = .ref l ∧ [V.int i, v] = [.int i', y] ∧ H l = some (.lst xs) ∧ xs.length < sizeLine ∧ 0 ≤ i' ∧ i' < 2 ^ 63 ∧ Q .non (upd H l (.lst (xs.take i'.toNat ++ [y] ++ xs.drop i'.toNat))) := by
  obtain ⟨hT, vs, h1, h2⟩ := E.cl k hk
  unfold insO at hm
  split at hm
  · rename_i hi
    cases hm
    exact ⟨p, vs, i, v, rfl, rfl, h1, by rw [all2_len h2, sizeLine_eq]; omega, hi.1, by omega, q _ (E.store k hk (all2_app (all2_app (all2_take _ h2) (.cons hv .nil)) (all2_drop _ h2)))⟩
  · cases hm
/-- cells by their places -/
theorem own_nd {cs : List (Cel K)} {k : Nat} {c : Cel K} (hd : (owns cs).Nodup) (h : cs[k]? = some c) : c.own.Nodup := by
  obtain ⟨l1, l2, rfl⟩ := List.append_of_mem (List.mem_of_getElem? h)
  simp only [owns, List.map_append, List.map_cons, List.flatten_append, List.flatten_cons] at hd
  exact (List.nodup_append.mp (List.nodup_append.mp hd).2.1).1
theorem pick_nd {cs : List (Cel K)} (hd : (owns cs).Nodup) : ∀ {ks : List Nat} {cs' : List (Cel K)}, ks.Nodup → ks.map (fun k => cs[k]?) = cs'.map some → (owns cs').Nodup
  | [], [], _, _ => by simp [owns]
  | [], _ :: _, _, h => by simp at h
  | _ :: _, [], _, h => by simp at h
  | k :: ks, c :: cs', hn, h => by
    simp only [List.map_cons, List.cons.injEq] at h
    have hn' := List.nodup_cons.mp hn
    have ih := pick_nd hd hn'.2 h.2
    unfold owns at ih ⊢
    rw [List.map_cons, List.flatten_cons, List.nodup_append]
    refine ⟨own_nd hd h.1, ih, fun a ha x hx z => ?_⟩
    subst z
    obtain ⟨c2, hc2, ha2⟩ := owns_mem (cs := cs') hx
    have : some c2 ∈ cs'.map some := List.mem_map.mpr ⟨c2, hc2, rfl⟩
    rw [← h.2] at this
    obtain ⟨j, hj, e⟩ := List.mem_map.mp this
    exact hn'.1 (nd_mem hd h.1 e ha ha2 ▸ hj)
theorem En.pick {cs' : List (Cel K)} (E : En K b fs cs T H) (ks : List Nat) (hn : ks.Nodup) (h : ks.map (fun k => cs[k]?) = cs'.map some) : En K b fs cs' T H :=
  ⟨E.btd, E.sup, E.td, E.wd, E.fr, E.fac, fun c hc => by
    have : some c ∈ cs'.map some := List.mem_map.mpr ⟨c, hc, rfl⟩
    rw [← h] at this
    obtain ⟨j, _, e⟩ := List.mem_map.mp this
    exact E.cel c (List.mem_of_getElem? e), pick_nd E.dis hn h⟩
def outB (o : Out ρ S) (k : S → Option ρ) : Option ρ := match o with
  | .ret r => some r
  | .nx s => k s
  | .brk s => k s
theorem outB_nx {s : S} {k : S → Option ρ} {r : ρ} (h : outB (.nx s) k = some r) : k s = some r := h
theorem outB_ret {o : Out ρ S} {k : S → Option ρ} {q r : ρ} (e : o = .ret q) (h : outB o k = some r) : q = r := by subst e; exact Option.some.inj h
end
/-- [list of numbers, number, number], ours -/
@[reducible] def cTp {K : PySem.W.Frag} (a : Addr × Addr) (s : List Int × Int × Int) : Cel K := cM (cV a.1 (.lst [.ref a.2, .int s.2.1, .int s.2.2])) (cL zI a.2 s.1)
end EB

set_option Elab.async false
set_option linter.all false
set_option maxRecDepth 100000
set_option maxHeartbeats 4000000
/-! EB, second layer: promises of the first layer within packed facts. -/
namespace EB
open PySem PySem.Spec PyProof.Rows L2
@[reducible] def cTape {K : PySem.W.Frag} (d : Addr × Addr) (n : Nat) : Cel K := ⟨[d.1, d.2], fun _ H => TpI d n H, fun _ h i => re_tape.st n _ _ (fun b w => h b (by rcases w with rfl | rfl <;> simp)) i⟩
@[reducible] def cMemo {K : PySem.W.Frag} {α : Type} (a : Addr) (kf : α → Key) (U : List α) (ok : α → Int → Prop) : Cel K := ⟨[a], fun _ H => MmI a kf U ok 0 H, fun _ h i => re_memo.st 0 _ _ (fun b w => h b (by cases w; simp)) i⟩
section
variable {K : PySem.W.Frag} {b : Bs} {fs : List (Fact K)} {cs : List (Cel K)} {T T' : AS} {H H' : Hp} {σ : L2.St} {α β γ S ι ρ : Type} {r : Rp α} {s : Rp β} {tr : TA} {te ta tb : TE} {E' : XK} {Q : VK} {D : Ends}
theorem En.runN [Mo r] {W : AS} {I : Nat → Hp → Prop} {n c0 : Nat} {φ : α → Prop} {c c' : Cel K} (E : En K b fs cs T H) (k : Nat) (hk : cs[k]? = some c) (h : (∀ x, W x → T x) → EvN K T W I c0 te σ H r φ) (ho : ∀ x, W x ↔ x ∈ c.own) (hi : c.P T H → I (n + c0) H) (ho' : c'.own = c.own) (hi' : ∀ T H, I n H → c'.P T H)
    (q : ∀ v H' d, φ d → En K b (fR r v d :: fs) (cs.set k c') T H' → Q v H') : te σ H Q :=
  have hc := E.cel c (List.mem_of_getElem? hk)
  h (fun x hx => (hc.2 x ((ho x).mp hx)).1) n H (Fr.refl H) (hi hc.1) Q fun v H' d f i rv p => q v H' d p ((E.chg k hk (f.mono fun x hx => (ho x).mp hx) (hi' T H' i) ho').add rv)
theorem En.runT [Mo r] {d : Addr × Addr} {n c0 : Nat} {φ : α → Prop} (E : En K b fs cs T H) (k : Nat) (hk : cs[k]? = some (cTape d n)) (m : Nat) (hm : m + c0 ≤ n) (h : (∀ x, WTp d x → T x) → EvN K T (WTp d) (TpI d) c0 te σ H r φ)
    (q : ∀ v H' x, φ x → En K b (fR r v x :: fs) (cs.set k (cTape d m)) T H' → Q v H') : te σ H Q :=
  En.runN (n := m) (c' := cTape d m) E k hk h (fun x => by simp [WTp]) (fun i => Re.cut re_tape i hm) rfl (fun _ _ i => i) q
theorem En.runM [Mo r] {a : Addr} {kf : γ → Key} {U : List γ} {ok : γ → Int → Prop} {φ : α → Prop} (E : En K b fs cs T H) (k : Nat) (hk : cs[k]? = some (cMemo a kf U ok)) (h : (∀ x, W1 a x → T x) → EvN K T (W1 a) (MmI a kf U ok) 0 te σ H r φ)
    (q : ∀ v H' x, φ x → En K b (fR r v x :: fs) (cs.set k (cMemo a kf U ok)) T H' → Q v H') : te σ H Q :=
  En.runN (n := 0) (c' := cMemo a kf U ok) E k hk h (fun x => by simp [W1]) (fun i => i) rfl (fun _ _ i => i) q
theorem En.tape {ns : List Int} (E : En K b fs cs T H) (h : EvA K T tr σ H (aC (zL zI) aN) (ns, ())) (hl : ns.length ≤ 63)
    (q : ∀ d H', En K b (fR zTp (.ref d.1) d :: fs) (cTape d 1000000000 :: cs) (fun x => T x ∨ x ∈ [d.1, d.2]) H' → Q (.ref d.1) H') : tCall (TSp K) [] E' tr σ H Q :=
  h H (Fr.refl H) _ fun vs H2 e2 ⟨v, _, ev, rv, hn⟩ => by
    show TSp K (vs ++ []) H2 Q E'
    rw [List.append_nil, ev, show _ = [] from hn]
    have E2 := E.ex e2
    refine ⟨T, v, ns, E2.td, rfl, rv, hl, fun ta tg H3 e3 h1 h2 hI => ?_⟩
    have hx : ∀ x ∈ [ta, tg], H2 x = none := fun x hx => by
      rcases List.mem_cons.mp hx with rfl | hx
      · exact h1
      · rw [List.mem_singleton] at hx; subst hx; exact h2
    have hne : ta ≠ tg := by obtain ⟨_, _, _, _, _, _, _, _, h9, _⟩ := hI.ex; exact h9
    refine q (ta, tg) H3 (En.add (E2.newc (c := cTape (ta, tg) 1000000000) (H' := H3) ⟨e3.fr, fun b t => t.elim .inl fun z => .inr (hx b z)⟩ e3 (fun b h => .inl h) (fun b t => ?_) hI (fun x hx' => ⟨hx x hx', .inr hx'⟩) (by simp [hne])) rfl)
    rcases t with t | t
    · exact E2.td.ex e3 b t
    · rcases List.mem_cons.mp t with rfl | t
      · exact re_tape.dom _ _ _ hI (.inl rfl)
      · rw [List.mem_singleton] at t; subst t; exact re_tape.dom _ _ _ hI (.inr rfl)
theorem En.newV {vs : List V} (E : En K b fs cs T H) (hl : vs.length ≤ 1000) (q : ∀ p H', En K b (fR zA (.ref p) p :: fs) (cV p (.lst vs) :: cs) (Tp T p) H' → Q (.ref p) H') : vs.length ≤ sizeLine ∧ ∀ p, H p = none → Q (.ref p) (upd H p (.lst vs)) :=
  ⟨by rw [sizeLine_eq]; omega, fun p hp => q p _ (En.add (E.newc (c := cV p (.lst vs)) (Wd.new hp) (Ex.new hp) (fun _ h => .inl h) ((E.td.ex (Ex.new hp)).tp upd_same) upd_same (fun a ha => by simp only [List.mem_singleton] at ha; subst ha; exact ⟨hp, .inr rfl⟩) (by simp)) rfl)⟩
theorem En.newR {vs : List V} {p : Addr} (E : En K b fs cs T H) (hp : H p = none) : En K b (fR zA (.ref p) p :: fs) (cV p (.lst vs) :: cs) (Tp T p) (upd H p (.lst vs)) :=
  En.add (E.newc (c := cV p (.lst vs)) (Wd.new hp) (Ex.new hp) (fun _ h => .inl h) ((E.td.ex (Ex.new hp)).tp upd_same) upd_same (fun a ha => by simp only [List.mem_singleton] at ha; subst ha; exact ⟨hp, .inr rfl⟩) (by simp)) rfl
/-- read at the cells that lie aside -/
theorem En.runTb {d : α} (E : En K b fs cs T H) (h : Ev K (Tb T cs) te σ H r d) (k : ∀ v H', Ex H H' → En K b fs cs T H' → r K (Tb T cs) H' v d → Q v H') : te σ H Q :=
  h H (Fr.refl H) Q fun v H' e q => k v H' e (E.ex e) q
/-- an object with one table, made of what is read aside; the cells aside are lists -/
theorem En.made {Cn : Str} {fn : List Str} {rf : Rpl β} [LiL rf] {kk p : Addr} {kf : γ → Key} {U : List γ} {ok : γ → Int → Prop} {x : β} {ks : List (Cel K)} (E : En K b fs cs T H) (e : Ex H H') (h0 : H kk = none) (h1 : H' kk = some (.dK [])) (inj : ∀ x y, kf x = kf y → x = y) (few : U.length ≤ 1000000)
    (ho : zOb Cn fn rf K (Tp (Tb T ks) kk) H' (.ref p) x) (hl : ∀ a, a ∈ owns ks → ∃ xs, H a = some (.lst xs)) [MoL rf] : En K b (fR (zOb Cn fn rf) (.ref p) x :: fs) (cMemo kk kf U ok :: cs) (Tp T kk) H' := by
  have w : Wd T H (Tp T kk) H' := ⟨e.fr, fun b t => t.elim .inl fun z => .inr (z ▸ h0)⟩
  refine En.add (E.newc (c := cMemo kk kf U ok) w e (fun _ h => .inl h) ((E.td.ex e).tp h1) (memo_new h1 inj few) (fun a ha => by simp only [List.mem_singleton] at ha; subst ha; exact ⟨h0, .inr rfl⟩) (by simp)) ?_
  refine Li.up (T1 := Tp (Tb T ks) kk) (fun a t => ?_) ho
  rcases t with t | t
  · by_cases hm : a ∈ owns ks
    · obtain ⟨xs, hx⟩ := hl a hm
      exact .inr ⟨xs, e a _ hx⟩
    · exact .inl (.inl ⟨t, hm⟩)
  · exact .inl (.inr t)
theorem En.isL [Mo r] {p : Addr} {xs : List α} (E : En K b fs cs T H) (k : Nat) (hk : cs[k]? = some (cL r p xs)) : ∃ vs, H p = some (.lst vs) := let ⟨_, vs, h, _⟩ := E.cl k hk; ⟨vs, h⟩
theorem En.isV {p : Addr} {vs : List V} (E : En K b fs cs T H) (k : Nat) (hk : cs[k]? = some (cV p (.lst vs))) : ∃ vs, H p = some (.lst vs) := ⟨vs, E.c k hk⟩
theorem En.isT {d : Addr × Addr} {n : Nat} (E : En K b fs cs T H) (k : Nat) (hk : cs[k]? = some (cTape d n)) : ∀ a, a ∈ [d.1, d.2] → ∃ vs, H a = some (.lst vs) := fun a ha => by
  obtain ⟨gs, sd, ct, h1, h2, _⟩ := (E.c k hk : TpI d n H).ex
  rcases List.mem_cons.mp ha with rfl | ha
  · exact ⟨_, h1⟩
  · rw [List.mem_singleton] at ha; subst ha; exact ⟨_, h2⟩
theorem setO_ok {xs : List α} {i : Int} {d : α} (h0 : 0 ≤ i) (h : i < (xs.length : Int)) : setO xs i d = some (xs.set i.toNat d) := by
  unfold setO ixN
  rw [if_pos h0, if_pos (by omega)]
  rfl
theorem tp_less {d : Addr × Addr} {n m : Nat} {H : Hp} (h : TpI d n H) (e : m ≤ n) : TpI d m H := Re.cut re_tape h e
theorem ev_fromL [Mo r] {p : Addr} {xs : List α} (h : Ev K T te σ H zA p) (m : zL r K T H (.ref p) xs) : Ev K T te σ H (zL r) xs := ev_hmL h m
end
end EB

set_option Elab.async false
set_option linter.all false
set_option maxRecDepth 100000
set_option maxHeartbeats 4000000
/-! EB: data of any kind. -/
namespace EB
open PySem PySem.Spec PyProof.Rows L2
mutual
inductive ZD (K : PySem.W.Frag) (T : AS) (H : Hp) : V → PyData → Prop
  | non : ZD K T H .non .none
  | bl (b : Bool) : ZD K T H (.bl b) (.bool b)
  | int (i : Int) : ZD K T H (.int i) (.int i)
  | str (x : Str) : ZD K T H (.str x) (.str x)
  | lst {a : Addr} {xs : List V} {ds : List PyData} : SL K T H a xs → ZDs K T H xs ds → ZD K T H (.ref a) (.list ds)
  | tup {a : Addr} {xs : List V} {ds : List PyData} : ST K T H a xs → ZDs K T H xs ds → ZD K T H (.ref a) (.tuple ds)
inductive ZDs (K : PySem.W.Frag) (T : AS) (H : Hp) : List V → List PyData → Prop
  | nil : ZDs K T H [] []
  | cons {v : V} {vs : List V} {d : PyData} {ds : List PyData} : ZD K T H v d → ZDs K T H vs ds → ZDs K T H (v :: vs) (d :: ds)
end
mutual
theorem ZD.wd {K : PySem.W.Frag} {T T' : AS} {H H' : Hp} (w : Wd T H T' H') : ∀ {v : V} {d : PyData}, ZD K T H v d → ZD K T' H' v d
  | _, _, .non => .non
  | _, _, .bl b => .bl b
  | _, _, .int i => .int i
  | _, _, .str x => .str x
  | _, _, .lst h q => .lst (h.wd w) (q.wd w)
  | _, _, .tup h q => .tup (h.wd w) (q.wd w)
theorem ZDs.wd {K : PySem.W.Frag} {T T' : AS} {H H' : Hp} (w : Wd T H T' H') : ∀ {v : List V} {d : List PyData}, ZDs K T H v d → ZDs K T' H' v d
  | _, _, .nil => .nil
  | _, _, .cons h q => .cons (h.wd w) (q.wd w)
end
mutual
theorem ZD.dp {K : PySem.W.Frag} {T : AS} {H : Hp} : ∀ {v : V} {d : PyData}, ZD K T H v d → Dp K H v d
  | _, _, .non => .non
  | _, _, .bl b => .bl b
  | _, _, .int i => .int i
  | _, _, .str x => .str x
  | _, _, .lst h q => .lst h.sq q.dp
  | _, _, .tup h q => .tup h.sq q.dp
theorem ZDs.dp {K : PySem.W.Frag} {T : AS} {H : Hp} : ∀ {v : List V} {d : List PyData}, ZDs K T H v d → DpAll K H v d
  | _, _, .nil => .nil
  | _, _, .cons h q => .cons h.dp q.dp
end
def zD : Rp PyData := fun K T H v d => ZD K T H v d
instance : Mo zD := ⟨fun w h => ZD.wd w h⟩
theorem ZDs.all {K : PySem.W.Frag} {T : AS} {H : Hp} : ∀ {vs : List V} {ds : List PyData}, ZDs K T H vs ds → All2 (zD K T H) vs ds
  | _, _, .nil => .nil
  | _, _, .cons h q => .cons h q.all
theorem ZDs.of {K : PySem.W.Frag} {T : AS} {H : Hp} : ∀ {vs : List V} {ds : List PyData}, All2 (zD K T H) vs ds → ZDs K T H vs ds
  | _, _, .nil => .nil
  | _, _, .cons h q => .cons h (ZDs.of q)
/-- what is data -/
class Tod {α : Type} (r : Rp α) where
  toD : α → PyData
  up : ∀ {K T H v d}, r K T H v d → ZD K T H v (toD d)
instance : Tod zD := ⟨id, fun h => h⟩
instance : Tod zI := ⟨.int, fun h => by cases h; exact .int _⟩
instance : Tod zB := ⟨.bool, fun h => by cases h; exact .bl _⟩
instance : Tod zS := ⟨.str, fun h => by cases h; exact .str _⟩
instance : Tod zN := ⟨fun _ => .none, fun h => by cases h; exact .non⟩
instance : Tod zW := ⟨fun w => .str (wS w), fun h => by obtain ⟨rfl, _⟩ := h; exact .str _⟩
section
variable {α β γ : Type} {r : Rp α} {s : Rp β} {t : Rp γ}
theorem zds_map [Tod r] {K T H} {vs : List V} {xs : List α} (h : All2 (r K T H) vs xs) : ZDs K T H vs (xs.map (Tod.toD r)) := by
  induction h with
  | nil => exact .nil
  | cons a _ ih => exact .cons (Tod.up a) ih
instance [Tod r] : Tod (zL r) := ⟨fun xs => .list (xs.map (Tod.toD r)), fun ⟨a, vs, e, h, q⟩ => by rw [e]; exact .lst h (zds_map q)⟩
instance [Tod r] : Tod (zU r) := ⟨fun xs => .tuple (xs.map (Tod.toD r)), fun ⟨a, vs, e, h, q⟩ => by rw [e]; exact .tup h (zds_map q)⟩
instance [Tod r] [Tod s] : Tod (zP r s) := ⟨fun p => .tuple [Tod.toD r p.1, Tod.toD s p.2], fun ⟨a, x, y, e, h, q, q'⟩ => by rw [e]; exact .tup h (.cons (Tod.up q) (.cons (Tod.up q') .nil))⟩
instance [Tod r] [Tod s] [Tod t] : Tod (zP3 r s t) := ⟨fun p => .tuple [Tod.toD r p.1, Tod.toD s p.2.1, Tod.toD t p.2.2], fun ⟨a, x, y, z, e, h, q, q', q2⟩ => by rw [e]; exact .tup h (.cons (Tod.up q) (.cons (Tod.up q') (.cons (Tod.up q2) .nil)))⟩
instance [Tod r] : Tod (zO r) := ⟨fun o => match o with | none => .none | some x => Tod.toD r x, fun h => by
  rcases h with ⟨rfl, rfl⟩ | ⟨x, rfl, q⟩
  · exact .non
  · exact Tod.up q⟩
/-- things of many kinds -/
class TodL {α : Type} (r : Rpl α) where
  toD : α → List PyData
  up : ∀ {K T H v d}, r K T H v d → ZDs K T H v (toD d)
instance : TodL aN := ⟨fun _ => [], fun h => by rw [show _ = [] from h]; exact .nil⟩
instance {q : Rpl β} [Tod r] [TodL q] : TodL (aC r q) := ⟨fun p => Tod.toD r p.1 :: TodL.toD q p.2, fun ⟨v, ws, e, h, k⟩ => by rw [e]; exact .cons (Tod.up h) (TodL.up k)⟩
end
/-! ### parts of data -/
def dInt : PyData → Option Int | .int i => some i | _ => none
def dBool : PyData → Option Bool | .bool b => some b | _ => none
def dStr : PyData → Option Str | .str s => some s | _ => none
def dSeq : PyData → Option (List PyData) | .list xs => some xs | .tuple xs => some xs | _ => none
def dLst : PyData → Option (List PyData) | .list xs => some xs | _ => none
def dTup : PyData → Option (List PyData) | .tuple xs => some xs | _ => none
def dNone : PyData → Bool | .none => true | _ => false
def isD (n : String) : PyData → Bool
  | .int _ => n == "int"
  | .bool _ => n == "bool" || n == "int"
  | .str _ => n == "str"
  | .list _ => n == "list"
  | .tuple _ => n == "tuple"
  | _ => false
def tyD : PyData → String
  | .none => "NoneType"
  | .bool _ => "bool"
  | .int _ => "int"
  | .str _ => "str"
  | .list _ => "list"
  | .tuple _ => "tuple"
  | .dict _ => "dict"
section
variable {K : PySem.W.Frag} {T : AS} {σ : L2.St} {H : Hp} {α β γ : Type} {r : Rp α} {s : Rp β} {te ta tb : TE} {tr : TA} {d e : PyData}
theorem ev_toD [Tod r] {x : α} (h : Ev K T te σ H r x) : Ev K T te σ H zD (Tod.toD r x) := fun H1 f Q q => h H1 f Q fun v H2 e r2 => q v H2 e (Tod.up r2)
theorem ev_dI {i : Int} (h : Ev K T te σ H zD d) (e : dInt d = some i) : Ev K T te σ H zI i := fun H1 f Q q => h H1 f Q fun v H2 e2 r2 => by
  cases r2 with
  | int j => cases e; exact q _ H2 e2 rfl
  | _ => cases e
theorem ev_dB {i : Bool} (h : Ev K T te σ H zD d) (e : dBool d = some i) : Ev K T te σ H zB i := fun H1 f Q q => h H1 f Q fun v H2 e2 r2 => by
  cases r2 with
  | bl j => cases e; exact q _ H2 e2 rfl
  | _ => cases e
theorem ev_dS {i : Str} (h : Ev K T te σ H zD d) (e : dStr d = some i) : Ev K T te σ H zS i := fun H1 f Q q => h H1 f Q fun v H2 e2 r2 => by
  cases r2 with
  | str j => cases e; exact q _ H2 e2 rfl
  | _ => cases e
theorem ev_dQ {xs : List PyData} (h : Ev K T te σ H zD d) (e : dSeq d = some xs) : Ev K T te σ H (zQ zD) xs := fun H1 f Q q => h H1 f Q fun v H2 e2 r2 => by
  cases r2 with
  | lst hs hh => cases e; exact q _ H2 e2 (.inl ⟨_, _, rfl, hs, hh.all⟩)
  | tup hs hh => cases e; exact q _ H2 e2 (.inr ⟨_, _, rfl, hs, hh.all⟩)
  | _ => cases e
theorem ev_dL {xs : List PyData} (h : Ev K T te σ H zD d) (e : dLst d = some xs) : Ev K T te σ H (zL zD) xs := fun H1 f Q q => h H1 f Q fun v H2 e2 r2 => by
  cases r2 with
  | lst hs hh => cases e; exact q _ H2 e2 ⟨_, _, rfl, hs, hh.all⟩
  | _ => cases e
theorem ev_dU {xs : List PyData} (h : Ev K T te σ H zD d) (e : dTup d = some xs) : Ev K T te σ H (zU zD) xs := fun H1 f Q q => h H1 f Q fun v H2 e2 r2 => by
  cases r2 with
  | tup hs hh => cases e; exact q _ H2 e2 ⟨_, _, rfl, hs, hh.all⟩
  | _ => cases e
theorem zd_ty {v : V} (h : ZD K T H v d) : TyX K H v (.type (tyD d)) := by
  cases h with
  | non => exact Tyd.ty (r := zN) (T := T) (a := ()) rfl
  | bl b => exact Tyd.ty (r := zB) (T := T) (a := b) rfl
  | int i => exact Tyd.ty (r := zI) (T := T) (a := i) rfl
  | str x => exact Tyd.ty (r := zS) (T := T) (a := x) rfl
  | lst hs hh => exact Tyd.ty (r := zL zD) (T := T) ⟨_, _, rfl, hs, hh.all⟩
  | tup hs hh => exact Tyd.ty (r := zU zD) (T := T) ⟨_, _, rfl, hs, hh.all⟩
theorem kit_D {n : String} {v : V} (h : ZD K T H v d) (hk : ∀ m ∈ ["NoneType", "bool", "int", "str", "list", "tuple"], kitB m n = some (m == n || (m == "bool" && n == "int"))) (hn : n ∈ ["bool", "int", "str", "list", "tuple"]) : kitB (tyD d) n = some (isD n d) := by
  have hh : ∀ m ∈ ["NoneType", "bool", "int", "str", "list", "tuple"], tyD d = m → isD n d = (m == n || (m == "bool" && n == "int")) → kitB (tyD d) n = some (isD n d) := fun m hm e1 e2 => by rw [e1, e2]; exact hk m hm
  simp only [List.mem_cons, List.not_mem_nil, or_false] at hn
  cases h with
  | non => exact hh "NoneType" (by simp) rfl (by rcases hn with rfl | rfl | rfl | rfl | rfl <;> rfl)
  | bl b => exact hh "bool" (by simp) rfl (by rcases hn with rfl | rfl | rfl | rfl | rfl <;> rfl)
  | int i => exact hh "int" (by simp) rfl (by rcases hn with rfl | rfl | rfl | rfl | rfl <;> rfl)
  | str x => exact hh "str" (by simp) rfl (by rcases hn with rfl | rfl | rfl | rfl | rfl <;> rfl)
  | lst _ _ => exact hh "list" (by simp) rfl (by rcases hn with rfl | rfl | rfl | rfl | rfl <;> rfl)
  | tup _ _ => exact hh "tuple" (by simp) rfl (by rcases hn with rfl | rfl | rfl | rfl | rfl <;> rfl)
theorem kits_ok : ∀ n ∈ ["bool", "int", "str", "list", "tuple"], ∀ m ∈ ["NoneType", "bool", "int", "str", "list", "tuple"], kitB m n = some (m == n || (m == "bool" && n == "int")) := by decide +kernel
theorem ev_isiD {n : String} (h : Ev K T ta σ H zD d) (hn : n ∈ ["bool", "int", "str", "list", "tuple"] := by decide) : Ev K T (tCB (rIsi K) (tCons ta (tCons (tC (.ty n)) tNil))) σ H zB (isD n d) := fun H1 f Q q =>
  h H1 f _ fun v H2 e2 r2 => ⟨v, .ty n, _, _, _, rfl, .ty n, zd_ty r2, kit_ty (kit_D r2 (kits_ok n hn) hn), q _ H2 e2 rfl⟩
theorem ev_isi2D {n1 n2 : String} (h : Ev K T ta σ H zD d) (h1 : n1 ∈ ["bool", "int", "str", "list", "tuple"] := by decide) (h2 : n2 ∈ ["bool", "int", "str", "list", "tuple"] := by decide) :
    Ev K T (tCB (rIsiT K) (tCons ta (tCons (tTup (tCons (tC (.ty n1)) (tCons (tC (.ty n2)) tNil))) tNil))) σ H zB (isD n1 d || isD n2 d) := fun H1 f Q q =>
  h H1 f _ fun v H2 e2 r2 => isi2_at (zd_ty r2) (kit_D r2 (kits_ok n1 h1) h1) (kit_D r2 (kits_ok n2 h2) h2) fun H3 e3 => q _ H3 (e2.trans e3) rfl
theorem ev_isND (h : Ev K T ta σ H zD d) : Ev K T (tOp rIsN ta (tC .non)) σ H zB (dNone d) := fun H1 f Q q => h H1 f _ fun v H2 e2 r2 => ⟨rfl, q _ H2 e2 (by cases r2 <;> rfl)⟩
theorem ev_notND (h : Ev K T ta σ H zD d) : Ev K T (tOp rNotN ta (tC .non)) σ H zB (!dNone d) := fun H1 f Q q => h H1 f _ fun v H2 e2 r2 => ⟨rfl, q _ H2 e2 (by cases r2 <;> rfl)⟩
/-- == of data -/
theorem ev_eqDD (ha : Ev K T ta σ H zD d) (hb : Ev K T tb σ H zD e) (h1 : SeqAt.shaped d = true) (h2 : SeqAt.shaped e = true) : Ev K T (tOp (rEqD K) ta tb) σ H zB (PyData.eqv d e) :=
  ev_op ha hb fun x y H1 Q _ r1 r2 q => ⟨_, _, ZD.dp r1, ZD.dp r2, h1, h2, q _ H1 (Ex.refl H1) rfl⟩
theorem ev_neDD (ha : Ev K T ta σ H zD d) (hb : Ev K T tb σ H zD e) (h1 : SeqAt.shaped d = true) (h2 : SeqAt.shaped e = true) : Ev K T (tOp (rNeD K) ta tb) σ H zB (!PyData.eqv d e) :=
  ev_op ha hb fun x y H1 Q _ r1 r2 q => ⟨_, _, ZD.dp r1, ZD.dp r2, h1, h2, q _ H1 (Ex.refl H1) rfl⟩
/-- len -/
def dLen : PyData → Option Int | .list xs => some xs.length | .tuple xs => some xs.length | .str s => if s.length ≤ 1000000 then some s.length else none | _ => none
def rLenD (K : PySem.W.Frag) : List V → Hp → VK → Prop := fun xs H Q => ∃ x n, xs = [x] ∧ LenV K x H n ∧ Q (.int n) H
theorem kc_lenD {X : Cx} (hK : X.K = K := by rfl) : CallR X (.builtin "len") (rLenD K) := hK ▸ call_len
theorem ev_lenD {n : Int} (h : Ev K T ta σ H zD d) (e : dLen d = some n) : Ev K T (tCB (rLenD K) (tCons ta tNil)) σ H zI n :=
  ev_c1 h fun x H1 Q _ r2 q => by
    cases r2 with
    | lst hs hh => cases e; exact ⟨_, _, rfl, .inl ⟨_, hs.sq, rfl⟩, q _ H1 (Ex.refl H1) (by rw [all2_len hh.all]; rfl)⟩
    | tup hs hh => cases e; exact ⟨_, _, rfl, .inr ⟨_, hs.sq, rfl⟩, q _ H1 (Ex.refl H1) (by rw [all2_len hh.all]; rfl)⟩
    | str x =>
      have e' : (if x.length ≤ 1000000 then some (x.length : Int) else none) = some n := e
      split at e'
      · rename_i hl
        cases e'
        exact ⟨_, _, rfl, ⟨by rw [sizeLine_eq]; omega, rfl⟩, q _ H1 (Ex.refl H1) rfl⟩
      · cases e'
    | _ => cases e
/-- an item -/
def dIx (d : PyData) (i : Int) : Option PyData := match d with
  | .list xs => atI xs i
  | .tuple xs => atI xs i
  | .str s => if s.length ≤ 1000000 then (atI s.cps.toList i).map fun c => .str ⟨#[c]⟩ else none
  | _ => none
theorem ev_ixD {i : Int} {x : PyData} (ha : Ev K T ta σ H zD d) (hb : Ev K T tb σ H zI i) (hi : dIx d i = some x) : Ev K T (tOp (rIx K) ta tb) σ H zD x :=
  ev_op ha hb fun v w H1 Q _ r1 r2 q => by
    cases r1 with
    | lst hs hh =>
      obtain ⟨u, hu, hr⟩ := all2_at hh.all hi
      exact .inl ⟨_, _, i, u, rfl, r2, hs.sq, hu, q u H1 (Ex.refl H1) hr⟩
    | tup hs hh =>
      obtain ⟨u, hu, hr⟩ := all2_at hh.all hi
      exact .inr (.inl ⟨_, _, i, u, rfl, r2, hs.sq, hu, q u H1 (Ex.refl H1) hr⟩)
    | str s =>
      simp only [dIx] at hi
      split at hi
      · rename_i hl
        cases hc : atI s.cps.toList i with
        | none => rw [hc] at hi; cases hi
        | some c =>
          rw [hc] at hi
          cases hi
          exact .inr (.inr ⟨s, i, c, rfl, r2, by rw [sizeLine_eq]; omega, hc, q _ H1 (Ex.refl H1) (.str _)⟩)
      · cases hi
    | _ => cases hi
/-- texts -/
theorem ei_strS {s : Str} (h : Ev K T te σ H zS s) (hl : s.length ≤ 1000000) : EvI K T (iStr te) σ H zS (s.cps.toList.map fun c => (⟨#[c]⟩ : Str)) := fun H1 f R q => h H1 f _ fun v H2 e2 r2 => by
  refine ⟨_, r2, q _ H2 e2 ⟨⟨_, _, _, ?_, walk_str, fun _ _ => trivial, fun i H' v H'' hi _ y => ?_⟩, ?_⟩⟩
  · simp
  · obtain ⟨rfl, c, hc, rfl⟩ := y
    exact ⟨Ex.refl _, ⟨#[c]⟩, by rw [List.getElem?_map]; simp only [Array.getElem?_toList] ; rw [hc]; rfl, fun _ _ _ => rfl⟩
  · rw [List.length_map, sizeLine_eq]
    have : s.cps.toList.length = s.length := by simp [Str.length]
    omega
def inSgn (c : Str) (s : Str) : Option Bool := match c.cps.toList with
  | [x] => some (decide (x ∈ s.cps.toList))
  | _ => none
theorem ev_inS {c s : Str} {x : Bool} (ha : Ev K T ta σ H zS c) (hb : Ev K T tb σ H zS s) (h : inSgn c s = some x) : Ev K T (tOp rInSg ta tb) σ H zB x :=
  ev_op ha hb fun v w H1 Q _ r1 r2 q => by
    unfold inSgn at h
    split at h
    · rename_i y hy
      cases h
      have hc : c = ⟨#[y]⟩ := by
        cases c with
        | mk a =>
          have : a = #[y] := by
            apply Array.ext'
            simpa using hy
          rw [this]
      exact ⟨y, s, by rw [show v = .str c from r1, hc], r2, q _ H1 (Ex.refl H1) rfl⟩
    · cases h
end
end EB

set_option Elab.async false
set_option linter.all false
set_option maxRecDepth 100000
set_option maxHeartbeats 4000000
/-! EB: exceptions. -/
namespace EB
open PySem PySem.Spec PyProof.Rows L2
/-! ### several clauses with names -/
abbrev Hdl := Value × Nat × (Addr → Value → Option Addr → TS)
def wManyAs (K : PySem.W.Frag) (Wout : WX) (D : Ends) : List Hdl → WX
  | [] => Wout
  | (c, i, ts) :: r => fun cls d σ H => ∃ b, PySem.W.exmOne K cls c = some b ∧ (b = true → ∀ a, H a = none → ts a cls d { nx := fun σ' H' => D.nx (σ'.set i none) H', rt := D.rt, bk := fun σ' H' => D.bk (σ'.set i none) H', ct := fun σ' H' => D.ct (σ'.set i none) H' } (σ.set i (some (.ref a))) H) ∧
    (b = false → wManyAs K Wout D r cls d σ H)
inductive HdsAs (X : Cx) : List ExceptHandler → List Hdl → Prop
  | nil : HdsAs X [] []
  | cons {x n : Str} {c : Value} {i : Nat} {ts : Addr → Value → Option Addr → TS} {b₀ : Stmt} {suite : List Stmt} {np pos' : Pos} {hds : List ExceptHandler} {l : List Hdl} (hi : X.N[i]? = some n) (hln : X.env.kindOf n = some .local) (hc : Names X x c)
      (hsu : ∀ (a : Addr) (oe : Obj) (cls : Value) (d : Option Addr) (pn : List (Addr × Obj)), Zc cls d oe → (∃ vs, oe.data = .fields vs) → PSs (X.suite a ((a, oe) :: pn)) (b₀ :: suite) (ts a cls d)) (r : HdsAs X hds l) :
      HdsAs X (.ExceptHandler (some (.Name x np)) (some n) (b₀ :: suite) pos' :: hds) ((c, i, ts) :: l)
section
variable {X : Cx} {body : List Stmt} {h₀ : ExceptHandler} {hds : List ExceptHandler} {l : List Hdl} {pos : Pos} {tb : WX → TS} {Wout : WX}
theorem ps_try_manyAs (hs : X.stack = X.env :: X.outer) (hf : X.env.frame = some X.env.locals) (hN : X.N.Nodup) (tk : Takes X Wout)
    (hb : ∀ (W : WX) (pn : List (Addr × Obj)) (xe : Value → Shared → Prop), Takes (X.tr pn xe) W → PassesOwn (model X.prog X.w) X.A X.env xe → PSs (X.tr pn xe) body (tb W))
    (hh : HdsAs X (h₀ :: hds) l) : PS X (.Try body (h₀ :: hds) [] [] pos) (fun D σ H => tb (wManyAs X.K Wout D l) D σ H) := by
  refine ⟨fun pins s σ H D I h => ?_⟩
  have ok := I.ok
  have hfr : X.A.frames = some (X.env :: X.outer) := by rw [ok.frames, hs]
  refine wpAny_Try_except ?_
  refine wpAny_mono ((hb (wManyAs X.K Wout D l) (X.pn ++ pins) (fun e s₁ => wpAny (model X.prog X.w) X.A (noteFrame e X.env) (fun _ s₂ => wpAny (model X.prog X.w) X.A (setFlight e none) (fun _ s₃ =>
    wpAny (model X.prog X.w) X.A (handleBy e X.env (h₀ :: hds)) (SP X pins D) X.xe s₃) X.xe s₂) X.xe s₁) (fun u s' xx => ?_) PassesOwn.looking).run [] s σ H D (I.toTry _) h) (fun f s1 hsp => ?_) (fun e s1 he => he)
  · obtain ⟨a, B, sI, pins', σ', H', cls, d, rfl, J', nb, up, sky, na, os, ag, w⟩ := xx
    have J : Inv X pins σ' H' sI := J'.ofTry ok
    have sky' : Sky B (X.env :: X.outer) a (Zc cls d) X.env.locals s'.heap := by rw [← hs]; exact sky
    show wpAny (model X.prog X.w) X.A (noteFrame (.ref a) X.env) _ _ _
    refine Sky.land Zc.steady hfr hf sky' fun h3 fl3 up3 => ?_
    have J3 : Inv X pins σ' H' { s' with heap := h3 } := J.landed nb fl3.1 (up.trans up3) os ag
    obtain ⟨oe3, vs3, he3, hz3, hd3⟩ := fl3.there
    have notFr : ∀ {h : Heap} {o : Obj} {vs : Array Value}, h.FunFrames B (X.env :: X.outer) → h.get? a = some o → o.data = .fields vs → a ∉ frs (X.env :: X.outer) := fun {h o vs} ff e dd hm => by
      obtain ⟨_, o', e', hnf⟩ := ff.mem hm
      rw [e] at e'; cases e'
      exact hnf _ dd
    have nfr := notFr fl3.2.2.1 he3 hd3
    have nL : a ≠ X.env.locals := fun z => nfr (List.mem_filterMap.mpr ⟨X.env, List.mem_cons_self, by rw [hf, z]⟩)
    have nF : a ∉ X.fs := fun hm => by
      obtain ⟨e, he, q⟩ := List.mem_filterMap.mp hm
      exact nfr (List.mem_filterMap.mpr ⟨e, List.mem_cons_of_mem _ he, q⟩)
    have S3 := J3.suite he3 hd3 na nL nF
    have go : ∀ {hds' : List ExceptHandler} {l' : List Hdl}, HdsAs X hds' l' → wManyAs X.K Wout D l' cls d σ' H' →
        wpAny (model X.prog X.w) X.A (handleBy (.ref a) X.env hds') (SP X pins D) X.xe { s' with heap := h3 } := by
      intro hds' l' hk
      induction hk with
      | nil =>
        intro w
        refine wpAny_handleBy_nil ?_
        obtain ⟨k1, k2, k3, oe, vs, T, oT, ts', he, hz, hd, h1, hr⟩ := id fl3
        unfold PySem.passOn
        refine wpAny_bind (wpAny_field he hd h1 ?_)
        rw [if_neg (show ¬ ((Value.ref T == Value.none) = true) from by simp)]
        have fin : wpAny (model X.prog X.w) X.A (setFlight (.ref a) X.env.frame) (fun _ s4 => wpAny (model X.prog X.w) X.A (throw (.ref a) : Sem Flow) (SP X pins D) X.xe s4) X.xe { s' with heap := h3 } := by
          rw [hf]
          refine HandSPX.setFlight_upZ fl3 fun h4 hh4 up4 => wpAny_throw (tk _ _ ?_)
          exact ⟨a, B, sI, pins, σ', H', cls, d, rfl, J, nb, (up.trans up3).trans up4, .inr (.inr (by rw [hs]; exact hh4)), na, os, ag, w⟩
        first
          | exact wpAny_bind (wpAny_pure (wpAny_bind fin))
          | exact wpAny_bind fin
      | @cons x n c i ts b₀ suite np pos' hds2 l2 hi hln hc hsu r ih =>
        intro w
        have hloc : Loc X.env.scope n := .inl hln
        obtain ⟨b, hb1, hyes, hno⟩ := w
        refine wpAny_handleBy_cons (codeAny_handlers_test ?_) (by intro q; cases q)
        have LT : PySem.W.Looks (model X.prog X.w) h3 (typeOf (.ref a)) cls := fun A Q E s k q => wpAny_typeOf_ref (k _ _ he3) (by rw [hz3.1]; exact q)
        have LM := PySem.W.exm_one (M := model X.prog X.w) (J3.kIn) LT hb1
        have test : ∀ {Q : Value → Shared → Prop} {E : Value → Shared → Prop}, Q c { s' with heap := h3 } → wpAny (model X.prog X.w) (X.A.mark (some (.ref a))) (eval (.Name x np) X.env) Q E { s' with heap := h3 } := fun {Q E} q => by
          obtain ⟨hg, hdbg, hm | ⟨hm, hv, hnn⟩⟩ := hc
          · exact ld_glob (X := X.suite a ((a, oe3) :: (X.pn ++ pins))) S3 hg hm q hdbg
          · exact ld_blt (X := X.suite a ((a, oe3) :: (X.pn ++ pins))) S3 hg hm hv q hnn hdbg
        refine test (LM.here ?_)
        cases b with
        | true =>
          refine codeAny_handlers_suite_as ?_
          refine HandSPX.lands_againZ fl3 fun h4 fl4 up4 => ?_
          have J4 : Inv X pins σ' H' { s' with heap := h4 } := J.landed nb fl4.1 ((up.trans up3).trans up4) os ag
          obtain ⟨oe4, vs4, he4, hz4, hd4⟩ := fl4.there
          have S4 := J4.suite he4 hd4 na nL nF
          refine store_ok (X := X.suite a ((a, oe4) :: (X.pn ++ pins))) (v := .ref a) S4 hN hi hloc rfl (fun s5 S5 => ?_) (.inr hln)
          refine wpAny_mono ((hsu a oe4 cls d (X.pn ++ pins) hz4 ⟨_, hd4⟩).run [] s5 _ H' _ S5 (hyes rfl a na)) (fun f s6 hsp => ?_) (fun _ _ z => False.elim z)
          have end_ : ∀ {σ6 : L2.St} {H6 : Hp} {Q : Shared → Prop}, Inv (X.suite a ((a, oe4) :: (X.pn ++ pins))) [] σ6 H6 s6 → (∀ s7, Inv X pins (σ6.set i none) H6 s7 → Q s7) →
              wpAny (model X.prog X.w) X.A (do bindName X.env n .none; unbindBehindTheSuite X.env n pos') (fun _ s7 => Q s7) X.xe s6 := fun {σ6 H6 Q} S6 hq => gone_ok (S6.unsuite ok) hN hi hln hq
          cases f with
          | next =>
            obtain ⟨σ6, H6, S6, q6⟩ := hsp
            exact end_ S6 fun s7 J7 => ⟨_, _, J7, q6⟩
          | brk =>
            obtain ⟨σ6, H6, S6, q6⟩ := hsp
            exact end_ S6 fun s7 J7 => ⟨_, _, J7, q6⟩
          | cont =>
            obtain ⟨σ6, H6, S6, q6⟩ := hsp
            exact end_ S6 fun s7 J7 => ⟨_, _, J7, q6⟩
          | ret u =>
            obtain ⟨v6, σ6, H6, S6, r6, q6⟩ := hsp
            exact end_ S6 fun s7 J7 => ⟨_, _, _, J7, r6, q6⟩
        | false =>
          show wpAny _ X.A (handleBy (.ref a) X.env hds2) _ _ _
          exact ih (hno rfl)
    exact go hh w
  · cases f with
    | next =>
      obtain ⟨σ', H', J', q⟩ := hsp
      exact wpAny_execs_nil ⟨σ', H', J'.ofTry ok, q⟩
    | brk =>
      obtain ⟨σ', H', J', q⟩ := hsp
      exact ⟨σ', H', J'.ofTry ok, q⟩
    | cont =>
      obtain ⟨σ', H', J', q⟩ := hsp
      exact ⟨σ', H', J'.ofTry ok, q⟩
    | ret u =>
      obtain ⟨v, σ', H', J', r, q⟩ := hsp
      exact ⟨v, σ', H', J'.ofTry ok, r, q⟩
end
/-! ### isinstance of the caught one -/
/-- what the class D must say -/
structure IsC (K : PySem.W.Frag) (D : Addr) : Prop where
  hg : PySem.W.findIn K (.ref D) "__getattribute__" = some (some (.builtin "BaseException.__getattribute__"))
  hk : PySem.W.findIn K (.ref D) "__getattr__" = some none
  hs : PySem.W.subIn K (.ref D) (.type "BaseException") = some true
  hd : (PySem.W.clsIn K D).isSome = true
  ha : PySem.W.findIn K (.ref D) "__class__" = some (some (.builtin "object.__class__"))
  hn : PySem.W.specialIn K (.builtin "object.__class__") "__get__" = some (some (.builtin "getset_descriptor.__get__"))
  ht : PySem.W.takesIn K (.builtin "object.__class__") = some true
  hm : PySem.W.mroIn K D (.type "object") = some true
/-- isinstance(e, c) -/
def rIsX (K : PySem.W.Frag) (a : Addr) (cls : Value) (d : Option Addr) : List V → Hp → VK → Prop := fun xs H Q => ∃ (D dd : Addr) (fs : List (Str × V)) (c : V) (cv : Value) (b : Bool), cls = .ref D ∧ d = some dd ∧ H dd = some (.xd fs) ∧ IsC K D ∧
  xs = [.ref a, c] ∧ ClsV c cv ∧ PySem.W.kitOne K (.ref D) cv = some b ∧ Q (.bl b) H
/-- isinstance(e, (c1, c2, ..)) -/
def rIsXT (K : PySem.W.Frag) (a : Addr) (cls : Value) (d : Option Addr) : List V → Hp → VK → Prop := fun xs H Q => ∃ (D dd : Addr) (fs : List (Str × V)) (tp : Addr) (cs : List V) (us : List Value) (b : Bool), cls = .ref D ∧ d = some dd ∧ H dd = some (.xd fs) ∧ IsC K D ∧
  xs = [.ref a, .ref tp] ∧ H tp = some (.tup cs) ∧ Paired ClsV cs us ∧ PySem.W.kitAny K (.ref D) us = some b ∧ Q (.bl b) H
section
variable {X : Cx} {a : Addr} {cls : Value} {d : Option Addr} {oe : Obj} {pn pins : List (Addr × Obj)} {σ : L2.St} {H : Hp} {s : Shared}
theorem inst_x {D dd : Addr} {fs : List (Str × V)} (hz : Zc cls d oe) (hf : ∃ vs, oe.data = .fields vs) (I : Inv (X.suite a ((a, oe) :: pn)) pins σ H s) (ec : cls = .ref D) (ed : d = some dd) (ea : H dd = some (.xd fs)) : ∃ od, PySem.W.InstAt s.heap a oe D (some od) := by
  subst ec
  subst ed
  obtain ⟨ha, _⟩ := I.pin (a, oe) (List.mem_append_left _ List.mem_cons_self)
  obtain ⟨vs, hd⟩ := hf
  have hx : ObjOk X.prog X.w H s.heap dd (.xd fs) := I.hok dd _ ea
  obtain ⟨mA, hns, hr⟩ := hx
  obtain ⟨od, ho, hl⟩ := lookIn_ns hns
  exact ⟨od, ha, hz.1, by unfold PySem.W.notCls; rw [hd] <;> rfl, by rw [hz.2]; exact ho⟩
theorem call_isX (hz : Zc cls d oe) (hf : ∃ vs, oe.data = .fields vs) : CallR (X.suite a ((a, oe) :: pn)) (.builtin "isinstance") (rIsX X.K a cls d) := by
  intro pins s σ H xs us Q I r h
  obtain ⟨D, dd, fs, c, cv, b, ec, ed, ea, C, rfl, hc, e, q⟩ := h
  obtain ⟨u1, u2, rfl, r1, r2⟩ := vals2 r
  cases (show u1 = Value.ref a from r1)
  have e2 := hc.eq r2
  subst e2
  obtain ⟨od, J⟩ := inst_x hz hf I ec ed ea
  exact PySem.W.kia_one (PySem.W.kitx_exc C.hd C.hg C.hk C.hs C.ha C.hn C.ht C.hm) I.kIn J e (fun z => nomatch z) fun tk => ⟨.bl b, H, I.tok tk, rfl, q⟩
theorem call_isXT (hz : Zc cls d oe) (hf : ∃ vs, oe.data = .fields vs) : CallR (X.suite a ((a, oe) :: pn)) (.builtin "isinstance") (rIsXT X.K a cls d) := by
  intro pins s σ H xs us Q I r h
  obtain ⟨D, dd, fs, tp, cs, ws, b, ec, ed, ea, C, rfl, hT, k, e, q⟩ := h
  obtain ⟨u1, u2, rfl, r1, r2⟩ := vals2 r
  cases (show u1 = Value.ref a from r1)
  cases (show u2 = Value.ref tp from r2)
  obtain ⟨od, J⟩ := inst_x hz hf I ec ed ea
  obtain ⟨_, its, rv, o, h1, h2, n, h3⟩ := (show ObjOk X.prog X.w H s.heap tp (.tup cs) from I.hok tp _ hT)
  have e3 := ClsV.all k rv
  subst e3
  obtain ⟨oc, od, dt, sl⟩ := o
  simp only at h2 h3
  subst h2 h3
  exact PySem.W.kia_tup (PySem.W.kitx_exc C.hd C.hg C.hk C.hs C.ha C.hn C.ht C.hm) I.kIn J h1 e (fun z => nomatch z) fun tk => ⟨.bl b, H, I.tok tk, rfl, q⟩
end
/-! ### what the written part says of an own class of errors -/
def oexB (K : PySem.W.Frag) (C : Addr) : Bool := match K.lookup C with
  | some ⟨.type t, dd, .cls cd, sl⟩ => t == "type" && (match cd.mro with
    | .ref c :: bm => decide (c = C) && PySem.HandSPX.refsVE bm
    | _ => false) && cd.hasDict && !cd.hasDel && (match sl.toList with
    | [_, _, _, _, some (.builtin n), _] => n == "ValueError.__new__"
    | _ => false)
  | _ => false
theorem oexB_ok {K : PySem.W.Frag} {C : Addr} (h : oexB K C = true) : ∃ nm q N bs bm sn sub ab col dd k0 k1 k2 k3 k5, K.lookup C = some (excClassObj nm q C N bs bm true sn sub ab col dd k0 k1 k2 k3 k5 "ValueError.__new__") ∧ PySem.HandSPX.refsVE bm = true := by
  unfold oexB at h
  split at h
  · rename_i t dd cd sl e
    simp only [Bool.and_eq_true, Bool.not_eq_true'] at h
    obtain ⟨⟨⟨⟨h1, h2⟩, h3⟩, h4⟩, h5⟩ := h
    split at h2
    · rename_i c bm em
      split at h5
      · rename_i k0 k1 k2 k3 n k5 es
        simp only [Bool.and_eq_true, decide_eq_true_eq] at h2
        obtain ⟨nm, bs, mro, ns, qn, hd, sn, sb, ab, col, del⟩ := cd
        dsimp only at em h3 h4
        have ht : t = "type" := by simpa using h1
        have hn : n = "ValueError.__new__" := by simpa using h5
        have hs : sl = #[k0, k1, k2, k3, some (.builtin n), k5] := by apply Array.ext'; simpa using es
        subst ht
        subst hn
        subst hs
        subst em
        subst h3
        subst h4
        obtain ⟨hc, hr⟩ := h2
        subst hc
        exact ⟨nm, qn, ns, bs, bm, sn, sb, ab, col, dd, k0, k1, k2, k3, k5, e, hr⟩
      · cases h5
    · cases h2
  · cases h
def eqV (o : Option (Option Value)) (v : Value) : Bool := decide (o = some (some v))
def isB (K : PySem.W.Frag) (D : Addr) : Bool := decide (PySem.W.findIn K (.ref D) "__getattribute__" = some (some (.builtin "BaseException.__getattribute__"))) && (decide (PySem.W.findIn K (.ref D) "__getattr__" = some none) && (decide (PySem.W.subIn K (.ref D) (.type "BaseException") = some true) && ((PySem.W.clsIn K D).isSome && (decide (PySem.W.findIn K (.ref D) "__class__" = some (some (.builtin "object.__class__"))) &&
  (decide (PySem.W.specialIn K (.builtin "object.__class__") "__get__" = some (some (.builtin "getset_descriptor.__get__"))) && (decide (PySem.W.takesIn K (.builtin "object.__class__") = some true) && decide (PySem.W.mroIn K D (.type "object") = some true)))))))
theorem ba2 {a b : Bool} (h : (a && b) = true) : a = true ∧ b = true := Bool.and_eq_true_iff.mp h
theorem isB_ok {K : PySem.W.Frag} {D : Addr} (h : isB K D = true) : IsC K D := by
  obtain ⟨h1, h⟩ := ba2 h
  obtain ⟨h2, h⟩ := ba2 h
  obtain ⟨h3, h⟩ := ba2 h
  obtain ⟨h4, h⟩ := ba2 h
  obtain ⟨h5, h⟩ := ba2 h
  obtain ⟨h6, h⟩ := ba2 h
  obtain ⟨h7, h8⟩ := ba2 h
  exact ⟨of_decide_eq_true h1, of_decide_eq_true h2, of_decide_eq_true h3, h4, of_decide_eq_true h5, of_decide_eq_true h6, of_decide_eq_true h7, of_decide_eq_true h8⟩
/-- an own class of errors with one field -/
structure ErrC (K : PySem.W.Frag) (x f : Str) : Prop where
  oex : OexC K (He.ga K x)
  is : IsC K (He.ga K x)
  xf : XfC K (He.ga K x)
  nof : PySem.W.findIn K (.ref (He.ga K x)) f = some none
  ini : PySem.W.findIn K (.ref (He.ga K x)) "__init__" = some (some (.ref (He.ma K (He.ga K x) "__init__")))
  fn : PySem.W.typeIn K (.ref (He.ma K (He.ga K x) "__init__")) = some (.type "function")
def errB (K : PySem.W.Frag) (x f : Str) : Bool := oexB K (He.ga K x) && (decide (PySem.W.findIn K (.ref (He.ga K x)) "__setattr__" = some (some (.builtin "object.__setattr__"))) && (decide (PySem.W.subIn K (.ref (He.ga K x)) (.type "BaseException") = some true) && (decide (PySem.W.typeIn K (.ref (He.ga K x)) = some (.type "type")) && (PySem.W.keepIn K (.ref (He.ga K x)) &&
  (isB K (He.ga K x) && (xfB K (He.ga K x) && (decide (PySem.W.findIn K (.ref (He.ga K x)) f = some none) && (decide (PySem.W.findIn K (.ref (He.ga K x)) "__init__" = some (some (.ref (He.ma K (He.ga K x) "__init__")))) && decide (PySem.W.typeIn K (.ref (He.ma K (He.ga K x) "__init__")) = some (.type "function"))))))))))
theorem errB_ok {K : PySem.W.Frag} {x f : Str} (h : errB K x f = true) : ErrC K x f := by
  obtain ⟨h1, h⟩ := ba2 h
  obtain ⟨h2, h⟩ := ba2 h
  obtain ⟨h3, h⟩ := ba2 h
  obtain ⟨h4, h⟩ := ba2 h
  obtain ⟨h5, h⟩ := ba2 h
  obtain ⟨h6, h⟩ := ba2 h
  obtain ⟨h7, h⟩ := ba2 h
  obtain ⟨h8, h⟩ := ba2 h
  obtain ⟨h9, h10⟩ := ba2 h
  exact ⟨⟨oexB_ok h1, of_decide_eq_true h2, of_decide_eq_true h3, of_decide_eq_true h4, h5⟩, isB_ok h6, xfB_ok h7, of_decide_eq_true h8, of_decide_eq_true h9, of_decide_eq_true h10⟩
/-- does the clause for y take an error of the class x -/
def exmB (K : PySem.W.Frag) (x y : Str) (b : Bool) : Bool := decide (PySem.W.exmOne K (.ref (He.ga K x)) (.ref (He.ga K y)) = some b)
def kioB (K : PySem.W.Frag) (x y : Str) (b : Bool) : Bool := decide (PySem.W.kitOne K (.ref (He.ga K x)) (.ref (He.ga K y)) = some b)
def kitTB (K : PySem.W.Frag) (x : Str) (t : String) (b : Bool) : Bool := decide (PySem.W.kitOne K (.ref (He.ga K x)) (.type t) = some b)
end EB

set_option Elab.async false
set_option linter.all false
set_option maxRecDepth 100000
set_option maxHeartbeats 4000000
/-! EB: promises of defs that may raise; raise, try. -/
namespace EB
open PySem PySem.Spec PyProof.Rows L2
/-- an error: its class and field, what it holds -/
structure Err where
  k : Str × Str
  x : PyData
/-- the dict of an error -/
def zX (f : Str) : Rp PyData := fun K T H v x => ∃ dd u, v = .ref dd ∧ ¬ T dd ∧ H dd = some (.xd [(f, u)]) ∧ ZD K T H u x
instance {f : Str} : Mo (zX f) := ⟨fun w ⟨p, u, e, n, h, q⟩ => ⟨p, u, e, fun t => (w.nw p t).elim n fun z => (by rw [h] at z; cases z), w.fr.keep p _ n h, q.wd w⟩⟩
def XSp (K : PySem.W.Frag) {α β : Type} (ra : Rpl α) (r : Rp β) (m : α → Option (Except Err β)) : Sp := fun vs H Q E =>
  ∃ (T : AS) (a : α) (o : Except Err β), TD T H ∧ ra K T H vs a ∧ m a = some o ∧ (∀ d, o = .ok d → ∀ v H', Ex H H' → r K T H' v d → Q v H') ∧
    (∀ e : Err, o = .error e → ∀ d H', Ex H H' → zX e.k.2 K T H' (.ref d) e.x → E (.ref (He.ga K e.k.1)) (some d) H')
theorem XSp_len {K : PySem.W.Frag} {α β : Type} {ra : Rpl α} {r : Rp β} {m : α → Option (Except Err β)} {n : Nat} (h : ∀ K T H vs a, ra K T H vs a → vs.length = n) : ∀ vs H Q E, XSp K ra r m vs H Q E → vs.length = n := fun vs H Q E ⟨T, a, _, _, hr, _⟩ => h K T H vs a hr
/-- __init__ of an own class of errors -/
def spErr (K : PySem.W.Frag) (C : Addr) (f : Str) : Sp := fun vs H Q _ => ∃ a v, vs = [.ref a, v] ∧ H a = some (exo a C none) ∧ ∀ dx, H dx = none → dx ≠ a → Q .non (upd (upd H dx (exd dx [(f, v)])) a (exo a C (some dx)))
theorem spErr_len {K : PySem.W.Frag} {C : Addr} {f : Str} : ∀ vs H Q E, spErr K C f vs H Q E → vs.length = 2 := fun vs H Q E ⟨a, v, e, _⟩ => by rw [e]; rfl
/-- a def that may raise -/
structure OkX (P : Program) (w : World) (K : PySem.W.Frag) (mg : Str → Option Value) (base : Heap) (k : Nat) (x : Str × Option Str) (ps : List Str) (sp : Sp) : Prop where
  ex : ∃ fd, FnOk P w K mg base (L2.CX P w) k (He.fAd K x) fd ps sp ∧ Binds K fd ps [] ∧ PySem.W.keepIn K (.ref (He.fAd K x)) = true
theorem mk_okX {P : Program} {w : World} {K : PySem.W.Frag} {mg : Str → Option Value} {base : Heap} {k : Nat} {at_ : Str × Option Str} {x qual : Str} {params : Arguments} {body : List Stmt} {scope : Scope} {kws : List (Str × V)} {N ps : List Str} {sp : Sp} {fd : FuncData}
    (F : FunD K x qual params body scope [] kws (He.fAd K at_) fd) (S : FnScope N ps scope) (hb : Binds K fd ps []) (len : ∀ vs H Q E, sp vs H Q E → vs.length = ps.length)
    (hbody : ∀ (cdv : Value) (A : Around) (outer : List Env) (s : Shared) (H : Hp) (vs : List V) (Q : VK) (E : XK), Room k (A.deeper (envOfC qual scope s.heap.objs.size (He.fAd K at_) cdv)) → sp vs H Q E →
      ∃ t, PSs (cxOf (L2.CX P w) P w K mg base N qual scope (He.fAd K at_) cdv A outer s H E) body t ∧ t { nx := fun _ H' => Q .non H', rt := Q } (start N vs) H) : OkX P w K mg base (k + 1) at_ ps sp :=
  ⟨fd, F.ok S len fun cdv A outer s H vs Q E hr h => hbody cdv A outer s H vs Q E hr h, hb, F.kp⟩
/-- nobody takes what is raised: nothing is -/
theorem passNo {X : Cx} (σ : L2.St) : PassesAt (L2.CX X.prog X.w) X σ (fun _ _ _ => False) := fun _ _ _ _ _ _ ⟨_, _, _, _, _, _, _, _, _, _, _, _, h⟩ => h.elim
def WNo : WX := fun _ _ _ _ => False
section
variable {X : Cx} {k j : Nat} {x : Str} {ps : List Str} {sp : Sp} {p pos apos : Pos} {e o : Expr} {es : List Expr} {t : TA} {ta : TE} {W : WX}
/-- f(..), what it raises goes to W -/
theorem px_call (F : OkX X.prog X.w X.K X.mg X.base k (x, none) ps sp) (tk : ∀ σ, PassesAt (L2.CX X.prog X.w) X σ (WE W σ)) (hr : Room j X.A) (hk : k ≤ j) (hg : Gl X x) (hm : X.mg x = some (.ref (He.ga X.K x))) (ha : PA X (e :: es) t) (hdb : (x == ("__debug__" : Str)) = false := by decide)
    (he : starEach (e :: es) X.env = (false, eval e X.env) :: starEach es X.env := by rfl) (hpl : (backTo pos (starEach es X.env)).any (·.1) = false := by rfl) : PE X (.Call (.Name x p) (e :: es) [] pos) (tCallS sp (WE W) t) := by
  obtain ⟨fd, f, b, kp⟩ := F.ex
  exact pe_callS f (hr.mono hk) hg hm kp b tk ha hdb he hpl
/-- C(e), an own class of errors -/
theorem px_mk {f : Str} (T : ErrC X.K x f) (F : Ok X.prog X.w X.K X.mg X.base k (x, some "__init__") ["self", f] (spErr X.K (He.ga X.K x) f)) (hr : Room j X.A) (hk : k + 1 ≤ j) (hg : Gl X x) (hm : X.mg x = some (.ref (He.ga X.K x))) (ha : PA X (e :: es) t)
    (hdb : (x == ("__debug__" : Str)) = false := by decide) (he : starEach (e :: es) X.env = (false, eval e X.env) :: starEach es X.env := by rfl) (hpl : (backTo pos (starEach es X.env)).any (·.1) = false := by rfl) :
    PMk X (.Call (.Name x p) (e :: es) [] pos) (tMkO (He.ga X.K x) (spErr X.K (He.ga X.K x) f) [] t) := by
  obtain ⟨fd, F1, b, kp⟩ := F.ex
  exact pmk_oex T.oex T.ini T.fn F1 (hr.mono hk) b .nil pass0 hg hm ha hdb he hpl
end
/-- raise C(e) -/
def tRaiseX (W : WX) (t : L2.St → Hp → XK → Prop) : TS := fun _ σ H => t σ H fun cls d H' => W cls d σ H'
section
variable {K : PySem.W.Frag} {T : AS} {σ : L2.St} {H : Hp} {α β γ : Type} {r : Rp α} {s : Rp β} {te ta tb : TE} {tr : TA} {D : Ends} {W : WX}
theorem st_raise {C : Addr} {f : Str} {x : PyData} (hT : TD T H) (h : Ev K T te σ H zD x) (k : ∀ d H', Ex H H' → zX f K T H' (.ref d) x → W (.ref C) (some d) σ H') : tRaiseX W (tMkO C (spErr K C f) [] (tCons te tNil)) D σ H := by
  refine h H (Fr.refl H) _ fun v H1 e1 r1 => ⟨by simp, fun a ha => ?_⟩
  have hT1 := hT.ex e1
  refine ⟨a, v, rfl, upd_same, fun dx n ne => ⟨rfl, dx, [(f, v)], upd_same, ?_, ?_, ?_⟩⟩
  · rw [upd_ne ne, upd_same]
  · rw [upd_ne ne] at n; exact n
  · rw [upd_ne ne] at n
    have ndx : ∀ {b : Addr} {o : HO}, H1 b = some o → b ≠ dx := fun {b o} h z => by rw [z, n] at h; cases h
    have na : ∀ {b : Addr} {o : HO}, H1 b = some o → b ≠ a := fun {b o} h z => by rw [z, ha] at h; cases h
    have ex : Ex H1 (upd (del (upd (upd (upd H1 a (exo a C none)) dx (exd dx [(f, v)])) a (exo a C (some dx))) a) dx (.xd [(f, v)])) := fun b o hb => by
      rw [upd_ne (ndx hb), del_ne (na hb), upd_ne (na hb), upd_ne (ndx hb), upd_ne (na hb)]; exact hb
    refine k dx _ (e1.trans ex) ⟨dx, v, rfl, fun t => ?_, upd_same, ZD.wd (Wd.ex ex) r1⟩
    obtain ⟨o, ho⟩ := hT1 dx t
    rw [n] at ho; cases ho
/-- what is raised, in the midst of an expression -/
def EvE (K : PySem.W.Frag) (T : AS) (te : TE) (σ : L2.St) (H : Hp) (W : WX) (e : Err) : Prop :=
  ∀ H1, Fr T H H1 → (∀ d H2, Ex H1 H2 → zX e.k.2 K T H2 (.ref d) e.x → W (.ref (He.ga K e.k.1)) (some d) σ H2) → ∀ Q, te σ H1 Q
def EvAE (K : PySem.W.Frag) (T : AS) (te : TA) (σ : L2.St) (H : Hp) (W : WX) (e : Err) : Prop :=
  ∀ H1, Fr T H H1 → (∀ d H2, Ex H1 H2 → zX e.k.2 K T H2 (.ref d) e.x → W (.ref (He.ga K e.k.1)) (some d) σ H2) → ∀ Q, te σ H1 Q
theorem ev_callX {ra : Rpl β} {m : β → Option (Except Err α)} {a : β} {d : α} {EE : L2.St → XK} (hT : TD T H) (h : EvA K T tr σ H ra a) (hm : m a = some (.ok d)) : Ev K T (tCallS (XSp K ra r m) EE tr) σ H r d := fun H1 g Q q =>
  h H1 g _ fun vs H2 e2 r2 => ⟨T, a, .ok d, (hT.fr g).ex e2, r2, hm, fun d' e' v H3 e3 r3 => by cases e'; exact q v H3 (e2.trans e3) r3, fun e e' => by cases e'⟩
theorem ee_callX {ra : Rpl β} {m : β → Option (Except Err α)} {a : β} {e : Err} (hT : TD T H) (h : EvA K T tr σ H ra a) (hm : m a = some (.error e)) : EvE K T (tCallS (XSp K ra r m) (WE W) tr) σ H W e := fun H1 g k Q =>
  h H1 g _ fun vs H2 e2 r2 => ⟨T, a, .error e, (hT.fr g).ex e2, r2, hm, fun d' e' => (by cases e'), fun e' he d H3 e3 z => by cases he; exact k d H3 (e2.trans e3) z⟩
theorem ee_tup {e : Err} (h : EvAE K T tr σ H W e) : EvE K T (tTup tr) σ H W e := fun H1 g k Q => h H1 g k _
theorem ee_lst {e : Err} (h : EvAE K T tr σ H W e) : EvE K T (tLst tr) σ H W e := fun H1 g k Q => h H1 g k _
theorem ee_a0 {e : Err} (h : EvE K T te σ H W e) : EvAE K T (tCons te tr) σ H W e := fun H1 g k Q => h H1 g k _
theorem ee_a1 {e : Err} {d : α} (h0 : Ev K T ta σ H r d) (h : EvAE K T tr σ H W e) : EvAE K T (tCons ta tr) σ H W e := fun H1 g k Q => h0 H1 g _ fun v H2 e2 _ => h H2 (g.trans e2.fr) (fun d H3 e3 z => k d H3 (e2.trans e3) z) _
theorem st_retE {e : Err} (h : EvE K T te σ H W e) (k : ∀ d H2, Ex H H2 → zX e.k.2 K T H2 (.ref d) e.x → W (.ref (He.ga K e.k.1)) (some d) σ H2) : tRet te D σ H := h H (Fr.refl H) k _
theorem st_asgE {e : Err} {g : TG} (h : EvE K T te σ H W e) (k : ∀ d H2, Ex H H2 → zX e.k.2 K T H2 (.ref d) e.x → W (.ref (He.ga K e.k.1)) (some d) σ H2) : tAsg te g D σ H := h H (Fr.refl H) k _
theorem st_dropE {e : Err} (h : EvE K T te σ H W e) (k : ∀ d H2, Ex H H2 → zX e.k.2 K T H2 (.ref d) e.x → W (.ref (He.ga K e.k.1)) (some d) σ H2) : tDrop te D σ H := h H (Fr.refl H) k _
/-! ### in a clause -/
theorem ev_xf {C a dd i : _} {f : Str} {x : PyData} (e : σ[i]? = some (some (.ref a))) (h : zX f K T H (.ref dd) x) : Ev K T (tXf a (.ref C) (some dd) C f (tVar i)) σ H zD x := fun H1 g Q q => by
  obtain ⟨p, u, e1, n, h1, z⟩ := Mo.fr g h
  cases e1
  exact ⟨_, e, rfl, rfl, dd, _, u, rfl, h1, by simp [List.lookup], q u H1 (Ex.refl H1) z⟩
theorem ev_isX {a dd i : _} {x y f : Str} {b : Bool} {d : PyData} (I : IsC K (He.ga K x)) (hk : kioB K x y b = true) (e : σ[i]? = some (some (.ref a))) (h : zX f K T H (.ref dd) d) :
    Ev K T (tCB (rIsX K a (.ref (He.ga K x)) (some dd)) (tCons (tVar i) (tCons (tC (.ref (He.ga K y))) tNil))) σ H zB b := fun H1 g Q q => by
  obtain ⟨p, u, e1, n, h1, z⟩ := Mo.fr g h
  cases e1
  exact ⟨_, e, He.ga K x, dd, _, .ref (He.ga K y), _, b, rfl, rfl, h1, I, rfl, .own _, of_decide_eq_true hk, q _ H1 (Ex.refl H1) rfl⟩
theorem ev_isXT {a dd i : _} {x f : Str} {n : String} {b : Bool} {d : PyData} (I : IsC K (He.ga K x)) (hk : kitTB K x n b = true) (e : σ[i]? = some (some (.ref a))) (h : zX f K T H (.ref dd) d) :
    Ev K T (tCB (rIsX K a (.ref (He.ga K x)) (some dd)) (tCons (tVar i) (tCons (tC (.ty n)) tNil))) σ H zB b := fun H1 g Q q => by
  obtain ⟨p, u, e1, n, h1, z⟩ := Mo.fr g h
  cases e1
  exact ⟨_, e, He.ga K x, dd, _, .ty _, _, b, rfl, rfl, h1, I, rfl, .ty _, of_decide_eq_true hk, q _ H1 (Ex.refl H1) rfl⟩
/-- isinstance(e, (C1, C2, ..)) -/
def kanyB (K : PySem.W.Frag) (x : Str) (ys : List Str) (b : Bool) : Bool := decide (PySem.W.kitAny K (.ref (He.ga K x)) (ys.map fun y => .ref (He.ga K y)) = some b)
def tNs (K : PySem.W.Frag) : List Str → TA
  | [] => tNil
  | y :: ys => tCons (tC (.ref (He.ga K y))) (tNs K ys)
theorem tNs_run : ∀ {ys : List Str} {Q : List V → Hp → Prop}, Q (ys.map fun y => V.ref (He.ga K y)) H → tNs K ys σ H Q
  | [], Q, h => h
  | y :: ys, Q, h => tNs_run (ys := ys) (Q := fun vs H => Q (_ :: vs) H) h
theorem paired_own : ∀ {ys : List Str}, Paired ClsV (ys.map fun y => V.ref (He.ga K y)) (ys.map fun y => Value.ref (He.ga K y))
  | [] => .nil
  | _ :: _ => .cons (.own _) paired_own
theorem ev_isXs {a dd i : _} {x f : Str} {ys : List Str} {b : Bool} {d : PyData} (I : IsC K (He.ga K x)) (hk : kanyB K x ys b = true) (hl : ys.length ≤ 1000) (e : σ[i]? = some (some (.ref a))) (h : zX f K T H (.ref dd) d) :
    Ev K T (tCB (rIsXT K a (.ref (He.ga K x)) (some dd)) (tCons (tVar i) (tCons (tTup (tNs K ys)) tNil))) σ H zB b := fun H1 g Q q => by
  obtain ⟨p, u, e1, n, h1, z⟩ := Mo.fr g h
  cases e1
  refine ⟨_, e, tNs_run ⟨by rw [List.length_map, sizeLine_eq]; omega, fun tp hp => ?_⟩⟩
  refine ⟨He.ga K x, dd, [(f, u)], tp, _, _, b, rfl, rfl, ?_, I, rfl, upd_same, paired_own, of_decide_eq_true hk, q _ _ (Ex.new hp) rfl⟩
  rw [upd_ne (fun z => by rw [z, hp] at h1; cases h1)]; exact h1
/-! ### mirrors -/
theorem catx {α β : Type} {o : Option (Except Err α)} {k : α → Option β} {h : Err → Option β} {r : β} (e : (o.bind fun z => match z with
    | .ok d => k d
    | .error x => h x) = some r) : (∃ d, o = some (.ok d) ∧ k d = some r) ∨ ∃ x, o = some (.error x) ∧ h x = some r := by
  obtain ⟨z, h1, h2⟩ := bnd e
  cases z with
  | ok d => exact .inl ⟨d, h1, h2⟩
  | error x => exact .inr ⟨x, h1, h2⟩
def catX {α β : Type} (o : Option (Except Err α)) (k : α → Option β) (h : Err → Option β) : Option β := o.bind fun z => match z with
    | .ok d => k d
    | .error x => h x
theorem catX_or {α β : Type} {o : Option (Except Err α)} {k : α → Option β} {h : Err → Option β} {r : β} (e : catX o k h = some r) : (∃ d, o = some (.ok d) ∧ k d = some r) ∨ ∃ x, o = some (.error x) ∧ h x = some r := catx e
/-- no error -/
def okX {α : Type} (o : Option (Except Err α)) : Option α := o.bind fun z => match z with
    | .ok d => some d
    | .error _ => none
theorem okX_ok {α : Type} {o : Option (Except Err α)} {d : α} (e : okX o = some d) : o = some (.ok d) := by
  rcases catx (k := some) (h := fun _ => none) e with ⟨z, h1, h2⟩ | ⟨x, _, h2⟩
  · cases h2; exact h1
  · cases h2
/-! ### which clause -/
theorem wm_yes {c : Value} {i : Nat} {ts : Addr → Value → Option Addr → TS} {l : List Hdl} {Wout : WX} {cls : Value} {d : Option Addr} (h : PySem.W.exmOne K cls c = some true)
    (k : ∀ a, H a = none → ts a cls d { nx := fun σ' H' => D.nx (σ'.set i none) H', rt := D.rt, bk := fun σ' H' => D.bk (σ'.set i none) H', ct := fun σ' H' => D.ct (σ'.set i none) H' } (σ.set i (some (.ref a))) H) : wManyAs K Wout D ((c, i, ts) :: l) cls d σ H :=
  ⟨true, h, fun _ => k, fun z => by cases z⟩
theorem wm_no {c : Value} {i : Nat} {ts : Addr → Value → Option Addr → TS} {l : List Hdl} {Wout : WX} {cls : Value} {d : Option Addr} (h : PySem.W.exmOne K cls c = some false) (k : wManyAs K Wout D l cls d σ H) : wManyAs K Wout D ((c, i, ts) :: l) cls d σ H :=
  ⟨false, h, fun z => (by cases z), fun _ => k⟩
/-! ### in the packed form -/
variable {b : Bs} {fs : List (Fact K)} {cs : List (Cel K)}
theorem En.err (E : En K b fs cs T H) {e : Err} {R : Addr → Hp → Prop} (k : ∀ d H2, En K b (fR (zX e.k.2) (.ref d) e.x :: fs) cs T H2 → R d H2) :
    ∀ d H2, Ex H H2 → zX e.k.2 K T H2 (.ref d) e.x → R d H2 := fun d H2 e2 z => k d H2 ((E.ex e2).add z)
theorem En.raise (E : En K b fs cs T H) {x f : Str} {d : PyData} (h : Ev K T te σ H zD d) (k : ∀ p H2, En K b (fR (zX f) (.ref p) d :: fs) cs T H2 → W (.ref (He.ga K x)) (some p) σ H2) : tRaiseX W (tMkO (He.ga K x) (spErr K (He.ga K x) f) [] (tCons te tNil)) D σ H :=
  st_raise E.td h fun p H2 e2 z => k p H2 ((E.ex e2).add z)
end
end EB

set_option Elab.async false
set_option linter.all false
set_option maxRecDepth 100000
set_option maxHeartbeats 4000000
/-! EB: texts, lists put together, data read off our lists, boxes. -/
namespace EB
open PySem PySem.Spec PyProof.Rows L2
def ixS (s : Str) (i : Int) : Option Str := if s.length ≤ 1000000 then (atI s.cps.toList i).map fun c => ⟨#[c]⟩ else none
def strB (i : Int) : Option (List Bool) := if i = 0 then some [false] else if i = 1 then some [true] else none
def strI (i : Int) : Str := toString i
def rStrI : List V → Hp → VK → Prop := fun xs H Q => ∃ i, xs = [.int i] ∧ i.natAbs.log2 < 1920 ∧ Q (.str (toString i)) H
theorem call_strI {X : Cx} : CallR X (.type "str") rStrI := call_str_int
mutual
def noL : PyData → Bool
  | .list _ => false
  | .dict _ => false
  | .tuple xs => noLs xs
  | _ => true
def noLs : List PyData → Bool
  | [] => true
  | x :: xs => noL x && noLs xs
end
section
variable {K : PySem.W.Frag} {T T' : AS} {σ : L2.St} {H : Hp} {α β γ : Type} {r : Rp α} {s : Rp β} {te ta tb : TE} {tr : TA} {tl th : TO} {Q : VK}
theorem ev_WS {w : List Bool} (h : Ev K T te σ H zW w) : Ev K T te σ H zS (wS w) := fun H1 f Q q => h H1 f Q fun v H2 e r2 => q v H2 e r2.1
theorem ev_catS {i j : Str} (ha : Ev K T ta σ H zS i) (hb : Ev K T tb σ H zS j) (hl : i.length + j.length ≤ 1000000) : Ev K T (tOp rCatS ta tb) σ H zS (i ++ j) :=
  ev_op ha hb fun x y H1 Q _ h1 h2 q => ⟨_, _, h1, h2, by rw [sizeLine_eq]; omega, q _ H1 (Ex.refl H1) rfl⟩
theorem ev_ixS {z c : Str} {i : Int} (ha : Ev K T ta σ H zS z) (hb : Ev K T tb σ H zI i) (hi : ixS z i = some c) : Ev K T (tOp rIxS ta tb) σ H zS c :=
  ev_op ha hb fun x y H1 Q _ h1 h2 q => by
    unfold ixS at hi
    split at hi
    · rename_i hl
      cases hc : atI z.cps.toList i with
      | none => rw [hc] at hi; cases hi
      | some c' =>
        rw [hc] at hi
        cases hi
        exact ⟨z, i, c', h1, h2, by rw [sizeLine_eq]; omega, hc, q _ H1 (Ex.refl H1) rfl⟩
    · cases hi
theorem ev_slS {z : Str} {lo hi : Option Int} (h : Ev K T te σ H zS z) (h1 : EvO T tl σ H lo) (h2 : EvO T th σ H hi) (hz : z.length ≤ 1000000) : Ev K T (tSl rSlS te tl th) σ H zS (cutS z lo hi) := fun H1 f Q q =>
  h H1 f _ fun v H2 e2 r2 => h1 H2 (f.trans e2.fr) _ fun H3 e3 => h2 H3 ((f.trans e2.fr).trans e3.fr) _ fun H4 e4 => by
    cases r2
    exact ⟨z, rfl, by rw [sizeLine_eq]; omega, q _ _ ((e2.trans e3).trans e4) rfl⟩
theorem ev_lenS {z : Str} (h : Ev K T te σ H zS z) (hz : z.length ≤ 1000000) : Ev K T (tCB rLenStr (tCons te tNil)) σ H zI (z.length : Int) := ev_c1 h fun x H1 Q _ e q => ⟨z, by rw [show x = .str z from e], by rw [sizeLine_eq]; omega, q _ H1 (Ex.refl H1) rfl⟩
theorem all2_text {vs : List V} {ys : List Str} (h : All2 (zS K T H) vs ys) : vs = ys.map V.str := by
  induction h with
  | nil => rfl
  | cons a _ ih => rw [List.map_cons, ← ih, show _ = V.str _ from a]
theorem ev_joinS {a : Str} {ys : List Str} (ha : Ev K T ta σ H zS a) (hb : Ev K T tb σ H (zL zS) ys) (hl : (ys.map (·.length)).sum + ys.length * a.length ≤ 1000000) : Ev K T (tM1 (rJoin K) ta tb) σ H zS (Txt.join a ys) := fun H1 f Q q => ha H1 f _ fun v H2 e2 r2 => by
  cases r2
  refine ⟨⟨_, rfl⟩, hb H2 (f.trans e2.fr) _ fun y H3 e3 r3 => ?_⟩
  obtain ⟨p, vs, rfl, hs, hall⟩ := r3
  have e := all2_text hall
  exact ⟨a, p, ys, rfl, rfl, .inl (by rw [← e]; exact hs.sq), by omega, q _ _ (e2.trans e3) rfl⟩
theorem ev_strB {i : Int} {w : List Bool} (h : Ev K T te σ H zI i) (hw : strB i = some w) : Ev K T (tCB rStrI (tCons te tNil)) σ H zW w := ev_c1 h fun x H1 Q _ e q => by
  unfold strB at hw
  split at hw
  · rename_i e0; cases hw; subst e0
    exact ⟨0, by rw [show x = .int 0 from e], by decide +kernel, q _ H1 (Ex.refl H1) ⟨by decide +kernel, by decide⟩⟩
  · split at hw
    · rename_i _ e0; cases hw; subst e0
      exact ⟨1, by rw [show x = .int 1 from e], by decide +kernel, q _ H1 (Ex.refl H1) ⟨by decide +kernel, by decide⟩⟩
    · cases hw
theorem ev_strI {i : Int} (h : Ev K T te σ H zI i) (hw : i.natAbs.log2 < 1920) : Ev K T (tCB rStrI (tCons te tNil)) σ H zS (strI i) := ev_c1 h fun x H1 Q _ e q => ⟨i, by rw [show x = .int i from e], hw, q _ H1 (Ex.refl H1) rfl⟩
/-- lists of data -/
theorem all2_D [Tod r] {vs : List V} {xs : List α} (h : All2 (r K T H) vs xs) : All2 (zD K T H) vs (xs.map (Tod.toD r)) := (zds_map h).all
theorem ev_LD [Tod r] {xs : List α} (h : Ev K T te σ H (zL r) xs) : Ev K T te σ H (zL zD) (xs.map (Tod.toD r)) := fun H1 f Q q => h H1 f Q fun v H2 e ⟨a, vs, e1, hs, hh⟩ => q v H2 e ⟨a, vs, e1, hs, all2_D hh⟩
theorem ev_UD [Tod r] {xs : List α} (h : Ev K T te σ H (zU r) xs) : Ev K T te σ H (zU zD) (xs.map (Tod.toD r)) := fun H1 f Q q => h H1 f Q fun v H2 e ⟨a, vs, e1, hs, hh⟩ => q v H2 e ⟨a, vs, e1, hs, all2_D hh⟩
theorem all2_dS : ∀ {vs : List V} {ds : List PyData} {ys : List Str}, All2 (zD K T H) vs ds → mapO dStr ds = some ys → All2 (zS K T H) vs ys
  | _, _, _, .nil, h => by cases h; exact .nil
  | _, _, _, .cons a t, h => by
    obtain ⟨y, h1, h⟩ := bnd h
    obtain ⟨zs, h2, h⟩ := bnd h
    cases h
    refine .cons ?_ (all2_dS t h2)
    cases a with
    | str x => cases h1; rfl
    | _ => cases h1
/-- a list of data that are texts -/
theorem ev_LdS {ds : List PyData} {ys : List Str} (h : Ev K T te σ H (zL zD) ds) (e : mapO dStr ds = some ys) : Ev K T te σ H (zL zS) ys := fun H1 f Q q => h H1 f Q fun v H2 e2 ⟨a, vs, e1, hs, hh⟩ => q v H2 e2 ⟨a, vs, e1, hs, all2_dS hh e⟩
/-! ### lists put together -/
def EvH (K : PySem.W.Frag) (T : AS) {α : Type} (te : TE) (σ : L2.St) (H : Hp) (r : Rp α) (xs : List α) : Prop :=
  ∀ H1, Fr T H H1 → ∀ Q : VK, (∀ p vs H2, Ex H1 H2 → H2 p = some (.lst vs) → All2 (r K T H2) vs xs → Q (.ref p) H2) → te σ H1 Q
theorem eh_F [Mo r] {xs : List α} (h : EvF K T te σ H r xs) : EvH K T te σ H r xs := fun H1 f Q q => h H1 f Q fun p H2 H3 e2 n f3 e3 m => by
  obtain ⟨vs, h1, h2⟩ := m.ex
  exact q p vs H3 (e2.trans e3) h1 (all2_imp (fun _ _ z => Mo.wd (Wd.sub fun _ t => .inl t) z) h2)
theorem ef_cat [Mo r] {xs ys : List α} (ha : EvH K T ta σ H r xs) (hb : EvH K T tb σ H r ys) (hl : xs.length + ys.length ≤ 1000000) : EvF K T (tOp rCat ta tb) σ H r (xs ++ ys) := fun H1 f Q q =>
  ha H1 f _ fun p vs H2 e2 h2 r2 => hb H2 (f.trans e2.fr) _ fun p' vs' H3 e3 h3 r3 =>
    ⟨p, p', vs, vs', rfl, rfl, e3 _ _ h2, h3, by rw [all2_len r2, all2_len r3, sizeLine_eq]; omega, fun a ha =>
      let ⟨x, y, z⟩ := hm_new ha (all2_app (all2_imp (fun _ _ z => Mo.fr e3.fr z) r2) r3); q a H3 _ (e2.trans e3) ha x y z⟩
theorem all2_flat {F : V → α → Prop} {vs : List V} {xs : List α} (h : All2 F vs xs) : ∀ n : Nat, All2 F (List.replicate n vs).flatten (List.replicate n xs).flatten
  | 0 => .nil
  | n + 1 => by
    rw [List.replicate_succ, List.replicate_succ, List.flatten_cons, List.flatten_cons]
    exact all2_app h (all2_flat h n)
theorem ef_rep [Mo r] {xs : List α} {k : Int} (ha : EvH K T ta σ H r xs) (hb : Ev K T tb σ H zI k) (hl : -100000 ≤ k ∧ k ≤ 100000 ∧ xs.length ≤ 100) : EvF K T (tOp rRep ta tb) σ H r (List.replicate k.toNat xs).flatten := fun H1 f Q q =>
  ha H1 f _ fun p vs H2 e2 h2 r2 => hb H2 (f.trans e2.fr) _ fun v H3 e3 h3 => by
    cases h3
    refine ⟨p, k, vs, rfl, rfl, e3 _ _ h2, by omega, by omega, ?_, fun a ha => ?_⟩
    · rw [all2_len r2, sizeLine_eq]
      have h1 : k.toNat ≤ 100000 := by omega
      have := Nat.mul_le_mul hl.2.2 h1
      omega
    · obtain ⟨x, y, z⟩ := hm_new (K := K) (T := T) (r := r) ha (all2_flat (all2_imp (fun _ _ z => Mo.fr e3.fr z) r2) k.toNat)
      exact q a H3 _ (e2.trans e3) ha x y z
variable {b : Bs} {fs : List (Fact K)} {cs : List (Cel K)}
theorem En.ehB [Mo r] {p : Addr} {xs : List α} {i : Nat} (E : En K b fs cs T H) (k : Nat) (hk : cs[k]? = some (cL r p xs)) (hi : σ[i]? = some (some (.ref p))) : EvH K (Tb T cs) (tVar i) σ H r xs := fun H1 f Q q => by
  obtain ⟨hT, vs, h1, h2⟩ := E.cl k hk
  have nb : ¬ Tb T cs p := fun z => z.2 (mem_owns (List.mem_of_getElem? hk) (by simp))
  exact ⟨_, hi, q p vs H1 (Ex.refl H1) (f.keep p _ nb h1) (all2_imp (fun _ _ z => Mo.wd (Wd.of f) (Mo.wd (Wd.sub fun _ h => h.1) z)) h2)⟩
/-! ### data without lists, read off our lists -/
mutual
theorem ZD.up {v : V} : ∀ {d : PyData}, ZD K T H v d → noL d = true → (∀ a, T' a → ¬ T a → ∀ xs, ¬ Rd H a (.tup xs)) → ZD K T' H v d
  | _, .non, _, _ => .non
  | _, .bl b, _, _ => .bl b
  | _, .int i, _, _ => .int i
  | _, .str x, _, _ => .str x
  | _, .lst _ _, n, _ => by cases n
  | _, .tup h q, n, k => .tup (h.elim (fun z => .inl ⟨fun t => k _ t z.1 _ z.2, z.2⟩) .inr) (q.up n k)
theorem ZDs.up {vs : List V} : ∀ {ds : List PyData}, ZDs K T H vs ds → noLs ds = true → (∀ a, T' a → ¬ T a → ∀ xs, ¬ Rd H a (.tup xs)) → ZDs K T' H vs ds
  | _, .nil, _, _ => .nil
  | _, .cons h q, n, k => .cons (h.up (Bool.and_eq_true_iff.mp n).1 k) (q.up (Bool.and_eq_true_iff.mp n).2 k)
end
def Cel.nt (c : Cel K) : Prop := ∀ T H, c.P T H → ∀ a ∈ c.own, ∃ vs, H a = some (.lst vs)
theorem nt_L [Mo r] {p : Addr} {xs : List α} : (cL (K := K) r p xs).nt := fun T H ⟨vs, h, _⟩ a ha => by rw [List.mem_singleton] at ha; subst ha; exact ⟨vs, h⟩
theorem nt_V {p : Addr} {vs : List V} : (cV (K := K) p (.lst vs)).nt := fun T H h a ha => by rw [List.mem_singleton] at ha; subst ha; exact ⟨vs, h⟩
theorem nt_M {c d : Cel K} (h1 : c.nt) (h2 : d.nt) : (cM c d).nt := fun T H h a ha => (List.mem_append.mp ha).elim (h1 T H h.1 a) (h2 T H h.2 a)
def Nts : List (Cel K) → Prop
  | [] => True
  | c :: r => c.nt ∧ Nts r
theorem Nts.get : ∀ {cs : List (Cel K)}, Nts cs → ∀ c ∈ cs, c.nt
  | [], _, c, h => by cases h
  | _ :: _, h, c, hc => (List.mem_cons.mp hc).elim (fun e => e ▸ h.1) (Nts.get h.2 c)
theorem En.runBD {d : PyData} (E : En K b fs cs T H) (h : Ev K (Tb T cs) te σ H zD d) (hn : noL d = true) (nt : Nts cs) (k : ∀ v H', En K b (fR zD v d :: fs) cs T H' → Q v H') : te σ H Q :=
  h H (Fr.refl H) Q fun v H' e q => by
    have E2 := E.ex e
    refine k v H' (E2.add (f := fR zD v d) (ZD.up q hn fun a t nt' xs z => ?_))
    have hm : a ∈ owns cs := Classical.byContradiction fun n => nt' ⟨t, n⟩
    obtain ⟨c, hc, ha⟩ := owns_mem hm
    obtain ⟨vs, hv⟩ := nt.get c hc T H' (E2.cel c hc).1 a ha
    rcases z with z | ⟨o, z⟩ <;> (rw [hv] at z; cases z)
/-- our list, its items told as data -/
theorem En.cellD [Mo r] [Tod r] {p : Addr} {xs : List α} (E : En K b fs cs T H) (k : Nat) (hk : cs[k]? = some (cL r p xs)) : En K b fs (cs.set k (cL zD p (xs.map (Tod.toD r)))) T H :=
  E.retell k hk (fun ⟨vs, h1, h2⟩ => ⟨vs, h1, all2_D h2⟩) rfl
/-! ### a box: four numbers, a list that stays -/
abbrev Bx := Int × Int × Int × Int × List Int
@[reducible] def cBx (p : Addr) (s : Bx) : Cel K := ⟨[p], fun T H => ∃ v, H p = some (.lst [.int s.1, .int s.2.1, .int s.2.2.1, .int s.2.2.2.1, v]) ∧ zL zI K T H v s.2.2.2.2,
  fun w h ⟨v, h1, h2⟩ => ⟨v, by rw [h p (by simp)]; exact h1, Mo.wd w h2⟩⟩
theorem nt_B {p : Addr} {s : Bx} : (cBx (K := K) p s).nt := fun T H ⟨v, h, _⟩ a ha => by rw [List.mem_singleton] at ha; subst ha; exact ⟨_, h⟩
theorem En.openBx {p : Addr} {s : Bx} (E : En K b fs (cBx p s :: cs) T H) : ∃ v, En K b (fR (zL zI) v s.2.2.2.2 :: fs) (cV p (.lst [.int s.1, .int s.2.1, .int s.2.2.1, .int s.2.2.2.1, v]) :: cs) T H := by
  obtain ⟨v, h1, h2⟩ := E.c 0 rfl
  exact ⟨v, En.add (E.retell (c' := cV p (.lst [.int s.1, .int s.2.1, .int s.2.2.1, .int s.2.2.2.1, v])) 0 rfl (fun _ => h1) rfl) h2⟩
theorem En.closeBx {p : Addr} {a1 a2 a3 a4 : Int} {v : V} {xs : List Int} (E : En K b fs (cV p (.lst [.int a1, .int a2, .int a3, .int a4, v]) :: cs) T H) (j : Nat) (hj : fs[j]? = some (fR (zL zI) v xs)) : En K b fs (cBx p (a1, a2, a3, a4, xs) :: cs) T H :=
  E.retell (c' := cBx p (a1, a2, a3, a4, xs)) 0 rfl (fun h => ⟨v, h, E.at j hj⟩) rfl
/-- a box is made anew of its parts -/
theorem En.copyBx {p : Addr} {s : Bx} {i : Nat} (E : En K b fs cs T H) (k : Nat) (hk : cs[k]? = some (cBx p s)) (hi : σ[i]? = some (some (.ref p))) (q : ∀ x H', En K b (fR zA (.ref x) x :: fs) (cBx x s :: cs) (Tp T x) H' → Q (.ref x) H') :
    tLst (tCons (tCB rInt1 (tCons (tOp (rIxL K) (tVar i) (tC (.int 0))) tNil)) (tCons (tOp (rIxL K) (tVar i) (tC (.int 1))) (tCons (tOp (rIxL K) (tVar i) (tC (.int 2))) (tCons (tOp (rIxL K) (tVar i) (tC (.int 3))) (tCons (tOp (rIxL K) (tVar i) (tC (.int 4))) tNil))))) σ H Q := by
  obtain ⟨v, h1, h2⟩ := E.c k hk
  have sq : SqL K H p [.int s.1, .int s.2.1, .int s.2.2.1, .int s.2.2.2.1, v] := .inl (.inl h1)
  refine ⟨.ref p, hi, ⟨p, _, 0, .int s.1, rfl, rfl, sq, rfl, .inl ⟨s.1, rfl, ?_⟩⟩⟩
  refine ⟨.ref p, hi, ⟨p, _, 1, .int s.2.1, rfl, rfl, sq, rfl, ?_⟩⟩
  refine ⟨.ref p, hi, ⟨p, _, 2, .int s.2.2.1, rfl, rfl, sq, rfl, ?_⟩⟩
  refine ⟨.ref p, hi, ⟨p, _, 3, .int s.2.2.2.1, rfl, rfl, sq, rfl, ?_⟩⟩
  refine ⟨.ref p, hi, ⟨p, _, 4, v, rfl, rfl, sq, rfl, ?_⟩⟩
  refine ⟨by show 5 ≤ sizeLine; rw [sizeLine_eq]; omega, fun x hx => ?_⟩
  have ex : Ex H (upd H x (.lst [.int s.1, .int s.2.1, .int s.2.2.1, .int s.2.2.2.1, v])) := Ex.new hx
  refine q x _ (En.add (E.newc (c := cBx x s) (T' := Tp T x) ⟨ex.fr, fun b t => t.elim .inl fun z => .inr (z ▸ hx)⟩ ex (fun b h => .inl h) ((E.td.ex ex).tp upd_same) ⟨v, upd_same, Mo.wd (Wd.ex ex) (Mo.wd (Wd.lift hx) h2)⟩ (fun a ha => ?_) (by simp)) rfl)
  rw [List.mem_singleton] at ha
  subst ha
  exact ⟨hx, .inr rfl⟩
end
end EB

set_option Elab.async false
set_option linter.all false
set_option maxRecDepth 100000
set_option maxHeartbeats 4000000
/-! EB: what the second generator wants besides. -/
namespace EB
open PySem PySem.Spec PyProof.Rows L2
def catE {α β : Type} (o : Option (Except Err α)) (k : α → Option β) (h : Str × Str → PyData → Option β) : Option β := o.bind fun z => match z with
    | .ok d => k d
    | .error x => h x.k x.x
theorem catE_or {α β : Type} {o : Option (Except Err α)} {k : α → Option β} {h : Str × Str → PyData → Option β} {r : β} (e : catE o k h = some r) : (∃ d, o = some (.ok d) ∧ k d = some r) ∨ ∃ c x, o = some (.error ⟨c, x⟩) ∧ h c x = some r := by
  obtain ⟨z, h1, h2⟩ := bnd e
  cases z with
  | ok d => exact .inl ⟨d, h1, h2⟩
  | error x => exact .inr ⟨x.k, x.x, h1, h2⟩
theorem bt_ValueError : bootBuiltins "ValueError" = some (.type "ValueError") := by decide +kernel
theorem bt_Exception : bootBuiltins "Exception" = some (.type "Exception") := by decide +kernel
theorem iteT {P R : Prop} (h : P) : if true = true then P else R := h
theorem iteF {P R : Prop} (h : R) : if false = true then P else R := h
theorem takesNo {X : Cx} : Takes X WNo := fun _ _ ⟨_, _, _, _, _, _, _, _, _, _, _, _, _, _, _, _, w⟩ => w.elim
section
variable {X : Cx} {W : WX} {e : Expr} {t : L2.St → Hp → XK → Prop} {pos : Pos} {K : PySem.W.Frag} {a : Addr} {cls : Value} {d : Option Addr} {oe : Obj} {pn : List (Addr × Obj)}
theorem ps_raiseQ (hc : X.calm = true) (tk : Takes X W) (he : PMk X e t) : PS X (.Raise (some e) none pos) (tRaiseX W t) := ps_raise hc tk he
theorem pe_gint {x : Str} {i : Int} (hg : Gl X x) (h : ∃ t, X.mg x = some (.int i t)) (hd : (x == ("__debug__" : Str)) = false := by decide) : PE X (.Name x pos) (tC (.int i)) := let ⟨t, q⟩ := h; pe_glob (v := .int i) hg q ⟨t, rfl⟩ hd
theorem kx_isX (hz : Zc cls d oe) (hf : ∃ vs, oe.data = .fields vs) (hK : X.K = K := by rfl) : CallR (X.suite a ((a, oe) :: pn)) (.builtin "isinstance") (rIsX K a cls d) := hK ▸ call_isX hz hf
theorem kx_isXT (hz : Zc cls d oe) (hf : ∃ vs, oe.data = .fields vs) (hK : X.K = K := by rfl) : CallR (X.suite a ((a, oe) :: pn)) (.builtin "isinstance") (rIsXT K a cls d) := hK ▸ call_isXT hz hf
theorem kx_xf {C : Addr} {te : TE} {n : Str} (T : XfC K C) (hno : PySem.W.findIn K (.ref C) n = some none) (hz : Zc cls d oe) (hf : ∃ vs, oe.data = .fields vs) (he : PE (X.suite a ((a, oe) :: pn)) e te) (hb : attributeBase e n X.env (eval e X.env) = eval e X.env := by rfl) (hK : X.K = K := by rfl) :
    PE (X.suite a ((a, oe) :: pn)) (.Attribute e n pos) (tXf a cls d C n te) := by
  subst hK
  exact pe_xf T hno hz hf he hb
end
section
variable {K : PySem.W.Frag} {b : Bs} {fs : List (Fact K)} {cs : List (Cel K)} {T T' : AS} {σ : L2.St} {H : Hp} {α β γ S : Type} {r : Rp α} {s : Rp β} {te ta tb tc : TE} {tr : TA} {Q : VK} {D : Ends} {E' : XK}
theorem ev_toDL {xs : List PyData} (h : Ev K T te σ H (zL zD) xs) : Ev K T te σ H zD (.list xs) := fun H1 f Q q => h H1 f Q fun v H2 e ⟨a, vs, e1, hs, hh⟩ => q v H2 e (by rw [e1]; exact .lst hs (.of hh))
theorem ev_toDU {xs : List PyData} (h : Ev K T te σ H (zU zD) xs) : Ev K T te σ H zD (.tuple xs) := fun H1 f Q q => h H1 f Q fun v H2 e ⟨a, vs, e1, hs, hh⟩ => q v H2 e (by rw [e1]; exact .tup hs (.of hh))
theorem zd_L {v : V} {xs : List PyData} (h : zL zD K T H v xs) : zD K T H v (.list xs) := by obtain ⟨a, vs, e1, hs, hh⟩ := h; rw [e1]; exact .lst hs (.of hh)
theorem zd_U {v : V} {xs : List PyData} (h : zU zD K T H v xs) : zD K T H v (.tuple xs) := by obtain ⟨a, vs, e1, hs, hh⟩ := h; rw [e1]; exact .tup hs (.of hh)
theorem zd_up [Tod r] {v : V} {x : α} (h : r K T H v x) : zD K T H v (Tod.toD r x) := Tod.up h
theorem vd_I {v : V} {d : PyData} {i : Int} (h : zD K T H v d) (e : dInt d = some i) : zI K T H v i := by
  cases h with
  | int j => cases e; rfl
  | _ => cases e
theorem vd_B {v : V} {d : PyData} {i : Bool} (h : zD K T H v d) (e : dBool d = some i) : zB K T H v i := by
  cases h with
  | bl j => cases e; rfl
  | _ => cases e
theorem vd_S {v : V} {d : PyData} {i : Str} (h : zD K T H v d) (e : dStr d = some i) : zS K T H v i := by
  cases h with
  | str j => cases e; rfl
  | _ => cases e
theorem vs_W {v : V} {w : List Bool} (h : zW K T H v w) : zS K T H v (wS w) := h.1
theorem ev_chain {g g' : Int → Int → Bool} {i j k : Int} (ha : Ev K T ta σ H zI i) (hb : Ev K T tb σ H zI j) (hc : Ev K T tc σ H zI k) :
    Ev K T (tChain (rI0 fun i j => .bl (g i j)) (rI0 fun i j => .bl (g' i j)) ta tb tc) σ H zB (g i j && g' j k) := fun H1 f Q q => ha H1 f _ fun x H2 e2 r2 => hb H2 (f.trans e2.fr) _ fun y H3 e3 r3 => by
  cases r2; cases r3
  refine ⟨i, j, rfl, rfl, g i j, rfl, ?_⟩
  cases hg : g i j with
  | true => exact hc H3 ((f.trans e2.fr).trans e3.fr) _ fun z H4 e4 r4 => by cases r4; exact ⟨j, k, rfl, rfl, q _ _ ((e2.trans e3).trans e4) (show V.bl (g' j k) = .bl (g i j && g' j k) by rw [hg]; rfl)⟩
  | false => exact q _ _ (e2.trans e3) (show V.bl false = .bl (g i j && g' j k) by rw [hg]; rfl)
/-! ### tests, way by way -/
theorem En.test2 {tt : TT} {d : Bool} {Qb : Bool → Hp → Prop} (E : En K b fs cs T H) (h : EvT T tt σ H d) (k1 : d = true → ∀ H', En K b fs cs T H' → Qb true H') (k2 : d = false → ∀ H', En K b fs cs T H' → Qb false H') : tt σ H Qb :=
  h H (Fr.refl H) Qb fun H' e => by
    cases d with
    | true => exact k1 rfl H' (E.ex e)
    | false => exact k2 rfl H' (E.ex e)
theorem En.test2B {tt : TT} {d : Bool} {Qb : Bool → Hp → Prop} (E : En K b fs cs T H) (h : EvT (Tb T cs) tt σ H d) (k1 : d = true → ∀ H', En K b fs cs T H' → Qb true H') (k2 : d = false → ∀ H', En K b fs cs T H' → Qb false H') : tt σ H Qb :=
  h H (Fr.refl H) Qb fun H' e => by
    cases d with
    | true => exact k1 rfl H' (E.ex e)
    | false => exact k2 rfl H' (E.ex e)
theorem tb2 {v : V} {d : Bool} {Pb : Bool → Prop} (h : zB K T H v d) (k1 : d = true → Pb true) (k2 : d = false → Pb false) : ∃ c, v = .bl c ∧ Pb c := ⟨d, h, by
  cases d with
  | true => exact k1 rfl
  | false => exact k2 rfl⟩
theorem tb2i {v : V} {d : Bool} {P R : Prop} (h : zB K T H v d) (k1 : d = true → P) (k2 : d = false → R) : ∃ c, v = .bl c ∧ (if c = true then P else R) := ⟨d, h, by
  cases d with
  | true => exact k1 rfl
  | false => exact k2 rfl⟩
theorem boolQ {Qb : Bool → Hp → Prop} {d : Bool} (k1 : d = true → Qb true H) (k2 : d = false → Qb false H) : Qb d H := by
  cases d with
  | true => exact k1 rfl
  | false => exact k2 rfl
theorem tb_open {Qb : Bool → Hp → Prop} (h : te σ H fun x H1 => ∃ c, x = .bl c ∧ Qb c H1) : tB te σ H Qb := h
/-! ### calls whose arguments stand -/
theorem En.callF {ra : Rpl β} [Mo r] {m : β → Option α} {vs : List V} {a : β} {d : α} (E : En K b fs cs T H) (h : ra K T H vs a) (hm : m a = some d) (q : ∀ v H', En K b (fR r v d :: fs) cs T H' → Q v H') : FSp K ra r m (vs ++ []) H Q E' := by
  rw [List.append_nil]
  exact ⟨T, a, d, E.td, h, hm, fun v H' e z => q v H' ((E.ex e).add z)⟩
theorem En.callG {ra : Rpl β} [Mo r] {c : β → S → Cel K} {m : β → S → Option (α × S)} {vs : List V} {a : β} {s0 s1 : S} {d : α} (E : En K b fs cs T H) (h : ra K T H vs a) (k : Nat) (hk : cs[k]? = some (c a s0)) (hm : m a s0 = some (d, s1)) (ho : (c a s1).own = (c a s0).own)
    (q : ∀ v H', En K b (fR r v d :: fs) (cs.set k (c a s1)) T H' → Q v H') : GSp K ra c r m (vs ++ []) H Q E' := by
  rw [List.append_nil]
  have hc := E.cel _ (List.mem_of_getElem? hk)
  refine ⟨T, a, s0, d, s1, E.td, h, hc.1, fun x hx => (hc.2 x hx).1, ?_, hm, fun v H3 f3 c3 r3 => q v H3 ((E.chg k hk f3 c3 ho).add r3)⟩
  have hd := E.dis
  obtain ⟨l1, l2, rfl⟩ := List.append_of_mem (List.mem_of_getElem? hk)
  simp only [owns, List.map_append, List.map_cons, List.flatten_append, List.flatten_cons] at hd
  exact (List.nodup_append.mp (List.nodup_append.mp hd).2.1).1
/-- lists and tuples whose items stand -/
theorem En.lstV [Mo r] {R : Addr → Prop} {vs : List V} {xs : List α} (E : En K b fs cs T H) (h : All2 (r K T H) vs xs) (hl : xs.length ≤ 1000) (q : ∀ p, En K b (fR (zL r) (.ref p) xs :: fs) cs T (upd H p (.lst vs)) → R p) : vs.length ≤ sizeLine ∧ ∀ p, H p = none → R p :=
  ⟨by rw [all2_len h, sizeLine_eq]; omega, fun p hp => q p ((E.ex (Ex.new hp)).add ⟨p, vs, rfl, .new ((E.td).new hp) upd_same, all2_imp (fun _ _ z => Mo.fr (Ex.new hp).fr z) h⟩)⟩
theorem En.tupV [Mo r] {R : Addr → Prop} {vs : List V} {xs : List α} (E : En K b fs cs T H) (h : All2 (r K T H) vs xs) (hl : xs.length ≤ 1000) (q : ∀ p, En K b (fR (zU r) (.ref p) xs :: fs) cs T (upd H p (.tup vs)) → R p) : vs.length ≤ sizeLine ∧ ∀ p, H p = none → R p :=
  ⟨by rw [all2_len h, sizeLine_eq]; omega, fun p hp => q p ((E.ex (Ex.new hp)).add ⟨p, vs, rfl, .new ((E.td).new hp) upd_same, all2_imp (fun _ _ z => Mo.fr (Ex.new hp).fr z) h⟩)⟩
theorem En.newLV [Mo r] {R : Addr → Prop} {vs : List V} {xs : List α} (E : En K b fs cs T H) (h : All2 (r K T H) vs xs) (hl : xs.length ≤ 1000) (q : ∀ p, En K b (fR zA (.ref p) p :: fs) (cL r p xs :: cs) (Tp T p) (upd H p (.lst vs)) → R p) : vs.length ≤ sizeLine ∧ ∀ p, H p = none → R p :=
  ⟨by rw [all2_len h, sizeLine_eq]; omega, fun p hp => by
    have e : Ex H (upd H p (.lst vs)) := Ex.new hp
    refine q p (En.add (E.newc (c := cL r p xs) (T' := Tp T p) ⟨e.fr, fun b t => t.elim .inl fun z => .inr (z ▸ hp)⟩ e (fun b h => .inl h) ((E.td.ex e).tp upd_same) ⟨vs, upd_same, all2_imp (fun _ _ z => Mo.fr e.fr (Mo.lift hp z)) h⟩ (fun a ha => ?_) (by simp)) rfl)
    rw [List.mem_singleton] at ha
    subst ha
    exact ⟨hp, .inr rfl⟩⟩
/-- a call that may raise, its arguments at hand: it does not -/
theorem En.callX {ra : Rpl β} [Mo r] {m : β → Option (Except Err α)} {vs : List V} {a : β} {d : α} {EE : XK} (E : En K b fs cs T H) (h : ra K T H vs a) (hm : m a = some (.ok d)) (q : ∀ v H', En K b (fR r v d :: fs) cs T H' → Q v H') : XSp K ra r m vs H Q EE :=
  ⟨T, a, .ok d, E.td, h, hm, fun d' e' v H3 e3 r3 => by cases e'; exact q v H3 ((E.ex e3).add r3), fun e e' => by cases e'⟩
end
end EB
namespace EB
open PySem PySem.Spec PyProof.Rows L2
section
variable {K : PySem.W.Frag} {b : Bs} {fs : List (Fact K)} {cs : List (Cel K)} {T : AS} {σ : L2.St} {H : Hp} {α : Type} {r : Rp α} {te : TE} {Q : VK}
/-- a new list, made by what only reads; our lists are read, too -/
theorem En.viaB [Mo r] [At r] {fs' : List (Fact K)} {xs : List α} (E : En K b fs cs T H) (hf : Fcs (Tb T cs) H fs') (h : ∀ Q : VK, En K ⟨Tb T cs, [], H⟩ fs' [] (Tb T cs) H → (∀ p H' fs2, En K ⟨Tb T cs, [], H⟩ fs2 [cL r p xs] (Tp (Tb T cs) p) H' → Q (.ref p) H') → te σ H Q)
    (k : ∀ p H', En K b (fR zA (.ref p) p :: fs) (cL r p xs :: cs) (Tp T p) H' → Q (.ref p) H') : te σ H Q :=
  h Q (En.start E.tdB hf) fun p H' fs2 E' => by
    have e : Ex H H' := E'.isEx
    have hn : H p = none := by
      rcases (E'.cel _ List.mem_cons_self).2 p (by simp) with ⟨_, h | h⟩
      · cases h
      · exact h
    obtain ⟨vs, h1, h2⟩ := E'.c 0 rfl
    refine k p H' (En.add (E.newc (c := cL r p xs) (T' := Tp T p) ⟨e.fr, fun b t => t.elim .inl fun z => .inr (z ▸ hn)⟩ e (fun b h => .inl h) ((E.td.ex e).tp h1) ⟨vs, h1, all2_imp (fun _ _ z => At.up z) h2⟩ (fun a ha => ?_) (by simp)) rfl)
    rw [List.mem_singleton] at ha
    subst ha
    exact ⟨hn, .inr rfl⟩
end
end EB
namespace EB
open PySem PySem.Spec PyProof.Rows L2
theorem EvF.to {K : PySem.W.Frag} {T : AS} {σ : L2.St} {H : Hp} {α : Type} {r : Rp α} {te : TE} {xs ys : List α} (h : EvF K T te σ H r xs) (e : xs = ys) : EvF K T te σ H r ys := e ▸ h
theorem all2_to {α : Type} {F : V → α → Prop} {vs : List V} {xs ys : List α} (h : All2 F vs xs) (e : xs = ys) : All2 F vs ys := e ▸ h
end EB
namespace EB
open PySem PySem.Spec PyProof.Rows L2
theorem len00 : ∀ K T H vs a, aN K T H vs a → vs.length = 0 := fun _ _ _ _ _ h => len0 h
/-- a box is made -/
abbrev sp_box (K : PySem.W.Frag) (n1 n2 n3 n4 : Int) : Sp := NewSp K (aC (zL zI) aN) (fun (p : Addr) (s : Bx) => cBx p s) (fun p => .ref p) (fun a => some (n1, n2, n3, n4, a.1))
theorem box_new {K : PySem.W.Frag} {T : AS} {σ : L2.St} {H : Hp} {tl : TE} {xs : List Int} {n1 n2 n3 n4 : Int} {D : Ends} (hT : TD T H) (h : Ev K T tl σ H (zL zI) xs)
    (q : ∀ (i : Addr) H', Ex H H' → (cBx (K := K) i (n1, n2, n3, n4, xs)).own.Nodup → (∀ x ∈ (cBx (K := K) i (n1, n2, n3, n4, xs)).own, H x = none ∧ ∃ o, H' x = some o) → (cBx (K := K) i (n1, n2, n3, n4, xs)).P (fun b => T b ∨ b ∈ (cBx (K := K) i (n1, n2, n3, n4, xs)).own) H' → D.rt (.ref i) H') :
    tRet (tLst (tCons (tC (.int n1)) (tCons (tC (.int n2)) (tCons (tC (.int n3)) (tCons (tC (.int n4)) (tCons tl tNil)))))) D σ H := by
  refine h H (Fr.refl H) _ fun v H2 e2 r2 => ⟨by show 5 ≤ sizeLine; rw [sizeLine_eq]; omega, fun p hp => ?_⟩
  have e3 : Ex H2 (upd H2 p (.lst [.int n1, .int n2, .int n3, .int n4, v])) := Ex.new hp
  have hn : H p = none := by
    cases hh : H p with
    | none => rfl
    | some o => rw [e2 p o hh] at hp; cases hp
  refine q p _ (e2.trans e3) (by simp) (fun x hx => ?_) ⟨v, upd_same, Mo.wd (Wd.ex e3) (Mo.wd ⟨Fr.refl H2, fun b t => ?_⟩ r2)⟩
  · rw [List.mem_singleton] at hx; subst hx; exact ⟨hn, _, upd_same⟩
  · rcases t with t | t
    · exact .inl t
    · rw [List.mem_singleton] at t; subst t; exact .inr hp
end EB
namespace EB
open PySem PySem.Spec PyProof.Rows L2
theorem mk_fn {P : Program} {w : World} {K : PySem.W.Frag} {mg : Str → Option Value} {base : Heap} {k : Nat} {at_ : Str × Option Str} {x qual : Str} {params : Arguments} {body : List Stmt} {scope : Scope} {kws : List (Str × V)} {N ps : List Str} {sp : Sp} {fd : FuncData}
    (F : FunD K x qual params body scope [] kws (He.fAd K at_) fd) (S : FnScope N ps scope) (len : ∀ vs H Q E, sp vs H Q E → vs.length = ps.length)
    (hbody : ∀ (cdv : Value) (A : Around) (outer : List Env) (s : Shared) (H : Hp) (vs : List V) (Q : VK) (E : XK), Room k (A.deeper (envOfC qual scope s.heap.objs.size (He.fAd K at_) cdv)) → sp vs H Q E →
      ∃ t, PSs (cxOf CX0 P w K mg base N qual scope (He.fAd K at_) cdv A outer s H E).nox body t ∧ t { nx := fun _ H' => Q .non H', rt := Q } (start N vs) H) : FnOk P w K mg base CX0 (k + 1) (He.fAd K at_) fd ps sp :=
  F.ok S len fun cdv A outer s H vs Q E hr h => let ⟨t, h1, h2⟩ := hbody cdv A outer s H vs Q E hr h; ⟨t, h1.nox, h2⟩
/-- what a law is asked -/
def spLaw (K : PySem.W.Frag) : Sp := fun vs H Q _ => ∃ (a : Addr) (ns : List Int), vs = [.ref a] ∧ SqL K H a (ns.map V.int) ∧ ns.length ≤ 63 ∧ ∀ H', Q (.bl true) H'
theorem law_imp {K : PySem.W.Frag} {m : List Int → Option Bool} (h : ∀ ns, ns.length ≤ 63 → m ns = some true) : ∀ vs H Q E, spLaw K vs H Q E → FSp K (aC (zL zI) aN) zB (fun (a : List Int × Unit) => m a.1) vs H Q E := fun vs H Q E ⟨a, ns, e, hs, hl, hQ⟩ =>
  ⟨T0, (ns, ()), true, td0, ⟨.ref a, [], e, ⟨a, _, rfl, hs.elim (fun z => .inl ⟨id, z⟩) .inr, all2_ints⟩, rfl⟩, h ns hl, fun v H' _ r => by cases r; exact hQ H'⟩
end EB
namespace EB
open PySem PySem.Spec PyProof.Rows L2
def kany2B (K : PySem.W.Frag) (x y1 y2 : Str) (b : Bool) : Bool := decide (PySem.W.kitAny K (.ref (He.ga K x)) [.ref (He.ga K y1), .ref (He.ga K y2)] = some b)
theorem kany2 {K : PySem.W.Frag} {x y1 y2 : Str} {b : Bool} (h : kany2B K x y1 y2 b = true) : kanyB K x [y1, y2] b = true := h
end EB
namespace EB
open PySem PySem.Spec PyProof.Rows L2
/-- *, one factor small or both not too great -/
def CMulV (i j : Int) : Prop := CMul i j ∨ CMulW i j
instance {i j : Int} : Decidable (CMulV i j) := by unfold CMulV CMul; infer_instance
theorem op_mulV {X : Cx} : OpR X (binaryOp .Mult) (rI CMulV fun i j => .int (i * j)) := opI fun _ _ _ _ _ _ _ hc q => mul_int q (hc.elim CMul.ok CMulW.ok)
theorem ev_mulV {K : PySem.W.Frag} {T : AS} {σ : L2.St} {H : Hp} {ta tb : TE} {i j : Int} (ha : Ev K T ta σ H zI i) (hb : Ev K T tb σ H zI j) (hc : CMulV i j) : Ev K T (tOp (rI CMulV fun i j => .int (i * j)) ta tb) σ H zI (i * j) := ev_IC (fun _ => rfl) ha hb hc
end EB

set_option Elab.async false
set_option linter.all false
set_option maxRecDepth 100000
set_option maxHeartbeats 4000000
/-! what an Option-valued reckoning tells: Y o Q -/
namespace EB
open PySem PySem.Spec PyProof.Rows L2
def Y {α : Type} (o : Option α) (Q : α → Prop) : Prop := ∃ v, o = some v ∧ Q v
section
variable {α β S ρ : Type} {Q : β → Prop} {P : α → Prop}
theorem Y.of {o : Option β} {v : β} (h : o = some v) (q : Q v) : Y o Q := ⟨v, h, q⟩
theorem Y.ret {v : β} (q : Q v) : Y (some v) Q := ⟨v, rfl, q⟩
theorem Y.bind {o : Option α} {f : α → Option β} (h : Y o P) (k : ∀ v, P v → Y (f v) Q) : Y (o.bind f) Q := by
  obtain ⟨v, rfl, p⟩ := h
  exact k v p
theorem Y.be {o : Option α} {f : α → Option β} {v : α} (h : o = some v) (k : Y (f v) Q) : Y (o.bind f) Q := by rw [h]; exact k
theorem Y.bs {f : α → Option β} {v : α} (k : Y (f v) Q) : Y ((some v).bind f) Q := k
theorem Y.grd {c : Prop} [Decidable c] {f : Unit → Option β} (h : c) (k : Y (f ()) Q) : Y ((grd c).bind f) Q := by rw [grd_some h]; exact k
theorem Y.ite {c : Prop} [Decidable c] {x y : Option β} (a : c → Y x Q) (b : ¬ c → Y y Q) : Y (if c then x else y) Q := by
  split
  · exact a ‹_›
  · exact b ‹_›
theorem Y.iteD {c : Prop} [Decidable c] {x y : Option β} (a : c → Y x Q) (b : ¬ c → Y y Q) : Y (if decide c = true then x else y) Q := by
  split
  · exact a (of_decide_eq_true ‹_›)
  · exact b (of_decide_eq_false (Bool.not_eq_true _ ▸ ‹_›))
theorem Y.pos {c : Prop} [Decidable c] {x y : Option β} (h : c) (a : Y x Q) : Y (if c then x else y) Q := by rw [if_pos h]; exact a
theorem Y.neg {c : Prop} [Decidable c] {x y : Option β} (h : ¬ c) (a : Y y Q) : Y (if c then x else y) Q := by rw [if_neg h]; exact a
theorem Y.mono {o : Option α} {P' : α → Prop} (h : Y o P) (k : ∀ v, P v → P' v) : Y o P' := by
  obtain ⟨v, e, p⟩ := h
  exact ⟨v, e, k v p⟩
theorem Y.eq {o : Option α} {v : α} (h : Y o (· = v)) : o = some v := by
  obtain ⟨u, e, p⟩ := h
  rw [e, p]
theorem Y.pure {o : Option α} {v : α} (h : o = some v) : Y o (· = v) := ⟨v, h, rfl⟩
/-- a loop's part with a tail -/
theorem Y.assoc {γ : Type} {o : Option α} {f : α → Option γ} {g : γ → Option β} (h : Y (o.bind fun x => (f x).bind g) Q) : Y ((o.bind f).bind g) Q := by
  cases o <;> exact h
theorem Y.forL {f : S → α → Option S} (I : Nat → S → Prop) : ∀ (xs : List α) (k : Nat) (s : S), I k s → (∀ i x s, xs[i]? = some x → I (k + i) s → Y (f s x) (I (k + i + 1))) → Y (forP f s xs) (I (k + xs.length))
  | [], k, s, h, _ => ⟨s, rfl, h⟩
  | x :: xs, k, s, h, st => by
    obtain ⟨s1, e1, h1⟩ := st 0 x s rfl h
    obtain ⟨s2, e2, h2⟩ := Y.forL I xs (k + 1) s1 h1 fun i y s hy hp => by
      have := st (i + 1) y s (by simpa using hy) (by rw [show k + (i + 1) = k + 1 + i by omega]; exact hp)
      rw [show k + 1 + i + 1 = k + (i + 1) + 1 by omega]; exact this
    refine ⟨s2, ?_, by rw [List.length_cons, show k + (xs.length + 1) = k + 1 + xs.length by omega]; exact h2⟩
    simp only [forP, e1, Option.bind_some, e2]
theorem Y.forR {f : S → Int → Option S} (I : Nat → S → Prop) {n : Nat} {s : S} {lo : Int} (h0 : I 0 s) (st : ∀ (i : Nat) s, i < n → I i s → Y (f s (lo + (i : Int))) (I (i + 1))) : Y (forP f s (rng lo n)) (I n) := by
  have := Y.forL I (rng lo n) 0 s h0 fun i x s hx hp => by
    have hi : i < n := by have := (List.getElem?_eq_some_iff.mp hx).1; rwa [rng_len] at this
    rw [rng_get hi] at hx
    have hx' : x = lo + (i : Int) := (Option.some.inj hx).symm
    subst hx'
    rw [Nat.zero_add] at hp ⊢
    exact st i s hi hp
  rw [rng_len, Nat.zero_add] at this
  exact this
/-- a loop with a way out -/
theorem Y.forOL {f : S → α → Option (Out ρ S)} (I : Nat → S → Prop) (B : S → Prop) (R : ρ → Prop) : ∀ (xs : List α) (k : Nat) (s : S), I k s →
    (∀ i x s, xs[i]? = some x → I (k + i) s → Y (f s x) fun o => match o with | .nx s' => I (k + i + 1) s' | .brk s' => B s' | .ret r => R r) →
    Y (forO f s xs) fun o => match o with | .nx s' => I (k + xs.length) s' ∨ B s' | .brk _ => False | .ret r => R r
  | [], k, s, h, _ => ⟨.nx s, rfl, .inl h⟩
  | x :: xs, k, s, h, st => by
    obtain ⟨o, e1, h1⟩ := st 0 x s rfl h
    unfold forO
    rw [e1]
    cases o with
    | nx s' =>
      have := Y.forOL I B R xs (k + 1) s' h1 fun i y s hy hp => by
        have := st (i + 1) y s (by simpa using hy) (by rw [show k + (i + 1) = k + 1 + i by omega]; exact hp)
        rw [show k + 1 + i + 1 = k + (i + 1) + 1 by omega]; exact this
      rw [show k + 1 + xs.length = k + (x :: xs).length by rw [List.length_cons]; omega] at this
      exact this
    | brk s' => exact ⟨.nx s', rfl, .inr h1⟩
    | ret r => exact ⟨.ret r, rfl, h1⟩
/-- a loop that only goes on -/
theorem Y.forON {f : S → α → Option (Out ρ S)} (I : Nat → S → Prop) (xs : List α) (s : S) (h0 : I 0 s)
    (st : ∀ i x s, xs[i]? = some x → I i s → Y (f s x) fun o => ∃ s', o = .nx s' ∧ I (i + 1) s') : Y (forO f s xs) fun o => ∃ s', o = .nx s' ∧ I xs.length s' := by
  have := Y.forOL (ρ := ρ) (f := f) I (fun _ => False) (fun _ => False) xs 0 s h0 fun i x s hx hp => by
    rw [Nat.zero_add] at hp ⊢
    refine (st i x s hx hp).mono ?_
    rintro o ⟨s', rfl, h⟩
    exact h
  refine this.mono ?_
  rintro o h
  cases o with
  | nx s' => exact ⟨s', rfl, by simpa using h⟩
  | brk s' => exact h.elim
  | ret r => exact h.elim
theorem Y.forORN {f : S → Int → Option (Out ρ S)} (I : Nat → S → Prop) {n : Nat} {lo : Int} {s : S} (h0 : I 0 s)
    (st : ∀ (i : Nat) s, i < n → I i s → Y (f s (lo + (i : Int))) fun o => ∃ s', o = .nx s' ∧ I (i + 1) s') : Y (forO f s (rng lo n)) fun o => ∃ s', o = .nx s' ∧ I n s' := by
  have := Y.forON (ρ := ρ) (f := f) I (rng lo n) s h0 fun i x s hx hp => by
    have hi : i < n := by have := (List.getElem?_eq_some_iff.mp hx).1; rwa [rng_len] at this
    rw [rng_get hi] at hx
    have hx' : x = lo + (i : Int) := (Option.some.inj hx).symm
    subst hx'
    exact st i s hi hp
  rw [rng_len] at this
  exact this
theorem Y.mapO {f : α → Option β} {g : α → β} : ∀ {xs : List α}, (∀ x ∈ xs, f x = some (g x)) → mapO f xs = some (xs.map g)
  | [], _ => rfl
  | x :: xs, h => by
    simp only [EB.mapO, h x List.mem_cons_self, Y.mapO (xs := xs) fun y hy => h y (List.mem_cons_of_mem _ hy), Option.bind_some, List.map_cons]
/-- a comprehension over a range -/
theorem Y.mapR {f : Int → Option β} {g : Int → β} {lo : Int} {n : Nat} (h : ∀ x, lo ≤ x → x < lo + n → f x = some (g x)) : EB.mapO f (rng lo n) = some ((rng lo n).map g) :=
  Y.mapO fun x hx => h x (mem_rng hx).1 (mem_rng hx).2
/-- a comprehension whose items each have some property -/
theorem Y.mapP {f : α → Option β} {g : α → β → Prop} : ∀ {xs : List α}, (∀ x ∈ xs, Y (f x) (g x)) → Y (EB.mapO f xs) fun ys => ys.length = xs.length ∧ ∀ (i : Nat) x y, xs[i]? = some x → ys[i]? = some y → g x y
  | [], _ => ⟨[], rfl, rfl, fun i x y hx => by simp at hx⟩
  | x :: xs, h => by
    obtain ⟨y, e, gy⟩ := h x List.mem_cons_self
    obtain ⟨ys, e2, hl, hg⟩ := Y.mapP (xs := xs) fun z hz => h z (List.mem_cons_of_mem _ hz)
    refine ⟨y :: ys, by simp only [EB.mapO, e, e2, Option.bind_some], by simp [hl], fun i a b ha hb => ?_⟩
    cases i with
    | zero => cases ha; cases hb; exact gy
    | succ i => exact hg i a b (by simpa using ha) (by simpa using hb)
/-- a loop with a way out that is not taken, as one without -/
theorem forO_eq {f : S → α → Option (Out ρ S)} {c : S → α → Option S} : ∀ {xs : List α} {s s' : S}, (∀ x ∈ xs, ∀ s s', c s x = some s' → f s x = some (.nx s')) → forP c s xs = some s' → forO f s xs = some (.nx s')
  | [], s, s', _, h => by cases h; rfl
  | x :: xs, s, s', st, h => by
    obtain ⟨s1, h1, h2⟩ := bnd h
    unfold forO
    rw [st x List.mem_cons_self s s1 h1]
    exact forO_eq (fun y hy => st y (List.mem_cons_of_mem _ hy)) h2
theorem mapO_all {f : α → Option β} {P : β → Prop} {xs : List α} {ys : List β} (h : EB.mapO f xs = some ys) (hp : ∀ x y, f x = some y → P y) : ys.length = xs.length ∧ ∀ y ∈ ys, P y := by
  have e := mapO_mem h
  refine ⟨by have := congrArg List.length e; simpa using this.symm, fun y hy => ?_⟩
  have : some y ∈ ys.map some := List.mem_map.mpr ⟨y, hy, rfl⟩
  rw [← e] at this
  obtain ⟨x, _, ex⟩ := List.mem_map.mp this
  exact hp x y ex
theorem Y.at {xs : List α} {i : Int} {f : α → Option β} (d0 : α) (h0 : 0 ≤ i) (h : i < (xs.length : Int)) (k : Y (f (xs.getD i.toNat d0)) Q) : Y ((atI xs i).bind f) Q := Y.be (at_get h0 h) k
theorem getD_memI {xs : List α} {i : Int} {d0 : α} (h0 : 0 ≤ i) (h : i < (xs.length : Int)) : xs.getD i.toNat d0 ∈ xs := by
  have hk : i.toNat < xs.length := by omega
  rw [List.getD_eq_getElem?_getD, List.getElem?_eq_getElem hk]
  exact List.getElem_mem hk
theorem atI_in {xs : List α} {i : Int} (h0 : 0 ≤ i) (h : i < (xs.length : Int)) : ∃ x, atI xs i = some x ∧ x ∈ xs ∧ xs[i.toNat]? = some x := by
  have hk : i.toNat < xs.length := by omega
  refine ⟨xs[i.toNat], ?_, List.getElem_mem hk, List.getElem?_eq_getElem hk⟩
  have := atI_nat (List.getElem?_eq_getElem hk)
  rwa [show ((i.toNat : Nat) : Int) = i by omega] at this
end
/-! ### texts -/
theorem str_len_app (a b : Str) : (a ++ b).length = a.length + b.length := by
  show (a.cps ++ b.cps).size = _
  rw [Array.size_append]; rfl
theorem strOk_app (a b : Str) : PyData.strOk (a ++ b) = (PyData.strOk a && PyData.strOk b) := by
  show (a.cps ++ b.cps).all _ = (a.cps.all _ && b.cps.all _)
  rw [Array.all_append]
theorem strOk_one {c : Nat} (h : c < 0x110000) : PyData.strOk ⟨#[c]⟩ = true := by
  simp [PyData.strOk, h]
theorem strOk_w (w : List Bool) : PyData.strOk (wS w) = true := strOk_wS w
theorem shaped_str {s : Str} (h : PyData.strOk s = true) : SeqAt.shaped (.str s) = true := by simp [SeqAt.shaped, PyData.canLay0, PyData.depth, h]
end EB

set_option Elab.async false
set_option linter.all false
set_option maxRecDepth 100000
set_option maxHeartbeats 4000000
/-! EB: more of data; tests in comprehensions that may lack an answer. -/
namespace EB
open PySem PySem.Spec PyProof.Rows L2
/-! ### is True, of anything -/
def rIsT : R2 := fun x y H Q => ∃ b : Bool, y = .bl b ∧ (x = .non ∨ (∃ c, x = .bl c) ∨ (∃ i, x = .int i) ∨ (∃ s, x = .str s) ∨ ∃ a, x = .ref a) ∧ Q (.bl (decide (x = .bl b))) H
def rNoT : R2 := fun x y H Q => ∃ b : Bool, y = .bl b ∧ (x = .non ∨ (∃ c, x = .bl c) ∨ (∃ i, x = .int i) ∨ (∃ s, x = .str s) ∨ ∃ a, x = .ref a) ∧ Q (.bl (!decide (x = .bl b))) H
theorem op_isT {X : Cx} : OpR X (compareOp .Is) rIsT := by
  intro pins s σ H x y v u Q I rx ry h
  obtain ⟨b, rfl, hx, q⟩ := h
  cases (show u = Value.bool b from ry)
  rcases hx with rfl | ⟨c, rfl⟩ | ⟨i, rfl⟩ | ⟨z, rfl⟩ | ⟨a, rfl⟩
  · cases (show v = Value.none from rx)
    exact wpAny_is_other rfl (by intro z; cases z) ⟨.bl false, H, I, rfl, by simpa using q⟩
  · cases (show v = Value.bool c from rx)
    by_cases e : c = b
    · subst e
      exact wpAny_is_self rfl ⟨.bl true, H, I, rfl, by simpa using q⟩
    · exact wpAny_is_other rfl (fun z => e (Value.bool.inj z)) ⟨.bl false, H, I, rfl, by simpa [e] using q⟩
  · obtain ⟨t, rfl⟩ := rx
    exact wpAny_is_other rfl (by intro z; cases z) ⟨.bl false, H, I, rfl, by simpa using q⟩
  · obtain ⟨t, rfl⟩ := rx
    exact wpAny_is_other rfl (by intro z; cases z) ⟨.bl false, H, I, rfl, by simpa using q⟩
  · cases (show v = Value.ref a from rx)
    exact wpAny_is_other rfl (by intro z; cases z) ⟨.bl false, H, I, rfl, by simpa using q⟩
theorem op_noT {X : Cx} : OpR X (compareOp .IsNot) rNoT := by
  intro pins s σ H x y v u Q I rx ry h
  obtain ⟨b, rfl, hx, q⟩ := h
  cases (show u = Value.bool b from ry)
  rcases hx with rfl | ⟨c, rfl⟩ | ⟨i, rfl⟩ | ⟨z, rfl⟩ | ⟨a, rfl⟩
  · cases (show v = Value.none from rx)
    exact wpAny_isNot_other rfl (by intro z; cases z) ⟨.bl true, H, I, rfl, by simpa using q⟩
  · cases (show v = Value.bool c from rx)
    by_cases e : c = b
    · subst e
      exact wpAny_isNot_self rfl ⟨.bl false, H, I, rfl, by simpa using q⟩
    · exact wpAny_isNot_other rfl (fun z => e (Value.bool.inj z)) ⟨.bl true, H, I, rfl, by simpa [e] using q⟩
  · obtain ⟨t, rfl⟩ := rx
    exact wpAny_isNot_other rfl (by intro z; cases z) ⟨.bl true, H, I, rfl, by simpa using q⟩
  · obtain ⟨t, rfl⟩ := rx
    exact wpAny_isNot_other rfl (by intro z; cases z) ⟨.bl true, H, I, rfl, by simpa using q⟩
  · cases (show v = Value.ref a from rx)
    exact wpAny_isNot_other rfl (by intro z; cases z) ⟨.bl true, H, I, rfl, by simpa using q⟩
def isBl (d : PyData) (b : Bool) : Bool := match d with | .bool c => decide (c = b) | _ => false
theorem zd_kind {K : PySem.W.Frag} {T : AS} {H : Hp} {v : V} {d : PyData} (h : zD K T H v d) : v = .non ∨ (∃ c, v = .bl c) ∨ (∃ i, v = .int i) ∨ (∃ s, v = .str s) ∨ ∃ a, v = .ref a := by
  cases h with
  | non => exact .inl rfl
  | bl c => exact .inr (.inl ⟨c, rfl⟩)
  | int i => exact .inr (.inr (.inl ⟨i, rfl⟩))
  | str s => exact .inr (.inr (.inr (.inl ⟨s, rfl⟩)))
  | lst _ _ => exact .inr (.inr (.inr (.inr ⟨_, rfl⟩)))
  | tup _ _ => exact .inr (.inr (.inr (.inr ⟨_, rfl⟩)))
theorem zd_isBl {K : PySem.W.Frag} {T : AS} {H : Hp} {v : V} {d : PyData} (h : zD K T H v d) (b : Bool) : decide (v = .bl b) = isBl d b := by
  cases h <;> simp [isBl]
section
variable {K : PySem.W.Frag} {T : AS} {σ : L2.St} {H : Hp} {α β γ : Type} {r : Rp α} {s : Rp β} {te ta tb : TE} {tr : TA} {d e : PyData}
theorem ev_isTD {b : Bool} (ha : Ev K T ta σ H zD d) (hb : Ev K T tb σ H zB b) : Ev K T (tOp rIsT ta tb) σ H zB (isBl d b) :=
  ev_op ha hb fun x y H1 Q _ h1 h2 q => ⟨b, h2, zd_kind h1, by rw [zd_isBl h1]; exact q _ H1 (Ex.refl H1) rfl⟩
theorem ev_noTD {b : Bool} (ha : Ev K T ta σ H zD d) (hb : Ev K T tb σ H zB b) : Ev K T (tOp rNoT ta tb) σ H zB (!isBl d b) :=
  ev_op ha hb fun x y H1 Q _ h1 h2 q => ⟨b, h2, zd_kind h1, by rw [zd_isBl h1]; exact q _ H1 (Ex.refl H1) rfl⟩
/-! ### bools: ==, != -/
theorem ev_eqBl {a b : Bool} (ha : Ev K T ta σ H zB a) (hb : Ev K T tb σ H zB b) : Ev K T (tOp rEq ta tb) σ H zB (decide (a = b)) :=
  ev_op ha hb fun x y H1 Q _ h1 h2 q => by cases h1; cases h2; exact ⟨rfl, q _ H1 (Ex.refl H1) (show V.bl (decide (V.bl a = V.bl b)) = .bl (decide (a = b)) by simp)⟩
theorem ev_neBl {a b : Bool} (ha : Ev K T ta σ H zB a) (hb : Ev K T tb σ H zB b) : Ev K T (tOp rNe ta tb) σ H zB (!decide (a = b)) :=
  ev_op ha hb fun x y H1 Q _ h1 h2 q => by cases h1; cases h2; exact ⟨rfl, q _ H1 (Ex.refl H1) (show V.bl (!decide (V.bl a = V.bl b)) = .bl (!decide (a = b)) by simp)⟩
/-! ### a number in a tuple or list of numbers -/
theorem inV_ints {i : Int} : ∀ {xs : List Int}, inV (.int i) (xs.map V.int) = decide (i ∈ xs)
  | [] => rfl
  | x :: xs => by
    have ih := inV_ints (i := i) (xs := xs)
    unfold inV at ih ⊢
    rw [List.map_cons, List.any_cons, ih]
    show ((x == i) || _) = _
    by_cases h : i = x
    · subst h; simp
    · have h' : ¬ x = i := fun z => h z.symm
      simp [h, h']
theorem ints_all2 {xs : List Int} : ∀ {vs : List V}, All2 (zI K T H) vs xs → vs = xs.map V.int := by
  induction xs with
  | nil => intro vs h; cases h; rfl
  | cons x xs ih =>
    intro vs h
    cases h with
    | cons a t => rw [ih t, show _ = V.int x from a]; rfl
theorem flat_ints {xs : List Int} : (xs.map V.int).all flatV = true := by
  rw [List.all_map, List.all_eq_true]; intro _ _; rfl
theorem ev_inIU {i : Int} {xs : List Int} {neg : Bool} (ha : Ev K T ta σ H zI i) (hb : Ev K T tb σ H (zU zI) xs) : Ev K T (tOp (rIn K neg) ta tb) σ H zB (if neg then !decide (i ∈ xs) else decide (i ∈ xs)) :=
  ev_op ha hb fun x y H1 Q _ h1 h2 q => by
    obtain ⟨a, vs, rfl, hs, hh⟩ := h2
    have e := ints_all2 hh
    subst e
    refine ⟨a, _, rfl, .inr hs.sq, by rw [show x = V.int i from h1]; rfl, flat_ints, q _ H1 (Ex.refl H1) ?_⟩
    rw [show x = V.int i from h1, inV_ints]
    rfl
theorem ev_inIL {i : Int} {xs : List Int} {neg : Bool} (ha : Ev K T ta σ H zI i) (hb : Ev K T tb σ H (zL zI) xs) : Ev K T (tOp (rIn K neg) ta tb) σ H zB (if neg then !decide (i ∈ xs) else decide (i ∈ xs)) :=
  ev_op ha hb fun x y H1 Q _ h1 h2 q => by
    obtain ⟨a, vs, rfl, hs, hh⟩ := h2
    have e := ints_all2 hh
    subst e
    refine ⟨a, _, rfl, .inl hs.sq, by rw [show x = V.int i from h1]; rfl, flat_ints, q _ H1 (Ex.refl H1) ?_⟩
    rw [show x = V.int i from h1, inV_ints]
    rfl
theorem kop_in {X : Cx} {K : PySem.W.Frag} (hK : X.K = K := by rfl) : OpR X (compareOp .In) (rIn K false) := hK ▸ op_in_seq
theorem kop_notIn {X : Cx} {K : PySem.W.Frag} (hK : X.K = K := by rfl) : OpR X (compareOp .NotIn) (rIn K true) := hK ▸ op_notIn_seq
/-! ### comprehensions whose tests may lack an answer -/
def lcO {α β : Type} (p : α → Option Bool) (f : α → Option β) : List α → Option (List β)
  | [] => some []
  | x :: xs => (p x).bind fun b => if b = true then (f x).bind fun y => (lcO p f xs).bind fun ys => some (y :: ys) else lcO p f xs
theorem lcO_of {p : α → Option Bool} {f : α → Option β} : ∀ {xs : List α} {ys : List β}, lcO p f xs = some ys → (∀ x ∈ xs, p x = some ((p x).getD false)) ∧ mapO f (xs.filter fun x => (p x).getD false) = some ys
  | [], ys, h => ⟨fun x hx => (by cases hx), h⟩
  | x :: xs, ys, h => by
    obtain ⟨b, hb, h⟩ := bnd h
    cases b with
    | true =>
      rw [if_pos rfl] at h
      obtain ⟨y, h1, h⟩ := bnd h
      obtain ⟨zs, h2, h⟩ := bnd h
      cases h
      obtain ⟨i1, i2⟩ := lcO_of h2
      refine ⟨fun z hz => ?_, ?_⟩
      · rcases List.mem_cons.mp hz with rfl | hz
        · rw [hb]; rfl
        · exact i1 z hz
      · rw [List.filter_cons, hb]
        simp only [Option.getD_some, if_true, mapO, h1, Option.bind_some, i2]
    | false =>
      rw [if_neg (by decide)] at h
      obtain ⟨i1, i2⟩ := lcO_of h
      refine ⟨fun z hz => ?_, ?_⟩
      · rcases List.mem_cons.mp hz with rfl | hz
        · rw [hb]; rfl
        · exact i1 z hz
      · rw [List.filter_cons, hb]
        simpa using i2
theorem ev_lcQ [Mo r] [Mo s] {wi : TI} {g : TG} {tt : TT} {vs : List Nat} {xs : List α} {p : α → Option Bool} {f : α → Option β} {ys : List β} (hT : TD T H) (h : EvI K T wi σ H r xs) (hm : lcO p f xs = some ys)
    (hs : ∀ (T' : AS) (H' : Hp) (v : V) (x : α), Tr K T H T' H' → TD T' H' → x ∈ xs → r K T' H' v x → ∀ Q : L2.St → Hp → Prop, (∀ σ2, wipe σ2 vs = wipe σ vs → (∀ b, p x = some b → EvT T' tt σ2 H' b) → (p x = some true → ∀ y, f x = some y → Ev K T' te σ2 H' s y) → Q σ2 H') → g v (wipe σ vs) H' Q) :
    Ev K T (tLc wi g tt te vs) σ H (zL s) ys :=
  have hp := lcO_of hm
  ev_lcO (p := fun x => (p x).getD false) hT h hp.2 fun T' H' v x tr hT' hx hr Q q => hs T' H' v x tr hT' hx hr Q fun σ2 hw ht he => q σ2 hw (ht _ (hp.1 x hx)) fun z => he (by rw [hp.1 x hx, z])
end
end EB

set_option Elab.async false
set_option linter.all false
set_option maxRecDepth 100000
set_option maxHeartbeats 4000000
/-! EB: a pool, a dict with the keys cells, at, big, state, count; items of lists of ours; lists put together. -/
namespace EB
open PySem PySem.Spec PyProof.Rows L2
abbrev Px := List Int × Int × Int × Int × Int
def pxK (v : V) (a b c d : Int) : List (Key × V) := [(.inr "cells", v), (.inr "at", .int a), (.inr "big", .int b), (.inr "state", .int c), (.inr "count", .int d)]
section
variable {v : V} {a b c d z : Int}
theorem px_g0 : valV (pxK v a b c d) (.inr "cells") = some v := by simp [valV, pxK]
theorem px_g1 : valV (pxK v a b c d) (.inr "at") = some (.int a) := rfl
theorem px_g2 : valV (pxK v a b c d) (.inr "big") = some (.int b) := rfl
theorem px_g3 : valV (pxK v a b c d) (.inr "state") = some (.int c) := rfl
theorem px_g4 : valV (pxK v a b c d) (.inr "count") = some (.int d) := rfl
theorem px_p1 : putK (pxK v a b c d) (.inr "at") (.int z) = pxK v z b c d := rfl
theorem px_p2 : putK (pxK v a b c d) (.inr "big") (.int z) = pxK v a z c d := rfl
theorem px_p3 : putK (pxK v a b c d) (.inr "state") (.int z) = pxK v a b z d := rfl
theorem px_p4 : putK (pxK v a b c d) (.inr "count") (.int z) = pxK v a b c z := rfl
end
section
variable {K : PySem.W.Frag} {b : Bs} {fs : List (Fact K)} {cs : List (Cel K)} {T T' : AS} {σ : L2.St} {H : Hp} {α β : Type} {r : Rp α} {s : Rp β} {te ta tb tv ty td : TE} {tr : TA} {Q : VK} {D : Ends}
@[reducible] def cPx (p : Addr) (s : Px) : Cel K := ⟨[p], fun T H => ∃ v, H p = some (.dK (pxK v s.2.1 s.2.2.1 s.2.2.2.1 s.2.2.2.2)) ∧ zL zI K T H v s.1,
  fun w h ⟨v, h1, h2⟩ => ⟨v, by rw [h p (by simp)]; exact h1, Mo.wd w h2⟩⟩
theorem En.openPx {p : Addr} {s : Px} (E : En K b fs (cPx p s :: cs) T H) : ∃ v, En K b (fR (zL zI) v s.1 :: fs) (cV p (.dK (pxK v s.2.1 s.2.2.1 s.2.2.2.1 s.2.2.2.2)) :: cs) T H := by
  obtain ⟨v, h1, h2⟩ := E.c 0 rfl
  exact ⟨v, En.add (E.retell (c' := cV p (.dK (pxK v s.2.1 s.2.2.1 s.2.2.2.1 s.2.2.2.2))) 0 rfl (fun _ => h1) rfl) h2⟩
theorem En.closePx {p : Addr} {a1 a2 a3 a4 : Int} {v : V} {xs : List Int} (E : En K b fs (cV p (.dK (pxK v a1 a2 a3 a4)) :: cs) T H) (j : Nat) (hj : fs[j]? = some (fR (zL zI) v xs)) : En K b fs (cPx p (xs, a1, a2, a3, a4) :: cs) T H :=
  E.retell (c' := cPx p (xs, a1, a2, a3, a4)) 0 rfl (fun h => ⟨v, h, E.at j hj⟩) rfl
theorem En.cdB {p : Addr} {kvs : List (Key × V)} (E : En K b fs cs T H) (k : Nat) (hk : cs[k]? = some (cV p (.dK kvs))) : ¬ Tb T cs p ∧ H p = some (.dK kvs) :=
  ⟨fun z => z.2 (mem_owns (List.mem_of_getElem? hk) (by simp)), E.c k hk⟩
/-- d[x], a text as a key, of a dict that stands aside -/
theorem ev_dx [Mo r] {p : Addr} {kvs : List (Key × V)} {x : Str} {v : V} {d : α} (hd : Ev K T td σ H zA p) (hy : Ev K T ty σ H zS x) (h : ¬ T p ∧ H p = some (.dK kvs)) (hv : valV kvs (.inr x) = some v) (hr : r K T H v d) : Ev K T (tDGet td ty) σ H r d := fun H1 f Q q =>
  hd H1 f _ fun u H2 e2 ru => hy H2 (f.trans e2.fr) _ fun y H3 e3 ry => by
    have f3 := (f.trans e2.fr).trans e3.fr
    refine ⟨p, v, ru, .inl ⟨kvs, .inr x, .inl (f3.keep p _ h.1 h.2), ry, hv.symm⟩, q v H3 (e2.trans e3) (Mo.fr f3 hr)⟩
theorem En.dput {p : Addr} {kvs : List (Key × V)} {x : Str} {v : V} (E : En K b fs cs T H) (k : Nat) (hk : cs[k]? = some (cV p (.dK kvs))) (hl : kvs.length ≤ 1000) (q : ∀ H', En K b fs (cs.set k (cV p (.dK (putK kvs (.inr x) v)))) T H' → D.nx σ H') :
    ∃ a H4, V.ref p = .ref a ∧ DPut H a (.str x) v H4 ∧ D.nx σ H4 :=
  ⟨p, _, rfl, .inl ⟨kvs, .inr x, E.c k hk, rfl, by rw [sizeLine_eq]; omega, rfl⟩, q _ (E.chg k hk (Fr.upd (.inl (by simp))) upd_same rfl)⟩
/-- a list that is new, as it stands -/
theorem ev_ofF [Mo r] {xs : List α} (hT : TD T H) (h : EvF K T te σ H r xs) : Ev K T te σ H (zL r) xs := fun H1 f Q q => h H1 f Q fun p H2 H3 e2 n f3 e3 m => by
  obtain ⟨vs, h1, h2⟩ := m.ex
  have hT2 : TD T H2 := (hT.fr f).ex e2
  have np : ¬ T p := hT2.new n
  exact q (.ref p) H3 (e2.trans e3) ⟨p, vs, rfl, .new np h1, all2_imp (fun _ _ z => Mo.wd (Wd.sub fun _ t => .inl t) z) h2⟩
/-- an item of a list of ours -/
theorem En.ixO [Mo r] {p : Addr} {xs : List α} {i : Int} {x : α} {v : V} (E : En K b fs cs T H) (k : Nat) (hk : cs[k]? = some (cL r p xs)) (hi : zI K T H v i) (hx : atI xs i = some x) (q : ∀ u, En K b (fR r u x :: fs) cs T H → Q u H) : rIxL K (.ref p) v H Q := by
  obtain ⟨_, vs, h1, h2⟩ := E.cl k hk
  obtain ⟨u, hu, hr⟩ := all2_at h2 hx
  exact ⟨p, vs, i, u, rfl, hi, .inl (.inl h1), hu, q u (E.add hr)⟩
/-- a new dict, its first value a list -/
theorem px_new {xs : List Int} {n1 n2 n3 n4 : Int} (hT : TD T H) (h : Ev K T te σ H (zL zI) xs)
    (q : ∀ (i : Addr) H', Ex H H' → (cPx (K := K) i (xs, n1, n2, n3, n4)).own.Nodup → (∀ x ∈ (cPx (K := K) i (xs, n1, n2, n3, n4)).own, H x = none ∧ ∃ o, H' x = some o) → (cPx (K := K) i (xs, n1, n2, n3, n4)).P (fun b => T b ∨ b ∈ (cPx (K := K) i (xs, n1, n2, n3, n4)).own) H' → D.rt (.ref i) H') :
    tRet (tDisp [(tC (.str "cells"), te), (tC (.str "at"), tC (.int n1)), (tC (.str "big"), tC (.int n2)), (tC (.str "state"), tC (.int n3)), (tC (.str "count"), tC (.int n4))]) D σ H := by
  intro p hp
  have hn : Ex H (upd H p (.dK [])) := Ex.new hp
  have np : ¬ T p := hT.new hp
  refine h _ hn.fr _ fun v H2 e2 r2 => ?_
  have h2 : H2 p = some (.dK []) := e2 p _ upd_same
  refine ⟨h2, [(.inr "cells", v), (.inr "at", .int n1), (.inr "big", .int n2), (.inr "state", .int n3), (.inr "count", .int n4)], rfl, by simp, ?_⟩
  have f3 : Fr (fun b => b = p) H2 (upd H2 p (.dK (mergeK [] [(.inr "cells", v), (.inr "at", .int n1), (.inr "big", .int n2), (.inr "state", .int n3), (.inr "count", .int n4)]))) := Fr.upd (.inl rfl)
  have e3 : Ex H (upd H2 p (.dK (mergeK [] [(.inr "cells", v), (.inr "at", .int n1), (.inr "big", .int n2), (.inr "state", .int n3), (.inr "count", .int n4)]))) := fun a o ha => by
    have ne : a ≠ p := fun z => by rw [z, hp] at ha; cases ha
    rw [upd_ne ne]
    exact e2 a o (hn a o ha)
  refine q p _ e3 (by simp) (fun x hx => ?_) ⟨v, upd_same, ?_⟩
  · rw [List.mem_singleton] at hx; subst hx; exact ⟨hp, _, upd_same⟩
  · have r3 : zL zI K (fun b => T b ∨ b ∈ [p]) H2 v xs := by
      obtain ⟨a, vs, e, hs, hh⟩ := r2
      refine ⟨a, vs, e, hs.elim (fun z => .inl ⟨fun t => ?_, z.2⟩) .inr, all2_imp (fun _ _ z => z) hh⟩
      rcases t with t | t
      · exact z.1 t
      · rw [List.mem_singleton] at t
        subst t
        rcases z.2 with w | ⟨o, w⟩ <;> (rw [h2] at w; cases w)
    exact Mo.fr (T := fun b => T b ∨ b ∈ [p]) (f3.mono fun a ha => .inr (by rw [ha]; simp)) r3
end
/-! ### lists put together, whatever lists -/
def rCatQ (K : PySem.W.Frag) : R2 := fun x y H Q => ∃ l b xs zs, x = .ref l ∧ y = .ref b ∧ SqL K H l xs ∧ SqL K H b zs ∧ xs.length + zs.length ≤ sizeLine ∧ ∀ p, H p = none → Q (.ref p) (upd H p (.lst (xs ++ zs)))
theorem op_catQ {X : Cx} {K : PySem.W.Frag} (hK : X.K = K := by rfl) : OpR X (binaryOp .Add) (rCatQ K) := by
  subst hK
  intro pins s σ H x y v u Q I rx ry h
  obtain ⟨l, b, xs, zs, rfl, rfl, hH, hB, hz, q⟩ := h
  cases rx
  cases ry
  obtain ⟨its, r, ⟨⟨cls, dd, data, sl⟩, n, e, hc, hd, ht⟩, z⟩ := I.list hH
  obtain ⟨its2, r2, ⟨⟨cls2, dd2, data2, sl2⟩, n2, e2, hc2, hd2, ht2⟩, z2⟩ := I.list hB
  simp only at hc hd ht hc2 hd2 ht2
  subst hc hd ht hc2 hd2 ht2
  have l1 := r.length
  have l2 := r2.length
  have ea : its.toArray ++ its2.toArray = (its ++ its2).toArray := by simp
  refine concat_meets ⟨_, e, rfl⟩ ⟨_, e2, rfl⟩ noFill_list_add seq_list_add PySem.F.slot_list_add PySem.F.entry_list_add (PySem.F.args_list_add_2 _ _) (list_addW l b its.toArray its2.toArray n n2 none none sl sl2 (by simp only [List.size_toArray]; omega)) ⟨e, e2, ?_⟩
  rw [ea]
  exact ⟨.ref _, _, I.lnew (t' := s.toks) (r.append r2) (by rw [List.length_append]; omega), rfl, q _ I.fresh⟩
section
variable {K : PySem.W.Frag} {T : AS} {σ : L2.St} {H : Hp} {α : Type} {r : Rp α} {ta tb : TE}
theorem ev_catL [Mo r] {xs ys : List α} (hT : TD T H) (ha : Ev K T ta σ H (zL r) xs) (hb : Ev K T tb σ H (zL r) ys) (hl : xs.length + ys.length ≤ 1000000) : Ev K T (tOp (rCatQ K) ta tb) σ H (zL r) (xs ++ ys) :=
  ev_op ha hb fun x y H1 Q f h1 h2 q => by
    obtain ⟨a, vs, rfl, hs, hh⟩ := h1
    obtain ⟨b, ws, rfl, hs2, hh2⟩ := h2
    have l1 := all2_len hh
    have l2 := all2_len hh2
    refine ⟨a, b, vs, ws, rfl, rfl, hs.sq, hs2.sq, by rw [sizeLine_eq]; omega, fun p hp => ?_⟩
    have e : Ex H1 (upd H1 p (.lst (vs ++ ws))) := Ex.new hp
    exact q _ _ e ⟨p, _, rfl, .new ((hT.fr f).new hp) upd_same, all2_imp (fun _ _ z => Mo.fr e.fr z) (all2_app hh hh2)⟩
/-- as a list that is new -/
theorem ef_catL [Mo r] {xs ys : List α} (ha : Ev K T ta σ H (zL r) xs) (hb : Ev K T tb σ H (zL r) ys) (hl : xs.length + ys.length ≤ 1000000) : EvF K T (tOp (rCatQ K) ta tb) σ H r (xs ++ ys) := fun H1 f Q q =>
  ha H1 f _ fun v H2 e2 r2 => hb H2 (f.trans e2.fr) _ fun w H3 e3 r3 => by
    obtain ⟨a, vs, rfl, hs, hh⟩ := Mo.fr e3.fr r2
    obtain ⟨b, ws, rfl, hs2, hh2⟩ := r3
    have l1 := all2_len hh
    have l2 := all2_len hh2
    refine ⟨a, b, vs, ws, rfl, rfl, hs.sq, hs2.sq, by rw [sizeLine_eq]; omega, fun p hp => ?_⟩
    obtain ⟨x, y, z⟩ := hm_new hp (all2_app hh hh2)
    exact q p H3 _ (e2.trans e3) hp x y z
end
end EB

set_option Elab.async false
set_option linter.all false
set_option maxRecDepth 100000
set_option maxHeartbeats 4000000
/-! EB: objects that are made by an __init__ that may raise. -/
namespace EB
open PySem PySem.Spec PyProof.Rows L2
section
variable {X : Cx} {CX : CXT} {k j : Nat} {f C : Addr} {fd : FuncData} {ps : List Str} {sp : Sp} {E : L2.St → XK} {x : Str} {p pos : Pos} {e : Expr} {es : List Expr} {t : TA}
/-- C(..): a new instance and its dict, then __init__; what that raises goes to E of the slots -/
def tMakeS (C : Addr) (sp : Sp) (E : L2.St → XK) (t : TA) : TE := fun σ H Q => t σ H fun vs H1 => ∀ x dx, H1 x = none → H1 dx = none → dx ≠ x → sp (.ref x :: vs) (upd (upd H1 dx (.own x)) x (.ins C dx [])) (fun v H2 => v = .non ∧ Q (.ref x) H2) (E σ)
theorem makeS_run {pins : List (Addr × Obj)} {σ : L2.St} {H : Hp} {s : Shared} {Q : VK} {us : List Value} {vs : List V} (M : Mk X.K C f) (F : FnOk X.prog X.w X.K X.mg X.base CX k f fd ps sp) (hr : Room (k + 1) X.A) (hb : Binds X.K fd ps []) (hx : PassesAt CX X σ (E σ)) (I : L2.Inv X pins σ H s) (r : Vals vs us)
    (h : ∀ x dx, H x = none → H dx = none → dx ≠ x → sp (.ref x :: vs) (upd (upd H dx (.own x)) x (.ins C dx [])) (fun v H2 => v = .non ∧ Q (.ref x) H2) (E σ)) : wpAny (model X.prog X.w) X.A (call (.ref C) us) (EP X pins σ Q) X.xe s := by
  have new1 : H (s.heap.objs.size + 1) = none := I.hok.fresh (Nat.le_succ _)
  have new2 : H s.heap.objs.size = none := I.hok.fresh (Nat.le_refl _)
  have hsp := h _ _ new1 new2 (Nat.ne_of_lt (Nat.lt_succ_self _))
  have J := Inv.made (C := C) I
  have rel : Vals (V.ref (s.heap.objs.size + 1) :: vs) (Value.ref (s.heap.objs.size + 1) :: us) := .cons rfl r
  have hlen : (Value.ref (s.heap.objs.size + 1) :: us).length = ps.length := by rw [← rel.length]; exact F.len _ _ _ _ hsp
  have bnd' := hb _ (Value.ref (s.heap.objs.size + 1) :: us) J.kIn (by rw [List.append_nil]; exact hlen)
  rw [List.append_nil] at bnd'
  have init := F.run _ X.stack _ _ ⟨Value.ref (s.heap.objs.size + 1) :: us, []⟩ _ _ _ _ (hr.make C us []) (J.env0.make C us []) bnd' rel hsp
  refine wpAny_call (make_map (f := f) I.kIn M.makes M.init (beq_iff_eq.mp M.fn) (codeAny_mono init fun q s' hq => ?_))
  match q, hq with
  | .error e, hq => exact hx pins _ _ e s' J hq
  | .ok (.ret u), hq =>
    obtain ⟨v, H', J', rv, rfl, q3⟩ := J.after hq
    exact ⟨rv, V.ref (s.heap.objs.size + 1), H', J', rfl, q3⟩
theorem px_make {Cn : Str} (F : OkX X.prog X.w X.K X.mg X.base k (Cn, some "__init__") ps sp) (M : Mk X.K (He.ga X.K Cn) (He.ma X.K (He.ga X.K Cn) "__init__")) (tk : ∀ σ, PassesAt (L2.CX X.prog X.w) X σ (E σ)) (hr : Room j X.A) (hk : k + 1 ≤ j) (hg : Gl X Cn) (hm : X.mg Cn = some (.ref (He.ga X.K Cn)))
    (ha : PA X (e :: es) t) (hdb : (Cn == ("__debug__" : Str)) = false := by decide) (he : starEach (e :: es) X.env = (false, eval e X.env) :: starEach es X.env := by rfl) (hpl : (backTo pos (starEach es X.env)).any (·.1) = false := by rfl) :
    PE X (.Call (.Name Cn p) (e :: es) [] pos) (tMakeS (He.ga X.K Cn) sp E t) := by
  obtain ⟨fd, f, b, kp⟩ := F.ex
  constructor
  intro pins s σ H Q I h
  refine wpAny_Call_Name_kw (ld_glob I hg hm ?_ hdb)
  refine PySem.W.callWith_K (h₀ := X.base) I.ok.mod.kin M.kp (thn (ha.run pos pins s σ H _ I h) fun us s1 ⟨vs, H1, I1, r, q⟩ => ⟨I1.kIn, ?_⟩) he hpl
  exact makeS_run M f (hr.mono hk) b (tk σ) I1 r q
end
/-- anything -/
def zAny : Rp Unit := fun _ _ _ _ _ => True
instance : Mo zAny := ⟨fun _ _ => trivial⟩
/-- __init__ that may raise: the fields, the table that is new -/
def ISpX (K : PySem.W.Frag) {α β γ : Type} (Cn : Str) (fs : List Str) (ra : Rpl α) (rf : Rpl β) (m : α → Option (Except Err γ)) (Fd : γ → Addr → β) : Sp := fun vs H Q E =>
  ∃ (T : AS) (a : α) (x dx : Addr) (ws : List V) (o : Except Err γ), TD (Tp T x) H ∧ ¬ T x ∧ vs = .ref x :: ws ∧ H x = some (.ins (He.ga K Cn) dx []) ∧ ra K (Tp T x) H ws a ∧ m a = some o ∧
    (∀ d, o = .ok d → ∀ H' kk us, Fr (fun b => b = x) H H' → H kk = none → H' kk = some (.dK []) → H' x = some (.ins (He.ga K Cn) dx (fs.zip us)) → rf K (Tp (Tp T x) kk) H' us (Fd d kk) → Q .non H') ∧
    (∀ e : Err, o = .error e → ∀ d H', Fr (fun b => b = x) H H' → zX e.k.2 K (Tp T x) H' (.ref d) e.x → E (.ref (He.ga K e.k.1)) (some d) H')
theorem ISpX_len {K : PySem.W.Frag} {α β γ : Type} {Cn : Str} {fs : List Str} {ra : Rpl α} {rf : Rpl β} {m : α → Option (Except Err γ)} {Fd : γ → Addr → β} {n : Nat} (h : ∀ K T H vs a, ra K T H vs a → vs.length = n) : ∀ vs H Q E, ISpX K Cn fs ra rf m Fd vs H Q E → vs.length = n + 1 := fun vs H Q E ⟨T, a, x, dx, ws, o, _, _, e, _, hr, _⟩ => by
  rw [e, List.length_cons, h K _ H ws a hr]
section
variable {K : PySem.W.Frag} {T : AS} {σ : L2.St} {H : Hp} {α β γ : Type} {r : Rp α} {tr : TA} {Q : VK} {W : WX}
/-- an object is made -/
theorem makeX_ok {Cn : Str} {fs : List Str} {ra : Rpl α} {rf : Rpl β} {m : α → Option (Except Err γ)} {Fd : γ → Addr → β} {a : α} {d : γ} {E : L2.St → XK} [MoL ra] [MoL rf] (hT : TD T H) (h : EvA K T tr σ H ra a) (hm : m a = some (.ok d))
    (k : ∀ p kk H1 H2, Ex H H1 → Ex H1 H2 → H1 kk = none → H2 kk = some (.dK []) → zOb Cn fs rf K (Tp T kk) H2 (.ref p) (Fd d kk) → Q (.ref p) H2) : tMakeS (He.ga K Cn) (ISpX K Cn fs ra rf m Fd) E tr σ H Q := by
  refine h H (Fr.refl H) _ fun vs H1 ex1 hr x dx hx hd hne => ?_
  have hT1 : TD T H1 := hT.ex ex1
  have e1 : Ex H1 (upd H1 dx (.own x)) := Ex.new hd
  have hx1 : upd H1 dx (.own x) x = none := by rw [upd_ne (Ne.symm hne)]; exact hx
  have e2 : Ex (upd H1 dx (.own x)) (upd (upd H1 dx (.own x)) x (.ins (He.ga K Cn) dx [])) := Ex.new hx1
  have e := e1.trans e2
  have nx : ¬ T x := hT1.new hx
  refine ⟨T, a, x, dx, vs, .ok d, (hT1.ex e).tp upd_same, nx, rfl, upd_same, MoL.fr e.fr (MoL.lift hx hr), hm, fun d' ed H' kk us f hk hk' hx' hu => ⟨rfl, ?_⟩, fun e' ee => by cases ee⟩
  cases ed
  have hkx : kk ≠ x := fun z => by rw [z, upd_same] at hk; cases hk
  refine k x kk H1 H' ex1 ?_ (e.back hk) hk' ⟨x, dx, us, rfl, fun z => z.elim nx (fun z => hkx z.symm), hx', MoL.sub (fun b hb => hb.elim (fun z => .inl (.inl z)) .inr) hu⟩
  exact e.thenFr f (fun b hb => by cases hb; exact hx)
/-- none is made: what is raised -/
theorem makeX_err {Cn : Str} {fs : List Str} {ra : Rpl α} {rf : Rpl β} {m : α → Option (Except Err γ)} {Fd : γ → Addr → β} {a : α} {e : Err} [MoL ra] (hT : TD T H) (h : EvA K T tr σ H ra a) (hm : m a = some (.error e)) : EvE K T (tMakeS (He.ga K Cn) (ISpX K Cn fs ra rf m Fd) (WE W) tr) σ H W e := fun H0 g k Q => by
  refine h H0 g _ fun vs H1 ex1 hr x dx hx hd hne => ?_
  have hT1 : TD T H1 := (hT.fr g).ex ex1
  have e1 : Ex H1 (upd H1 dx (.own x)) := Ex.new hd
  have hx1 : upd H1 dx (.own x) x = none := by rw [upd_ne (Ne.symm hne)]; exact hx
  have e2 : Ex (upd H1 dx (.own x)) (upd (upd H1 dx (.own x)) x (.ins (He.ga K Cn) dx [])) := Ex.new hx1
  have ee := e1.trans e2
  have nx : ¬ T x := hT1.new hx
  refine ⟨T, a, x, dx, vs, .error e, (hT1.ex ee).tp upd_same, nx, rfl, upd_same, MoL.fr ee.fr (MoL.lift hx hr), hm, fun d' ed => (by cases ed), fun e' er d H' f z => ?_⟩
  cases er
  refine k d H' (ex1.trans (ee.thenFr f (fun b hb => by cases hb; exact hx))) ?_
  exact Mo.wd (Wd.sub fun _ t => .inl t) z
end
/-! ### insert -/
def rInsQ : V → List V → Hp → VK → Prop := fun x vs H Q => ∃ (l : Addr) (xs : List V) (i : Int) (y : V), x = .ref l ∧ vs = [.int i, y] ∧ H l = some (.lst xs) ∧ xs.length < sizeLine ∧ 0 ≤ i ∧ i < 2 ^ 63 ∧ Q .non (upd H l (.lst (xs.take i.toNat ++ [y] ++ xs.drop i.toNat)))
theorem mt_insertQ {X : Cx} : MtR X "list.insert" rInsQ := mt_insert
theorem En.insertQ {K : PySem.W.Frag} {b : Bs} {fs : List (Fact K)} {cs : List (Cel K)} {T : AS} {H : Hp} {α : Type} {r : Rp α} {Q : VK} [Mo r] {p : Addr} {xs ys : List α} {d : α} {i : Int} {v : V} (E : En K b fs cs T H) (k : Nat) (hk : cs[k]? = some (cL r p xs)) (hv : r K T H v d) (hm : insO xs i d = some ys)
    (q : ∀ H', En K b fs (cs.set k (cL r p ys)) T H' → Q .non H') : rInsQ (.ref p) [.int i, v] H Q := En.insert (Q := Q) E k hk hv hm q
/-! ### objects by what their reading tells -/
class IsOb {α : Type} (Cn : Str) (fn : List Str) (r : Rp α) : Prop where
  ob : ∀ {K T H v d}, r K T H v d → ∃ p dx vs, v = .ref p ∧ H p = some (.ins (He.ga K Cn) dx (fn.zip vs))
section
variable {K : PySem.W.Frag} {T : AS} {σ : L2.St} {H : Hp} {α β γ δ : Type} {r : Rp α} {s : Rp β} {ta : TE} {tr : TA} {Q : VK} {E' : XK} {Cn f : Str} {fn : List Str}
theorem ev_fldX {b : α} {a : β} (c : Cls K (He.ga K Cn)) (n : NoAttr K (He.ga K Cn) f) (h : Ev K T ta σ H r b) (g : ∀ H1 v, r K T H1 v b → ∃ p dx fs u, v = .ref p ∧ H1 p = some (.ins (He.ga K Cn) dx fs) ∧ fs.lookup f = some u ∧ s K T H1 u a) : Ev K T (tFld K ta f) σ H s a := fun H1 e Q q =>
  h H1 e _ fun v H2 e2 rv => by
    obtain ⟨p, dx, fs, u, ev, hp, hl, hr⟩ := g H2 v rv
    exact ⟨p, _, dx, fs, u, ev, hp, c, n, hl, q u H2 e2 hr⟩
theorem ev_methX {rb : Rpl γ} {m : α × γ → Option β} {a : α} {g : γ} {d : β} {mn : Str} [IsOb Cn fn r] [Mo r] (hT : TD T H) (hm : mn ∉ fn) (h : Ev K T ta σ H r a) (h2 : EvA K T tr σ H rb g) (he : m (a, g) = some d) :
    Ev K T (tMeth (He.ga K Cn) mn (FSp K (aC r rb) s m) [] E' ta tr) σ H s d := fun H1 g' Q q => h H1 g' _ fun v H2 e2 r2 => by
  obtain ⟨p, dx, vs, ev, hh⟩ := IsOb.ob (Cn := Cn) (fn := fn) r2
  refine ⟨p, dx, _, ev, hh, lookup_zip_none hm, ?_⟩
  refine h2 H2 (g'.trans e2.fr) _ fun ws H3 e3 r3 => ?_
  show FSp K (aC r rb) s m (v :: (ws ++ [])) H3 Q E'
  rw [List.append_nil]
  exact ⟨T, (a, g), d, (hT.fr g').ex (e2.trans e3), ⟨v, ws, rfl, Mo.fr e3.fr r2, r3⟩, he, fun v' H4 e4 r4 => q v' H4 ((e2.trans e3).trans e4) r4⟩
theorem ev_makeX {fs : List Str} {ra : Rpl γ} {rf : Rpl δ} {m : γ → Option (Except Err α)} {Fd : α → Addr → δ} {a : γ} {d : α} {E : L2.St → XK} [MoL ra] [MoL rf] [Mo r] (hc : ∀ T H v kk, zOb Cn fs rf K T H v (Fd d kk) → r K T H v d) (hT : TD T H) (h : EvA K T tr σ H ra a) (hm : m a = some (.ok d)) :
    Ev K T (tMakeS (He.ga K Cn) (ISpX K Cn fs ra rf m Fd) E tr) σ H r d := fun H0 g Q q =>
  makeX_ok (hT.fr g) (fun H1 f1 Q1 q1 => h H1 (g.trans f1) Q1 q1) hm fun p kk H1 H2 e1 e2 _ _ z => q _ H2 (e1.trans e2) (Mo.wd (Wd.sub fun _ t => .inl t) (hc _ _ _ _ z))
/-! ### __init__, walked -/
variable {b : Bs} {fs : List (Fact K)} {cs : List (Cel K)} {D : Ends} {i : Nat}
theorem fld_open {ta tv : TE} (h : tv σ H fun y H1 => ta σ H1 fun x H2 => ∃ a C dx fs, x = .ref a ∧ H2 a = some (.ins C dx fs) ∧ Cls K C ∧ NoAttr K C f ∧ fs.length < 1000 ∧ D.nx σ (upd H2 a (.ins C dx (putF f y fs)))) : sFld K ta tv f D σ H := h
theorem En.fld {x dx : Addr} {fl : List (Str × V)} {y : V} (E : En K b fs cs T H) (k : Nat) (hk : cs[k]? = some (cV x (.ins (He.ga K Cn) dx fl))) (hx : σ[i]? = some (some (.ref x))) (c : Cls K (He.ga K Cn)) (n : NoAttr K (He.ga K Cn) f) (hl : fl.length < 1000)
    (q : ∀ H', En K b fs (cs.set k (cV x (.ins (He.ga K Cn) dx (putF f y fl)))) T H' → D.nx σ H') : (tVar i) σ H fun x H2 => ∃ a C dx fs, x = .ref a ∧ H2 a = some (.ins C dx fs) ∧ Cls K C ∧ NoAttr K C f ∧ fs.length < 1000 ∧ D.nx σ (upd H2 a (.ins C dx (putF f y fs))) :=
  ⟨.ref x, hx, x, _, dx, fl, rfl, E.c k hk, c, n, hl, q _ (E.chg k hk (Fr.upd (.inl (by simp))) upd_same rfl)⟩
theorem En.newD (E : En K b fs cs T H) (q : ∀ kk H', En K b fs (cV kk (.dK []) :: cs) (Tp T kk) H' → Q (.ref kk) H') : tDNewK σ H Q := fun kk hk =>
  q kk _ (E.newc (c := cV kk (.dK [])) (T' := Tp T kk) ⟨(Ex.new hk).fr, fun b t => t.elim .inl fun z => .inr (z ▸ hk)⟩ (Ex.new hk) (fun b h => .inl h) ((E.td.ex (Ex.new hk)).tp upd_same) upd_same (fun a ha => by rw [List.mem_singleton] at ha; subst ha; exact ⟨hk, .inr rfl⟩) (by simp))
theorem En.initX {x dx kk : Addr} {T0 T' : AS} {H00 : Hp} {fl : List (Str × V)} (E : En K ⟨Tp T0 x, [x], H00⟩ fs [cV kk (.dK []), cV x (.ins (He.ga K Cn) dx fl)] T' H) :
    Fr (fun b => b = x) H00 H ∧ H00 kk = none ∧ H kk = some (.dK []) ∧ H x = some (.ins (He.ga K Cn) dx fl) ∧ ∀ b, Tp (Tp T0 x) kk b → T' b := by
  have hk := E.cel _ List.mem_cons_self
  refine ⟨E.fr.mono fun a ha => by simpa using ha, ?_, E.c 0 rfl, E.c 1 rfl, fun b t => ?_⟩
  · rcases (hk.2 kk (by simp)).2 with h | h
    · have h' : kk = x := by simpa using h
      have := E.dis
      simp [owns, h'] at this
    · exact h
  · rcases t with t | t
    · exact E.sup b t
    · subst t; exact (hk.2 _ (by simp)).1
end
/-! ### data read at a type -/
class Fd {α : Type} (r : Rp α) where
  fd : PyData → Option α
  ok : ∀ {K T H v d x}, ZD K T H v d → fd d = some x → r K T H v x
def bitO (c : Nat) : Option Bool := if c = 48 then some false else if c = 49 then some true else none
def dW : PyData → Option (List Bool)
  | .str s => if s.length ≤ 100000 then mapO bitO s.cps.toList else none
  | _ => none
theorem bitO_ok {c : Nat} {b : Bool} (h : bitO c = some b) : c = sgn b := by
  unfold bitO at h
  split at h
  · rename_i e; cases h; subst e; rfl
  · split at h
    · rename_i e; cases h; subst e; rfl
    · cases h
theorem bits_ok : ∀ {cs : List Nat} {w : List Bool}, mapO bitO cs = some w → cs = w.map sgn
  | [], w, h => by cases h; rfl
  | c :: cs, w, h => by
    obtain ⟨b, h1, h⟩ := bnd h
    obtain ⟨bs, h2, h⟩ := bnd h
    cases h
    rw [List.map_cons, bits_ok h2, bitO_ok h1]
theorem dW_ok {s : Str} {w : List Bool} (h : dW (.str s) = some w) : s = wS w ∧ w.length ≤ 100000 := by
  simp only [dW] at h
  split at h
  · rename_i hl
    have e := bits_ok h
    have e2 : s = wS w := by
      cases s with
      | mk a =>
        have : a = (w.map sgn).toArray := by apply Array.ext'; simpa using e
        rw [this]; rfl
    refine ⟨e2, ?_⟩
    rw [e2, wS_len] at hl
    exact hl
  · cases h
section
variable {K : PySem.W.Frag} {T : AS} {σ : L2.St} {H : Hp} {α : Type} {r : Rp α} {te : TE} {d : PyData}
instance : Fd zD := ⟨some, fun h e => by cases e; exact h⟩
instance : Fd zI := ⟨dInt, fun h e => by cases h <;> cases e; rfl⟩
instance : Fd zB := ⟨dBool, fun h e => by cases h <;> cases e; rfl⟩
instance : Fd zS := ⟨dStr, fun h e => by cases h <;> cases e; rfl⟩
instance : Fd zW := ⟨dW, fun h e => by
  cases h with
  | str s => obtain ⟨rfl, hl⟩ := dW_ok e; exact ⟨rfl, hl⟩
  | _ => cases e⟩
theorem fd_all [Fd r] : ∀ {vs : List V} {ds : List PyData} {xs : List α}, ZDs K T H vs ds → mapO (Fd.fd r) ds = some xs → All2 (r K T H) vs xs
  | _, _, _, .nil, h => by cases h; exact .nil
  | _, _, _, .cons a t, h => by
    obtain ⟨y, h1, h⟩ := bnd h
    obtain ⟨zs, h2, h⟩ := bnd h
    cases h
    exact .cons (Fd.ok a h1) (fd_all t h2)
instance [Fd r] : Fd (zL r) := ⟨fun d => (dLst d).bind (mapO (Fd.fd r)), fun h e => by
  obtain ⟨ds, h1, h2⟩ := bnd e
  cases h with
  | lst hs hh => cases h1; exact ⟨_, _, rfl, hs, fd_all hh h2⟩
  | _ => cases h1⟩
instance [Fd r] : Fd (zU r) := ⟨fun d => (dTup d).bind (mapO (Fd.fd r)), fun h e => by
  obtain ⟨ds, h1, h2⟩ := bnd e
  cases h with
  | tup hs hh => cases h1; exact ⟨_, _, rfl, hs, fd_all hh h2⟩
  | _ => cases h1⟩
instance [Fd r] : Fd (zQ r) := ⟨fun d => (dSeq d).bind (mapO (Fd.fd r)), fun h e => by
  obtain ⟨ds, h1, h2⟩ := bnd e
  cases h with
  | lst hs hh => cases h1; exact .inl ⟨_, _, rfl, hs, fd_all hh h2⟩
  | tup hs hh => cases h1; exact .inr ⟨_, _, rfl, hs, fd_all hh h2⟩
  | _ => cases h1⟩
theorem ev_fd [Fd r] {x : α} (h : Ev K T te σ H zD d) (e : Fd.fd r d = some x) : Ev K T te σ H r x := fun H1 f Q q => h H1 f Q fun v H2 e2 r2 => q v H2 e2 (Fd.ok r2 e)
theorem vd_fd [Fd r] {v : V} {x : α} (h : zD K T H v d) (e : Fd.fd r d = some x) : r K T H v x := Fd.ok h e
end
/-! ### tuple(range(..)), list(range(..)) -/
section
variable {K : PySem.W.Frag} {T : AS} {σ : L2.St} {H : Hp} {ta tb : TE}
theorem rgV_all2 {a b : Int} : All2 (zI K T H) (rgV a b) (rng a (b - a).toNat) := by
  unfold rgV rng
  generalize List.range (b - a).toNat = l
  induction l with
  | nil => exact .nil
  | cons x l ih => exact .cons rfl ih
theorem ev_tupRg1 {n : Int} (hT : TD T H) (h : Ev K T ta σ H zI n) (h0 : 0 ≤ n ∧ n ≤ 1000000) : Ev K T (tTupRg (tRg1 ta)) σ H (zU zI) (rng 0 n.toNat) := fun H1 f Q q => h H1 f _ fun v H2 e2 r2 => by
  refine ⟨n, r2, RgOk.of_le (by omega) (by omega) (by omega) (by omega), fun p hp => ?_⟩
  have := rgV_all2 (K := K) (T := T) (H := upd H2 p (.tup (rgV 0 n))) (a := 0) (b := n)
  rw [Int.sub_zero] at this
  exact q _ _ (e2.trans (Ex.new hp)) ⟨p, _, rfl, .new (((hT.fr f).ex e2).new hp) upd_same, this⟩
theorem ev_lstRg1 {n : Int} (hT : TD T H) (h : Ev K T ta σ H zI n) (h0 : 0 ≤ n ∧ n ≤ 1000000) : Ev K T (tLstRg (tRg1 ta)) σ H (zL zI) (rng 0 n.toNat) := fun H1 f Q q => h H1 f _ fun v H2 e2 r2 => by
  refine ⟨n, r2, RgOk.of_le (by omega) (by omega) (by omega) (by omega), fun p hp => ?_⟩
  have := rgV_all2 (K := K) (T := T) (H := upd H2 p (.lst (rgV 0 n))) (a := 0) (b := n)
  rw [Int.sub_zero] at this
  exact q _ _ (e2.trans (Ex.new hp)) ⟨p, _, rfl, .new (((hT.fr f).ex e2).new hp) upd_same, this⟩
end
section
variable {X : Cx} {K : PySem.W.Frag} {te : L2.St → Hp → (Int → Int → Hp → Prop) → Prop} {e : Expr} {p pos : Pos}
theorem kpe_tupRg (hc : X.calm = true) (hg : Gl X "tuple") (hm : X.mg "tuple" = none) (he : PRg X e te) (na : starEach [e] X.env = (false, eval e X.env) :: starEach [] X.env := by rfl) : PE X (.Call (.Name "tuple" p) [e] [] pos) (tTupRg te) := pe_tupRg hc hg hm he na
end
end EB

set_option Elab.async false
set_option linter.all false
set_option maxRecDepth 100000
set_option maxHeartbeats 4000000
/-! EB: defs called by the names of their arguments alone. -/
namespace EB
open PySem PySem.Spec PyProof.Rows L2
/-- the values in the def's order: js tells the places in the call's order -/
def kwP {α : Type} (js : List Nat) (l : List α) : List α := js.filterMap fun j => l[j]?
theorem vals_at {zs : List V} {ws : List Value} (h : Vals zs ws) (j : Nat) : (zs[j]? = none ∧ ws[j]? = none) ∨ ∃ a b, zs[j]? = some a ∧ ws[j]? = some b ∧ Vals [a] [b] := by
  induction h generalizing j with
  | nil => exact .inl ⟨rfl, rfl⟩
  | cons r _ ih =>
    cases j with
    | zero => exact .inr ⟨_, _, rfl, rfl, .cons r .nil⟩
    | succ j => exact ih j
theorem kwP_vals {js : List Nat} {zs : List V} {ws : List Value} (h : Vals zs ws) : Vals (kwP js zs) (kwP js ws) := by
  induction js with
  | nil => exact .nil
  | cons j js ih =>
    show Vals (List.filterMap _ (j :: js)) (List.filterMap _ (j :: js))
    rw [List.filterMap_cons, List.filterMap_cons]
    rcases vals_at h j with ⟨e1, e2⟩ | ⟨a, b, e1, e2, r⟩
    · rw [e1, e2]; exact ih
    · rw [e1, e2]
      cases r with
      | cons r _ => exact .cons r ih
section
variable {K : PySem.W.Frag} {x qual : Str} {params : Arguments} {body : List Stmt} {scope : Scope} {f : Addr} {fd : FuncData} {ps ks : List Str} {js : List Nat}
theorem FunD.kbindsP (F : FunD K x qual params body scope [] [] f fd)
    (h : ∀ (kV doc pm : Value) (an : Option Addr) (cdv ct : Value) (ws : List Value), ws.length = ks.length → bindArgs (PySem.W.fnOf x qual params body scope .none kV doc pm an cdv ct) ⟨[], ks.zip ws⟩ = pure (ps.zip (kwP js ws))) :
    KBn K fd ps 0 ks (fun _ ws => kwP js ws) (fun _ zs => kwP js zs) := by
  obtain ⟨oc, od, dV, kV, doc, pm, an, cdv, ct, osl, rfl, lk, hcd, hD, hK⟩ := F.ex
  rcases hD with ⟨_, rfl⟩ | ⟨e, _⟩
  · refine ⟨fun s us ws _ l1 l2 => ?_, fun _ r => kwP_vals r⟩
    obtain rfl := List.length_eq_zero_iff.mp l1
    exact .of_eq (h kV doc pm an cdv ct ws l2)
  · exact absurd rfl e
end
/-- a def that is called by names; it may raise -/
structure OkXK (P : Program) (w : World) (K : PySem.W.Frag) (mg : Str → Option Value) (base : Heap) (k : Nat) (x : Str × Option Str) (ps ks : List Str) (js : List Nat) (sp : Sp) : Prop where
  ex : ∃ fd, FnOk P w K mg base (L2.CX P w) k (He.fAd K x) fd ps sp ∧ KBn K fd ps 0 ks (fun _ ws => kwP js ws) (fun _ zs => kwP js zs) ∧ PySem.W.keepIn K (.ref (He.fAd K x)) = true
theorem mk_okXK {P : Program} {w : World} {K : PySem.W.Frag} {mg : Str → Option Value} {base : Heap} {k : Nat} {at_ : Str × Option Str} {x qual : Str} {params : Arguments} {body : List Stmt} {scope : Scope} {N ps ks : List Str} {js : List Nat} {sp : Sp} {fd : FuncData}
    (F : FunD K x qual params body scope [] [] (He.fAd K at_) fd) (S : FnScope N ps scope)
    (hb : ∀ (kV doc pm : Value) (an : Option Addr) (cdv ct : Value) (ws : List Value), ws.length = ks.length → bindArgs (PySem.W.fnOf x qual params body scope .none kV doc pm an cdv ct) ⟨[], ks.zip ws⟩ = pure (ps.zip (kwP js ws)))
    (len : ∀ vs H Q E, sp vs H Q E → vs.length = ps.length)
    (hbody : ∀ (cdv : Value) (A : Around) (outer : List Env) (s : Shared) (H : Hp) (vs : List V) (Q : VK) (E : XK), Room k (A.deeper (envOfC qual scope s.heap.objs.size (He.fAd K at_) cdv)) → sp vs H Q E →
      ∃ t, PSs (cxOf (L2.CX P w) P w K mg base N qual scope (He.fAd K at_) cdv A outer s H E) body t ∧ t { nx := fun _ H' => Q .non H', rt := Q } (start N vs) H) : OkXK P w K mg base (k + 1) at_ ps ks js sp :=
  ⟨fd, F.ok S len fun cdv A outer s H vs Q E hr h => hbody cdv A outer s H vs Q E hr h, FunD.kbindsP F hb, F.kp⟩
def tCallKX (n : Nat) (js : List Nat) (sp : Sp) (E : L2.St → XK) (tk : TA) : TE := fun σ H Q => tk σ H fun zs H2 => zs.length = n ∧ sp (kwP js zs) H2 Q (E σ)
section
variable {X : Cx} {CX : CXT} {k j n : Nat} {f : Addr} {fd : FuncData} {ps ks : List Str} {js : List Nat} {sp : Sp} {E : L2.St → XK} {x : Str} {p pos : Pos} {kws : List Keyword} {tk : TA}
theorem run_fnKX {pins : List (Addr × Obj)} {σ : L2.St} {H : Hp} {s : Shared} {Q : VK} {ws : List Value} {zs : List V} (F : FnOk X.prog X.w X.K X.mg X.base CX k f fd ps sp) (hr : Room k X.A) (hb : KBn X.K fd ps 0 ks (fun _ ws => kwP js ws) (fun _ zs => kwP js zs)) (hx : PassesAt CX X σ (E σ))
    (I : Inv X pins σ H s) (rz : Vals zs ws) (l2 : zs.length = ks.length) (h : sp (kwP js zs) H Q (E σ)) : wpAny (model X.prog X.w) X.A (call (.ref f) [] (ks.zip ws)) (EP X pins σ Q) X.xe s := by
  have r2 : Vals (kwP js zs) (kwP js ws) := kwP_vals rz
  refine wpAny_call (codeAny_mono (F.run X.A X.stack s H ⟨[], ks.zip ws⟩ (kwP js ws) (kwP js zs) Q (E σ) hr I.env0 (hb.to s [] ws I.kIn rfl (rz.length.symm.trans l2)) r2 h) fun r s' hq => ?_)
  cases r with
  | error e => exact hx pins H s e s' I hq
  | ok fl =>
    cases fl with
    | ret u => exact I.after hq
    | next => exact False.elim hq
    | brk => exact False.elim hq
    | cont => exact False.elim hq
theorem px_callK (F : OkXK X.prog X.w X.K X.mg X.base k (x, none) ps ks js sp) (hx : ∀ σ, PassesAt (L2.CX X.prog X.w) X σ (E σ)) (hr : Room j X.A) (hk : k ≤ j) (hg : Gl X x) (hm : X.mg x = some (.ref (He.ga X.K x))) (hn : ks.length = n)
    (hkw : PK X kws tk) (hall : (backToKw pos (keywordEach kws X.env)).all (·.1.isSome) = true := by rfl) (hks : (backToKw pos (keywordEach kws X.env)).filterMap (·.1) = ks := by rfl)
    (hdb : (x == ("__debug__" : Str)) = false := by decide)
    (hpl : ((backTo pos (starEach [] X.env)).any (·.1) || (backToKw pos (keywordEach kws X.env)).any (·.1.isNone)) = false := by rfl) :
    PE X (.Call (.Name x p) [] kws pos) (tCallKX n js sp E tk) := by
  obtain ⟨fd, f, b, kp⟩ := F.ex
  refine ⟨fun pins s σ H Q I h => ?_⟩
  refine wpAny_Call_Name_kw (ld_glob I hg hm ?_ hdb)
  refine PySem.W.callWith_KW0 (h₀ := X.base) I.ok.mod.kin kp hall (thn (hkw.run pos pins s σ H _ I h) fun ws s2 ⟨zs, H2, I2, rz, l2, q2⟩ => ⟨I2.kIn, ?_⟩) hpl
  rw [hks]
  exact run_fnKX f (hr.mono hk) b (hx σ) I2 rz (l2.trans hn.symm) q2
end
section
variable {K : PySem.W.Frag} {T : AS} {σ : L2.St} {H : Hp} {α β γ : Type} {r : Rp α} {ta : TE} {tr : TA} {n : Nat} {js : List Nat}
theorem ev_callKX {rt : Rpl γ} {ra : Rpl β} {m : β → Option (Except Err α)} {b : γ} {a : β} {d : α} {EE : L2.St → XK} (hT : TD T H) (h : EvA K T tr σ H rt b) (hp : ∀ K T H zs, rt K T H zs b → zs.length = n ∧ ra K T H (kwP js zs) a) (hm : m a = some (.ok d)) :
    Ev K T (tCallKX n js (XSp K ra r m) EE tr) σ H r d := fun H1 g Q q =>
  h H1 g _ fun vs H2 e2 r2 => ⟨(hp _ _ _ _ r2).1, T, a, .ok d, (hT.fr g).ex e2, (hp _ _ _ _ r2).2, hm, fun d' e' v H3 e3 r3 => by cases e'; exact q v H3 (e2.trans e3) r3, fun e e' => by cases e'⟩
end
end EB

set_option Elab.async false
set_option linter.all false
set_option maxRecDepth 100000
set_option maxHeartbeats 4000000

namespace EB
open PySem PySem.Spec PyProof.Rows L2

def top (i : Nat) : Stmt := PySem.Challenge.pw_everybudget_k86_judged_point_trees.main.body.getD i (.Pass ⟨0, 0, 0, 0⟩)
abbrev s_InvalidNumber___init__ : Stmt := inClass (top 3) 0
theorem sc_InvalidNumber___init__ : FnScope ["self", "number"] ["self", "number"] (defScope s_InvalidNumber___init__) := ⟨rfl, rfl, rfl, by decide +kernel, rfl, by decide +kernel, by decide +kernel⟩
abbrev s_InvalidBudgets___init__ : Stmt := inClass (top 4) 0
theorem sc_InvalidBudgets___init__ : FnScope ["self", "budgets"] ["self", "budgets"] (defScope s_InvalidBudgets___init__) := ⟨rfl, rfl, rfl, by decide +kernel, rfl, by decide +kernel, by decide +kernel⟩
abbrev s_InvalidRows___init__ : Stmt := inClass (top 5) 0
theorem sc_InvalidRows___init__ : FnScope ["self", "rows"] ["self", "rows"] (defScope s_InvalidRows___init__) := ⟨rfl, rfl, rfl, by decide +kernel, rfl, by decide +kernel, by decide +kernel⟩
abbrev s_is_integer : Stmt := top 7
theorem sc_is_integer : FnScope ["value"] ["value"] (defScope s_is_integer) := ⟨rfl, rfl, rfl, by decide +kernel, rfl, by decide +kernel, by decide +kernel⟩
abbrev s_is_number : Stmt := top 8
theorem sc_is_number : FnScope ["value"] ["value"] (defScope s_is_number) := ⟨rfl, rfl, rfl, by decide +kernel, rfl, by decide +kernel, by decide +kernel⟩
abbrev s_is_between : Stmt := top 9
theorem sc_is_between : FnScope ["value", "least", "most"] ["value", "least", "most"] (defScope s_is_between) := ⟨rfl, rfl, rfl, by decide +kernel, rfl, by decide +kernel, by decide +kernel⟩
abbrev s_is_row : Stmt := top 10
theorem sc_is_row : FnScope ["value"] ["value"] (defScope s_is_row) := ⟨rfl, rfl, rfl, by decide +kernel, rfl, by decide +kernel, by decide +kernel⟩
abbrev s_is_word : Stmt := top 11
theorem sc_is_word : FnScope ["value", "character"] ["value"] (defScope s_is_word) := ⟨rfl, rfl, rfl, by decide +kernel, rfl, by decide +kernel, by decide +kernel⟩
abbrev s_are_budgets : Stmt := top 13
theorem sc_are_budgets : FnScope ["value", "budget"] ["value"] (defScope s_are_budgets) := ⟨rfl, rfl, rfl, by decide +kernel, rfl, by decide +kernel, by decide +kernel⟩
abbrev s_are_rows : Stmt := top 14
theorem sc_are_rows : FnScope ["value", "word"] ["value"] (defScope s_are_rows) := ⟨rfl, rfl, rfl, by decide +kernel, rfl, by decide +kernel, by decide +kernel⟩
abbrev s_check_rows : Stmt := top 15
theorem sc_check_rows : FnScope ["rows", "budgets"] ["rows", "budgets"] (defScope s_check_rows) := ⟨rfl, rfl, rfl, by decide +kernel, rfl, by decide +kernel, by decide +kernel⟩
abbrev s_PointGame___init__ : Stmt := inClass (top 17) 0
theorem sc_PointGame___init__ : FnScope ["self", "rows", "budgets"] ["self", "rows", "budgets"] (defScope s_PointGame___init__) := ⟨rfl, rfl, rfl, by decide +kernel, rfl, by decide +kernel, by decide +kernel⟩
abbrev s_PointGame_parts : Stmt := inClass (top 17) 1
theorem sc_PointGame_parts : FnScope ["self", "lot", "point", "lower", "program"] ["self", "lot", "point"] (defScope s_PointGame_parts) := ⟨rfl, rfl, rfl, by decide +kernel, rfl, by decide +kernel, by decide +kernel⟩
abbrev s_PointGame_parted : Stmt := inClass (top 17) 2
theorem sc_PointGame_parted : FnScope ["self", "lot", "found", "point", "lower", "upper"] ["self", "lot"] (defScope s_PointGame_parted) := ⟨rfl, rfl, rfl, by decide +kernel, rfl, by decide +kernel, by decide +kernel⟩
abbrev s_PointGame_least : Stmt := inClass (top 17) 3
theorem sc_PointGame_least : FnScope ["self", "lot", "needs", "_", "lower", "upper", "both", "program"] ["self", "lot"] (defScope s_PointGame_least) := ⟨rfl, rfl, rfl, by decide +kernel, rfl, by decide +kernel, by decide +kernel⟩
abbrev s_PointGame_all_programs : Stmt := inClass (top 17) 4
theorem sc_PointGame_all_programs : FnScope ["self"] ["self"] (defScope s_PointGame_all_programs) := ⟨rfl, rfl, rfl, by decide +kernel, rfl, by decide +kernel, by decide +kernel⟩
abbrev s_PointGame_need : Stmt := inClass (top 17) 5
theorem sc_PointGame_need : FnScope ["self"] ["self"] (defScope s_PointGame_need) := ⟨rfl, rfl, rfl, by decide +kernel, rfl, by decide +kernel, by decide +kernel⟩
abbrev s_PointGame_is_kept : Stmt := inClass (top 17) 6
theorem sc_PointGame_is_kept : FnScope ["self"] ["self"] (defScope s_PointGame_is_kept) := ⟨rfl, rfl, rfl, by decide +kernel, rfl, by decide +kernel, by decide +kernel⟩
abbrev s_PointGame_tree_of : Stmt := inClass (top 17) 9
theorem sc_PointGame_tree_of : FnScope ["self", "lot", "errors", "program", "point", "lower", "upper", "_", "part"] ["self", "lot", "errors"] (defScope s_PointGame_tree_of) := ⟨rfl, rfl, rfl, by decide +kernel, rfl, by decide +kernel, by decide +kernel⟩
abbrev s_PointGame_tree : Stmt := inClass (top 17) 10
theorem sc_PointGame_tree : FnScope ["self"] ["self"] (defScope s_PointGame_tree) := ⟨rfl, rfl, rfl, by decide +kernel, rfl, by decide +kernel, by decide +kernel⟩
abbrev s_is_knot : Stmt := top 18
theorem sc_is_knot : FnScope ["tree", "points"] ["tree", "points"] (defScope s_is_knot) := ⟨rfl, rfl, rfl, by decide +kernel, rfl, by decide +kernel, by decide +kernel⟩
abbrev s_tree_holds : Stmt := top 19
theorem sc_tree_holds : FnScope ["game", "tree", "lot", "knots", "lower", "upper"] ["game", "tree", "lot", "knots"] (defScope s_tree_holds) := ⟨rfl, rfl, rfl, by decide +kernel, rfl, by decide +kernel, by decide +kernel⟩
abbrev s_judge_point_tree : Stmt := top 20
theorem sc_judge_point_tree : FnScope ["rows", "budgets", "tree", "game"] ["rows", "budgets", "tree"] (defScope s_judge_point_tree) := ⟨rfl, rfl, rfl, by decide +kernel, rfl, by decide +kernel, by decide +kernel⟩
abbrev s__law_pool : Stmt := top 22
theorem sc__law_pool : FnScope ["script", "cell"] ["script"] (defScope s__law_pool) := ⟨rfl, rfl, rfl, by decide +kernel, rfl, by decide +kernel, by decide +kernel⟩
abbrev s__law_take : Stmt := top 23
theorem sc__law_take : FnScope ["pool", "many", "cell", "mixed", "digit"] ["pool", "many"] (defScope s__law_take) := ⟨rfl, rfl, rfl, by decide +kernel, rfl, by decide +kernel, by decide +kernel⟩
abbrev s__law_word : Stmt := top 24
theorem sc__law_word : FnScope ["number", "length", "k"] ["number", "length"] (defScope s__law_word) := ⟨rfl, rfl, rfl, by decide +kernel, rfl, by decide +kernel, by decide +kernel⟩
abbrev s__law_rows : Stmt := top 25
theorem sc__law_rows : FnScope ["pool", "programs", "points", "many", "length", "kind", "first", "numbers", "k", "number"] ["pool", "programs", "points"] (defScope s__law_rows) := ⟨rfl, rfl, rfl, by decide +kernel, rfl, by decide +kernel, by decide +kernel⟩
abbrev s__law_is_integer : Stmt := top 26
theorem sc__law_is_integer : FnScope ["value"] ["value"] (defScope s__law_is_integer) := ⟨rfl, rfl, rfl, by decide +kernel, rfl, by decide +kernel, by decide +kernel⟩
abbrev s__law_alike : Stmt := top 27
theorem sc__law_alike : FnScope ["one", "other", "k"] ["one", "other"] (defScope s__law_alike) := ⟨rfl, rfl, rfl, by decide +kernel, rfl, by decide +kernel, by decide +kernel⟩
abbrev s__law_copy : Stmt := top 28
theorem sc__law_copy : FnScope ["value", "part"] ["value"] (defScope s__law_copy) := ⟨rfl, rfl, rfl, by decide +kernel, rfl, by decide +kernel, by decide +kernel⟩
abbrev s__law_unlike : Stmt := top 29
theorem sc__law_unlike : FnScope ["rows", "other", "sign"] ["rows"] (defScope s__law_unlike) := ⟨rfl, rfl, rfl, by decide +kernel, rfl, by decide +kernel, by decide +kernel⟩
abbrev s__law_handed : Stmt := top 30
theorem sc__law_handed : FnScope ["pool", "values"] ["pool", "values"] (defScope s__law_handed) := ⟨rfl, rfl, rfl, by decide +kernel, rfl, by decide +kernel, by decide +kernel⟩
abbrev s__law_bad_rows : Stmt := top 31
theorem sc__law_bad_rows : FnScope ["pool", "rows", "kind", "spoilt", "at", "menu", "row", "place", "sign", "part"] ["pool", "rows"] (defScope s__law_bad_rows) := ⟨rfl, rfl, rfl, by decide +kernel, rfl, by decide +kernel, by decide +kernel⟩
abbrev s__law_bad_budgets : Stmt := top 32
theorem sc__law_bad_budgets : FnScope ["pool", "budgets", "kind", "at", "spoilt", "menu"] ["pool", "budgets"] (defScope s__law_bad_budgets) := ⟨rfl, rfl, rfl, by decide +kernel, rfl, by decide +kernel, by decide +kernel⟩
abbrev s__law_grown : Stmt := top 33
theorem sc__law_grown : FnScope ["pool", "rows", "lot", "root", "points", "p", "lower", "q"] ["pool", "rows", "lot", "root"] (defScope s__law_grown) := ⟨rfl, rfl, rfl, by decide +kernel, rfl, by decide +kernel, by decide +kernel⟩
abbrev s__law_leaves : Stmt := top 34
theorem sc__law_leaves : FnScope ["tree", "knots"] ["tree", "knots"] (defScope s__law_leaves) := ⟨rfl, rfl, rfl, by decide +kernel, rfl, by decide +kernel, by decide +kernel⟩
abbrev s__law_paths : Stmt := top 35
theorem sc__law_paths : FnScope ["tree", "path"] ["tree", "path"] (defScope s__law_paths) := ⟨rfl, rfl, rfl, by decide +kernel, rfl, by decide +kernel, by decide +kernel⟩
abbrev s__law_part : Stmt := top 36
theorem sc__law_part : FnScope ["tree", "path", "side"] ["tree", "path"] (defScope s__law_part) := ⟨rfl, rfl, rfl, by decide +kernel, rfl, by decide +kernel, by decide +kernel⟩
abbrev s__law_put : Stmt := top 37
theorem sc__law_put : FnScope ["tree", "path", "part", "parts"] ["tree", "path", "part"] (defScope s__law_put) := ⟨rfl, rfl, rfl, by decide +kernel, rfl, by decide +kernel, by decide +kernel⟩
abbrev s__law_breaks : Stmt := top 38
theorem sc__law_breaks : FnScope ["tree", "rows", "budgets", "ways", "way"] ["tree", "rows", "budgets", "ways"] (defScope s__law_breaks) := ⟨rfl, rfl, rfl, by decide +kernel, rfl, by decide +kernel, by decide +kernel⟩
abbrev s__law_spoilt_leaf : Stmt := top 39
theorem sc__law_spoilt_leaf : FnScope ["pool", "rows", "leaf", "kind", "many", "p", "other", "menu"] ["pool", "rows", "leaf", "kind"] (defScope s__law_spoilt_leaf) := ⟨rfl, rfl, rfl, by decide +kernel, rfl, by decide +kernel, by decide +kernel⟩
abbrev s__law_spoilt_knot : Stmt := top 40
theorem sc__law_spoilt_knot : FnScope ["pool", "rows", "knot", "kind", "p", "menu", "leaves"] ["pool", "rows", "knot", "kind"] (defScope s__law_spoilt_knot) := ⟨rfl, rfl, rfl, by decide +kernel, rfl, by decide +kernel, by decide +kernel⟩
abbrev s__law_spoilt : Stmt := top 41
theorem sc__law_spoilt : FnScope ["pool", "tree", "rows", "kind", "paths", "path", "part"] ["pool", "tree", "rows"] (defScope s__law_spoilt) := ⟨rfl, rfl, rfl, by decide +kernel, rfl, by decide +kernel, by decide +kernel⟩
abbrev s__law_below : Stmt := top 42
theorem sc__law_below : FnScope ["pool", "tree", "many", "budgets", "leaf", "less", "q"] ["pool", "tree", "many"] (defScope s__law_below) := ⟨rfl, rfl, rfl, by decide +kernel, rfl, by decide +kernel, by decide +kernel⟩
abbrev s__law_judged : Stmt := top 43
theorem sc__law_judged : FnScope ["pool", "rows", "budgets", "tree", "due", "first", "second", "third", "told"] ["pool", "rows", "budgets", "tree", "due"] (defScope s__law_judged) := ⟨rfl, rfl, rfl, by decide +kernel, rfl, by decide +kernel, by decide +kernel⟩
abbrev s__law_turn : Stmt := top 44
theorem sc__law_turn : FnScope ["pool", "rows", "tree", "budgets", "leaves", "leaf", "raised", "k", "menu", "other", "spoilt", "q"] ["pool", "rows"] (defScope s__law_turn) := ⟨rfl, rfl, rfl, by decide +kernel, rfl, by decide +kernel, by decide +kernel⟩
abbrev s__law_refused : Stmt := top 45
theorem sc__law_refused : FnScope ["rows", "budgets", "tree", "e"] ["rows", "budgets", "tree"] (defScope s__law_refused) := ⟨rfl, rfl, rfl, by decide +kernel, rfl, by decide +kernel, by decide +kernel⟩
abbrev s__law_refusals : Stmt := top 46
theorem sc__law_refusals : FnScope ["pool", "rows", "tree", "bad_rows", "bad_budgets", "kept_rows", "kept_budgets", "told", "row"] ["pool", "rows", "tree"] (defScope s__law_refusals) := ⟨rfl, rfl, rfl, by decide +kernel, rfl, by decide +kernel, by decide +kernel⟩
abbrev s__law_scene : Stmt := top 47
theorem sc__law_scene : FnScope ["rows", "lower", "upper", "told", "bad", "q", "tree", "k"] [] (defScope s__law_scene) := ⟨rfl, rfl, rfl, by decide +kernel, rfl, by decide +kernel, by decide +kernel⟩
abbrev s_law : Stmt := top 48
theorem sc_law : FnScope ["script", "pool", "rows", "others", "tree", "q", "row"] ["script"] (defScope s_law) := ⟨rfl, rfl, rfl, by decide +kernel, rfl, by decide +kernel, by decide +kernel⟩
def fn : List He.DefD := [⟨("InvalidNumber", some "__init__"), "__init__", "InvalidNumber.__init__", defArgs s_InvalidNumber___init__, defBody s_InvalidNumber___init__, defScope s_InvalidNumber___init__, [], []⟩,
  ⟨("InvalidBudgets", some "__init__"), "__init__", "InvalidBudgets.__init__", defArgs s_InvalidBudgets___init__, defBody s_InvalidBudgets___init__, defScope s_InvalidBudgets___init__, [], []⟩,
  ⟨("InvalidRows", some "__init__"), "__init__", "InvalidRows.__init__", defArgs s_InvalidRows___init__, defBody s_InvalidRows___init__, defScope s_InvalidRows___init__, [], []⟩,
  ⟨("is_integer", none), "is_integer", "is_integer", defArgs s_is_integer, defBody s_is_integer, defScope s_is_integer, [], []⟩,
  ⟨("is_number", none), "is_number", "is_number", defArgs s_is_number, defBody s_is_number, defScope s_is_number, [], []⟩,
  ⟨("is_between", none), "is_between", "is_between", defArgs s_is_between, defBody s_is_between, defScope s_is_between, [], []⟩,
  ⟨("is_row", none), "is_row", "is_row", defArgs s_is_row, defBody s_is_row, defScope s_is_row, [], []⟩,
  ⟨("is_word", none), "is_word", "is_word", defArgs s_is_word, defBody s_is_word, defScope s_is_word, [], []⟩,
  ⟨("are_budgets", none), "are_budgets", "are_budgets", defArgs s_are_budgets, defBody s_are_budgets, defScope s_are_budgets, [], []⟩,
  ⟨("are_rows", none), "are_rows", "are_rows", defArgs s_are_rows, defBody s_are_rows, defScope s_are_rows, [], []⟩,
  ⟨("check_rows", none), "check_rows", "check_rows", defArgs s_check_rows, defBody s_check_rows, defScope s_check_rows, [], []⟩,
  ⟨("PointGame", some "__init__"), "__init__", "PointGame.__init__", defArgs s_PointGame___init__, defBody s_PointGame___init__, defScope s_PointGame___init__, [], []⟩,
  ⟨("PointGame", some "parts"), "parts", "PointGame.parts", defArgs s_PointGame_parts, defBody s_PointGame_parts, defScope s_PointGame_parts, [], []⟩,
  ⟨("PointGame", some "parted"), "parted", "PointGame.parted", defArgs s_PointGame_parted, defBody s_PointGame_parted, defScope s_PointGame_parted, [], []⟩,
  ⟨("PointGame", some "least"), "least", "PointGame.least", defArgs s_PointGame_least, defBody s_PointGame_least, defScope s_PointGame_least, [], []⟩,
  ⟨("PointGame", some "all_programs"), "all_programs", "PointGame.all_programs", defArgs s_PointGame_all_programs, defBody s_PointGame_all_programs, defScope s_PointGame_all_programs, [], []⟩,
  ⟨("PointGame", some "need"), "need", "PointGame.need", defArgs s_PointGame_need, defBody s_PointGame_need, defScope s_PointGame_need, [], []⟩,
  ⟨("PointGame", some "is_kept"), "is_kept", "PointGame.is_kept", defArgs s_PointGame_is_kept, defBody s_PointGame_is_kept, defScope s_PointGame_is_kept, [], []⟩,
  ⟨("PointGame", some "tree_of"), "tree_of", "PointGame.tree_of", defArgs s_PointGame_tree_of, defBody s_PointGame_tree_of, defScope s_PointGame_tree_of, [], []⟩,
  ⟨("PointGame", some "tree"), "tree", "PointGame.tree", defArgs s_PointGame_tree, defBody s_PointGame_tree, defScope s_PointGame_tree, [], []⟩,
  ⟨("is_knot", none), "is_knot", "is_knot", defArgs s_is_knot, defBody s_is_knot, defScope s_is_knot, [], []⟩,
  ⟨("tree_holds", none), "tree_holds", "tree_holds", defArgs s_tree_holds, defBody s_tree_holds, defScope s_tree_holds, [], []⟩,
  ⟨("judge_point_tree", none), "judge_point_tree", "judge_point_tree", defArgs s_judge_point_tree, defBody s_judge_point_tree, defScope s_judge_point_tree, [], []⟩,
  ⟨("_law_pool", none), "_law_pool", "_law_pool", defArgs s__law_pool, defBody s__law_pool, defScope s__law_pool, [], []⟩,
  ⟨("_law_take", none), "_law_take", "_law_take", defArgs s__law_take, defBody s__law_take, defScope s__law_take, [], []⟩,
  ⟨("_law_word", none), "_law_word", "_law_word", defArgs s__law_word, defBody s__law_word, defScope s__law_word, [], []⟩,
  ⟨("_law_rows", none), "_law_rows", "_law_rows", defArgs s__law_rows, defBody s__law_rows, defScope s__law_rows, [], []⟩,
  ⟨("_law_is_integer", none), "_law_is_integer", "_law_is_integer", defArgs s__law_is_integer, defBody s__law_is_integer, defScope s__law_is_integer, [], []⟩,
  ⟨("_law_alike", none), "_law_alike", "_law_alike", defArgs s__law_alike, defBody s__law_alike, defScope s__law_alike, [], []⟩,
  ⟨("_law_copy", none), "_law_copy", "_law_copy", defArgs s__law_copy, defBody s__law_copy, defScope s__law_copy, [], []⟩,
  ⟨("_law_unlike", none), "_law_unlike", "_law_unlike", defArgs s__law_unlike, defBody s__law_unlike, defScope s__law_unlike, [], []⟩,
  ⟨("_law_handed", none), "_law_handed", "_law_handed", defArgs s__law_handed, defBody s__law_handed, defScope s__law_handed, [], []⟩,
  ⟨("_law_bad_rows", none), "_law_bad_rows", "_law_bad_rows", defArgs s__law_bad_rows, defBody s__law_bad_rows, defScope s__law_bad_rows, [], []⟩,
  ⟨("_law_bad_budgets", none), "_law_bad_budgets", "_law_bad_budgets", defArgs s__law_bad_budgets, defBody s__law_bad_budgets, defScope s__law_bad_budgets, [], []⟩,
  ⟨("_law_grown", none), "_law_grown", "_law_grown", defArgs s__law_grown, defBody s__law_grown, defScope s__law_grown, [], []⟩,
  ⟨("_law_leaves", none), "_law_leaves", "_law_leaves", defArgs s__law_leaves, defBody s__law_leaves, defScope s__law_leaves, [], []⟩,
  ⟨("_law_paths", none), "_law_paths", "_law_paths", defArgs s__law_paths, defBody s__law_paths, defScope s__law_paths, [], []⟩,
  ⟨("_law_part", none), "_law_part", "_law_part", defArgs s__law_part, defBody s__law_part, defScope s__law_part, [], []⟩,
  ⟨("_law_put", none), "_law_put", "_law_put", defArgs s__law_put, defBody s__law_put, defScope s__law_put, [], []⟩,
  ⟨("_law_breaks", none), "_law_breaks", "_law_breaks", defArgs s__law_breaks, defBody s__law_breaks, defScope s__law_breaks, [], []⟩,
  ⟨("_law_spoilt_leaf", none), "_law_spoilt_leaf", "_law_spoilt_leaf", defArgs s__law_spoilt_leaf, defBody s__law_spoilt_leaf, defScope s__law_spoilt_leaf, [], []⟩,
  ⟨("_law_spoilt_knot", none), "_law_spoilt_knot", "_law_spoilt_knot", defArgs s__law_spoilt_knot, defBody s__law_spoilt_knot, defScope s__law_spoilt_knot, [], []⟩,
  ⟨("_law_spoilt", none), "_law_spoilt", "_law_spoilt", defArgs s__law_spoilt, defBody s__law_spoilt, defScope s__law_spoilt, [], []⟩,
  ⟨("_law_below", none), "_law_below", "_law_below", defArgs s__law_below, defBody s__law_below, defScope s__law_below, [], []⟩,
  ⟨("_law_judged", none), "_law_judged", "_law_judged", defArgs s__law_judged, defBody s__law_judged, defScope s__law_judged, [], []⟩,
  ⟨("_law_turn", none), "_law_turn", "_law_turn", defArgs s__law_turn, defBody s__law_turn, defScope s__law_turn, [], []⟩,
  ⟨("_law_refused", none), "_law_refused", "_law_refused", defArgs s__law_refused, defBody s__law_refused, defScope s__law_refused, [], []⟩,
  ⟨("_law_refusals", none), "_law_refusals", "_law_refusals", defArgs s__law_refusals, defBody s__law_refusals, defScope s__law_refusals, [], []⟩,
  ⟨("_law_scene", none), "_law_scene", "_law_scene", defArgs s__law_scene, defBody s__law_scene, defScope s__law_scene, [], []⟩,
  ⟨("law", none), "law", "law", defArgs s_law, defBody s_law, defScope s_law, [], []⟩]
def fa : List He.Fa := [.glo "is_integer", .glo "is_number", .glo "is_between", .glo "is_row", .glo "is_word", .glo "are_budgets", .glo "are_rows", .glo "check_rows", .glo "is_knot", .glo "tree_holds", .glo "judge_point_tree", .glo "_law_pool", .glo "_law_take", .glo "_law_word", .glo "_law_rows", .glo "_law_is_integer", .glo "_law_alike", .glo "_law_copy", .glo "_law_unlike", .glo "_law_handed", .glo "_law_bad_rows", .glo "_law_bad_budgets", .glo "_law_grown", .glo "_law_leaves", .glo "_law_paths", .glo "_law_part", .glo "_law_put", .glo "_law_breaks", .glo "_law_spoilt_leaf", .glo "_law_spoilt_knot", .glo "_law_spoilt", .glo "_law_below", .glo "_law_judged", .glo "_law_turn", .glo "_law_refused", .glo "_law_refusals", .glo "_law_scene", .glo "law", .glo "BudgetError", .glo "InvalidNumber", .glo "InvalidBudgets", .glo "InvalidRows", .glo "PointGame", .cls "PointGame", .mkr "PointGame", .meth "PointGame" "__init__", .meth "PointGame" "parts", .meth "PointGame" "parted", .meth "PointGame" "least", .meth "PointGame" "all_programs", .meth "PointGame" "need", .meth "PointGame" "is_kept", .meth "PointGame" "need_of", .meth "PointGame" "guess", .meth "PointGame" "tree_of", .meth "PointGame" "tree", .meth "PointGame" "deep_tree", .noat "PointGame" "rows", .noat "PointGame" "budgets", .noat "PointGame" "known", .free "ValueError", .free "abs", .free "all", .free "any", .free "bool", .free "int", .free "isinstance", .free "len", .free "list", .free "max", .free "min", .free "range", .free "str", .free "tuple"]
def exs (K : PySem.W.Frag) : List Bool := [errB K "InvalidNumber" "number",
  errB K "InvalidBudgets" "budgets",
  errB K "InvalidRows" "rows",
  exmB K "InvalidBudgets" "InvalidRows" false,
  exmB K "InvalidBudgets" "InvalidBudgets" true,
  kioB K "InvalidBudgets" "InvalidNumber" false,
  kioB K "InvalidBudgets" "BudgetError" true,
  exmB K "InvalidRows" "InvalidRows" true,
  kioB K "InvalidRows" "InvalidBudgets" false,
  kioB K "InvalidRows" "InvalidNumber" false,
  kioB K "InvalidRows" "BudgetError" true]
def ex (K : PySem.W.Frag) : Bool := (exs K).all id
structure Tx (K : PySem.W.Frag) (mg : Str → Option Value) : Prop where
  g : ∀ (i : Nat) (x : Str), fa[i]? = some (.glo x) → mg x = some (.ref (He.ga K x))
  n : ∀ (i : Nat) (x : Str), fa[i]? = some (.free x) → mg x = none
  f : ∀ (i : Nat) (f : He.Fa), fa[i]? = some f → f.ok K = true
  d : ∀ (i : Nat) (d : He.DefD), fn[i]? = some d → ∃ fd, FunD K d.name d.qual d.params d.body d.scope (d.dvs K) (d.kws K) (He.fAd K d.at_) fd
  e : ex K = true
  i : ∀ (i : Nat) (x : Str) (z : Int), fa[i]? = some (.int x z) → ∃ t, mg x = some (.int z t)
theorem tx_of {w : World} {K : PySem.W.Frag} {h : Heap} {mg : Str → Option Value} (X : K.In h) (G : h.Ns mainGlobals mg) (c : He.SaysX fa fn [] [] ex w h K) : Tx K mg :=
  ⟨fun i x e => He.glo_ok X G (c.t.d.fact i e), fun i x e => He.free_ok X G (c.t.d.fact i e), fun i f e => c.t.d.fact i e, fun i d e => c.t.d.def_ i e, c.more, fun i x z e => He.int_ok X G (c.t.d.fact i e)⟩
section
variable {K : PySem.W.Frag} {mg : Str → Option Value} (S : Tx K mg)
include S
theorem g_is_integer : mg "is_integer" = some (.ref (He.ga K "is_integer")) := S.g 0 _ rfl
theorem g_is_number : mg "is_number" = some (.ref (He.ga K "is_number")) := S.g 1 _ rfl
theorem g_is_between : mg "is_between" = some (.ref (He.ga K "is_between")) := S.g 2 _ rfl
theorem g_is_row : mg "is_row" = some (.ref (He.ga K "is_row")) := S.g 3 _ rfl
theorem g_is_word : mg "is_word" = some (.ref (He.ga K "is_word")) := S.g 4 _ rfl
theorem g_are_budgets : mg "are_budgets" = some (.ref (He.ga K "are_budgets")) := S.g 5 _ rfl
theorem g_are_rows : mg "are_rows" = some (.ref (He.ga K "are_rows")) := S.g 6 _ rfl
theorem g_check_rows : mg "check_rows" = some (.ref (He.ga K "check_rows")) := S.g 7 _ rfl
theorem g_is_knot : mg "is_knot" = some (.ref (He.ga K "is_knot")) := S.g 8 _ rfl
theorem g_tree_holds : mg "tree_holds" = some (.ref (He.ga K "tree_holds")) := S.g 9 _ rfl
theorem g_judge_point_tree : mg "judge_point_tree" = some (.ref (He.ga K "judge_point_tree")) := S.g 10 _ rfl
theorem g__law_pool : mg "_law_pool" = some (.ref (He.ga K "_law_pool")) := S.g 11 _ rfl
theorem g__law_take : mg "_law_take" = some (.ref (He.ga K "_law_take")) := S.g 12 _ rfl
theorem g__law_word : mg "_law_word" = some (.ref (He.ga K "_law_word")) := S.g 13 _ rfl
theorem g__law_rows : mg "_law_rows" = some (.ref (He.ga K "_law_rows")) := S.g 14 _ rfl
theorem g__law_is_integer : mg "_law_is_integer" = some (.ref (He.ga K "_law_is_integer")) := S.g 15 _ rfl
theorem g__law_alike : mg "_law_alike" = some (.ref (He.ga K "_law_alike")) := S.g 16 _ rfl
theorem g__law_copy : mg "_law_copy" = some (.ref (He.ga K "_law_copy")) := S.g 17 _ rfl
theorem g__law_unlike : mg "_law_unlike" = some (.ref (He.ga K "_law_unlike")) := S.g 18 _ rfl
theorem g__law_handed : mg "_law_handed" = some (.ref (He.ga K "_law_handed")) := S.g 19 _ rfl
theorem g__law_bad_rows : mg "_law_bad_rows" = some (.ref (He.ga K "_law_bad_rows")) := S.g 20 _ rfl
theorem g__law_bad_budgets : mg "_law_bad_budgets" = some (.ref (He.ga K "_law_bad_budgets")) := S.g 21 _ rfl
theorem g__law_grown : mg "_law_grown" = some (.ref (He.ga K "_law_grown")) := S.g 22 _ rfl
theorem g__law_leaves : mg "_law_leaves" = some (.ref (He.ga K "_law_leaves")) := S.g 23 _ rfl
theorem g__law_paths : mg "_law_paths" = some (.ref (He.ga K "_law_paths")) := S.g 24 _ rfl
theorem g__law_part : mg "_law_part" = some (.ref (He.ga K "_law_part")) := S.g 25 _ rfl
theorem g__law_put : mg "_law_put" = some (.ref (He.ga K "_law_put")) := S.g 26 _ rfl
theorem g__law_breaks : mg "_law_breaks" = some (.ref (He.ga K "_law_breaks")) := S.g 27 _ rfl
theorem g__law_spoilt_leaf : mg "_law_spoilt_leaf" = some (.ref (He.ga K "_law_spoilt_leaf")) := S.g 28 _ rfl
theorem g__law_spoilt_knot : mg "_law_spoilt_knot" = some (.ref (He.ga K "_law_spoilt_knot")) := S.g 29 _ rfl
theorem g__law_spoilt : mg "_law_spoilt" = some (.ref (He.ga K "_law_spoilt")) := S.g 30 _ rfl
theorem g__law_below : mg "_law_below" = some (.ref (He.ga K "_law_below")) := S.g 31 _ rfl
theorem g__law_judged : mg "_law_judged" = some (.ref (He.ga K "_law_judged")) := S.g 32 _ rfl
theorem g__law_turn : mg "_law_turn" = some (.ref (He.ga K "_law_turn")) := S.g 33 _ rfl
theorem g__law_refused : mg "_law_refused" = some (.ref (He.ga K "_law_refused")) := S.g 34 _ rfl
theorem g__law_refusals : mg "_law_refusals" = some (.ref (He.ga K "_law_refusals")) := S.g 35 _ rfl
theorem g__law_scene : mg "_law_scene" = some (.ref (He.ga K "_law_scene")) := S.g 36 _ rfl
theorem g_law : mg "law" = some (.ref (He.ga K "law")) := S.g 37 _ rfl
theorem g_BudgetError : mg "BudgetError" = some (.ref (He.ga K "BudgetError")) := S.g 38 _ rfl
theorem g_InvalidNumber : mg "InvalidNumber" = some (.ref (He.ga K "InvalidNumber")) := S.g 39 _ rfl
theorem g_InvalidBudgets : mg "InvalidBudgets" = some (.ref (He.ga K "InvalidBudgets")) := S.g 40 _ rfl
theorem g_InvalidRows : mg "InvalidRows" = some (.ref (He.ga K "InvalidRows")) := S.g 41 _ rfl
theorem g_PointGame : mg "PointGame" = some (.ref (He.ga K "PointGame")) := S.g 42 _ rfl
theorem c_PointGame : Cls K (He.ga K "PointGame") := He.cls_ok (S.f 43 _ rfl)
theorem k_PointGame : Mk K (He.ga K "PointGame") (He.ma K (He.ga K "PointGame") "__init__") := He.mkr_ok (S.f 44 _ rfl)
theorem mm_PointGame___init__ : Meth K (He.ga K "PointGame") "__init__" (He.ma K (He.ga K "PointGame") "__init__") := He.meth_ok (S.f 45 _ rfl)
theorem mm_PointGame_parts : Meth K (He.ga K "PointGame") "parts" (He.ma K (He.ga K "PointGame") "parts") := He.meth_ok (S.f 46 _ rfl)
theorem mm_PointGame_parted : Meth K (He.ga K "PointGame") "parted" (He.ma K (He.ga K "PointGame") "parted") := He.meth_ok (S.f 47 _ rfl)
theorem mm_PointGame_least : Meth K (He.ga K "PointGame") "least" (He.ma K (He.ga K "PointGame") "least") := He.meth_ok (S.f 48 _ rfl)
theorem mm_PointGame_all_programs : Meth K (He.ga K "PointGame") "all_programs" (He.ma K (He.ga K "PointGame") "all_programs") := He.meth_ok (S.f 49 _ rfl)
theorem mm_PointGame_need : Meth K (He.ga K "PointGame") "need" (He.ma K (He.ga K "PointGame") "need") := He.meth_ok (S.f 50 _ rfl)
theorem mm_PointGame_is_kept : Meth K (He.ga K "PointGame") "is_kept" (He.ma K (He.ga K "PointGame") "is_kept") := He.meth_ok (S.f 51 _ rfl)
theorem mm_PointGame_need_of : Meth K (He.ga K "PointGame") "need_of" (He.ma K (He.ga K "PointGame") "need_of") := He.meth_ok (S.f 52 _ rfl)
theorem mm_PointGame_guess : Meth K (He.ga K "PointGame") "guess" (He.ma K (He.ga K "PointGame") "guess") := He.meth_ok (S.f 53 _ rfl)
theorem mm_PointGame_tree_of : Meth K (He.ga K "PointGame") "tree_of" (He.ma K (He.ga K "PointGame") "tree_of") := He.meth_ok (S.f 54 _ rfl)
theorem mm_PointGame_tree : Meth K (He.ga K "PointGame") "tree" (He.ma K (He.ga K "PointGame") "tree") := He.meth_ok (S.f 55 _ rfl)
theorem mm_PointGame_deep_tree : Meth K (He.ga K "PointGame") "deep_tree" (He.ma K (He.ga K "PointGame") "deep_tree") := He.meth_ok (S.f 56 _ rfl)
theorem na_PointGame_rows : NoAttr K (He.ga K "PointGame") "rows" := He.noat_ok (S.f 57 _ rfl)
theorem na_PointGame_budgets : NoAttr K (He.ga K "PointGame") "budgets" := He.noat_ok (S.f 58 _ rfl)
theorem na_PointGame_known : NoAttr K (He.ga K "PointGame") "known" := He.noat_ok (S.f 59 _ rfl)
theorem m_ValueError : mg "ValueError" = none := S.n 60 _ rfl
theorem m_abs : mg "abs" = none := S.n 61 _ rfl
theorem m_all : mg "all" = none := S.n 62 _ rfl
theorem m_any : mg "any" = none := S.n 63 _ rfl
theorem m_bool : mg "bool" = none := S.n 64 _ rfl
theorem m_int : mg "int" = none := S.n 65 _ rfl
theorem m_isinstance : mg "isinstance" = none := S.n 66 _ rfl
theorem m_len : mg "len" = none := S.n 67 _ rfl
theorem m_list : mg "list" = none := S.n 68 _ rfl
theorem m_max : mg "max" = none := S.n 69 _ rfl
theorem m_min : mg "min" = none := S.n 70 _ rfl
theorem m_range : mg "range" = none := S.n 71 _ rfl
theorem m_str : mg "str" = none := S.n 72 _ rfl
theorem m_tuple : mg "tuple" = none := S.n 73 _ rfl
theorem d_InvalidNumber___init__ : ∃ fd, FunD K "__init__" "InvalidNumber.__init__" (defArgs s_InvalidNumber___init__) (defBody s_InvalidNumber___init__) (defScope s_InvalidNumber___init__) [] [] (He.fAd K ("InvalidNumber", some "__init__")) fd := S.d 0 _ rfl
theorem d_InvalidBudgets___init__ : ∃ fd, FunD K "__init__" "InvalidBudgets.__init__" (defArgs s_InvalidBudgets___init__) (defBody s_InvalidBudgets___init__) (defScope s_InvalidBudgets___init__) [] [] (He.fAd K ("InvalidBudgets", some "__init__")) fd := S.d 1 _ rfl
theorem d_InvalidRows___init__ : ∃ fd, FunD K "__init__" "InvalidRows.__init__" (defArgs s_InvalidRows___init__) (defBody s_InvalidRows___init__) (defScope s_InvalidRows___init__) [] [] (He.fAd K ("InvalidRows", some "__init__")) fd := S.d 2 _ rfl
theorem d_is_integer : ∃ fd, FunD K "is_integer" "is_integer" (defArgs s_is_integer) (defBody s_is_integer) (defScope s_is_integer) [] [] (He.fAd K ("is_integer", none)) fd := S.d 3 _ rfl
theorem d_is_number : ∃ fd, FunD K "is_number" "is_number" (defArgs s_is_number) (defBody s_is_number) (defScope s_is_number) [] [] (He.fAd K ("is_number", none)) fd := S.d 4 _ rfl
theorem d_is_between : ∃ fd, FunD K "is_between" "is_between" (defArgs s_is_between) (defBody s_is_between) (defScope s_is_between) [] [] (He.fAd K ("is_between", none)) fd := S.d 5 _ rfl
theorem d_is_row : ∃ fd, FunD K "is_row" "is_row" (defArgs s_is_row) (defBody s_is_row) (defScope s_is_row) [] [] (He.fAd K ("is_row", none)) fd := S.d 6 _ rfl
theorem d_is_word : ∃ fd, FunD K "is_word" "is_word" (defArgs s_is_word) (defBody s_is_word) (defScope s_is_word) [] [] (He.fAd K ("is_word", none)) fd := S.d 7 _ rfl
theorem d_are_budgets : ∃ fd, FunD K "are_budgets" "are_budgets" (defArgs s_are_budgets) (defBody s_are_budgets) (defScope s_are_budgets) [] [] (He.fAd K ("are_budgets", none)) fd := S.d 8 _ rfl
theorem d_are_rows : ∃ fd, FunD K "are_rows" "are_rows" (defArgs s_are_rows) (defBody s_are_rows) (defScope s_are_rows) [] [] (He.fAd K ("are_rows", none)) fd := S.d 9 _ rfl
theorem d_check_rows : ∃ fd, FunD K "check_rows" "check_rows" (defArgs s_check_rows) (defBody s_check_rows) (defScope s_check_rows) [] [] (He.fAd K ("check_rows", none)) fd := S.d 10 _ rfl
theorem d_PointGame___init__ : ∃ fd, FunD K "__init__" "PointGame.__init__" (defArgs s_PointGame___init__) (defBody s_PointGame___init__) (defScope s_PointGame___init__) [] [] (He.fAd K ("PointGame", some "__init__")) fd := S.d 11 _ rfl
theorem d_PointGame_parts : ∃ fd, FunD K "parts" "PointGame.parts" (defArgs s_PointGame_parts) (defBody s_PointGame_parts) (defScope s_PointGame_parts) [] [] (He.fAd K ("PointGame", some "parts")) fd := S.d 12 _ rfl
theorem d_PointGame_parted : ∃ fd, FunD K "parted" "PointGame.parted" (defArgs s_PointGame_parted) (defBody s_PointGame_parted) (defScope s_PointGame_parted) [] [] (He.fAd K ("PointGame", some "parted")) fd := S.d 13 _ rfl
theorem d_PointGame_least : ∃ fd, FunD K "least" "PointGame.least" (defArgs s_PointGame_least) (defBody s_PointGame_least) (defScope s_PointGame_least) [] [] (He.fAd K ("PointGame", some "least")) fd := S.d 14 _ rfl
theorem d_PointGame_all_programs : ∃ fd, FunD K "all_programs" "PointGame.all_programs" (defArgs s_PointGame_all_programs) (defBody s_PointGame_all_programs) (defScope s_PointGame_all_programs) [] [] (He.fAd K ("PointGame", some "all_programs")) fd := S.d 15 _ rfl
theorem d_PointGame_need : ∃ fd, FunD K "need" "PointGame.need" (defArgs s_PointGame_need) (defBody s_PointGame_need) (defScope s_PointGame_need) [] [] (He.fAd K ("PointGame", some "need")) fd := S.d 16 _ rfl
theorem d_PointGame_is_kept : ∃ fd, FunD K "is_kept" "PointGame.is_kept" (defArgs s_PointGame_is_kept) (defBody s_PointGame_is_kept) (defScope s_PointGame_is_kept) [] [] (He.fAd K ("PointGame", some "is_kept")) fd := S.d 17 _ rfl
theorem d_PointGame_tree_of : ∃ fd, FunD K "tree_of" "PointGame.tree_of" (defArgs s_PointGame_tree_of) (defBody s_PointGame_tree_of) (defScope s_PointGame_tree_of) [] [] (He.fAd K ("PointGame", some "tree_of")) fd := S.d 18 _ rfl
theorem d_PointGame_tree : ∃ fd, FunD K "tree" "PointGame.tree" (defArgs s_PointGame_tree) (defBody s_PointGame_tree) (defScope s_PointGame_tree) [] [] (He.fAd K ("PointGame", some "tree")) fd := S.d 19 _ rfl
theorem d_is_knot : ∃ fd, FunD K "is_knot" "is_knot" (defArgs s_is_knot) (defBody s_is_knot) (defScope s_is_knot) [] [] (He.fAd K ("is_knot", none)) fd := S.d 20 _ rfl
theorem d_tree_holds : ∃ fd, FunD K "tree_holds" "tree_holds" (defArgs s_tree_holds) (defBody s_tree_holds) (defScope s_tree_holds) [] [] (He.fAd K ("tree_holds", none)) fd := S.d 21 _ rfl
theorem d_judge_point_tree : ∃ fd, FunD K "judge_point_tree" "judge_point_tree" (defArgs s_judge_point_tree) (defBody s_judge_point_tree) (defScope s_judge_point_tree) [] [] (He.fAd K ("judge_point_tree", none)) fd := S.d 22 _ rfl
theorem d__law_pool : ∃ fd, FunD K "_law_pool" "_law_pool" (defArgs s__law_pool) (defBody s__law_pool) (defScope s__law_pool) [] [] (He.fAd K ("_law_pool", none)) fd := S.d 23 _ rfl
theorem d__law_take : ∃ fd, FunD K "_law_take" "_law_take" (defArgs s__law_take) (defBody s__law_take) (defScope s__law_take) [] [] (He.fAd K ("_law_take", none)) fd := S.d 24 _ rfl
theorem d__law_word : ∃ fd, FunD K "_law_word" "_law_word" (defArgs s__law_word) (defBody s__law_word) (defScope s__law_word) [] [] (He.fAd K ("_law_word", none)) fd := S.d 25 _ rfl
theorem d__law_rows : ∃ fd, FunD K "_law_rows" "_law_rows" (defArgs s__law_rows) (defBody s__law_rows) (defScope s__law_rows) [] [] (He.fAd K ("_law_rows", none)) fd := S.d 26 _ rfl
theorem d__law_is_integer : ∃ fd, FunD K "_law_is_integer" "_law_is_integer" (defArgs s__law_is_integer) (defBody s__law_is_integer) (defScope s__law_is_integer) [] [] (He.fAd K ("_law_is_integer", none)) fd := S.d 27 _ rfl
theorem d__law_alike : ∃ fd, FunD K "_law_alike" "_law_alike" (defArgs s__law_alike) (defBody s__law_alike) (defScope s__law_alike) [] [] (He.fAd K ("_law_alike", none)) fd := S.d 28 _ rfl
theorem d__law_copy : ∃ fd, FunD K "_law_copy" "_law_copy" (defArgs s__law_copy) (defBody s__law_copy) (defScope s__law_copy) [] [] (He.fAd K ("_law_copy", none)) fd := S.d 29 _ rfl
theorem d__law_unlike : ∃ fd, FunD K "_law_unlike" "_law_unlike" (defArgs s__law_unlike) (defBody s__law_unlike) (defScope s__law_unlike) [] [] (He.fAd K ("_law_unlike", none)) fd := S.d 30 _ rfl
theorem d__law_handed : ∃ fd, FunD K "_law_handed" "_law_handed" (defArgs s__law_handed) (defBody s__law_handed) (defScope s__law_handed) [] [] (He.fAd K ("_law_handed", none)) fd := S.d 31 _ rfl
theorem d__law_bad_rows : ∃ fd, FunD K "_law_bad_rows" "_law_bad_rows" (defArgs s__law_bad_rows) (defBody s__law_bad_rows) (defScope s__law_bad_rows) [] [] (He.fAd K ("_law_bad_rows", none)) fd := S.d 32 _ rfl
theorem d__law_bad_budgets : ∃ fd, FunD K "_law_bad_budgets" "_law_bad_budgets" (defArgs s__law_bad_budgets) (defBody s__law_bad_budgets) (defScope s__law_bad_budgets) [] [] (He.fAd K ("_law_bad_budgets", none)) fd := S.d 33 _ rfl
theorem d__law_grown : ∃ fd, FunD K "_law_grown" "_law_grown" (defArgs s__law_grown) (defBody s__law_grown) (defScope s__law_grown) [] [] (He.fAd K ("_law_grown", none)) fd := S.d 34 _ rfl
theorem d__law_leaves : ∃ fd, FunD K "_law_leaves" "_law_leaves" (defArgs s__law_leaves) (defBody s__law_leaves) (defScope s__law_leaves) [] [] (He.fAd K ("_law_leaves", none)) fd := S.d 35 _ rfl
theorem d__law_paths : ∃ fd, FunD K "_law_paths" "_law_paths" (defArgs s__law_paths) (defBody s__law_paths) (defScope s__law_paths) [] [] (He.fAd K ("_law_paths", none)) fd := S.d 36 _ rfl
theorem d__law_part : ∃ fd, FunD K "_law_part" "_law_part" (defArgs s__law_part) (defBody s__law_part) (defScope s__law_part) [] [] (He.fAd K ("_law_part", none)) fd := S.d 37 _ rfl
theorem d__law_put : ∃ fd, FunD K "_law_put" "_law_put" (defArgs s__law_put) (defBody s__law_put) (defScope s__law_put) [] [] (He.fAd K ("_law_put", none)) fd := S.d 38 _ rfl
theorem d__law_breaks : ∃ fd, FunD K "_law_breaks" "_law_breaks" (defArgs s__law_breaks) (defBody s__law_breaks) (defScope s__law_breaks) [] [] (He.fAd K ("_law_breaks", none)) fd := S.d 39 _ rfl
theorem d__law_spoilt_leaf : ∃ fd, FunD K "_law_spoilt_leaf" "_law_spoilt_leaf" (defArgs s__law_spoilt_leaf) (defBody s__law_spoilt_leaf) (defScope s__law_spoilt_leaf) [] [] (He.fAd K ("_law_spoilt_leaf", none)) fd := S.d 40 _ rfl
theorem d__law_spoilt_knot : ∃ fd, FunD K "_law_spoilt_knot" "_law_spoilt_knot" (defArgs s__law_spoilt_knot) (defBody s__law_spoilt_knot) (defScope s__law_spoilt_knot) [] [] (He.fAd K ("_law_spoilt_knot", none)) fd := S.d 41 _ rfl
theorem d__law_spoilt : ∃ fd, FunD K "_law_spoilt" "_law_spoilt" (defArgs s__law_spoilt) (defBody s__law_spoilt) (defScope s__law_spoilt) [] [] (He.fAd K ("_law_spoilt", none)) fd := S.d 42 _ rfl
theorem d__law_below : ∃ fd, FunD K "_law_below" "_law_below" (defArgs s__law_below) (defBody s__law_below) (defScope s__law_below) [] [] (He.fAd K ("_law_below", none)) fd := S.d 43 _ rfl
theorem d__law_judged : ∃ fd, FunD K "_law_judged" "_law_judged" (defArgs s__law_judged) (defBody s__law_judged) (defScope s__law_judged) [] [] (He.fAd K ("_law_judged", none)) fd := S.d 44 _ rfl
theorem d__law_turn : ∃ fd, FunD K "_law_turn" "_law_turn" (defArgs s__law_turn) (defBody s__law_turn) (defScope s__law_turn) [] [] (He.fAd K ("_law_turn", none)) fd := S.d 45 _ rfl
theorem d__law_refused : ∃ fd, FunD K "_law_refused" "_law_refused" (defArgs s__law_refused) (defBody s__law_refused) (defScope s__law_refused) [] [] (He.fAd K ("_law_refused", none)) fd := S.d 46 _ rfl
theorem d__law_refusals : ∃ fd, FunD K "_law_refusals" "_law_refusals" (defArgs s__law_refusals) (defBody s__law_refusals) (defScope s__law_refusals) [] [] (He.fAd K ("_law_refusals", none)) fd := S.d 47 _ rfl
theorem d__law_scene : ∃ fd, FunD K "_law_scene" "_law_scene" (defArgs s__law_scene) (defBody s__law_scene) (defScope s__law_scene) [] [] (He.fAd K ("_law_scene", none)) fd := S.d 48 _ rfl
theorem d_law : ∃ fd, FunD K "law" "law" (defArgs s_law) (defBody s_law) (defScope s_law) [] [] (He.fAd K ("law", none)) fd := S.d 49 _ rfl
theorem ext (i : Nat) (b : Bool) (h : (exs K)[i]? = some b) : b = true := List.all_eq_true.mp S.e b (List.mem_of_getElem? h)
theorem x_0 : (errB K "InvalidNumber" "number") = true := ext S 0 _ rfl
theorem x_1 : (errB K "InvalidBudgets" "budgets") = true := ext S 1 _ rfl
theorem x_2 : (errB K "InvalidRows" "rows") = true := ext S 2 _ rfl
theorem x_3 : (exmB K "InvalidBudgets" "InvalidRows" false) = true := ext S 3 _ rfl
theorem x_4 : (exmB K "InvalidBudgets" "InvalidBudgets" true) = true := ext S 4 _ rfl
theorem x_5 : (kioB K "InvalidBudgets" "InvalidNumber" false) = true := ext S 5 _ rfl
theorem x_6 : (kioB K "InvalidBudgets" "BudgetError" true) = true := ext S 6 _ rfl
theorem x_7 : (exmB K "InvalidRows" "InvalidRows" true) = true := ext S 7 _ rfl
theorem x_8 : (kioB K "InvalidRows" "InvalidBudgets" false) = true := ext S 8 _ rfl
theorem x_9 : (kioB K "InvalidRows" "InvalidNumber" false) = true := ext S 9 _ rfl
theorem x_10 : (kioB K "InvalidRows" "BudgetError" true) = true := ext S 10 _ rfl
theorem er_InvalidNumber : ErrC K "InvalidNumber" "number" := errB_ok (x_0 S)
theorem er_InvalidBudgets : ErrC K "InvalidBudgets" "budgets" := errB_ok (x_1 S)
theorem er_InvalidRows : ErrC K "InvalidRows" "rows" := errB_ok (x_2 S)
end

section
end
end EB

set_option Elab.async false
set_option linter.all false
set_option maxRecDepth 100000
set_option maxHeartbeats 4000000

namespace EB
open PySem PySem.Spec PyProof.Rows L2

section
variable {P : Program} {w : World} {K : PySem.W.Frag} {mg : Str → Option Value} {base : Heap}

theorem ok_InvalidNumber___init__ (S : Tx K mg) : Ok P w K mg base 1 ("InvalidNumber", some "__init__") ["self", "number"] ((fun K => spErr K (He.ga K "InvalidNumber") "number") K) := by
  obtain ⟨fd, D⟩ := d_InvalidNumber___init__ S
  refine mk_ok D sc_InvalidNumber___init__ (D.bindsN fun _ _ _ _ _ _ us hl => match us, hl with | [_, _], _ => rfl) spErr_len (fun cdv A outer s H vs Q E hr h => ?_)
  obtain ⟨a, v, rfl, ha, hQ⟩ := h
  exact ⟨_, (pss_one (ps_ost (pv 0) (pv 1))), _, rfl, _, rfl, a, _, rfl, (er_InvalidNumber S).oex, (er_InvalidNumber S).nof, .inl ⟨ha, fun dx n ne => hQ dx n ne⟩⟩

theorem ok_InvalidBudgets___init__ (S : Tx K mg) : Ok P w K mg base 1 ("InvalidBudgets", some "__init__") ["self", "budgets"] ((fun K => spErr K (He.ga K "InvalidBudgets") "budgets") K) := by
  obtain ⟨fd, D⟩ := d_InvalidBudgets___init__ S
  refine mk_ok D sc_InvalidBudgets___init__ (D.bindsN fun _ _ _ _ _ _ us hl => match us, hl with | [_, _], _ => rfl) spErr_len (fun cdv A outer s H vs Q E hr h => ?_)
  obtain ⟨a, v, rfl, ha, hQ⟩ := h
  exact ⟨_, (pss_one (ps_ost (pv 0) (pv 1))), _, rfl, _, rfl, a, _, rfl, (er_InvalidBudgets S).oex, (er_InvalidBudgets S).nof, .inl ⟨ha, fun dx n ne => hQ dx n ne⟩⟩

theorem ok_InvalidRows___init__ (S : Tx K mg) : Ok P w K mg base 1 ("InvalidRows", some "__init__") ["self", "rows"] ((fun K => spErr K (He.ga K "InvalidRows") "rows") K) := by
  obtain ⟨fd, D⟩ := d_InvalidRows___init__ S
  refine mk_ok D sc_InvalidRows___init__ (D.bindsN fun _ _ _ _ _ _ us hl => match us, hl with | [_, _], _ => rfl) spErr_len (fun cdv A outer s H vs Q E hr h => ?_)
  obtain ⟨a, v, rfl, ha, hQ⟩ := h
  exact ⟨_, (pss_one (ps_ost (pv 0) (pv 1))), _, rfl, _, rfl, a, _, rfl, (er_InvalidRows S).oex, (er_InvalidRows S).nof, .inl ⟨ha, fun dx n ne => hQ dx n ne⟩⟩

def m_is_integer (p_value : PyData) : Option Bool :=
some ((isD "int" p_value) && (!(isD "bool" p_value)))
abbrev sp_is_integer (K : PySem.W.Frag) : Sp := FSp K (aC zD aN) zB (fun (a : PyData × Unit) => m_is_integer a.1)
theorem ok_is_integer (S : Tx K mg)  : Ok P w K mg base 1 ("is_integer", none) ["value"] (sp_is_integer K) := by
  obtain ⟨fd, D⟩ := d_is_integer S
  refine mk_ok D sc_is_integer (D.bindsN fun _ _ _ _ _ _ us hl => match us, hl with | [_], _ => rfl) (FSp_len len1) (fun cdv A outer s H00 vs Q E hr h => ?_)
  obtain ⟨T00, ⟨p_value, _⟩, res, hT, ⟨v_value, _, rfl, r_value, rfl⟩, hm, hQ⟩ := h
  refine ⟨_, (pss_one (ps_ret (pe_and (pe_callB (kc_isi (K := K)) (by rfl) (m_isinstance S) bt_isinstance (pa_cons (pv 0) (pa_cons (pe_cls (by rfl) (m_int S) bt_int) pa_nil))) (pe_one (pe_not (pe_callB (kc_isi (K := K)) (by rfl) (m_isinstance S) bt_isinstance (pa_cons (pv 0) (pa_cons (pe_cls (by rfl) (m_bool S) bt_bool) pa_nil)))))))), ?_⟩
  have E : En K ⟨T00, [], H00⟩ [(fR zD v_value p_value)] [] T00 H00 := En.start hT ⟨r_value, trivial⟩
  replace hm : m_is_integer p_value = some res := hm
  unfold m_is_integer at hm
  refine ret_open ?_
  refine En.run E (ev_andV (ev_isiD (n := "int") (ev_var (i := 0) rfl (E.rd (r := zD) (v := v_value) (d := p_value) 0 rfl))) fun hc1 => (ev_notV (ev_isiD (n := "bool") (ev_var (i := 0) rfl (E.rd (r := zD) (v := v_value) (d := p_value) 0 rfl))))) fun v2 H E => ?_
  have hr9 := Option.some.inj hm
  subst res
  exact hQ _ _ (En.isEx E) (En.out E (En.at E (f := (fR zB v2 ((isD "int" p_value) && (!(isD "bool" p_value))))) 0 rfl))

def m_is_number (p_value : PyData) : Option Bool :=
((m_is_integer p_value).bind fun (r3 : Bool) =>
((if r3 = true then ((dInt p_value).bind fun (x4 : Int) =>
some (decide ((0 : Int) ≤ x4))) else some false).bind fun (b6 : Bool) =>
some b6))
abbrev sp_is_number (K : PySem.W.Frag) : Sp := FSp K (aC zD aN) zB (fun (a : PyData × Unit) => m_is_number a.1)
theorem ok_is_number (S : Tx K mg) (G_is_integer : Ok P w K mg base 1 ("is_integer", none) ["value"] (sp_is_integer K)) : Ok P w K mg base 2 ("is_number", none) ["value"] (sp_is_number K) := by
  obtain ⟨fd, D⟩ := d_is_number S
  refine mk_ok D sc_is_number (D.bindsN fun _ _ _ _ _ _ us hl => match us, hl with | [_], _ => rfl) (FSp_len len1) (fun cdv A outer s H00 vs Q E hr h => ?_)
  obtain ⟨T00, ⟨p_value, _⟩, res, hT, ⟨v_value, _, rfl, r_value, rfl⟩, hm, hQ⟩ := h
  refine ⟨_, (pss_one (ps_ret (pe_and (pe_callG G_is_integer hr (by omega) (by rfl) (g_is_integer S) (pa_cons (pv 0) pa_nil)) (pe_one (pe_cmpR op_ge (pv 0) pe_int (nomark _)))))), ?_⟩
  have E : En K ⟨T00, [], H00⟩ [(fR zD v_value p_value)] [] T00 H00 := En.start hT ⟨r_value, trivial⟩
  replace hm : m_is_number p_value = some res := hm
  unfold m_is_number at hm
  refine ret_open ?_
  obtain ⟨r3, h_r3, hm⟩ := bnd hm
  obtain ⟨b6, h_b6, hm⟩ := bnd hm
  refine En.run E (ev_andO (ev_callO E.td (ea_cons (ev_var (i := 0) rfl (E.rd (r := zD) (v := v_value) (d := p_value) 0 rfl)) ea_nil) h_r3) (fun hc5 y7 hy7 => by
          obtain ⟨x4, h_x4, hy7⟩ := bnd hy7; cases hy7; exact (ev_ge (ev_dI (ev_var (i := 0) rfl (E.rd (r := zD) (v := v_value) (d := p_value) 0 rfl)) h_x4) ev_int)) h_b6) fun v8 H E => ?_
  have hr9 := Option.some.inj hm
  subst res
  exact hQ _ _ (En.isEx E) (En.out E (En.at E (f := (fR zB v8 b6)) 0 rfl))

def m_is_between (p_value : PyData) (p_least : Int) (p_most : Int) : Option Bool :=
((m_is_integer p_value).bind fun (r9 : Bool) =>
((if r9 = true then ((dInt p_value).bind fun (x10 : Int) =>
some ((decide (p_least ≤ x10)) && (decide (x10 ≤ p_most)))) else some false).bind fun (b12 : Bool) =>
some b12))
abbrev sp_is_between (K : PySem.W.Frag) : Sp := FSp K (aC zD (aC zI (aC zI aN))) zB (fun (a : PyData × Int × Int × Unit) => m_is_between a.1 a.2.1 a.2.2.1)
theorem ok_is_between (S : Tx K mg) (G_is_integer : Ok P w K mg base 1 ("is_integer", none) ["value"] (sp_is_integer K)) : Ok P w K mg base 2 ("is_between", none) ["value", "least", "most"] (sp_is_between K) := by
  obtain ⟨fd, D⟩ := d_is_between S
  refine mk_ok D sc_is_between (D.bindsN fun _ _ _ _ _ _ us hl => match us, hl with | [_, _, _], _ => rfl) (FSp_len len3) (fun cdv A outer s H00 vs Q E hr h => ?_)
  obtain ⟨T00, ⟨p_value, p_least, p_most, _⟩, res, hT, ⟨v_value, _, rfl, r_value, v_least, _, rfl, r_least, v_most, _, rfl, r_most, rfl⟩, hm, hQ⟩ := h
  refine ⟨_, (pss_one (ps_ret (pe_and (pe_callG G_is_integer hr (by omega) (by rfl) (g_is_integer S) (pa_cons (pv 0) pa_nil)) (pe_one (pe_chain op_le op_le (pv 1) (pv 0) (pv 2)))))), ?_⟩
  have E : En K ⟨T00, [], H00⟩ [(fR zD v_value p_value), (fR zI v_least p_least), (fR zI v_most p_most)] [] T00 H00 := En.start hT ⟨r_value, r_least, r_most, trivial⟩
  replace hm : m_is_between p_value p_least p_most = some res := hm
  unfold m_is_between at hm
  refine ret_open ?_
  obtain ⟨r9, h_r9, hm⟩ := bnd hm
  obtain ⟨b12, h_b12, hm⟩ := bnd hm
  refine En.run E (ev_andO (ev_callO E.td (ea_cons (ev_var (i := 0) rfl (E.rd (r := zD) (v := v_value) (d := p_value) 0 rfl)) ea_nil) h_r9) (fun hc11 y13 hy13 => by
          obtain ⟨x10, h_x10, hy13⟩ := bnd hy13; cases hy13; exact (ev_chain (g := (fun i j => decide (i ≤ j))) (g' := (fun i j => decide (i ≤ j))) (ev_var (i := 1) rfl (E.rd (r := zI) (v := v_least) (d := p_least) 1 rfl)) (ev_dI (ev_var (i := 0) rfl (E.rd (r := zD) (v := v_value) (d := p_value) 0 rfl)) h_x10) (ev_var (i := 2) rfl (E.rd (r := zI) (v := v_most) (d := p_most) 2 rfl)))) h_b12) fun v14 H E => ?_
  have hr9 := Option.some.inj hm
  subst res
  exact hQ _ _ (En.isEx E) (En.out E (En.at E (f := (fR zB v14 b12)) 0 rfl))

def m_is_row (p_value : PyData) : Option Bool :=
some (isD "tuple" p_value || isD "list" p_value)
abbrev sp_is_row (K : PySem.W.Frag) : Sp := FSp K (aC zD aN) zB (fun (a : PyData × Unit) => m_is_row a.1)
theorem ok_is_row (S : Tx K mg)  : Ok P w K mg base 1 ("is_row", none) ["value"] (sp_is_row K) := by
  obtain ⟨fd, D⟩ := d_is_row S
  refine mk_ok D sc_is_row (D.bindsN fun _ _ _ _ _ _ us hl => match us, hl with | [_], _ => rfl) (FSp_len len1) (fun cdv A outer s H00 vs Q E hr h => ?_)
  obtain ⟨T00, ⟨p_value, _⟩, res, hT, ⟨v_value, _, rfl, r_value, rfl⟩, hm, hQ⟩ := h
  refine ⟨_, (pss_one (ps_ret (pe_callB (kc_isiT (K := K)) (by rfl) (m_isinstance S) bt_isinstance (pa_cons (pv 0) (pa_cons (pe_tup (pa_cons (pe_cls (by rfl) (m_tuple S) bt_tuple) (pa_cons (pe_cls (by rfl) (m_list S) bt_list) pa_nil))) pa_nil))))), ?_⟩
  have E : En K ⟨T00, [], H00⟩ [(fR zD v_value p_value)] [] T00 H00 := En.start hT ⟨r_value, trivial⟩
  replace hm : m_is_row p_value = some res := hm
  unfold m_is_row at hm
  refine ret_open ?_
  refine En.run E (ev_isi2D (n1 := "tuple") (n2 := "list") (ev_var (i := 0) rfl (E.rd (r := zD) (v := v_value) (d := p_value) 0 rfl))) fun v15 H E => ?_
  have hr9 := Option.some.inj hm
  subst res
  exact hQ _ _ (En.isEx E) (En.out E (En.at E (f := (fR zB v15 (isD "tuple" p_value || isD "list" p_value))) 0 rfl))

def m_is_word (p_value : PyData) : Option Bool :=
((if (isD "str" p_value) = true then ((dStr p_value).bind fun (x16 : Str) =>
((grd (x16.length ≤ 1000000)).bind fun (u17 : Unit) =>
((mapO (fun (x18 : Str) =>
((inSgn x18 ("01" : Str)).bind fun (x19 : Bool) =>
some x19)) (x16.cps.toList.map fun c => (⟨#[c]⟩ : Str))).bind fun (x20 : (List Bool)) =>
some ((x20).all id)))) else some false).bind fun (b22 : Bool) =>
some b22)
abbrev sp_is_word (K : PySem.W.Frag) : Sp := FSp K (aC zD aN) zB (fun (a : PyData × Unit) => m_is_word a.1)
theorem ok_is_word (S : Tx K mg)  : Ok P w K mg base 1 ("is_word", none) ["value"] (sp_is_word K) := by
  obtain ⟨fd, D⟩ := d_is_word S
  refine mk_ok D sc_is_word (D.bindsN fun _ _ _ _ _ _ us hl => match us, hl with | [_], _ => rfl) (FSp_len len1) (fun cdv A outer s H00 vs Q E hr h => ?_)
  obtain ⟨T00, ⟨p_value, _⟩, res, hT, ⟨v_value, _, rfl, r_value, rfl⟩, hm, hQ⟩ := h
  refine ⟨_, (pss_one (ps_ret (pe_and (pe_callB (kc_isi (K := K)) (by rfl) (m_isinstance S) bt_isinstance (pa_cons (pv 0) (pa_cons (pe_cls (by rfl) (m_str S) bt_str) pa_nil))) (pe_one (pe_callB (kr_all (K := K) rfl) (by rfl) (m_all S) bt_all (pa_cons (pe_lc (own := [("character", 1)]) (by rfl) sc_is_word.nd (pi_str (pv 0)) (blkOk_by (N := ["value", "character"]) (sc := defScope s_is_word) (by decide +kernel)) (fun _ _ _ _ _ => pg_name (i := 1) sc_is_word.nd rfl (.inl rfl)) (fun _ _ _ _ _ => pts_nil) (fun _ _ _ _ _ => (pe_cmpR op_inSg (pv 1) pe_str (by rfl)))) pa_nil)))))), ?_⟩
  have E : En K ⟨T00, [], H00⟩ [(fR zD v_value p_value)] [] T00 H00 := En.start hT ⟨r_value, trivial⟩
  replace hm : m_is_word p_value = some res := hm
  unfold m_is_word at hm
  refine ret_open ?_
  obtain ⟨b22, h_b22, hm⟩ := bnd hm
  refine En.run E (ev_andO (ev_isiD (n := "str") (ev_var (i := 0) rfl (E.rd (r := zD) (v := v_value) (d := p_value) 0 rfl))) (fun hc21 y23 hy23 => by
          obtain ⟨x16, h_x16, hy23⟩ := bnd hy23; obtain ⟨u17, h_u17, hy23⟩ := bnd hy23; obtain ⟨x20, h_x20, hy23⟩ := bnd hy23; cases hy23; exact (ev_all (ev_lcO1 E.td (ei_strS (ev_dS (ev_var (i := 0) rfl (E.rd (r := zD) (v := v_value) (d := p_value) 0 rfl)) h_x16) (grd_ok h_u17)) h_x20 (fun T18 H18 v18 x18 L18 hT18 hx18 r18 Q18 q18 => q18 _ wipe1 (fun y18 hy18 => by
          obtain ⟨x19, h_x19, hy18⟩ := bnd hy18; cases hy18; exact (ev_inS (ev_var (i := 1) rfl r18) ev_str h_x19)))))) h_b22) fun v24 H E => ?_
  have hr9 := Option.some.inj hm
  subst res
  exact hQ _ _ (En.isEx E) (En.out E (En.at E (f := (fR zB v24 b22)) 0 rfl))

def m_are_budgets (p_value : PyData) : Option Bool :=
((m_is_row p_value).bind fun (r25 : Bool) =>
((if r25 = true then ((dSeq p_value).bind fun (x26 : List PyData) =>
((mapO (fun (x27 : PyData) =>
((m_is_number x27).bind fun (r28 : Bool) =>
some r28)) x26).bind fun (x29 : (List Bool)) =>
some ((x29).all id))) else some false).bind fun (b31 : Bool) =>
some b31))
abbrev sp_are_budgets (K : PySem.W.Frag) : Sp := FSp K (aC zD aN) zB (fun (a : PyData × Unit) => m_are_budgets a.1)
theorem ok_are_budgets (S : Tx K mg) (G_is_number : Ok P w K mg base 2 ("is_number", none) ["value"] (sp_is_number K)) (G_is_row : Ok P w K mg base 1 ("is_row", none) ["value"] (sp_is_row K)) : Ok P w K mg base 3 ("are_budgets", none) ["value"] (sp_are_budgets K) := by
  obtain ⟨fd, D⟩ := d_are_budgets S
  refine mk_ok D sc_are_budgets (D.bindsN fun _ _ _ _ _ _ us hl => match us, hl with | [_], _ => rfl) (FSp_len len1) (fun cdv A outer s H00 vs Q E hr h => ?_)
  obtain ⟨T00, ⟨p_value, _⟩, res, hT, ⟨v_value, _, rfl, r_value, rfl⟩, hm, hQ⟩ := h
  refine ⟨_, (pss_one (ps_ret (pe_and (pe_callG G_is_row hr (by omega) (by rfl) (g_is_row S) (pa_cons (pv 0) pa_nil)) (pe_one (pe_callB (kr_all (K := K) rfl) (by rfl) (m_all S) bt_all (pa_cons (pe_lc (own := [("budget", 1)]) (by rfl) sc_are_budgets.nd (kp_seq (K := K) (pv 0)) (blkOk_by (N := ["value", "budget"]) (sc := defScope s_are_budgets) (by decide +kernel)) (fun _ _ _ _ _ => pg_name (i := 1) sc_are_budgets.nd rfl (.inl rfl)) (fun _ _ _ _ _ => pts_nil) (fun _ _ _ _ _ => (pe_callG G_is_number hr (by omega) (by rfl) (g_is_number S) (pa_cons (pv 1) pa_nil)))) pa_nil)))))), ?_⟩
  have E : En K ⟨T00, [], H00⟩ [(fR zD v_value p_value)] [] T00 H00 := En.start hT ⟨r_value, trivial⟩
  replace hm : m_are_budgets p_value = some res := hm
  unfold m_are_budgets at hm
  refine ret_open ?_
  obtain ⟨r25, h_r25, hm⟩ := bnd hm
  obtain ⟨b31, h_b31, hm⟩ := bnd hm
  refine En.run E (ev_andO (ev_callO E.td (ea_cons (ev_var (i := 0) rfl (E.rd (r := zD) (v := v_value) (d := p_value) 0 rfl)) ea_nil) h_r25) (fun hc30 y32 hy32 => by
          obtain ⟨x26, h_x26, hy32⟩ := bnd hy32; obtain ⟨x29, h_x29, hy32⟩ := bnd hy32; cases hy32; exact (ev_all (ev_lcO1 E.td (ei_seq (ev_dQ (ev_var (i := 0) rfl (E.rd (r := zD) (v := v_value) (d := p_value) 0 rfl)) h_x26)) h_x29 (fun T27 H27 v27 x27 L27 hT27 hx27 r27 Q27 q27 => q27 _ wipe1 (fun y27 hy27 => by
          obtain ⟨r28, h_r28, hy27⟩ := bnd hy27; cases hy27; exact (ev_callO hT27 (ea_cons (ev_var (i := 1) rfl r27) ea_nil) h_r28)))))) h_b31) fun v33 H E => ?_
  have hr9 := Option.some.inj hm
  subst res
  exact hQ _ _ (En.isEx E) (En.out E (En.at E (f := (fR zB v33 b31)) 0 rfl))

def m_are_rows (p_value : PyData) : Option Bool :=
((m_is_row p_value).bind fun (r34 : Bool) =>
((if (!r34) = true then some true else ((dLen p_value).bind fun (x35 : Int) =>
((if (decide (x35 = (0 : Int))) = true then some true else ((dSeq p_value).bind fun (x36 : List PyData) =>
((mapO (fun (x37 : PyData) =>
((m_is_word x37).bind fun (r38 : Bool) =>
some r38)) x36).bind fun (x39 : (List Bool)) =>
some (!((x39).all id))))).bind fun (b41 : Bool) =>
some b41))).bind fun (b44 : Bool) =>
(if b44 = true then
some false
else
((dSeq p_value).bind fun (x47 : List PyData) =>
((mapO (fun (x48 : PyData) =>
((dLen x48).bind fun (x49 : Int) =>
((dIx p_value (0 : Int)).bind fun (x50 : PyData) =>
((dLen x50).bind fun (x51 : Int) =>
some (decide (x49 = x51)))))) x47).bind fun (x52 : (List Bool)) =>
some ((x52).all id))))))
abbrev sp_are_rows (K : PySem.W.Frag) : Sp := FSp K (aC zD aN) zB (fun (a : PyData × Unit) => m_are_rows a.1)
theorem ok_are_rows (S : Tx K mg) (G_is_row : Ok P w K mg base 1 ("is_row", none) ["value"] (sp_is_row K)) (G_is_word : Ok P w K mg base 1 ("is_word", none) ["value"] (sp_is_word K)) : Ok P w K mg base 2 ("are_rows", none) ["value"] (sp_are_rows K) := by
  obtain ⟨fd, D⟩ := d_are_rows S
  refine mk_ok D sc_are_rows (D.bindsN fun _ _ _ _ _ _ us hl => match us, hl with | [_], _ => rfl) (FSp_len len1) (fun cdv A outer s H00 vs Q E hr h => ?_)
  obtain ⟨T00, ⟨p_value, _⟩, res, hT, ⟨v_value, _, rfl, r_value, rfl⟩, hm, hQ⟩ := h
  refine ⟨_, (pss_cons (ps_if (PW.pt (pw_or (pt_not (pt_val (pe_callG G_is_row hr (by omega) (by rfl) (g_is_row S) (pa_cons (pv 0) pa_nil)))) (pw_or (pt_cmpR op_eq (pe_callB (kc_lenD (K := K)) (by rfl) (m_len S) bt_len (pa_cons (pv 0) pa_nil)) pe_int (nomark _)) (pw_or1 (pt_not (pt_val (pe_callB (kr_all (K := K) rfl) (by rfl) (m_all S) bt_all (pa_cons (pe_lc (own := [("word", 1)]) (by rfl) sc_are_rows.nd (kp_seq (K := K) (pv 0)) (blkOk_by (N := ["value", "word"]) (sc := defScope s_are_rows) (by decide +kernel)) (fun _ _ _ _ _ => pg_name (i := 1) sc_are_rows.nd rfl (.inl rfl)) (fun _ _ _ _ _ => pts_nil) (fun _ _ _ _ _ => (pe_callG G_is_word hr (by omega) (by rfl) (g_is_word S) (pa_cons (pv 1) pa_nil)))) pa_nil)))))))) (pss_one (ps_ret pe_bl)) pss_nil) (pss_one (ps_ret (pe_callB (kr_all (K := K) rfl) (by rfl) (m_all S) bt_all (pa_cons (pe_lc (own := [("word", 1)]) (by rfl) sc_are_rows.nd (kp_seq (K := K) (pv 0)) (blkOk_by (N := ["value", "word"]) (sc := defScope s_are_rows) (by decide +kernel)) (fun _ _ _ _ _ => pg_name (i := 1) sc_are_rows.nd rfl (.inl rfl)) (fun _ _ _ _ _ => pts_nil) (fun _ _ _ _ _ => (pe_cmpR op_eq (pe_callB (kc_lenD (K := K)) (by rfl) (m_len S) bt_len (pa_cons (pv 1) pa_nil)) (pe_callB (kc_lenD (K := K)) (by rfl) (m_len S) bt_len (pa_cons (pe_ix (kx_seq (K := K)) (pv 0) pe_int (fun _ _ => rfl)) pa_nil)) (nomark _)))) pa_nil))))), ?_⟩
  have E : En K ⟨T00, [], H00⟩ [(fR zD v_value p_value)] [] T00 H00 := En.start hT ⟨r_value, trivial⟩
  replace hm : m_are_rows p_value = some res := hm
  unfold m_are_rows at hm
  refine ifs_open ?_
  obtain ⟨r34, h_r34, hm⟩ := bnd hm
  obtain ⟨b44, h_b44, hm⟩ := bnd hm
  refine En.test E (et_orO (et_not (et_B (K := K) (ev_callO E.td (ea_cons (ev_var (i := 0) rfl (E.rd (r := zD) (v := v_value) (d := p_value) 0 rfl)) ea_nil) h_r34))) (fun hc43 y45 hy45 => by
          obtain ⟨x35, h_x35, hy45⟩ := bnd hy45; obtain ⟨b41, h_b41, hy45⟩ := bnd hy45; cases hy45; exact (et_orO (et_test (K := K) (ev_eqI (ev_lenD (ev_var (i := 0) rfl (E.rd (r := zD) (v := v_value) (d := p_value) 0 rfl)) h_x35) ev_int)) (fun hc40 y42 hy42 => by
          obtain ⟨x36, h_x36, hy42⟩ := bnd hy42; obtain ⟨x39, h_x39, hy42⟩ := bnd hy42; cases hy42; exact (et_not (et_B (K := K) (ev_all (ev_lcO1 E.td (ei_seq (ev_dQ (ev_var (i := 0) rfl (E.rd (r := zD) (v := v_value) (d := p_value) 0 rfl)) h_x36)) h_x39 (fun T37 H37 v37 x37 L37 hT37 hx37 r37 Q37 q37 => q37 _ wipe1 (fun y37 hy37 => by
          obtain ⟨r38, h_r38, hy37⟩ := bnd hy37; cases hy37; exact (ev_callO hT37 (ea_cons (ev_var (i := 1) rfl r37) ea_nil) h_r38)))))))) h_b41)) h_b44) fun H E => ?_
  refine iteB (fun hc54 => ?_) (fun hc54 => ?_)
  · rw [if_pos hc54] at hm
    refine ret_open ?_
    refine En.run E ev_bl fun v46 H E => ?_
    have hr9 := Option.some.inj hm
    subst res
    exact hQ _ _ (En.isEx E) (En.out E (En.at E (f := (fR zB v46 false)) 0 rfl))
  · rw [if_neg (by rw [hc54]; decide)] at hm
    first | refine nx_ ?_ | skip
    refine ret_open ?_
    obtain ⟨x47, h_x47, hm⟩ := bnd hm
    obtain ⟨x52, h_x52, hm⟩ := bnd hm
    refine En.run E (ev_all (ev_lcO1 E.td (ei_seq (ev_dQ (ev_var (i := 0) rfl (E.rd (r := zD) (v := v_value) (d := p_value) 0 rfl)) h_x47)) h_x52 (fun T48 H48 v48 x48 L48 hT48 hx48 r48 Q48 q48 => q48 _ wipe1 (fun y48 hy48 => by
          obtain ⟨x49, h_x49, hy48⟩ := bnd hy48; obtain ⟨x50, h_x50, hy48⟩ := bnd hy48; obtain ⟨x51, h_x51, hy48⟩ := bnd hy48; cases hy48; exact (ev_eqI (ev_lenD (ev_var (i := 1) rfl r48) h_x49) (ev_lenD (ev_ixD (ev_var (i := 0) rfl (L48.ap (E.rd (r := zD) (v := v_value) (d := p_value) 0 rfl))) ev_int h_x50) h_x51)))))) fun v53 H E => ?_
    have hr9 := Option.some.inj hm
    subst res
    exact hQ _ _ (En.isEx E) (En.out E (En.at E (f := (fR zB v53 ((x52).all id))) 0 rfl))

def m_check_rows (p_rows : PyData) (p_budgets : PyData) : Option (Except Err Unit) :=
((m_are_rows p_rows).bind fun (r55 : Bool) =>
(if (!r55) = true then
some (.error ⟨("InvalidRows", "rows"), p_rows⟩)
else
((m_are_budgets p_budgets).bind fun (r57 : Bool) =>
((if (!r57) = true then some true else ((dLen p_budgets).bind fun (x58 : Int) =>
((dLen p_rows).bind fun (x59 : Int) =>
some (!decide (x58 = x59))))).bind fun (b61 : Bool) =>
(if b61 = true then
some (.error ⟨("InvalidBudgets", "budgets"), p_budgets⟩)
else
some (.ok ()))))))
abbrev sp_check_rows (K : PySem.W.Frag) : Sp := XSp K (aC zD (aC zD aN)) zN (fun (a : PyData × PyData × Unit) => m_check_rows a.1 a.2.1)
theorem ok_check_rows (S : Tx K mg) (G_InvalidBudgets___init__ : Ok P w K mg base 1 ("InvalidBudgets", some "__init__") ["self", "budgets"] ((fun K => spErr K (He.ga K "InvalidBudgets") "budgets") K)) (G_InvalidRows___init__ : Ok P w K mg base 1 ("InvalidRows", some "__init__") ["self", "rows"] ((fun K => spErr K (He.ga K "InvalidRows") "rows") K)) (G_are_budgets : Ok P w K mg base 3 ("are_budgets", none) ["value"] (sp_are_budgets K)) (G_are_rows : Ok P w K mg base 2 ("are_rows", none) ["value"] (sp_are_rows K)) : OkX P w K mg base 4 ("check_rows", none) ["rows", "budgets"] (sp_check_rows K) := by
  obtain ⟨fd, D⟩ := d_check_rows S
  refine mk_okX D sc_check_rows (D.bindsN fun _ _ _ _ _ _ us hl => match us, hl with | [_, _], _ => rfl) (XSp_len len2) (fun cdv A outer s H00 vs Q E hr h => ?_)
  obtain ⟨T00, ⟨p_rows, p_budgets, _⟩, res, hT, ⟨v_rows, _, rfl, r_rows, v_budgets, _, rfl, r_budgets, rfl⟩, hm, hQ, hX⟩ := h
  refine ⟨_, (pss_cons (ps_if (pt_not (pt_val (pe_callG G_are_rows hr (by omega) (by rfl) (g_are_rows S) (pa_cons (pv 0) pa_nil)))) (pss_one (ps_raiseQ rfl (takes_of rfl rfl rfl rfl) (px_mk (f := "rows") (er_InvalidRows S) G_InvalidRows___init__ hr (by omega) (by rfl) (g_InvalidRows S) (pa_cons (pv 0) pa_nil)))) pss_nil) (pss_one (ps_if (PW.pt (pw_or (pt_not (pt_val (pe_callG G_are_budgets hr (by omega) (by rfl) (g_are_budgets S) (pa_cons (pv 1) pa_nil)))) (pw_or1 (pt_cmpR op_ne (pe_callB (kc_lenD (K := K)) (by rfl) (m_len S) bt_len (pa_cons (pv 1) pa_nil)) (pe_callB (kc_lenD (K := K)) (by rfl) (m_len S) bt_len (pa_cons (pv 0) pa_nil)) (nomark _))))) (pss_one (ps_raiseQ rfl (takes_of rfl rfl rfl rfl) (px_mk (f := "budgets") (er_InvalidBudgets S) G_InvalidBudgets___init__ hr (by omega) (by rfl) (g_InvalidBudgets S) (pa_cons (pv 1) pa_nil)))) pss_nil))), ?_⟩
  have E : En K ⟨T00, [], H00⟩ [(fR zD v_rows p_rows), (fR zD v_budgets p_budgets)] [] T00 H00 := En.start hT ⟨r_rows, r_budgets, trivial⟩
  replace hm : m_check_rows p_rows p_budgets = some res := hm
  unfold m_check_rows at hm
  refine ifs_open ?_
  obtain ⟨r55, h_r55, hm⟩ := bnd hm
  refine En.test E (et_not (et_B (K := K) (ev_callO E.td (ea_cons (ev_var (i := 0) rfl (E.rd (r := zD) (v := v_rows) (d := p_rows) 0 rfl)) ea_nil) h_r55))) fun H E => ?_
  refine iteB (fun hc65 => ?_) (fun hc65 => ?_)
  · rw [if_pos hc65] at hm
    refine En.raise (x := "InvalidRows") (f := "rows") E (ev_var (i := 0) rfl (E.rd (r := zD) (v := v_rows) (d := p_rows) 0 rfl)) fun p56 H E => ?_
    have hr9 := Option.some.inj hm
    subst res
    exact hX _ rfl _ _ (En.isEx E) (En.out E (En.at E (f := (fR (zX "rows") (.ref p56) p_rows)) 0 rfl))
  · rw [if_neg (by rw [hc65]; decide)] at hm
    first | refine nx_ ?_ | skip
    refine ifs_open ?_
    obtain ⟨r57, h_r57, hm⟩ := bnd hm
    obtain ⟨b61, h_b61, hm⟩ := bnd hm
    refine En.test E (et_orO (et_not (et_B (K := K) (ev_callO E.td (ea_cons (ev_var (i := 1) rfl (E.rd (r := zD) (v := v_budgets) (d := p_budgets) 1 rfl)) ea_nil) h_r57))) (fun hc60 y62 hy62 => by
          obtain ⟨x58, h_x58, hy62⟩ := bnd hy62; obtain ⟨x59, h_x59, hy62⟩ := bnd hy62; cases hy62; exact (et_test (K := K) (ev_neI (ev_lenD (ev_var (i := 1) rfl (E.rd (r := zD) (v := v_budgets) (d := p_budgets) 1 rfl)) h_x58) (ev_lenD (ev_var (i := 0) rfl (E.rd (r := zD) (v := v_rows) (d := p_rows) 0 rfl)) h_x59)))) h_b61) fun H E => ?_
    refine iteB (fun hc64 => ?_) (fun hc64 => ?_)
    · rw [if_pos hc64] at hm
      refine En.raise (x := "InvalidBudgets") (f := "budgets") E (ev_var (i := 1) rfl (E.rd (r := zD) (v := v_budgets) (d := p_budgets) 1 rfl)) fun p63 H E => ?_
      have hr9 := Option.some.inj hm
      subst res
      exact hX _ rfl _ _ (En.isEx E) (En.out E (En.at E (f := (fR (zX "budgets") (.ref p63) p_budgets)) 0 rfl))
    · rw [if_neg (by rw [hc64]; decide)] at hm
      have hr9 := Option.some.inj hm
      subst res
      exact hQ _ rfl _ _ (En.isEx E) rfl

theorem ok__law_pool (S : Tx K mg) : Ok P w K mg base 1 ("_law_pool", none) ["script"] ((fun K => NewSp K (aC (zL zI) aN) (fun (p : Addr) (s : Px) => cPx p s) (fun p => .ref p) (fun (a : List Int × Unit) => some (((a.1).map fun (x66 : Int) => (ab x66)), (0 : Int), (0 : Int), (271828182845904 : Int), (0 : Int)))) K) := by
  obtain ⟨fd, D⟩ := d__law_pool S
  refine mk_ok D sc__law_pool (D.bindsN fun _ _ _ _ _ _ us hl => match us, hl with | [_], _ => rfl) (NewSp_len len1) (fun cdv A outer s H00 vs Q E hr h => ?_)
  obtain ⟨T00, ⟨p_script, _⟩, s0, hT, ⟨v_script, _, rfl, r_script, rfl⟩, hm, hQ⟩ := h
  refine ⟨_, (pss_one (ps_ret (pe_disp (pps_cons pe_str (pe_lc (own := [("cell", 1)]) (by rfl) sc__law_pool.nd (kp_list (K := K) (pv 0)) (blkOk_by (N := ["script", "cell"]) (sc := defScope s__law_pool) (by decide +kernel)) (fun _ _ _ _ _ => pg_name (i := 1) sc__law_pool.nd rfl (.inl rfl)) (fun _ _ _ _ _ => pts_nil) (fun _ _ _ _ _ => (pe_callB call_absQ (by rfl) (m_abs S) bt_abs (pa_cons (pe_callTy call_int1Q (by rfl) (m_int S) bt_int (pa_cons (pv 1) pa_nil)) pa_nil)))) (pps_cons pe_str pe_int (pps_cons pe_str pe_int (pps_cons pe_str pe_int (pps_cons pe_str pe_int pps_nil))))) rfl rfl (by intro z; cases z) (by decide)))), ?_⟩
  cases hm
  exact px_new hT (ev_lc1 (f := fun (x66 : Int) => (ab x66)) hT (ei_list (ev_var (i := 0) rfl r_script)) (fun T66 H66 v66 x66 L66 hT66 hx66 r66 Q66 q66 => q66 _ wipe1 (ev_abs (ev_intI (ev_var (i := 1) rfl r66))))) hQ

def m__law_take (p_many : Int) (s00 : Px) : Option (Int × Px) :=
(if (decide ((0 : Int) < s00.2.2.1)) = true then
((grd (0 < p_many)).bind fun (u68 : Unit) =>
((some (s00.2.2.1 % p_many)).bind fun (d70 : Int) =>
((grd (CDivW s00.2.2.1 p_many)).bind fun (u71 : Unit) =>
((some (s00.2.2.1 / p_many)).bind fun (d73 : Int) =>
some (d70, (s00.1, s00.2.1, d73, s00.2.2.2.1, s00.2.2.2.2))))))
else
(((if (decide (s00.2.1 < ((s00.1).length : Int))) = true then
((atI s00.1 s00.2.1).bind fun (x85 : Int) =>
((some (s00.2.1 + (1 : Int))).bind fun (d88 : Int) =>
some (x85, d88)))
else
some ((0 : Int), s00.2.1))).bind fun (j81 : Int × Int) =>
((grd (CPow (10 : Int) (18 : Int))).bind fun (u90 : Unit) =>
(if (decide (((10 : Int) ^ ((18 : Int)).toNat) ≤ j81.1)) = true then
((grd (CDivW j81.1 p_many)).bind fun (u91 : Unit) =>
((some (j81.1 / p_many)).bind fun (d93 : Int) =>
((grd (0 < p_many)).bind fun (u94 : Unit) =>
some ((j81.1 % p_many), (s00.1, j81.2, d93, s00.2.2.2.1, s00.2.2.2.2)))))
else
((some (s00.2.2.2.2 + (1 : Int))).bind fun (d97 : Int) =>
((grd (CMulV j81.1 (314159265359 : Int))).bind fun (u99 : Unit) =>
((grd (CMulV d97 (141421356237 : Int))).bind fun (u100 : Unit) =>
((some (((s00.2.2.2.1 + (j81.1 * (314159265359 : Int))) + (d97 * (141421356237 : Int))) % (1000000000000037 : Int))).bind fun (d102 : Int) =>
((grd (CMulV d102 d102)).bind fun (u107 : Unit) =>
((grd (CMulV (17 : Int) d102)).bind fun (u108 : Unit) =>
((some ((((d102 * d102) + ((17 : Int) * d102)) + (90007 : Int)) % (1000000000000037 : Int))).bind fun (d110 : Int) =>
((grd (CMulV d110 d110)).bind fun (u115 : Unit) =>
((grd (CMulV (3 : Int) d110)).bind fun (u116 : Unit) =>
((some ((((d110 * d110) + ((3 : Int) * d110)) + (12289 : Int)) % (1000000000000037 : Int))).bind fun (d118 : Int) =>
((grd (CDivW d118 (1000003 : Int))).bind fun (u120 : Unit) =>
((grd (0 < p_many)).bind fun (u121 : Unit) =>
some (((d118 / (1000003 : Int)) % p_many), (s00.1, j81.2, s00.2.2.1, d118, d97))))))))))))))))))
abbrev sp__law_take (K : PySem.W.Frag) : Sp := GSp K (aC zA (aC zI aN)) (fun (a : Addr × Int × Unit) (s : Px) => cPx a.1 s) zI (fun (a : Addr × Int × Unit) (s : Px) => m__law_take a.2.1 s)
theorem ok__law_take (S : Tx K mg)  : Ok P w K mg base 1 ("_law_take", none) ["pool", "many"] (sp__law_take K) := by
  obtain ⟨fd, D⟩ := d__law_take S
  refine mk_ok D sc__law_take (D.bindsN fun _ _ _ _ _ _ us hl => match us, hl with | [_, _], _ => rfl) (GSp_len len2) (fun cdv A outer s H00 vs Q E hr h => ?_)
  obtain ⟨T00, ⟨p_pool, p_many, _⟩, s00, res, sres, hT, ⟨v_pool, _, rfl, r_pool, v_many, _, rfl, r_many, rfl⟩, hc, hTc, hnd, hm, hQ⟩ := h
  obtain rfl : v_pool = .ref p_pool := r_pool
  refine ⟨_, (pss_cons (ps_if (pt_cmpR op_gt (pe_dget (room_1 hr) (pv 0) pe_str (fun _ _ => rfl)) pe_int (nomark _)) (pss_cons (ps_set (i := 4) sc__law_take.nd rfl (.inl rfl) (pe_op op_mod (pe_callTy call_int1Q (by rfl) (m_int S) bt_int (pa_cons (pe_dget (room_1 hr) (pv 0) pe_str (fun _ _ => rfl)) pa_nil)) (pv 1))) (pss_cons (ps_dput (room_1 hr) (pv 0) pe_str (pe_op op_fdivW (pe_dget (room_1 hr) (pv 0) pe_str (fun _ _ => rfl)) (pv 1)) (by rfl)) (pss_one (ps_ret (pv 4))))) pss_nil) (pss_cons (ps_set (i := 2) sc__law_take.nd rfl (.inl rfl) pe_int) (pss_cons (ps_if (pt_cmpR op_lt (pe_dget (room_1 hr) (pv 0) pe_str (fun _ _ => rfl)) (pe_callB (kc_len (K := K)) (by rfl) (m_len S) bt_len (pa_cons (pe_dget (room_1 hr) (pv 0) pe_str (fun _ _ => rfl)) pa_nil)) (nomark _)) (pss_cons (ps_set (i := 2) sc__law_take.nd rfl (.inl rfl) (pe_ix (kx_list (K := K)) (pe_dget (room_1 hr) (pv 0) pe_str (fun _ _ => rfl)) (pe_dget (room_1 hr) (pv 0) pe_str (fun _ _ => rfl)) (fun _ _ => rfl))) (pss_one (ps_dput (room_1 hr) (pv 0) pe_str (pe_op op_add (pe_dget (room_1 hr) (pv 0) pe_str (fun _ _ => rfl)) pe_int) (by rfl)))) pss_nil) (pss_cons (ps_if (pt_cmpR op_ge (pv 2) (pe_op op_pow pe_int pe_int) (nomark _)) (pss_cons (ps_dput (room_1 hr) (pv 0) pe_str (pe_op op_fdivW (pv 2) (pv 1)) (by rfl)) (pss_one (ps_ret (pe_op op_mod (pe_callTy call_int1Q (by rfl) (m_int S) bt_int (pa_cons (pv 2) pa_nil)) (pv 1))))) pss_nil) (pss_cons (ps_dput (room_1 hr) (pv 0) pe_str (pe_op op_add (pe_dget (room_1 hr) (pv 0) pe_str (fun _ _ => rfl)) pe_int) (by rfl)) (pss_cons (ps_set (i := 3) sc__law_take.nd rfl (.inl rfl) (pe_op op_mod (pe_callTy call_int1Q (by rfl) (m_int S) bt_int (pa_cons (pe_op op_add (pe_op op_add (pe_dget (room_1 hr) (pv 0) pe_str (fun _ _ => rfl)) (pe_op op_mulV (pv 2) pe_int)) (pe_op op_mulV (pe_dget (room_1 hr) (pv 0) pe_str (fun _ _ => rfl)) pe_int)) pa_nil)) pe_int)) (pss_cons (ps_set (i := 3) sc__law_take.nd rfl (.inl rfl) (pe_op op_mod (pe_callTy call_int1Q (by rfl) (m_int S) bt_int (pa_cons (pe_op op_add (pe_op op_add (pe_op op_mulV (pv 3) (pv 3)) (pe_op op_mulV pe_int (pv 3))) pe_int) pa_nil)) pe_int)) (pss_cons (ps_set (i := 3) sc__law_take.nd rfl (.inl rfl) (pe_op op_mod (pe_callTy call_int1Q (by rfl) (m_int S) bt_int (pa_cons (pe_op op_add (pe_op op_add (pe_op op_mulV (pv 3) (pv 3)) (pe_op op_mulV pe_int (pv 3))) pe_int) pa_nil)) pe_int)) (pss_cons (ps_dput (room_1 hr) (pv 0) pe_str (pv 3) (by rfl)) (pss_one (ps_ret (pe_op op_mod (pe_callTy call_int1Q (by rfl) (m_int S) bt_int (pa_cons (pe_op op_fdivW (pv 3) pe_int) pa_nil)) (pv 1))))))))))))), ?_⟩
  have E : En K ⟨T00, [p_pool], H00⟩ [(fR zI v_many p_many)] [(cPx p_pool s00)] T00 H00 := En.start1 (c := (cPx p_pool s00)) hT ⟨r_many, trivial⟩ hc hTc hnd
  obtain ⟨v67, E⟩ := En.openPx E
  replace hm : m__law_take p_many s00 = some (res, sres) := hm
  unfold m__law_take at hm
  refine ifs_open ?_
  refine En.testB E (et_test (K := K) (ev_gt (ev_dx (r := zI) (v := .int s00.2.2.1) (d := s00.2.2.1) (ev_var (i := 0) rfl (show zA K _ _ (.ref p_pool) p_pool from rfl)) ev_str (E.cdB 0 rfl) px_g2 rfl) ev_int)) fun H E => ?_
  refine iteB (fun hc124 => ?_) (fun hc124 => ?_)
  · rw [if_pos hc124] at hm
    refine asg_open ?_
    obtain ⟨u68, h_u68, hm⟩ := bnd hm
    obtain ⟨d70, e_d70, hm⟩ := bnd hm
    refine En.runB E (Ev.to (ev_mod (ev_intI (ev_dx (r := zI) (v := .int s00.2.2.1) (d := s00.2.2.1) (ev_var (i := 0) rfl (show zA K _ _ (.ref p_pool) p_pool from rfl)) ev_str (E.cdB 0 rfl) px_g2 rfl)) (ev_var (i := 1) rfl (E.rdB (r := zI) (v := v_many) (d := p_many) 1 rfl)) (grd_ok h_u68)) (Option.some.inj e_d70)) fun v69 H E => ?_
    first | refine nx_ ?_ | skip
    refine dput_open ?_
    obtain ⟨u71, h_u71, hm⟩ := bnd hm
    obtain ⟨d73, e_d73, hm⟩ := bnd hm
    refine En.runB E (Ev.to (ev_fdivW (ev_dx (r := zI) (v := .int s00.2.2.1) (d := s00.2.2.1) (ev_var (i := 0) rfl (show zA K _ _ (.ref p_pool) p_pool from rfl)) ev_str (E.cdB 0 rfl) px_g2 rfl) (ev_var (i := 1) rfl (E.rdB (r := zI) (v := v_many) (d := p_many) 2 rfl)) (grd_ok h_u71)) (Option.some.inj e_d73)) fun v72 H E => ?_
    obtain rfl : v72 = .int d73 := E.at (f := (fR zI v72 d73)) 0 rfl
    refine ⟨.ref p_pool, rfl, ?_⟩
    refine En.dput (p := p_pool) (kvs := (pxK v67 s00.2.1 s00.2.2.1 s00.2.2.2.1 s00.2.2.2.2)) (x := "big") (v := .int d73) E 0 rfl (by simp [pxK]) fun H E => ?_
    rw [px_p2] at E
    first | refine nx_ ?_ | skip
    refine ret_open ?_
    refine En.run E (ev_var (i := 4) rfl (E.rd (r := zI) (v := v69) (d := d70) 1 rfl)) fun v74 H E => ?_
    have hr9 := Prod.mk.inj (Option.some.inj hm)
    have hr8 := hr9.1
    have hr7 := hr9.2
    subst res
    subst sres
    have E9 := En.closePx (En.pick (cs' := [(cV p_pool (.dK (pxK v67 s00.2.1 d73 s00.2.2.2.1 s00.2.2.2.2)))]) E [0] (by decide) rfl) 3 rfl
    exact hQ _ _ (En.fr E9) (En.outc E9 (c := (cPx p_pool (s00.1, s00.2.1, d73, s00.2.2.2.1, s00.2.2.2.2))) 0 rfl) (En.out E9 (En.at E9 (f := (fR zI v74 d70)) 0 rfl))
  · rw [if_neg (by rw [hc124]; decide)] at hm
    first | refine nx_ ?_ | skip
    refine asg_open ?_
    refine En.run E ev_int fun v75 H E => ?_
    first | refine nx_ ?_ | skip
    obtain ⟨j81, hm9, hm8⟩ := bnd hm
    refine seq_open ?_
    refine cut_ (fun σ9 H9 => ∃ (T : AS), ∃ (v82 : V), ∃ (u83 : Option V), ∃ (u84 : Option V), σ9 = [some (.ref p_pool), some v_many, some v82, u83, u84] ∧ En K ⟨T00, [p_pool], H00⟩ [(fR zI v_many p_many), (fR zI v82 j81.1), (fR (zL zI) v67 s00.1)] [(cV p_pool (.dK (pxK v67 j81.2 s00.2.2.1 s00.2.2.2.1 s00.2.2.2.2)))] T H9) ?_ fun rest => ?_
    · rintro _ H ⟨T, v82, u83, u84, rfl, E⟩
      have hm := hm8
      first | refine nx_ ?_ | skip
      refine ifs_open ?_
      obtain ⟨u90, h_u90, hm⟩ := bnd hm
      refine En.test E (et_test (K := K) (ev_ge (ev_var (i := 2) rfl (E.rd (r := zI) (v := v82) (d := j81.1) 1 rfl)) (ev_pow ev_int ev_int (grd_ok h_u90)))) fun H E => ?_
      refine iteB (fun hc123 => ?_) (fun hc123 => ?_)
      · rw [if_pos hc123] at hm
        refine dput_open ?_
        obtain ⟨u91, h_u91, hm⟩ := bnd hm
        obtain ⟨d93, e_d93, hm⟩ := bnd hm
        refine En.run E (Ev.to (ev_fdivW (ev_var (i := 2) rfl (E.rd (r := zI) (v := v82) (d := j81.1) 1 rfl)) (ev_var (i := 1) rfl (E.rd (r := zI) (v := v_many) (d := p_many) 0 rfl)) (grd_ok h_u91)) (Option.some.inj e_d93)) fun v92 H E => ?_
        obtain rfl : v92 = .int d93 := E.at (f := (fR zI v92 d93)) 0 rfl
        refine ⟨.ref p_pool, rfl, ?_⟩
        refine En.dput (p := p_pool) (kvs := (pxK v67 j81.2 s00.2.2.1 s00.2.2.2.1 s00.2.2.2.2)) (x := "big") (v := .int d93) E 0 rfl (by simp [pxK]) fun H E => ?_
        rw [px_p2] at E
        first | refine nx_ ?_ | skip
        refine ret_open ?_
        obtain ⟨u94, h_u94, hm⟩ := bnd hm
        refine En.run E (ev_mod (ev_intI (ev_var (i := 2) rfl (E.rd (r := zI) (v := v82) (d := j81.1) 2 rfl))) (ev_var (i := 1) rfl (E.rd (r := zI) (v := v_many) (d := p_many) 1 rfl)) (grd_ok h_u94)) fun v95 H E => ?_
        have hr9 := Prod.mk.inj (Option.some.inj hm)
        have hr8 := hr9.1
        have hr7 := hr9.2
        subst res
        subst sres
        have E9 := En.closePx (En.pick (cs' := [(cV p_pool (.dK (pxK v67 j81.2 d93 s00.2.2.2.1 s00.2.2.2.2)))]) E [0] (by decide) rfl) 4 rfl
        exact hQ _ _ (En.fr E9) (En.outc E9 (c := (cPx p_pool (s00.1, j81.2, d93, s00.2.2.2.1, s00.2.2.2.2))) 0 rfl) (En.out E9 (En.at E9 (f := (fR zI v95 (j81.1 % p_many))) 0 rfl))
      · rw [if_neg (by rw [hc123]; decide)] at hm
        first | refine nx_ ?_ | skip
        refine dput_open ?_
        obtain ⟨d97, e_d97, hm⟩ := bnd hm
        refine En.runB E (Ev.to (ev_add (ev_dx (r := zI) (v := .int s00.2.2.2.2) (d := s00.2.2.2.2) (ev_var (i := 0) rfl (show zA K _ _ (.ref p_pool) p_pool from rfl)) ev_str (E.cdB 0 rfl) px_g4 rfl) ev_int) (Option.some.inj e_d97)) fun v96 H E => ?_
        obtain rfl : v96 = .int d97 := E.at (f := (fR zI v96 d97)) 0 rfl
        refine ⟨.ref p_pool, rfl, ?_⟩
        refine En.dput (p := p_pool) (kvs := (pxK v67 j81.2 s00.2.2.1 s00.2.2.2.1 s00.2.2.2.2)) (x := "count") (v := .int d97) E 0 rfl (by simp [pxK]) fun H E => ?_
        rw [px_p4] at E
        first | refine nx_ ?_ | skip
        refine asg_open ?_
        obtain ⟨u99, h_u99, hm⟩ := bnd hm
        obtain ⟨u100, h_u100, hm⟩ := bnd hm
        obtain ⟨d102, e_d102, hm⟩ := bnd hm
        refine En.runB E (Ev.to (ev_mod (ev_intI (ev_add (ev_add (ev_dx (r := zI) (v := .int s00.2.2.2.1) (d := s00.2.2.2.1) (ev_var (i := 0) rfl (show zA K _ _ (.ref p_pool) p_pool from rfl)) ev_str (E.cdB 0 rfl) px_g3 rfl) (ev_mulV (ev_var (i := 2) rfl (E.rdB (r := zI) (v := v82) (d := j81.1) 2 rfl)) ev_int (grd_ok h_u99))) (ev_mulV (ev_dx (r := zI) (v := .int d97) (d := d97) (ev_var (i := 0) rfl (show zA K _ _ (.ref p_pool) p_pool from rfl)) ev_str (E.cdB 0 rfl) px_g4 rfl) ev_int (grd_ok h_u100)))) ev_int (by decide)) (Option.some.inj e_d102)) fun v101 H E => ?_
        first | refine nx_ ?_ | skip
        refine asg_open ?_
        obtain ⟨u107, h_u107, hm⟩ := bnd hm
        obtain ⟨u108, h_u108, hm⟩ := bnd hm
        obtain ⟨d110, e_d110, hm⟩ := bnd hm
        refine En.run E (Ev.to (ev_mod (ev_intI (ev_add (ev_add (ev_mulV (ev_var (i := 3) rfl (E.rd (r := zI) (v := v101) (d := d102) 0 rfl)) (ev_var (i := 3) rfl (E.rd (r := zI) (v := v101) (d := d102) 0 rfl)) (grd_ok h_u107)) (ev_mulV ev_int (ev_var (i := 3) rfl (E.rd (r := zI) (v := v101) (d := d102) 0 rfl)) (grd_ok h_u108))) ev_int)) ev_int (by decide)) (Option.some.inj e_d110)) fun v109 H E => ?_
        first | refine nx_ ?_ | skip
        refine asg_open ?_
        obtain ⟨u115, h_u115, hm⟩ := bnd hm
        obtain ⟨u116, h_u116, hm⟩ := bnd hm
        obtain ⟨d118, e_d118, hm⟩ := bnd hm
        refine En.run E (Ev.to (ev_mod (ev_intI (ev_add (ev_add (ev_mulV (ev_var (i := 3) rfl (E.rd (r := zI) (v := v109) (d := d110) 0 rfl)) (ev_var (i := 3) rfl (E.rd (r := zI) (v := v109) (d := d110) 0 rfl)) (grd_ok h_u115)) (ev_mulV ev_int (ev_var (i := 3) rfl (E.rd (r := zI) (v := v109) (d := d110) 0 rfl)) (grd_ok h_u116))) ev_int)) ev_int (by decide)) (Option.some.inj e_d118)) fun v117 H E => ?_
        first | refine nx_ ?_ | skip
        refine dput_open ?_
        refine En.run E (ev_var (i := 3) rfl (E.rd (r := zI) (v := v117) (d := d118) 0 rfl)) fun v119 H E => ?_
        obtain rfl : v119 = .int d118 := E.at (f := (fR zI v119 d118)) 0 rfl
        refine ⟨.ref p_pool, rfl, ?_⟩
        refine En.dput (p := p_pool) (kvs := (pxK v67 j81.2 s00.2.2.1 s00.2.2.2.1 d97)) (x := "state") (v := .int d118) E 0 rfl (by simp [pxK]) fun H E => ?_
        rw [px_p3] at E
        first | refine nx_ ?_ | skip
        refine ret_open ?_
        obtain ⟨u120, h_u120, hm⟩ := bnd hm
        obtain ⟨u121, h_u121, hm⟩ := bnd hm
        refine En.run E (ev_mod (ev_intI (ev_fdivW (ev_var (i := 3) rfl (E.rd (r := zI) (v := v117) (d := d118) 1 rfl)) ev_int (grd_ok h_u120))) (ev_var (i := 1) rfl (E.rd (r := zI) (v := v_many) (d := p_many) 5 rfl)) (grd_ok h_u121)) fun v122 H E => ?_
        have hr9 := Prod.mk.inj (Option.some.inj hm)
        have hr8 := hr9.1
        have hr7 := hr9.2
        subst res
        subst sres
        have E9 := En.closePx (En.pick (cs' := [(cV p_pool (.dK (pxK v67 j81.2 s00.2.2.1 d118 d97)))]) E [0] (by decide) rfl) 8 rfl
        exact hQ _ _ (En.fr E9) (En.outc E9 (c := (cPx p_pool (s00.1, j81.2, s00.2.2.1, d118, d97))) 0 rfl) (En.out E9 (En.at E9 (f := (fR zI v122 ((d118 / (1000003 : Int)) % p_many))) 0 rfl))
    · have hm := hm9
      refine ifs_open ?_
      refine En.testB E (et_test (K := K) (ev_lt (ev_dx (r := zI) (v := .int s00.2.1) (d := s00.2.1) (ev_var (i := 0) rfl (show zA K _ _ (.ref p_pool) p_pool from rfl)) ev_str (E.cdB 0 rfl) px_g1 rfl) (ev_lenL (ev_dx (r := (zL zI)) (v := v67) (d := s00.1) (ev_var (i := 0) rfl (show zA K _ _ (.ref p_pool) p_pool from rfl)) ev_str (E.cdB 0 rfl) px_g0 (E.rdB (r := (zL zI)) (v := v67) (d := s00.1) 1 rfl))))) fun H E => ?_
      refine iteB (fun hc89 => ?_) (fun hc89 => ?_)
      · rw [if_pos hc89] at hm
        refine asg_open ?_
        obtain ⟨x85, h_x85, hm⟩ := bnd hm
        refine En.runB E (ev_ixL (ev_dx (r := (zL zI)) (v := v67) (d := s00.1) (ev_var (i := 0) rfl (show zA K _ _ (.ref p_pool) p_pool from rfl)) ev_str (E.cdB 0 rfl) px_g0 (E.rdB (r := (zL zI)) (v := v67) (d := s00.1) 1 rfl)) (ev_dx (r := zI) (v := .int s00.2.1) (d := s00.2.1) (ev_var (i := 0) rfl (show zA K _ _ (.ref p_pool) p_pool from rfl)) ev_str (E.cdB 0 rfl) px_g1 rfl) h_x85) fun v86 H E => ?_
        first | refine nx_ ?_ | skip
        refine dput_open ?_
        obtain ⟨d88, e_d88, hm⟩ := bnd hm
        refine En.runB E (Ev.to (ev_add (ev_dx (r := zI) (v := .int s00.2.1) (d := s00.2.1) (ev_var (i := 0) rfl (show zA K _ _ (.ref p_pool) p_pool from rfl)) ev_str (E.cdB 0 rfl) px_g1 rfl) ev_int) (Option.some.inj e_d88)) fun v87 H E => ?_
        obtain rfl : v87 = .int d88 := E.at (f := (fR zI v87 d88)) 0 rfl
        refine ⟨.ref p_pool, rfl, ?_⟩
        refine En.dput (p := p_pool) (kvs := (pxK v67 s00.2.1 s00.2.2.1 s00.2.2.2.1 s00.2.2.2.2)) (x := "at") (v := .int d88) E 0 rfl (by simp [pxK]) fun H E => ?_
        rw [px_p1] at E
        have hj9 := Option.some.inj hm
        subst j81
        exact rest _ _ ⟨_, v86, _, _, rfl, (En.facts (En.pick E [0] (by decide) rfl) ⟨(E.rd (r := zI) (v := v_many) (d := p_many) 4 rfl), (E.rd (r := zI) (v := v86) (d := x85) 1 rfl), (E.rd (r := (zL zI)) (v := v67) (d := s00.1) 3 rfl), trivial⟩)⟩
      · rw [if_neg (by rw [hc89]; decide)] at hm
        have hj9 := Option.some.inj hm
        subst j81
        exact rest _ _ ⟨_, v75, _, _, rfl, (En.facts (En.pick E [0] (by decide) rfl) ⟨(E.rd (r := zI) (v := v_many) (d := p_many) 2 rfl), (E.rd (r := zI) (v := v75) (d := (0 : Int)) 0 rfl), (E.rd (r := (zL zI)) (v := v67) (d := s00.1) 1 rfl), trivial⟩)⟩

def m__law_word (p_number : Int) (p_length : Int) : Option (List Bool) :=
((grd (p_length ≤ 1000000 ∧ -1000000 ≤ p_length)).bind fun (u125 : Unit) =>
((mapO (fun (x126 : Int) =>
((grd (0 ≤ ((p_length - (1 : Int)) - x126))).bind fun (u127 : Unit) =>
((atI ([false, true] : List Bool) (Builtin.bitAnd (p_number / 2 ^ (((p_length - (1 : Int)) - x126)).toNat) (1 : Int))).bind fun (x128 : Bool) =>
some ([x128])))) (rng 0 (p_length).toNat)).bind fun (x129 : (List (List Bool))) =>
((grd ((x129).flatten.length ≤ 100000)).bind fun (u130 : Unit) =>
some ((x129).flatten))))
abbrev sp__law_word (K : PySem.W.Frag) : Sp := FSp K (aC zI (aC zI aN)) zW (fun (a : Int × Int × Unit) => m__law_word a.1 a.2.1)
theorem ok__law_word (S : Tx K mg)  : Ok P w K mg base 1 ("_law_word", none) ["number", "length"] (sp__law_word K) := by
  obtain ⟨fd, D⟩ := d__law_word S
  refine mk_ok D sc__law_word (D.bindsN fun _ _ _ _ _ _ us hl => match us, hl with | [_, _], _ => rfl) (FSp_len len2) (fun cdv A outer s H00 vs Q E hr h => ?_)
  obtain ⟨T00, ⟨p_number, p_length, _⟩, res, hT, ⟨v_number, _, rfl, r_number, v_length, _, rfl, r_length, rfl⟩, hm, hQ⟩ := h
  refine ⟨_, (pss_one (ps_ret (ke_join (K := K) pe_str (pe_lc (own := [("k", 2)]) (by rfl) sc__law_word.nd (pi_range1 (by rfl) (m_range S) (pa_cons (pv 1) pa_nil)) (blkOk_by (N := ["number", "length", "k"]) (sc := defScope s__law_word) (by decide +kernel)) (fun _ _ _ _ _ => pg_name (i := 2) sc__law_word.nd rfl (.inl rfl)) (fun _ _ _ _ _ => pts_nil) (fun _ _ _ _ _ => (pe_ix ix_str pe_str (pe_op op_and (pe_op op_shr (pv 0) (pe_op op_sub (pe_op op_sub (pv 1) pe_int) (pv 2))) pe_int) (fun _ _ => rfl))))))), ?_⟩
  have E : En K ⟨T00, [], H00⟩ [(fR zI v_number p_number), (fR zI v_length p_length)] [] T00 H00 := En.start hT ⟨r_number, r_length, trivial⟩
  replace hm : m__law_word p_number p_length = some res := hm
  unfold m__law_word at hm
  refine ret_open ?_
  obtain ⟨u125, h_u125, hm⟩ := bnd hm
  obtain ⟨x129, h_x129, hm⟩ := bnd hm
  obtain ⟨u130, h_u130, hm⟩ := bnd hm
  refine En.run E (ev_joinW (ev_word [] (by decide) (by decide)) (ev_lcO1 E.td (ei_range (ea_cons (ev_var (i := 1) rfl (E.rd (r := zI) (v := v_length) (d := p_length) 1 rfl)) ea_nil) (grd_ok h_u125).1 (grd_ok h_u125).2) h_x129 (fun T126 H126 v126 x126 L126 hT126 hx126 r126 Q126 q126 => q126 _ wipe1 (fun y126 hy126 => by
          obtain ⟨u127, h_u127, hy126⟩ := bnd hy126; obtain ⟨x128, h_x128, hy126⟩ := bnd hy126; cases hy126; exact (ev_ixW (ev_word [false, true] (by decide) (by decide)) (ev_band (ev_shr (ev_var (i := 0) rfl (L126.ap (E.rd (r := zI) (v := v_number) (d := p_number) 0 rfl))) (ev_sub (ev_sub (ev_var (i := 1) rfl (L126.ap (E.rd (r := zI) (v := v_length) (d := p_length) 1 rfl))) ev_int) (ev_var (i := 2) rfl r126)) (grd_ok h_u127)) ev_int) h_x128)))) (grd_ok h_u130)) fun v131 H E => ?_
  have hr9 := Option.some.inj hm
  subst res
  exact hQ _ _ (En.isEx E) (En.out E (En.at E (f := (fR zW v131 ((x129).flatten))) 0 rfl))

def m__law_rows (p_programs : Int) (p_points : Int) (s00 : Px) : Option ((List (List Bool)) × Px) :=
((m__law_take p_programs s00).bind fun (q133 : Int × Px) =>
((some ((1 : Int) + q133.1)).bind fun (d136 : Int) =>
((m__law_take p_points q133.2).bind fun (q138 : Int × Px) =>
((some ((1 : Int) + q138.1)).bind fun (d141 : Int) =>
((((m__law_take (12 : Int) q138.2).bind fun (q158 : Int × Px) =>
((some (decide (q158.1 = (0 : Int)))).bind fun (d162 : Bool) =>
(if d162 = true then
some ((0 : Int), q158.2)
else
some (d141, q158.2))))).bind fun (j149 : Int × Px) =>
((m__law_take (8 : Int) j149.2).bind fun (q165 : Int × Px) =>
((grd (CPow (1 : Int) j149.1)).bind fun (u168 : Unit) =>
((m__law_take ((1 : Int) * 2 ^ (j149.1).toNat) q165.2).bind fun (q169 : Int × Px) =>
((some ([])).bind fun (d171 : List Int) =>
((grd (d136 ≤ 1000000 ∧ -1000000 ≤ d136)).bind fun (u173 : Unit) =>
((forP (fun (s174 : (List Int) × Px) (x178 : Int) =>
(((if (decide (q165.1 = (0 : Int))) = true then
((grd (0 < (j149.1 + (1 : Int)))).bind fun (u1098 : Unit) =>
((grd (CPow (1 : Int) (x178 % (j149.1 + (1 : Int))))).bind fun (u1099 : Unit) =>
((some (Builtin.bitXor q169.1 (((1 : Int) * 2 ^ ((x178 % (j149.1 + (1 : Int)))).toNat) - (1 : Int)))).bind fun (d1101 : Int) =>
((grd (s174.1.length < 1000000)).bind fun (_ : Unit) =>
((some (s174.1 ++ [d1101])).bind fun (d1102 : List Int) =>
some (d1102, s174.2))))))
else
(((if (decide (q165.1 = (1 : Int))) = true then
((grd (CPow (1 : Int) j149.1)).bind fun (u1253 : Unit) =>
((grd (0 < ((1 : Int) * 2 ^ (j149.1).toNat))).bind fun (u1254 : Unit) =>
((some (Builtin.bitXor q169.1 (x178 % ((1 : Int) * 2 ^ (j149.1).toNat)))).bind fun (d1256 : Int) =>
((grd (s174.1.length < 1000000)).bind fun (_ : Unit) =>
((some (s174.1 ++ [d1256])).bind fun (d1257 : List Int) =>
some (d1257, s174.2))))))
else
(((if ((decide (q165.1 = (2 : Int))) && ((decide ((0 : Int) < x178)) && (decide ((0 : Int) < j149.1)))) = true then
((m__law_take x178 s174.2).bind fun (q1332 : Int × Px) =>
((atI s174.1 q1332.1).bind fun (x1334 : Int) =>
((m__law_take j149.1 q1332.2).bind fun (q1337 : Int × Px) =>
((grd (CPow (1 : Int) q1337.1)).bind fun (u1339 : Unit) =>
((some ((1 : Int) * 2 ^ (q1337.1).toNat)).bind fun (d1341 : Int) =>
((some (Builtin.bitXor x1334 d1341)).bind fun (d1343 : Int) =>
((grd (s174.1.length < 1000000)).bind fun (_ : Unit) =>
((some (s174.1 ++ [d1343])).bind fun (d1344 : List Int) =>
some (d1344, q1337.2)))))))))
else
(((if (decide ((0 : Int) < x178)) = true then
((m__law_take (6 : Int) s174.2).bind fun (q1373 : Int × Px) =>
((some (decide (q1373.1 = (0 : Int)))).bind fun (d1377 : Bool) =>
(if d1377 = true then
((m__law_take x178 q1373.2).bind fun (q1378 : Int × Px) =>
((atI s174.1 q1378.1).bind fun (x1380 : Int) =>
((grd (s174.1.length < 1000000)).bind fun (_ : Unit) =>
((some (s174.1 ++ [x1380])).bind fun (d1382 : List Int) =>
some (d1382, q1378.2)))))
else
((grd (CPow (1 : Int) j149.1)).bind fun (u1384 : Unit) =>
((m__law_take ((1 : Int) * 2 ^ (j149.1).toNat) q1373.2).bind fun (q1385 : Int × Px) =>
((grd (s174.1.length < 1000000)).bind fun (_ : Unit) =>
((some (s174.1 ++ [q1385.1])).bind fun (d1387 : List Int) =>
some (d1387, q1385.2))))))))
else
((grd (CPow (1 : Int) j149.1)).bind fun (u1390 : Unit) =>
((m__law_take ((1 : Int) * 2 ^ (j149.1).toNat) s174.2).bind fun (q1391 : Int × Px) =>
((grd (s174.1.length < 1000000)).bind fun (_ : Unit) =>
((some (s174.1 ++ [q1391.1])).bind fun (d1393 : List Int) =>
some (d1393, q1391.2))))))).bind fun (j1367 : (List Int) × Px) =>
some (j1367.1, j1367.2)))).bind fun (j1324 : (List Int) × Px) =>
some (j1324.1, j1324.2)))).bind fun (j1247 : (List Int) × Px) =>
some (j1247.1, j1247.2)))).bind fun (j1092 : (List Int) × Px) =>
some (j1092.1, j1092.2))) (d171, q169.2) (rng 0 (d136).toNat)).bind fun (s176 : (List Int) × Px) =>
((mapO (fun (x1398 : Int) =>
((m__law_word x1398 j149.1).bind fun (r1399 : (List Bool)) =>
some r1399)) s176.1).bind fun (x1400 : (List (List Bool))) =>
some (x1400, s176.2)))))))))))))
abbrev sp__law_rows (K : PySem.W.Frag) : Sp := GSp K (aC zA (aC zI (aC zI aN))) (fun (a : Addr × Int × Int × Unit) (s : Px) => cPx a.1 s) (zL zW) (fun (a : Addr × Int × Int × Unit) (s : Px) => m__law_rows a.2.1 a.2.2.1 s)
theorem ok__law_rows (S : Tx K mg) (G__law_take : Ok P w K mg base 1 ("_law_take", none) ["pool", "many"] (sp__law_take K)) (G__law_word : Ok P w K mg base 1 ("_law_word", none) ["number", "length"] (sp__law_word K)) : Ok P w K mg base 2 ("_law_rows", none) ["pool", "programs", "points"] (sp__law_rows K) := by
  obtain ⟨fd, D⟩ := d__law_rows S
  refine mk_ok D sc__law_rows (D.bindsN fun _ _ _ _ _ _ us hl => match us, hl with | [_, _, _], _ => rfl) (GSp_len len3) (fun cdv A outer s H00 vs Q E hr h => ?_)
  obtain ⟨T00, ⟨p_pool, p_programs, p_points, _⟩, s00, res, sres, hT, ⟨v_pool, _, rfl, r_pool, v_programs, _, rfl, r_programs, v_points, _, rfl, r_points, rfl⟩, hc, hTc, hnd, hm, hQ⟩ := h
  obtain rfl : v_pool = .ref p_pool := r_pool
  refine ⟨_, (pss_cons (ps_set (i := 3) sc__law_rows.nd rfl (.inl rfl) (pe_op op_add pe_int (pe_callG G__law_take hr (by omega) (by rfl) (g__law_take S) (pa_cons (pv 0) (pa_cons (pv 1) pa_nil))))) (pss_cons (ps_set (i := 4) sc__law_rows.nd rfl (.inr rfl) (pe_op op_add pe_int (pe_callG G__law_take hr (by omega) (by rfl) (g__law_take S) (pa_cons (pv 0) (pa_cons (pv 2) pa_nil))))) (pss_cons (ps_if (pt_cmpR op_eq (pe_callG G__law_take hr (by omega) (by rfl) (g__law_take S) (pa_cons (pv 0) (pa_cons pe_int pa_nil))) pe_int (nomark _)) (pss_one (ps_set (i := 4) sc__law_rows.nd rfl (.inr rfl) pe_int)) pss_nil) (pss_cons (ps_set (i := 5) sc__law_rows.nd rfl (.inl rfl) (pe_callG G__law_take hr (by omega) (by rfl) (g__law_take S) (pa_cons (pv 0) (pa_cons pe_int pa_nil)))) (pss_cons (ps_set (i := 6) sc__law_rows.nd rfl (.inl rfl) (pe_callG G__law_take hr (by omega) (by rfl) (g__law_take S) (pa_cons (pv 0) (pa_cons (pe_op op_shl pe_int (pv 4)) pa_nil)))) (pss_cons (ps_set (i := 7) sc__law_rows.nd rfl (.inl rfl) (pe_lst pa_nil)) (pss_cons (ps_for PassesOwn.never rfl (pi_range1 (by rfl) (m_range S) (pa_cons (pv 3) pa_nil)) (pg_name (i := 8) sc__law_rows.nd rfl (.inl rfl)) (pss_one (ps_if (pt_cmpR op_eq (pv 5) pe_int (nomark _)) (pss_one (ps_expr (pe_bm PySem.F.plainAttrs_list PySem.F.slot_list_append PySem.F.type_list_append mt_append (pv 7) (pa_cons (pe_op op_xor (pv 6) (pe_op op_sub (pe_op op_shl pe_int (pe_op op_mod (pe_callTy call_int1Q (by rfl) (m_int S) bt_int (pa_cons (pv 8) pa_nil)) (pe_op op_add (pv 4) pe_int))) pe_int)) pa_nil)))) (pss_one (ps_if (pt_cmpR op_eq (pv 5) pe_int (nomark _)) (pss_one (ps_expr (pe_bm PySem.F.plainAttrs_list PySem.F.slot_list_append PySem.F.type_list_append mt_append (pv 7) (pa_cons (pe_op op_xor (pv 6) (pe_op op_mod (pe_callTy call_int1Q (by rfl) (m_int S) bt_int (pa_cons (pv 8) pa_nil)) (pe_op op_shl pe_int (pv 4)))) pa_nil)))) (pss_one (ps_if (PW.pt (pw_and (pt_cmpR op_eq (pv 5) pe_int (nomark _)) (pw_and (pt_cmpR op_gt (pv 8) pe_int (nomark _)) (pw_and1 (pt_cmpR op_gt (pv 4) pe_int (nomark _)))))) (pss_one (ps_expr (pe_bm PySem.F.plainAttrs_list PySem.F.slot_list_append PySem.F.type_list_append mt_append (pv 7) (pa_cons (pe_op op_xor (pe_ix (kx_list (K := K)) (pv 7) (pe_callG G__law_take hr (by omega) (by rfl) (g__law_take S) (pa_cons (pv 0) (pa_cons (pv 8) pa_nil))) (fun _ _ => rfl)) (pe_op op_shl pe_int (pe_callG G__law_take hr (by omega) (by rfl) (g__law_take S) (pa_cons (pv 0) (pa_cons (pv 4) pa_nil))))) pa_nil)))) (pss_one (ps_if (PW.pt (pw_and (pt_cmpR op_gt (pv 8) pe_int (nomark _)) (pw_and1 (pt_cmpR op_eq (pe_callG G__law_take hr (by omega) (by rfl) (g__law_take S) (pa_cons (pv 0) (pa_cons pe_int pa_nil))) pe_int (nomark _))))) (pss_one (ps_expr (pe_bm PySem.F.plainAttrs_list PySem.F.slot_list_append PySem.F.type_list_append mt_append (pv 7) (pa_cons (pe_ix (kx_list (K := K)) (pv 7) (pe_callG G__law_take hr (by omega) (by rfl) (g__law_take S) (pa_cons (pv 0) (pa_cons (pv 8) pa_nil))) (fun _ _ => rfl)) pa_nil)))) (pss_one (ps_expr (pe_bm PySem.F.plainAttrs_list PySem.F.slot_list_append PySem.F.type_list_append mt_append (pv 7) (pa_cons (pe_callG G__law_take hr (by omega) (by rfl) (g__law_take S) (pa_cons (pv 0) (pa_cons (pe_op op_shl pe_int (pv 4)) pa_nil))) pa_nil))))))))))))) (pss_one (ps_ret (pe_lc (own := [("number", 9)]) (by rfl) sc__law_rows.nd (kp_list (K := K) (pv 7)) (blkOk_by (N := ["pool", "programs", "points", "many", "length", "kind", "first", "numbers", "k", "number"]) (sc := defScope s__law_rows) (by decide +kernel)) (fun _ _ _ _ _ => pg_name (i := 9) sc__law_rows.nd rfl (.inl rfl)) (fun _ _ _ _ _ => pts_nil) (fun _ _ _ _ _ => (pe_callG G__law_word hr (by omega) (by rfl) (g__law_word S) (pa_cons (pv 9) (pa_cons (pv 4) pa_nil)))))))))))))), ?_⟩
  have E : En K ⟨T00, [p_pool], H00⟩ [(fR zI v_programs p_programs), (fR zI v_points p_points)] [(cPx p_pool s00)] T00 H00 := En.start1 (c := (cPx p_pool s00)) hT ⟨r_programs, r_points, trivial⟩ hc hTc hnd
  replace hm : m__law_rows p_programs p_points s00 = some (res, sres) := hm
  unfold m__law_rows at hm
  refine asg_open ?_
  refine op_open ?_
  refine En.run E ev_int fun v132 H E => ?_
  obtain ⟨q133, h_q133, hm⟩ := bnd hm
  refine En.gcall E (ea_cons (ev_var (i := 0) rfl (show zA K _ _ (.ref p_pool) p_pool from rfl)) (ea_cons (ev_var (i := 1) rfl (E.rd (r := zI) (v := v_programs) (d := p_programs) 1 rfl)) ea_nil)) 0 rfl h_q133 rfl fun v134 H E => ?_
  refine of_op ?_
  obtain ⟨d136, e_d136, hm⟩ := bnd hm
  refine En.run E (Ev.to (ev_add (ev_var (i := 0) rfl (E.rd (r := zI) (v := v132) (d := (1 : Int)) 1 rfl)) (ev_var (i := 1) rfl (E.rd (r := zI) (v := v134) (d := q133.1) 0 rfl))) (Option.some.inj e_d136)) fun v135 H E => ?_
  first | refine nx_ ?_ | skip
  refine asg_open ?_
  refine op_open ?_
  refine En.run E ev_int fun v137 H E => ?_
  obtain ⟨q138, h_q138, hm⟩ := bnd hm
  refine En.gcall E (ea_cons (ev_var (i := 0) rfl (show zA K _ _ (.ref p_pool) p_pool from rfl)) (ea_cons (ev_var (i := 2) rfl (E.rd (r := zI) (v := v_points) (d := p_points) 5 rfl)) ea_nil)) 0 rfl h_q138 rfl fun v139 H E => ?_
  refine of_op ?_
  obtain ⟨d141, e_d141, hm⟩ := bnd hm
  refine En.run E (Ev.to (ev_add (ev_var (i := 0) rfl (E.rd (r := zI) (v := v137) (d := (1 : Int)) 1 rfl)) (ev_var (i := 1) rfl (E.rd (r := zI) (v := v139) (d := q138.1) 0 rfl))) (Option.some.inj e_d141)) fun v140 H E => ?_
  first | refine nx_ ?_ | skip
  obtain ⟨j149, hm9, hm8⟩ := bnd hm
  refine seq_open ?_
  refine cut_ (fun σ9 H9 => ∃ (T : AS), ∃ (u150 : Option V), ∃ (u151 : Option V), ∃ (v152 : V), ∃ (u153 : Option V), ∃ (u154 : Option V), ∃ (u155 : Option V), ∃ (u156 : Option V), ∃ (u157 : Option V), σ9 = [some (.ref p_pool), u150, u151, some v135, some v152, u153, u154, u155, u156, u157] ∧ En K ⟨T00, [p_pool], H00⟩ [(fR zI v135 d136), (fR zI v152 j149.1)] [(cPx p_pool j149.2)] T H9) ?_ fun rest => ?_
  · rintro _ H ⟨T, u150, u151, v152, u153, u154, u155, u156, u157, rfl, E⟩
    have hm := hm8
    first | refine nx_ ?_ | skip
    refine asg_open ?_
    obtain ⟨q165, h_q165, hm⟩ := bnd hm
    refine En.gcall E (ea_cons (ev_var (i := 0) rfl (show zA K _ _ (.ref p_pool) p_pool from rfl)) (ea_cons ev_int ea_nil)) 0 rfl h_q165 rfl fun v166 H E => ?_
    first | refine nx_ ?_ | skip
    refine asg_open ?_
    obtain ⟨u168, h_u168, hm⟩ := bnd hm
    obtain ⟨q169, h_q169, hm⟩ := bnd hm
    refine En.gcall E (ea_cons (ev_var (i := 0) rfl (show zA K _ _ (.ref p_pool) p_pool from rfl)) (ea_cons (ev_shl ev_int (ev_var (i := 4) rfl (E.rd (r := zI) (v := v152) (d := j149.1) 2 rfl)) (grd_ok h_u168)) ea_nil)) 0 rfl h_q169 rfl fun v170 H E => ?_
    first | refine nx_ ?_ | skip
    refine asg_open ?_
    obtain ⟨d171, e_d171, hm⟩ := bnd hm
    refine En.newL (r := zI) E (EvF.to (ef_lst (xs := []) eh_nil (Nat.le_of_ble_eq_true rfl)) (Option.some.inj e_d171)) fun p172 H E => ?_
    first | refine nx_ ?_ | skip
    obtain ⟨u173, h_u173, hm⟩ := bnd hm
    obtain ⟨s176, h_s176, hm⟩ := bnd hm
    refine En.forP (K := K) (fun (b177 : Bs) (s174 : (List Int) × Px) (T : AS) (σ9 : L2.St) (H9 : Hp) => ∃ (u787 : Option V), ∃ (u788 : Option V), ∃ (u789 : Option V), ∃ (u790 : Option V), ∃ (u791 : Option V), σ9 = [some (.ref p_pool), u787, u788, u789, some v152, some v166, some v170, some (.ref p172), u790, u791] ∧ En K b177 [(fR zI v152 j149.1), (fR zI v166 q165.1), (fR zI v170 q169.1)] [(cL zI p172 s174.1), (cPx p_pool s174.2)] T H9) E (ei_range (ea_cons (ev_var (i := 3) rfl (E.rd (r := zI) (v := v135) (d := d136) 3 rfl)) ea_nil) (grd_ok h_u173).1 (grd_ok h_u173).2) h_s176 (fun H E => ⟨_, _, _, _, _, rfl, (En.facts (En.pick E [0, 1] (by decide) rfl) ⟨(E.rd (r := zI) (v := v152) (d := j149.1) 4 rfl), (E.rd (r := zI) (v := v166) (d := q165.1) 2 rfl), (E.rd (r := zI) (v := v170) (d := q169.1) 1 rfl), trivial⟩)⟩) (by rintro _ _ _ _ _ ⟨u787, u788, u789, u790, u791, rfl, E⟩; exact ⟨En.wd E, En.td E⟩) (fun b177 s174 x178 o175 T _ H1 H v179 D180 hx180 hI180 ex180 hr180 hm hrt180 hn180 => ?_) (fun H2 T _ H E2 hI180 => ?_)
    · obtain ⟨u787, u788, u789, u790, u791, rfl, E⟩ := hI180
      replace E := En.add (f := (fR zI v179 x178)) (En.ex E ex180) hr180
      refine gn ?_
      obtain ⟨j1092, hm9, hm8⟩ := bnd hm
      refine cut_ (fun σ9 H9 => ∃ (T : AS), ∃ (u1093 : Option V), ∃ (u1094 : Option V), ∃ (u1095 : Option V), ∃ (u1096 : Option V), ∃ (u1097 : Option V), σ9 = [some (.ref p_pool), u1093, u1094, u1095, some v152, some v166, some v170, some (.ref p172), u1096, u1097] ∧ En K b177 [(fR zI v152 j149.1), (fR zI v166 q165.1), (fR zI v170 q169.1)] [(cL zI p172 j1092.1), (cPx p_pool j1092.2)] T H9) ?_ fun rest => ?_
      · rintro _ H ⟨T, u1093, u1094, u1095, u1096, u1097, rfl, E⟩
        have hm := hm8
        have hj9 := Option.some.inj hm
        subst o175
        exact (hn180 _ _ _ ⟨_, _, _, _, _, rfl, (En.facts (En.pick E [0, 1] (by decide) rfl) ⟨(E.rd (r := zI) (v := v152) (d := j149.1) 0 rfl), (E.rd (r := zI) (v := v166) (d := q165.1) 1 rfl), (E.rd (r := zI) (v := v170) (d := q169.1) 2 rfl), trivial⟩)⟩).1
      · have hm := hm9
        refine ifs_open ?_
        refine En.test E (et_test (K := K) (ev_eqI (ev_var (i := 5) rfl (E.rd (r := zI) (v := v166) (d := q165.1) 2 rfl)) ev_int)) fun H E => ?_
        refine iteB (fun hc1397 => ?_) (fun hc1397 => ?_)
        · rw [if_pos hc1397] at hm
          refine drop_open ?_
          refine En.bm (p := p172) (r := zI) (xs := s174.1) E rfl 0 rfl ?_
          refine cons_open ?_
          obtain ⟨u1098, h_u1098, hm⟩ := bnd hm
          obtain ⟨u1099, h_u1099, hm⟩ := bnd hm
          obtain ⟨d1101, e_d1101, hm⟩ := bnd hm
          refine En.run E (Ev.to (ev_bxor (ev_var (i := 6) rfl (E.rd (r := zI) (v := v170) (d := q169.1) 3 rfl)) (ev_sub (ev_shl ev_int (ev_mod (ev_intI (ev_var (i := 8) rfl (E.rd (r := zI) (v := v179) (d := x178) 0 rfl))) (ev_add (ev_var (i := 4) rfl (E.rd (r := zI) (v := v152) (d := j149.1) 1 rfl)) ev_int) (grd_ok h_u1098)) (grd_ok h_u1099)) ev_int)) (Option.some.inj e_d1101)) fun v1100 H E => ?_
          refine nil_open ?_
          obtain ⟨_, hgd1102, hm⟩ := bnd hm
          obtain ⟨d1102, e_d1102, hm⟩ := bnd hm
          refine En.append (r := zI) (p := p172) (xs := s174.1) E 0 rfl (E.rd (r := zI) (v := v1100) (d := d1101) 0 rfl) (grd_ok hgd1102) fun H E => ?_
          rw [Option.some.inj e_d1102] at E
          have hj9 := Option.some.inj hm
          subst j1092
          exact rest _ _ ⟨_, _, _, _, _, _, rfl, (En.facts (En.pick E [0, 1] (by decide) rfl) ⟨(E.rd (r := zI) (v := v152) (d := j149.1) 2 rfl), (E.rd (r := zI) (v := v166) (d := q165.1) 3 rfl), (E.rd (r := zI) (v := v170) (d := q169.1) 4 rfl), trivial⟩)⟩
        · rw [if_neg (by rw [hc1397]; decide)] at hm
          obtain ⟨j1247, hm9, hm8⟩ := bnd hm
          refine cut_ (fun σ9 H9 => ∃ (T : AS), ∃ (u1248 : Option V), ∃ (u1249 : Option V), ∃ (u1250 : Option V), ∃ (u1251 : Option V), ∃ (u1252 : Option V), σ9 = [some (.ref p_pool), u1248, u1249, u1250, some v152, some v166, some v170, some (.ref p172), u1251, u1252] ∧ En K b177 [(fR zI v152 j149.1), (fR zI v166 q165.1), (fR zI v170 q169.1)] [(cL zI p172 j1247.1), (cPx p_pool j1247.2)] T H9) ?_ fun rest => ?_
          · rintro _ H ⟨T, u1248, u1249, u1250, u1251, u1252, rfl, E⟩
            have hm := hm8
            have hj9 := Option.some.inj hm
            subst j1092
            exact rest _ _ ⟨_, _, _, _, _, _, rfl, (En.facts (En.pick E [0, 1] (by decide) rfl) ⟨(E.rd (r := zI) (v := v152) (d := j149.1) 0 rfl), (E.rd (r := zI) (v := v166) (d := q165.1) 1 rfl), (E.rd (r := zI) (v := v170) (d := q169.1) 2 rfl), trivial⟩)⟩
          · have hm := hm9
            refine ifs_open ?_
            refine En.test E (et_test (K := K) (ev_eqI (ev_var (i := 5) rfl (E.rd (r := zI) (v := v166) (d := q165.1) 2 rfl)) ev_int)) fun H E => ?_
            refine iteB (fun hc1396 => ?_) (fun hc1396 => ?_)
            · rw [if_pos hc1396] at hm
              refine drop_open ?_
              refine En.bm (p := p172) (r := zI) (xs := s174.1) E rfl 0 rfl ?_
              refine cons_open ?_
              obtain ⟨u1253, h_u1253, hm⟩ := bnd hm
              obtain ⟨u1254, h_u1254, hm⟩ := bnd hm
              obtain ⟨d1256, e_d1256, hm⟩ := bnd hm
              refine En.run E (Ev.to (ev_bxor (ev_var (i := 6) rfl (E.rd (r := zI) (v := v170) (d := q169.1) 3 rfl)) (ev_mod (ev_intI (ev_var (i := 8) rfl (E.rd (r := zI) (v := v179) (d := x178) 0 rfl))) (ev_shl ev_int (ev_var (i := 4) rfl (E.rd (r := zI) (v := v152) (d := j149.1) 1 rfl)) (grd_ok h_u1253)) (grd_ok h_u1254))) (Option.some.inj e_d1256)) fun v1255 H E => ?_
              refine nil_open ?_
              obtain ⟨_, hgd1257, hm⟩ := bnd hm
              obtain ⟨d1257, e_d1257, hm⟩ := bnd hm
              refine En.append (r := zI) (p := p172) (xs := s174.1) E 0 rfl (E.rd (r := zI) (v := v1255) (d := d1256) 0 rfl) (grd_ok hgd1257) fun H E => ?_
              rw [Option.some.inj e_d1257] at E
              have hj9 := Option.some.inj hm
              subst j1247
              exact rest _ _ ⟨_, _, _, _, _, _, rfl, (En.facts (En.pick E [0, 1] (by decide) rfl) ⟨(E.rd (r := zI) (v := v152) (d := j149.1) 2 rfl), (E.rd (r := zI) (v := v166) (d := q165.1) 3 rfl), (E.rd (r := zI) (v := v170) (d := q169.1) 4 rfl), trivial⟩)⟩
            · rw [if_neg (by rw [hc1396]; decide)] at hm
              obtain ⟨j1324, hm9, hm8⟩ := bnd hm
              refine cut_ (fun σ9 H9 => ∃ (T : AS), ∃ (u1325 : Option V), ∃ (u1326 : Option V), ∃ (u1327 : Option V), ∃ (u1328 : Option V), ∃ (u1329 : Option V), σ9 = [some (.ref p_pool), u1325, u1326, u1327, some v152, some v166, some v170, some (.ref p172), u1328, u1329] ∧ En K b177 [(fR zI v152 j149.1), (fR zI v166 q165.1), (fR zI v170 q169.1)] [(cL zI p172 j1324.1), (cPx p_pool j1324.2)] T H9) ?_ fun rest => ?_
              · rintro _ H ⟨T, u1325, u1326, u1327, u1328, u1329, rfl, E⟩
                have hm := hm8
                have hj9 := Option.some.inj hm
                subst j1247
                exact rest _ _ ⟨_, _, _, _, _, _, rfl, (En.facts (En.pick E [0, 1] (by decide) rfl) ⟨(E.rd (r := zI) (v := v152) (d := j149.1) 0 rfl), (E.rd (r := zI) (v := v166) (d := q165.1) 1 rfl), (E.rd (r := zI) (v := v170) (d := q169.1) 2 rfl), trivial⟩)⟩
              · have hm := hm9
                refine ifs_open ?_
                refine En.test E (et_and (et_test (K := K) (ev_eqI (ev_var (i := 5) rfl (E.rd (r := zI) (v := v166) (d := q165.1) 2 rfl)) ev_int)) fun hc1331 => (et_and (et_test (K := K) (ev_gt (ev_var (i := 8) rfl (E.rd (r := zI) (v := v179) (d := x178) 0 rfl)) ev_int)) fun hc1330 => (et_test (K := K) (ev_gt (ev_var (i := 4) rfl (E.rd (r := zI) (v := v152) (d := j149.1) 1 rfl)) ev_int)))) fun H E => ?_
                refine iteB (fun hc1395 => ?_) (fun hc1395 => ?_)
                · rw [if_pos hc1395] at hm
                  refine drop_open ?_
                  refine En.bm (p := p172) (r := zI) (xs := s174.1) E rfl 0 rfl ?_
                  refine cons_open ?_
                  refine op_open ?_
                  refine op_open ?_
                  refine ⟨.ref p172, rfl, ?_⟩
                  obtain ⟨q1332, h_q1332, hm⟩ := bnd hm
                  refine En.gcall E (ea_cons (ev_var (i := 0) rfl (show zA K _ _ (.ref p_pool) p_pool from rfl)) (ea_cons (ev_var (i := 8) rfl (E.rd (r := zI) (v := v179) (d := x178) 0 rfl)) ea_nil)) 1 rfl h_q1332 rfl fun v1333 H E => ?_
                  refine of_op ?_
                  obtain ⟨x1334, h_x1334, hm⟩ := bnd hm
                  refine En.runB E (ev_ixL (ev_var (i := 0) rfl (E.clB (r := zI) (p := p172) (xs := s174.1) 0 rfl)) (ev_var (i := 1) rfl (E.rdB (r := zI) (v := v1333) (d := q1332.1) 0 rfl)) h_x1334) fun v1335 H E => ?_
                  refine op_open ?_
                  refine En.run E ev_int fun v1336 H E => ?_
                  obtain ⟨q1337, h_q1337, hm⟩ := bnd hm
                  refine En.gcall E (ea_cons (ev_var (i := 0) rfl (show zA K _ _ (.ref p_pool) p_pool from rfl)) (ea_cons (ev_var (i := 4) rfl (E.rd (r := zI) (v := v152) (d := j149.1) 4 rfl)) ea_nil)) 1 rfl h_q1337 rfl fun v1338 H E => ?_
                  refine of_op ?_
                  obtain ⟨u1339, h_u1339, hm⟩ := bnd hm
                  obtain ⟨d1341, e_d1341, hm⟩ := bnd hm
                  refine En.run E (Ev.to (ev_shl (ev_var (i := 0) rfl (E.rd (r := zI) (v := v1336) (d := (1 : Int)) 1 rfl)) (ev_var (i := 1) rfl (E.rd (r := zI) (v := v1338) (d := q1337.1) 0 rfl)) (grd_ok h_u1339)) (Option.some.inj e_d1341)) fun v1340 H E => ?_
                  refine of_op ?_
                  obtain ⟨d1343, e_d1343, hm⟩ := bnd hm
                  refine En.run E (Ev.to (ev_bxor (ev_var (i := 0) rfl (E.rd (r := zI) (v := v1335) (d := x1334) 3 rfl)) (ev_var (i := 1) rfl (E.rd (r := zI) (v := v1340) (d := d1341) 0 rfl))) (Option.some.inj e_d1343)) fun v1342 H E => ?_
                  refine nil_open ?_
                  obtain ⟨_, hgd1344, hm⟩ := bnd hm
                  obtain ⟨d1344, e_d1344, hm⟩ := bnd hm
                  refine En.append (r := zI) (p := p172) (xs := s174.1) E 0 rfl (E.rd (r := zI) (v := v1342) (d := d1343) 0 rfl) (grd_ok hgd1344) fun H E => ?_
                  rw [Option.some.inj e_d1344] at E
                  have hj9 := Option.some.inj hm
                  subst j1324
                  exact rest _ _ ⟨_, _, _, _, _, _, rfl, (En.facts (En.pick E [0, 1] (by decide) rfl) ⟨(E.rd (r := zI) (v := v152) (d := j149.1) 7 rfl), (E.rd (r := zI) (v := v166) (d := q165.1) 8 rfl), (E.rd (r := zI) (v := v170) (d := q169.1) 9 rfl), trivial⟩)⟩
                · rw [if_neg (by rw [hc1395]; decide)] at hm
                  obtain ⟨j1367, hm9, hm8⟩ := bnd hm
                  refine cut_ (fun σ9 H9 => ∃ (T : AS), ∃ (u1368 : Option V), ∃ (u1369 : Option V), ∃ (u1370 : Option V), ∃ (u1371 : Option V), ∃ (u1372 : Option V), σ9 = [some (.ref p_pool), u1368, u1369, u1370, some v152, some v166, some v170, some (.ref p172), u1371, u1372] ∧ En K b177 [(fR zI v152 j149.1), (fR zI v166 q165.1), (fR zI v170 q169.1)] [(cL zI p172 j1367.1), (cPx p_pool j1367.2)] T H9) ?_ fun rest => ?_
                  · rintro _ H ⟨T, u1368, u1369, u1370, u1371, u1372, rfl, E⟩
                    have hm := hm8
                    have hj9 := Option.some.inj hm
                    subst j1324
                    exact rest _ _ ⟨_, _, _, _, _, _, rfl, (En.facts (En.pick E [0, 1] (by decide) rfl) ⟨(E.rd (r := zI) (v := v152) (d := j149.1) 0 rfl), (E.rd (r := zI) (v := v166) (d := q165.1) 1 rfl), (E.rd (r := zI) (v := v170) (d := q169.1) 2 rfl), trivial⟩)⟩
                  · have hm := hm9
                    refine ifs_open ?_
                    refine and_open ?_
                    refine En.test2 E (et_test (K := K) (ev_gt (ev_var (i := 8) rfl (E.rd (r := zI) (v := v179) (d := x178) 0 rfl)) ev_int)) (fun hc1394 H E => ?_) (fun hc1394 H E => ?_)
                    · rw [if_pos hc1394] at hm
                      refine iteT ?_
                      refine test_open ?_
                      refine op_open ?_
                      obtain ⟨q1373, h_q1373, hm⟩ := bnd hm
                      refine En.gcall E (ea_cons (ev_var (i := 0) rfl (show zA K _ _ (.ref p_pool) p_pool from rfl)) (ea_cons ev_int ea_nil)) 1 rfl h_q1373 rfl fun v1374 H E => ?_
                      refine En.run E ev_int fun v1375 H E => ?_
                      refine of_op ?_
                      obtain ⟨d1377, e_d1377, hm⟩ := bnd hm
                      refine En.run E (Ev.to (ev_eqI (ev_var (i := 0) rfl (E.rd (r := zI) (v := v1374) (d := q1373.1) 1 rfl)) (ev_var (i := 1) rfl (E.rd (r := zI) (v := v1375) (d := (0 : Int)) 0 rfl))) (Option.some.inj e_d1377)) fun v1376 H E => ?_
                      refine tb2 (E.rd (r := zB) (v := v1376) (d := d1377) 0 rfl) (fun hc1388 => ?_) (fun hc1388 => ?_)
                      · rw [if_pos hc1388] at hm
                        refine iteT ?_
                        refine drop_open ?_
                        refine En.bm (p := p172) (r := zI) (xs := s174.1) E rfl 0 rfl ?_
                        refine cons_open ?_
                        refine op_open ?_
                        refine ⟨.ref p172, rfl, ?_⟩
                        obtain ⟨q1378, h_q1378, hm⟩ := bnd hm
                        refine En.gcall E (ea_cons (ev_var (i := 0) rfl (show zA K _ _ (.ref p_pool) p_pool from rfl)) (ea_cons (ev_var (i := 8) rfl (E.rd (r := zI) (v := v179) (d := x178) 3 rfl)) ea_nil)) 1 rfl h_q1378 rfl fun v1379 H E => ?_
                        refine of_op ?_
                        obtain ⟨x1380, h_x1380, hm⟩ := bnd hm
                        refine En.runB E (ev_ixL (ev_var (i := 0) rfl (E.clB (r := zI) (p := p172) (xs := s174.1) 0 rfl)) (ev_var (i := 1) rfl (E.rdB (r := zI) (v := v1379) (d := q1378.1) 0 rfl)) h_x1380) fun v1381 H E => ?_
                        refine nil_open ?_
                        obtain ⟨_, hgd1382, hm⟩ := bnd hm
                        obtain ⟨d1382, e_d1382, hm⟩ := bnd hm
                        refine En.append (r := zI) (p := p172) (xs := s174.1) E 0 rfl (E.rd (r := zI) (v := v1381) (d := x1380) 0 rfl) (grd_ok hgd1382) fun H E => ?_
                        rw [Option.some.inj e_d1382] at E
                        have hj9 := Option.some.inj hm
                        subst j1367
                        exact rest _ _ ⟨_, _, _, _, _, _, rfl, (En.facts (En.pick E [0, 1] (by decide) rfl) ⟨(E.rd (r := zI) (v := v152) (d := j149.1) 6 rfl), (E.rd (r := zI) (v := v166) (d := q165.1) 7 rfl), (E.rd (r := zI) (v := v170) (d := q169.1) 8 rfl), trivial⟩)⟩
                      · rw [if_neg (by rw [hc1388]; decide)] at hm
                        refine iteF ?_
                        refine drop_open ?_
                        refine En.bm (p := p172) (r := zI) (xs := s174.1) E rfl 0 rfl ?_
                        refine cons_open ?_
                        obtain ⟨u1384, h_u1384, hm⟩ := bnd hm
                        obtain ⟨q1385, h_q1385, hm⟩ := bnd hm
                        refine En.gcall E (ea_cons (ev_var (i := 0) rfl (show zA K _ _ (.ref p_pool) p_pool from rfl)) (ea_cons (ev_shl ev_int (ev_var (i := 4) rfl (E.rd (r := zI) (v := v152) (d := j149.1) 4 rfl)) (grd_ok h_u1384)) ea_nil)) 1 rfl h_q1385 rfl fun v1386 H E => ?_
                        refine nil_open ?_
                        obtain ⟨_, hgd1387, hm⟩ := bnd hm
                        obtain ⟨d1387, e_d1387, hm⟩ := bnd hm
                        refine En.append (r := zI) (p := p172) (xs := s174.1) E 0 rfl (E.rd (r := zI) (v := v1386) (d := q1385.1) 0 rfl) (grd_ok hgd1387) fun H E => ?_
                        rw [Option.some.inj e_d1387] at E
                        have hj9 := Option.some.inj hm
                        subst j1367
                        exact rest _ _ ⟨_, _, _, _, _, _, rfl, (En.facts (En.pick E [0, 1] (by decide) rfl) ⟨(E.rd (r := zI) (v := v152) (d := j149.1) 5 rfl), (E.rd (r := zI) (v := v166) (d := q165.1) 6 rfl), (E.rd (r := zI) (v := v170) (d := q169.1) 7 rfl), trivial⟩)⟩
                    · rw [if_neg (by rw [hc1394]; decide)] at hm
                      refine iteF ?_
                      refine iteF ?_
                      refine drop_open ?_
                      refine En.bm (p := p172) (r := zI) (xs := s174.1) E rfl 0 rfl ?_
                      refine cons_open ?_
                      obtain ⟨u1390, h_u1390, hm⟩ := bnd hm
                      obtain ⟨q1391, h_q1391, hm⟩ := bnd hm
                      refine En.gcall E (ea_cons (ev_var (i := 0) rfl (show zA K _ _ (.ref p_pool) p_pool from rfl)) (ea_cons (ev_shl ev_int (ev_var (i := 4) rfl (E.rd (r := zI) (v := v152) (d := j149.1) 1 rfl)) (grd_ok h_u1390)) ea_nil)) 1 rfl h_q1391 rfl fun v1392 H E => ?_
                      refine nil_open ?_
                      obtain ⟨_, hgd1393, hm⟩ := bnd hm
                      obtain ⟨d1393, e_d1393, hm⟩ := bnd hm
                      refine En.append (r := zI) (p := p172) (xs := s174.1) E 0 rfl (E.rd (r := zI) (v := v1392) (d := q1391.1) 0 rfl) (grd_ok hgd1393) fun H E => ?_
                      rw [Option.some.inj e_d1393] at E
                      have hj9 := Option.some.inj hm
                      subst j1367
                      exact rest _ _ ⟨_, _, _, _, _, _, rfl, (En.facts (En.pick E [0, 1] (by decide) rfl) ⟨(E.rd (r := zI) (v := v152) (d := j149.1) 2 rfl), (E.rd (r := zI) (v := v166) (d := q165.1) 3 rfl), (E.rd (r := zI) (v := v170) (d := q169.1) 4 rfl), trivial⟩)⟩
    · obtain ⟨u787, u788, u789, u790, u791, rfl, E⟩ := hI180
      replace E := En.back E2 E
      first | refine nx_ ?_ | skip
      replace E := En.freeze (r := zI) (p := p172) (xs := s176.1) (cs := [(cPx p_pool s176.2)]) E (by simp [owns])
      refine ret_open ?_
      obtain ⟨x1400, h_x1400, hm⟩ := bnd hm
      refine En.run E (ev_lcO1 E.td (ei_list (ev_var (i := 7) rfl (E.rd (r := (zL zI)) (v := (.ref p172)) (d := s176.1) 0 rfl))) h_x1400 (fun T1398 H1398 v1398 x1398 L1398 hT1398 hx1398 r1398 Q1398 q1398 => q1398 _ wipe1 (fun y1398 hy1398 => by
          obtain ⟨r1399, h_r1399, hy1398⟩ := bnd hy1398; cases hy1398; exact (ev_callO hT1398 (ea_cons (ev_var (i := 9) rfl r1398) (ea_cons (ev_var (i := 4) rfl (L1398.ap (E.rd (r := zI) (v := v152) (d := j149.1) 1 rfl))) ea_nil)) h_r1399)))) fun v1401 H E => ?_
      have hr9 := Prod.mk.inj (Option.some.inj hm)
      have hr8 := hr9.1
      have hr7 := hr9.2
      subst res
      subst sres
      exact hQ _ _ (En.fr E) (En.outc E (c := (cPx p_pool s176.2)) 0 rfl) (En.out E (En.at E (f := (fR (zL zW) v1401 x1400)) 0 rfl))
  · have hm := hm9
    refine ifs_open ?_
    refine test_open ?_
    refine op_open ?_
    obtain ⟨q158, h_q158, hm⟩ := bnd hm
    refine En.gcall E (ea_cons (ev_var (i := 0) rfl (show zA K _ _ (.ref p_pool) p_pool from rfl)) (ea_cons ev_int ea_nil)) 0 rfl h_q158 rfl fun v159 H E => ?_
    refine En.run E ev_int fun v160 H E => ?_
    refine of_op ?_
    obtain ⟨d162, e_d162, hm⟩ := bnd hm
    refine En.run E (Ev.to (ev_eqI (ev_var (i := 0) rfl (E.rd (r := zI) (v := v159) (d := q158.1) 1 rfl)) (ev_var (i := 1) rfl (E.rd (r := zI) (v := v160) (d := (0 : Int)) 0 rfl))) (Option.some.inj e_d162)) fun v161 H E => ?_
    refine tb2 (E.rd (r := zB) (v := v161) (d := d162) 0 rfl) (fun hc164 => ?_) (fun hc164 => ?_)
    · rw [if_pos hc164] at hm
      refine iteT ?_
      refine asg_open ?_
      refine En.run E ev_int fun v163 H E => ?_
      have hj9 := Option.some.inj hm
      subst j149
      exact rest _ _ ⟨_, _, _, v163, _, _, _, _, _, rfl, (En.facts (En.pick E [0] (by decide) rfl) ⟨(E.rd (r := zI) (v := v135) (d := d136) 7 rfl), (E.rd (r := zI) (v := v163) (d := (0 : Int)) 0 rfl), trivial⟩)⟩
    · rw [if_neg (by rw [hc164]; decide)] at hm
      refine iteF ?_
      have hj9 := Option.some.inj hm
      subst j149
      exact rest _ _ ⟨_, _, _, v140, _, _, _, _, _, rfl, (En.facts (En.pick E [0] (by decide) rfl) ⟨(E.rd (r := zI) (v := v135) (d := d136) 6 rfl), (E.rd (r := zI) (v := v140) (d := d141) 3 rfl), trivial⟩)⟩

def m__law_is_integer (p_value : PyData) : Option Bool :=
some ((isD "int" p_value) && (!(isD "bool" p_value)))
abbrev sp__law_is_integer (K : PySem.W.Frag) : Sp := FSp K (aC zD aN) zB (fun (a : PyData × Unit) => m__law_is_integer a.1)
theorem ok__law_is_integer (S : Tx K mg)  : Ok P w K mg base 1 ("_law_is_integer", none) ["value"] (sp__law_is_integer K) := by
  obtain ⟨fd, D⟩ := d__law_is_integer S
  refine mk_ok D sc__law_is_integer (D.bindsN fun _ _ _ _ _ _ us hl => match us, hl with | [_], _ => rfl) (FSp_len len1) (fun cdv A outer s H00 vs Q E hr h => ?_)
  obtain ⟨T00, ⟨p_value, _⟩, res, hT, ⟨v_value, _, rfl, r_value, rfl⟩, hm, hQ⟩ := h
  refine ⟨_, (pss_one (ps_ret (pe_and (pe_callB (kc_isi (K := K)) (by rfl) (m_isinstance S) bt_isinstance (pa_cons (pv 0) (pa_cons (pe_cls (by rfl) (m_int S) bt_int) pa_nil))) (pe_one (pe_not (pe_callB (kc_isi (K := K)) (by rfl) (m_isinstance S) bt_isinstance (pa_cons (pv 0) (pa_cons (pe_cls (by rfl) (m_bool S) bt_bool) pa_nil)))))))), ?_⟩
  have E : En K ⟨T00, [], H00⟩ [(fR zD v_value p_value)] [] T00 H00 := En.start hT ⟨r_value, trivial⟩
  replace hm : m__law_is_integer p_value = some res := hm
  unfold m__law_is_integer at hm
  refine ret_open ?_
  refine En.run E (ev_andV (ev_isiD (n := "int") (ev_var (i := 0) rfl (E.rd (r := zD) (v := v_value) (d := p_value) 0 rfl))) fun hc1402 => (ev_notV (ev_isiD (n := "bool") (ev_var (i := 0) rfl (E.rd (r := zD) (v := v_value) (d := p_value) 0 rfl))))) fun v1403 H E => ?_
  have hr9 := Option.some.inj hm
  subst res
  exact hQ _ _ (En.isEx E) (En.out E (En.at E (f := (fR zB v1403 ((isD "int" p_value) && (!(isD "bool" p_value))))) 0 rfl))

def m__law_alike : Nat → PyData → PyData → Option Bool
  | 0, _, _ => none
  | n9 + 1, p_one, p_other =>
    (if (dNone p_other) = true then
    some (dNone p_one)
    else
    (if (isBl p_other true) = true then
    some (isBl p_one true)
    else
    (if (isBl p_other false) = true then
    some (isBl p_one false)
    else
    (if (isD "int" p_other) = true then
    ((m__law_is_integer p_one).bind fun (r1407 : Bool) =>
    ((if r1407 = true then ((grd (SeqAt.shaped p_one = true)).bind fun (u1408 : Unit) =>
    ((grd (SeqAt.shaped p_other = true)).bind fun (u1409 : Unit) =>
    some (PyData.eqv p_one p_other))) else some false).bind fun (b1411 : Bool) =>
    some b1411))
    else
    (if (isD "str" p_other) = true then
    ((if (isD "str" p_one) = true then ((dStr p_one).bind fun (x1414 : Str) =>
    ((grd (SeqAt.shaped (PyData.str x1414) = true)).bind fun (u1415 : Unit) =>
    ((grd (SeqAt.shaped p_other = true)).bind fun (u1416 : Unit) =>
    some (PyData.eqv (PyData.str x1414) p_other)))) else some false).bind fun (b1418 : Bool) =>
    some b1418)
    else
    (if ((!decide ((isD "list" p_one) = (isD "list" p_other))) || (!decide ((isD "tuple" p_one) = (isD "tuple" p_other)))) = true then
    some false
    else
    ((dLen p_one).bind fun (x1423 : Int) =>
    ((dLen p_other).bind fun (x1424 : Int) =>
    ((if (decide (x1423 = x1424)) = true then ((dLen p_other).bind fun (x1425 : Int) =>
    ((grd (x1425 ≤ 1000000 ∧ -1000000 ≤ x1425)).bind fun (u1426 : Unit) =>
    ((mapO (fun (x1427 : Int) =>
    ((dIx p_one x1427).bind fun (x1434 : PyData) =>
    ((dIx p_other x1427).bind fun (x1435 : PyData) =>
    ((m__law_alike n9 x1434 x1435).bind fun (r1436 : Bool) =>
    some r1436)))) (rng 0 (x1425).toNat)).bind fun (x1437 : (List Bool)) =>
    some ((x1437).all id)))) else some false).bind fun (b1439 : Bool) =>
    some b1439)))))))))
abbrev sp__law_alike (n : Nat) (K : PySem.W.Frag) : Sp := FSp K (aC zD (aC zD aN)) zB (fun (a : PyData × PyData × Unit) => m__law_alike n a.1 a.2.1)
theorem okn__law_alike (S : Tx K mg) (G__law_is_integer : Ok P w K mg base 1 ("_law_is_integer", none) ["value"] (sp__law_is_integer K)) : ∀ n, Ok P w K mg base (2 + n) ("_law_alike", none) ["one", "other"] (sp__law_alike n K) := by
  obtain ⟨fd, D⟩ := d__law_alike S
  intro n
  induction n with
  | zero =>
    refine mk_ok (k := 1) D sc__law_alike (D.bindsN fun _ _ _ _ _ _ us hl => match us, hl with | [_, _], _ => rfl) (FSp_len len2) (fun cdv A outer s H00 vs Q E hr h => ?_)
    obtain ⟨T00, ⟨p_one, p_other, _⟩, res, hT, ⟨v_one, _, rfl, r_one, v_other, _, rfl, r_other, rfl⟩, hm, hQ⟩ := h
    cases hm
  | succ n9 ih =>
    refine mk_ok (k := 2 + n9) D sc__law_alike (D.bindsN fun _ _ _ _ _ _ us hl => match us, hl with | [_, _], _ => rfl) (FSp_len len2) (fun cdv A outer s H00 vs Q E hr h => ?_)
    obtain ⟨T00, ⟨p_one, p_other, _⟩, res, hT, ⟨v_one, _, rfl, r_one, v_other, _, rfl, r_other, rfl⟩, hm, hQ⟩ := h
    refine ⟨_, (pss_cons (ps_if (pt_cmpR op_isN (pv 1) pe_non (nomark _)) (pss_one (ps_ret (pe_cmpR op_isN (pv 0) pe_non (nomark _)))) pss_nil) (pss_cons (ps_if (pt_cmpR op_isT (pv 1) pe_bl (nomark _)) (pss_one (ps_ret (pe_cmpR op_isT (pv 0) pe_bl (nomark _)))) pss_nil) (pss_cons (ps_if (pt_cmpR op_isT (pv 1) pe_bl (nomark _)) (pss_one (ps_ret (pe_cmpR op_isT (pv 0) pe_bl (nomark _)))) pss_nil) (pss_cons (ps_if (pt_val (pe_callB (kc_isi (K := K)) (by rfl) (m_isinstance S) bt_isinstance (pa_cons (pv 1) (pa_cons (pe_cls (by rfl) (m_int S) bt_int) pa_nil)))) (pss_one (ps_ret (pe_and (pe_callG G__law_is_integer hr (by omega) (by rfl) (g__law_is_integer S) (pa_cons (pv 0) pa_nil)) (pe_one (pe_cmpR (op_eqDQ (room_64 hr)) (pv 0) (pv 1) (nomark _)))))) pss_nil) (pss_cons (ps_if (pt_val (pe_callB (kc_isi (K := K)) (by rfl) (m_isinstance S) bt_isinstance (pa_cons (pv 1) (pa_cons (pe_cls (by rfl) (m_str S) bt_str) pa_nil)))) (pss_one (ps_ret (pe_and (pe_callB (kc_isi (K := K)) (by rfl) (m_isinstance S) bt_isinstance (pa_cons (pv 0) (pa_cons (pe_cls (by rfl) (m_str S) bt_str) pa_nil))) (pe_one (pe_cmpR (op_eqDQ (room_64 hr)) (pv 0) (pv 1) (nomark _)))))) pss_nil) (pss_cons (ps_if (PW.pt (pw_or (pt_cmpR op_ne (pe_callB (kc_isi (K := K)) (by rfl) (m_isinstance S) bt_isinstance (pa_cons (pv 0) (pa_cons (pe_cls (by rfl) (m_list S) bt_list) pa_nil))) (pe_callB (kc_isi (K := K)) (by rfl) (m_isinstance S) bt_isinstance (pa_cons (pv 1) (pa_cons (pe_cls (by rfl) (m_list S) bt_list) pa_nil))) (nomark _)) (pw_or1 (pt_cmpR op_ne (pe_callB (kc_isi (K := K)) (by rfl) (m_isinstance S) bt_isinstance (pa_cons (pv 0) (pa_cons (pe_cls (by rfl) (m_tuple S) bt_tuple) pa_nil))) (pe_callB (kc_isi (K := K)) (by rfl) (m_isinstance S) bt_isinstance (pa_cons (pv 1) (pa_cons (pe_cls (by rfl) (m_tuple S) bt_tuple) pa_nil))) (nomark _))))) (pss_one (ps_ret pe_bl)) pss_nil) (pss_one (ps_ret (pe_and (pe_cmpR op_eq (pe_callB (kc_lenD (K := K)) (by rfl) (m_len S) bt_len (pa_cons (pv 0) pa_nil)) (pe_callB (kc_lenD (K := K)) (by rfl) (m_len S) bt_len (pa_cons (pv 1) pa_nil)) (nomark _)) (pe_one (pe_callB (kr_all (K := K) rfl) (by rfl) (m_all S) bt_all (pa_cons (pe_lc (own := [("k", 2)]) (by rfl) sc__law_alike.nd (pi_range1 (by rfl) (m_range S) (pa_cons (pe_callB (kc_lenD (K := K)) (by rfl) (m_len S) bt_len (pa_cons (pv 1) pa_nil)) pa_nil)) (blkOk_by (N := ["one", "other", "k"]) (sc := defScope s__law_alike) (by decide +kernel)) (fun _ _ _ _ _ => pg_name (i := 2) sc__law_alike.nd rfl (.inl rfl)) (fun _ _ _ _ _ => pts_nil) (fun _ _ _ _ _ => (pe_callG ih hr (by omega) (by rfl) (g__law_alike S) (pa_cons (pe_ix (kx_seq (K := K)) (pv 0) (pv 2) (fun _ _ => rfl)) (pa_cons (pe_ix (kx_seq (K := K)) (pv 1) (pv 2) (fun _ _ => rfl)) pa_nil))))) pa_nil)))))))))))), ?_⟩
    have E : En K ⟨T00, [], H00⟩ [(fR zD v_one p_one), (fR zD v_other p_other)] [] T00 H00 := En.start hT ⟨r_one, r_other, trivial⟩
    replace hm : m__law_alike (n9 + 1) p_one p_other = some res := hm
    unfold m__law_alike at hm
    refine ifs_open ?_
    refine En.test E (et_test (K := K) (ev_isND (ev_var (i := 1) rfl (E.rd (r := zD) (v := v_other) (d := p_other) 1 rfl)))) fun H E => ?_
    refine iteB (fun hc1447 => ?_) (fun hc1447 => ?_)
    · rw [if_pos hc1447] at hm
      refine ret_open ?_
      refine En.run E (ev_isND (ev_var (i := 0) rfl (E.rd (r := zD) (v := v_one) (d := p_one) 0 rfl))) fun v1404 H E => ?_
      have hr9 := Option.some.inj hm
      subst res
      exact hQ _ _ (En.isEx E) (En.out E (En.at E (f := (fR zB v1404 (dNone p_one))) 0 rfl))
    · rw [if_neg (by rw [hc1447]; decide)] at hm
      first | refine nx_ ?_ | skip
      refine ifs_open ?_
      refine En.test E (et_test (K := K) (ev_isTD (ev_var (i := 1) rfl (E.rd (r := zD) (v := v_other) (d := p_other) 1 rfl)) ev_bl)) fun H E => ?_
      refine iteB (fun hc1446 => ?_) (fun hc1446 => ?_)
      · rw [if_pos hc1446] at hm
        refine ret_open ?_
        refine En.run E (ev_isTD (ev_var (i := 0) rfl (E.rd (r := zD) (v := v_one) (d := p_one) 0 rfl)) ev_bl) fun v1405 H E => ?_
        have hr9 := Option.some.inj hm
        subst res
        exact hQ _ _ (En.isEx E) (En.out E (En.at E (f := (fR zB v1405 (isBl p_one true))) 0 rfl))
      · rw [if_neg (by rw [hc1446]; decide)] at hm
        first | refine nx_ ?_ | skip
        refine ifs_open ?_
        refine En.test E (et_test (K := K) (ev_isTD (ev_var (i := 1) rfl (E.rd (r := zD) (v := v_other) (d := p_other) 1 rfl)) ev_bl)) fun H E => ?_
        refine iteB (fun hc1445 => ?_) (fun hc1445 => ?_)
        · rw [if_pos hc1445] at hm
          refine ret_open ?_
          refine En.run E (ev_isTD (ev_var (i := 0) rfl (E.rd (r := zD) (v := v_one) (d := p_one) 0 rfl)) ev_bl) fun v1406 H E => ?_
          have hr9 := Option.some.inj hm
          subst res
          exact hQ _ _ (En.isEx E) (En.out E (En.at E (f := (fR zB v1406 (isBl p_one false))) 0 rfl))
        · rw [if_neg (by rw [hc1445]; decide)] at hm
          first | refine nx_ ?_ | skip
          refine ifs_open ?_
          refine En.test E (et_B (K := K) (ev_isiD (n := "int") (ev_var (i := 1) rfl (E.rd (r := zD) (v := v_other) (d := p_other) 1 rfl)))) fun H E => ?_
          refine iteB (fun hc1444 => ?_) (fun hc1444 => ?_)
          · rw [if_pos hc1444] at hm
            refine ret_open ?_
            obtain ⟨r1407, h_r1407, hm⟩ := bnd hm
            obtain ⟨b1411, h_b1411, hm⟩ := bnd hm
            refine En.run E (ev_andO (ev_callO E.td (ea_cons (ev_var (i := 0) rfl (E.rd (r := zD) (v := v_one) (d := p_one) 0 rfl)) ea_nil) h_r1407) (fun hc1410 y1412 hy1412 => by
          obtain ⟨u1408, h_u1408, hy1412⟩ := bnd hy1412; obtain ⟨u1409, h_u1409, hy1412⟩ := bnd hy1412; cases hy1412; exact (ev_eqDD (ev_var (i := 0) rfl (E.rd (r := zD) (v := v_one) (d := p_one) 0 rfl)) (ev_var (i := 1) rfl (E.rd (r := zD) (v := v_other) (d := p_other) 1 rfl)) (grd_ok h_u1408) (grd_ok h_u1409))) h_b1411) fun v1413 H E => ?_
            have hr9 := Option.some.inj hm
            subst res
            exact hQ _ _ (En.isEx E) (En.out E (En.at E (f := (fR zB v1413 b1411)) 0 rfl))
          · rw [if_neg (by rw [hc1444]; decide)] at hm
            first | refine nx_ ?_ | skip
            refine ifs_open ?_
            refine En.test E (et_B (K := K) (ev_isiD (n := "str") (ev_var (i := 1) rfl (E.rd (r := zD) (v := v_other) (d := p_other) 1 rfl)))) fun H E => ?_
            refine iteB (fun hc1443 => ?_) (fun hc1443 => ?_)
            · rw [if_pos hc1443] at hm
              refine ret_open ?_
              obtain ⟨b1418, h_b1418, hm⟩ := bnd hm
              refine En.run E (ev_andO (ev_isiD (n := "str") (ev_var (i := 0) rfl (E.rd (r := zD) (v := v_one) (d := p_one) 0 rfl))) (fun hc1417 y1419 hy1419 => by
          obtain ⟨x1414, h_x1414, hy1419⟩ := bnd hy1419; obtain ⟨u1415, h_u1415, hy1419⟩ := bnd hy1419; obtain ⟨u1416, h_u1416, hy1419⟩ := bnd hy1419; cases hy1419; exact (ev_eqDD (ev_toD (ev_dS (ev_var (i := 0) rfl (E.rd (r := zD) (v := v_one) (d := p_one) 0 rfl)) h_x1414)) (ev_var (i := 1) rfl (E.rd (r := zD) (v := v_other) (d := p_other) 1 rfl)) (grd_ok h_u1415) (grd_ok h_u1416))) h_b1418) fun v1420 H E => ?_
              have hr9 := Option.some.inj hm
              subst res
              exact hQ _ _ (En.isEx E) (En.out E (En.at E (f := (fR zB v1420 b1418)) 0 rfl))
            · rw [if_neg (by rw [hc1443]; decide)] at hm
              first | refine nx_ ?_ | skip
              refine ifs_open ?_
              refine En.test E (et_or (et_test (K := K) (ev_neBl (ev_isiD (n := "list") (ev_var (i := 0) rfl (E.rd (r := zD) (v := v_one) (d := p_one) 0 rfl))) (ev_isiD (n := "list") (ev_var (i := 1) rfl (E.rd (r := zD) (v := v_other) (d := p_other) 1 rfl))))) fun hc1421 => (et_test (K := K) (ev_neBl (ev_isiD (n := "tuple") (ev_var (i := 0) rfl (E.rd (r := zD) (v := v_one) (d := p_one) 0 rfl))) (ev_isiD (n := "tuple") (ev_var (i := 1) rfl (E.rd (r := zD) (v := v_other) (d := p_other) 1 rfl)))))) fun H E => ?_
              refine iteB (fun hc1442 => ?_) (fun hc1442 => ?_)
              · rw [if_pos hc1442] at hm
                refine ret_open ?_
                refine En.run E ev_bl fun v1422 H E => ?_
                have hr9 := Option.some.inj hm
                subst res
                exact hQ _ _ (En.isEx E) (En.out E (En.at E (f := (fR zB v1422 false)) 0 rfl))
              · rw [if_neg (by rw [hc1442]; decide)] at hm
                first | refine nx_ ?_ | skip
                refine ret_open ?_
                obtain ⟨x1423, h_x1423, hm⟩ := bnd hm
                obtain ⟨x1424, h_x1424, hm⟩ := bnd hm
                obtain ⟨b1439, h_b1439, hm⟩ := bnd hm
                refine En.run E (ev_andO (ev_eqI (ev_lenD (ev_var (i := 0) rfl (E.rd (r := zD) (v := v_one) (d := p_one) 0 rfl)) h_x1423) (ev_lenD (ev_var (i := 1) rfl (E.rd (r := zD) (v := v_other) (d := p_other) 1 rfl)) h_x1424)) (fun hc1438 y1440 hy1440 => by
          obtain ⟨x1425, h_x1425, hy1440⟩ := bnd hy1440; obtain ⟨u1426, h_u1426, hy1440⟩ := bnd hy1440; obtain ⟨x1437, h_x1437, hy1440⟩ := bnd hy1440; cases hy1440; exact (ev_all (ev_lcO1 E.td (ei_range (ea_cons (ev_lenD (ev_var (i := 1) rfl (E.rd (r := zD) (v := v_other) (d := p_other) 1 rfl)) h_x1425) ea_nil) (grd_ok h_u1426).1 (grd_ok h_u1426).2) h_x1437 (fun T1427 H1427 v1427 x1427 L1427 hT1427 hx1427 r1427 Q1427 q1427 => q1427 _ wipe1 (fun y1427 hy1427 => by
          obtain ⟨x1434, h_x1434, hy1427⟩ := bnd hy1427; obtain ⟨x1435, h_x1435, hy1427⟩ := bnd hy1427; obtain ⟨r1436, h_r1436, hy1427⟩ := bnd hy1427; cases hy1427; exact (ev_callO hT1427 (ea_cons (ev_ixD (ev_var (i := 0) rfl (L1427.ap (E.rd (r := zD) (v := v_one) (d := p_one) 0 rfl))) (ev_var (i := 2) rfl r1427) h_x1434) (ea_cons (ev_ixD (ev_var (i := 1) rfl (L1427.ap (E.rd (r := zD) (v := v_other) (d := p_other) 1 rfl))) (ev_var (i := 2) rfl r1427) h_x1435) ea_nil)) h_r1436)))))) h_b1439) fun v1441 H E => ?_
                have hr9 := Option.some.inj hm
                subst res
                exact hQ _ _ (En.isEx E) (En.out E (En.at E (f := (fR zB v1441 b1439)) 0 rfl))
theorem ok__law_alike (S : Tx K mg) (G__law_is_integer : Ok P w K mg base 1 ("_law_is_integer", none) ["value"] (sp__law_is_integer K)) : Ok P w K mg base 18 ("_law_alike", none) ["one", "other"] ((sp__law_alike 16) K) := okn__law_alike S G__law_is_integer 16

def m__law_copy : Nat → PyData → Option PyData
  | 0, _ => none
  | n9 + 1, p_value =>
    (if (isD "list" p_value) = true then
    ((dSeq p_value).bind fun (x1448 : List PyData) =>
    ((mapO (fun (x1449 : PyData) =>
    ((m__law_copy n9 x1449).bind fun (r1450 : PyData) =>
    some r1450)) x1448).bind fun (x1451 : (List PyData)) =>
    some (PyData.list x1451)))
    else
    (if (isD "tuple" p_value) = true then
    ((dSeq p_value).bind fun (x1453 : List PyData) =>
    ((mapO (fun (x1454 : PyData) =>
    ((m__law_copy n9 x1454).bind fun (r1455 : PyData) =>
    some r1455)) x1453).bind fun (x1456 : (List PyData)) =>
    some (PyData.tuple x1456)))
    else
    some p_value))
abbrev sp__law_copy (n : Nat) (K : PySem.W.Frag) : Sp := FSp K (aC zD aN) zD (fun (a : PyData × Unit) => m__law_copy n a.1)
theorem okn__law_copy (S : Tx K mg)  : ∀ n, Ok P w K mg base (1 + n) ("_law_copy", none) ["value"] (sp__law_copy n K) := by
  obtain ⟨fd, D⟩ := d__law_copy S
  intro n
  induction n with
  | zero =>
    refine mk_ok (k := 0) D sc__law_copy (D.bindsN fun _ _ _ _ _ _ us hl => match us, hl with | [_], _ => rfl) (FSp_len len1) (fun cdv A outer s H00 vs Q E hr h => ?_)
    obtain ⟨T00, ⟨p_value, _⟩, res, hT, ⟨v_value, _, rfl, r_value, rfl⟩, hm, hQ⟩ := h
    cases hm
  | succ n9 ih =>
    refine mk_ok (k := 1 + n9) D sc__law_copy (D.bindsN fun _ _ _ _ _ _ us hl => match us, hl with | [_], _ => rfl) (FSp_len len1) (fun cdv A outer s H00 vs Q E hr h => ?_)
    obtain ⟨T00, ⟨p_value, _⟩, res, hT, ⟨v_value, _, rfl, r_value, rfl⟩, hm, hQ⟩ := h
    refine ⟨_, (pss_cons (ps_if (pt_val (pe_callB (kc_isi (K := K)) (by rfl) (m_isinstance S) bt_isinstance (pa_cons (pv 0) (pa_cons (pe_cls (by rfl) (m_list S) bt_list) pa_nil)))) (pss_one (ps_ret (pe_lc (own := [("part", 1)]) (by rfl) sc__law_copy.nd (kp_seq (K := K) (pv 0)) (blkOk_by (N := ["value", "part"]) (sc := defScope s__law_copy) (by decide +kernel)) (fun _ _ _ _ _ => pg_name (i := 1) sc__law_copy.nd rfl (.inl rfl)) (fun _ _ _ _ _ => pts_nil) (fun _ _ _ _ _ => (pe_callG ih hr (by omega) (by rfl) (g__law_copy S) (pa_cons (pv 1) pa_nil)))))) pss_nil) (pss_cons (ps_if (pt_val (pe_callB (kc_isi (K := K)) (by rfl) (m_isinstance S) bt_isinstance (pa_cons (pv 0) (pa_cons (pe_cls (by rfl) (m_tuple S) bt_tuple) pa_nil)))) (pss_one (ps_ret (pe_callTy (kc_tuple (K := K)) (by rfl) (m_tuple S) bt_tuple (pa_cons (pe_lc (own := [("part", 1)]) (by rfl) sc__law_copy.nd (kp_seq (K := K) (pv 0)) (blkOk_by (N := ["value", "part"]) (sc := defScope s__law_copy) (by decide +kernel)) (fun _ _ _ _ _ => pg_name (i := 1) sc__law_copy.nd rfl (.inl rfl)) (fun _ _ _ _ _ => pts_nil) (fun _ _ _ _ _ => (pe_callG ih hr (by omega) (by rfl) (g__law_copy S) (pa_cons (pv 1) pa_nil)))) pa_nil)))) pss_nil) (pss_one (ps_ret (pv 0))))), ?_⟩
    have E : En K ⟨T00, [], H00⟩ [(fR zD v_value p_value)] [] T00 H00 := En.start hT ⟨r_value, trivial⟩
    replace hm : m__law_copy (n9 + 1) p_value = some res := hm
    unfold m__law_copy at hm
    refine ifs_open ?_
    refine En.test E (et_B (K := K) (ev_isiD (n := "list") (ev_var (i := 0) rfl (E.rd (r := zD) (v := v_value) (d := p_value) 0 rfl)))) fun H E => ?_
    refine iteB (fun hc1460 => ?_) (fun hc1460 => ?_)
    · rw [if_pos hc1460] at hm
      refine ret_open ?_
      obtain ⟨x1448, h_x1448, hm⟩ := bnd hm
      obtain ⟨x1451, h_x1451, hm⟩ := bnd hm
      refine En.run E (ev_toDL (ev_lcO1 E.td (ei_seq (ev_dQ (ev_var (i := 0) rfl (E.rd (r := zD) (v := v_value) (d := p_value) 0 rfl)) h_x1448)) h_x1451 (fun T1449 H1449 v1449 x1449 L1449 hT1449 hx1449 r1449 Q1449 q1449 => q1449 _ wipe1 (fun y1449 hy1449 => by
          obtain ⟨r1450, h_r1450, hy1449⟩ := bnd hy1449; cases hy1449; exact (ev_callO hT1449 (ea_cons (ev_var (i := 1) rfl r1449) ea_nil) h_r1450))))) fun v1452 H E => ?_
      have hr9 := Option.some.inj hm
      subst res
      exact hQ _ _ (En.isEx E) (En.out E (En.at E (f := (fR zD v1452 (PyData.list x1451))) 0 rfl))
    · rw [if_neg (by rw [hc1460]; decide)] at hm
      first | refine nx_ ?_ | skip
      refine ifs_open ?_
      refine En.test E (et_B (K := K) (ev_isiD (n := "tuple") (ev_var (i := 0) rfl (E.rd (r := zD) (v := v_value) (d := p_value) 0 rfl)))) fun H E => ?_
      refine iteB (fun hc1459 => ?_) (fun hc1459 => ?_)
      · rw [if_pos hc1459] at hm
        refine ret_open ?_
        obtain ⟨x1453, h_x1453, hm⟩ := bnd hm
        obtain ⟨x1456, h_x1456, hm⟩ := bnd hm
        refine En.run E (ev_toDU (ev_tupL E.td (ev_lcO1 E.td (ei_seq (ev_dQ (ev_var (i := 0) rfl (E.rd (r := zD) (v := v_value) (d := p_value) 0 rfl)) h_x1453)) h_x1456 (fun T1454 H1454 v1454 x1454 L1454 hT1454 hx1454 r1454 Q1454 q1454 => q1454 _ wipe1 (fun y1454 hy1454 => by
          obtain ⟨r1455, h_r1455, hy1454⟩ := bnd hy1454; cases hy1454; exact (ev_callO hT1454 (ea_cons (ev_var (i := 1) rfl r1454) ea_nil) h_r1455)))))) fun v1457 H E => ?_
        have hr9 := Option.some.inj hm
        subst res
        exact hQ _ _ (En.isEx E) (En.out E (En.at E (f := (fR zD v1457 (PyData.tuple x1456))) 0 rfl))
      · rw [if_neg (by rw [hc1459]; decide)] at hm
        first | refine nx_ ?_ | skip
        refine ret_open ?_
        refine En.run E (ev_var (i := 0) rfl (E.rd (r := zD) (v := v_value) (d := p_value) 0 rfl)) fun v1458 H E => ?_
        have hr9 := Option.some.inj hm
        subst res
        exact hQ _ _ (En.isEx E) (En.out E (En.at E (f := (fR zD v1458 p_value)) 0 rfl))
theorem ok__law_copy (S : Tx K mg)  : Ok P w K mg base 17 ("_law_copy", none) ["value"] ((sp__law_copy 16) K) := okn__law_copy S  16

def m__law_unlike (p_rows : (List (List Bool))) : Option (List (List Bool)) :=
((atI p_rows (0 : Int)).bind fun (x1461 : (List Bool)) =>
(if (decide (((x1461).length : Int) = (0 : Int))) = true then
some ([([false] : List Bool), ([true] : List Bool), ([true] : List Bool)] : (List (List Bool)))
else
((atI p_rows (0 : Int)).bind fun (x1463 : (List Bool)) =>
((mapO (fun (x1464 : (List Bool)) =>
((wInt1 x1464).bind fun (x1465 : Int) =>
((atI ([true, false] : List Bool) x1465).bind fun (x1466 : Bool) =>
some ([x1466])))) ((x1463).map fun b => [b])).bind fun (x1467 : (List (List Bool))) =>
((grd ((x1467).flatten.length ≤ 100000)).bind fun (u1468 : Unit) =>
((some ((x1467).flatten)).bind fun (d1470 : (List Bool)) =>
((grd ((cutA p_rows none (some (mx2 (1 : Int) (((p_rows).length : Int) - (1 : Int))))).length + ([d1470] : (List (List Bool))).length ≤ 1000000)).bind fun (u1471 : Unit) =>
some ((cutA p_rows none (some (mx2 (1 : Int) (((p_rows).length : Int) - (1 : Int))))) ++ ([d1470] : (List (List Bool)))))))))))
abbrev sp__law_unlike (K : PySem.W.Frag) : Sp := FSp K (aC (zL zW) aN) (zL zW) (fun (a : (List (List Bool)) × Unit) => m__law_unlike a.1)
theorem ok__law_unlike (S : Tx K mg)  : Ok P w K mg base 1 ("_law_unlike", none) ["rows"] (sp__law_unlike K) := by
  obtain ⟨fd, D⟩ := d__law_unlike S
  refine mk_ok D sc__law_unlike (D.bindsN fun _ _ _ _ _ _ us hl => match us, hl with | [_], _ => rfl) (FSp_len len1) (fun cdv A outer s H00 vs Q E hr h => ?_)
  obtain ⟨T00, ⟨p_rows, _⟩, res, hT, ⟨v_rows, _, rfl, r_rows, rfl⟩, hm, hQ⟩ := h
  refine ⟨_, (pss_cons (ps_if (pt_cmpR op_eq (pe_callB call_lenS (by rfl) (m_len S) bt_len (pa_cons (pe_ix (kx_list (K := K)) (pv 0) pe_int (fun _ _ => rfl)) pa_nil)) pe_int (nomark _)) (pss_one (ps_ret (pe_lst (pa_cons pe_str (pa_cons pe_str (pa_cons pe_str pa_nil)))))) pss_nil) (pss_cons (ps_set (i := 1) sc__law_unlike.nd rfl (.inl rfl) (ke_join (K := K) pe_str (pe_lc (own := [("sign", 2)]) (by rfl) sc__law_unlike.nd (pi_str (pe_ix (kx_list (K := K)) (pv 0) pe_int (fun _ _ => rfl))) (blkOk_by (N := ["rows", "other", "sign"]) (sc := defScope s__law_unlike) (by decide +kernel)) (fun _ _ _ _ _ => pg_name (i := 2) sc__law_unlike.nd rfl (.inl rfl)) (fun _ _ _ _ _ => pts_nil) (fun _ _ _ _ _ => (pe_ix ix_str pe_str (pe_callTy call_intS (by rfl) (m_int S) bt_int (pa_cons (pv 2) pa_nil)) (fun _ _ => rfl)))))) (pss_one (ps_ret (pe_op (op_catQ (K := K)) (pe_slice (ks_list (K := K)) (pv 0) po_none (po_some (pe_callB call_max2Q (by rfl) (m_max S) bt_max (pa_cons pe_int (pa_cons (pe_op op_sub (pe_callB (kc_len (K := K)) (by rfl) (m_len S) bt_len (pa_cons (pv 0) pa_nil)) pe_int) pa_nil))))) (pe_lst (pa_cons (pv 1) pa_nil))))))), ?_⟩
  have E : En K ⟨T00, [], H00⟩ [(fR (zL zW) v_rows p_rows)] [] T00 H00 := En.start hT ⟨r_rows, trivial⟩
  replace hm : m__law_unlike p_rows = some res := hm
  unfold m__law_unlike at hm
  refine ifs_open ?_
  obtain ⟨x1461, h_x1461, hm⟩ := bnd hm
  refine En.test E (et_test (K := K) (ev_eqI (ev_lenW (ev_ixL (ev_var (i := 0) rfl (E.rd (r := (zL zW)) (v := v_rows) (d := p_rows) 0 rfl)) ev_int h_x1461)) ev_int)) fun H E => ?_
  refine iteB (fun hc1473 => ?_) (fun hc1473 => ?_)
  · rw [if_pos hc1473] at hm
    refine ret_open ?_
    refine En.run E (ev_lst E.td (eh_cons (ev_word [false] (by decide) (by decide)) (eh_cons (ev_word [true] (by decide) (by decide)) (eh_cons (ev_word [true] (by decide) (by decide)) eh_nil))) (Nat.le_of_ble_eq_true rfl)) fun v1462 H E => ?_
    have hr9 := Option.some.inj hm
    subst res
    exact hQ _ _ (En.isEx E) (En.out E (En.at E (f := (fR (zL zW) v1462 ([([false] : List Bool), ([true] : List Bool), ([true] : List Bool)] : (List (List Bool))))) 0 rfl))
  · rw [if_neg (by rw [hc1473]; decide)] at hm
    first | refine nx_ ?_ | skip
    refine asg_open ?_
    obtain ⟨x1463, h_x1463, hm⟩ := bnd hm
    obtain ⟨x1467, h_x1467, hm⟩ := bnd hm
    obtain ⟨u1468, h_u1468, hm⟩ := bnd hm
    obtain ⟨d1470, e_d1470, hm⟩ := bnd hm
    refine En.run E (Ev.to (ev_joinW (ev_word [] (by decide) (by decide)) (ev_lcO1 E.td (ei_word (ev_ixL (ev_var (i := 0) rfl (E.rd (r := (zL zW)) (v := v_rows) (d := p_rows) 0 rfl)) ev_int h_x1463)) h_x1467 (fun T1464 H1464 v1464 x1464 L1464 hT1464 hx1464 r1464 Q1464 q1464 => q1464 _ wipe1 (fun y1464 hy1464 => by
          obtain ⟨x1465, h_x1465, hy1464⟩ := bnd hy1464; obtain ⟨x1466, h_x1466, hy1464⟩ := bnd hy1464; cases hy1464; exact (ev_ixW (ev_word [true, false] (by decide) (by decide)) (ev_intW1 (ev_var (i := 2) rfl r1464) h_x1465) h_x1466)))) (grd_ok h_u1468)) (Option.some.inj e_d1470)) fun v1469 H E => ?_
    first | refine nx_ ?_ | skip
    refine ret_open ?_
    obtain ⟨u1471, h_u1471, hm⟩ := bnd hm
    refine En.run E (ev_catL E.td (ev_slL E.td (ev_var (i := 0) rfl (E.rd (r := (zL zW)) (v := v_rows) (d := p_rows) 1 rfl)) eo_none (eo_some (K := K) (ev_max2 ev_int (ev_sub (ev_lenL (ev_var (i := 0) rfl (E.rd (r := (zL zW)) (v := v_rows) (d := p_rows) 1 rfl))) ev_int)))) (ev_lst E.td (eh_cons (ev_var (i := 1) rfl (E.rd (r := zW) (v := v1469) (d := d1470) 0 rfl)) eh_nil) (Nat.le_of_ble_eq_true rfl)) (grd_ok h_u1471)) fun v1472 H E => ?_
    have hr9 := Option.some.inj hm
    subst res
    exact hQ _ _ (En.isEx E) (En.out E (En.at E (f := (fR (zL zW) v1472 ((cutA p_rows none (some (mx2 (1 : Int) (((p_rows).length : Int) - (1 : Int))))) ++ ([d1470] : (List (List Bool)))))) 0 rfl))

end
end EB

set_option Elab.async false
set_option linter.all false
set_option maxRecDepth 100000
set_option maxHeartbeats 4000000

namespace EB
open PySem PySem.Spec PyProof.Rows L2

section
variable {P : Program} {w : World} {K : PySem.W.Frag} {mg : Str → Option Value} {base : Heap}

def m__law_handedW (p_values : (List (List Bool))) (s00 : Px) : Option (PyData × Px) :=
((m__law_take (2 : Int) s00).bind fun (q1474 : Int × Px) =>
((some (decide (q1474.1 = (0 : Int)))).bind fun (d1478 : Bool) =>
(if d1478 = true then
some ((Tod.toD (zU zW) p_values), q1474.2)
else
some ((Tod.toD (zL zW) p_values), q1474.2))))
abbrev sp__law_handedW (K : PySem.W.Frag) : Sp := GSp K (aC zA (aC (zL zW) aN)) (fun (a : Addr × (List (List Bool)) × Unit) (s : Px) => cPx a.1 s) zD (fun (a : Addr × (List (List Bool)) × Unit) (s : Px) => m__law_handedW a.2.1 s)
theorem ok__law_handedW (S : Tx K mg) (G__law_take : Ok P w K mg base 1 ("_law_take", none) ["pool", "many"] (sp__law_take K)) : Ok P w K mg base 2 ("_law_handed", none) ["pool", "values"] (sp__law_handedW K) := by
  obtain ⟨fd, D⟩ := d__law_handed S
  refine mk_ok D sc__law_handed (D.bindsN fun _ _ _ _ _ _ us hl => match us, hl with | [_, _], _ => rfl) (GSp_len len2) (fun cdv A outer s H00 vs Q E hr h => ?_)
  obtain ⟨T00, ⟨p_pool, p_values, _⟩, s00, res, sres, hT, ⟨v_pool, _, rfl, r_pool, v_values, _, rfl, r_values, rfl⟩, hc, hTc, hnd, hm, hQ⟩ := h
  obtain rfl : v_pool = .ref p_pool := r_pool
  refine ⟨_, (pss_cons (ps_if (pt_cmpR op_eq (pe_callG G__law_take hr (by omega) (by rfl) (g__law_take S) (pa_cons (pv 0) (pa_cons pe_int pa_nil))) pe_int (nomark _)) (pss_one (ps_ret (pe_callTy (kc_tuple (K := K)) (by rfl) (m_tuple S) bt_tuple (pa_cons (pv 1) pa_nil)))) pss_nil) (pss_one (ps_ret (pe_callTy (kc_list (K := K)) (by rfl) (m_list S) bt_list (pa_cons (pv 1) pa_nil))))), ?_⟩
  have E : En K ⟨T00, [p_pool], H00⟩ [(fR (zL zW) v_values p_values)] [(cPx p_pool s00)] T00 H00 := En.start1 (c := (cPx p_pool s00)) hT ⟨r_values, trivial⟩ hc hTc hnd
  replace hm : m__law_handedW p_values s00 = some (res, sres) := hm
  unfold m__law_handedW at hm
  refine ifs_open ?_
  refine test_open ?_
  refine op_open ?_
  obtain ⟨q1474, h_q1474, hm⟩ := bnd hm
  refine En.gcall E (ea_cons (ev_var (i := 0) rfl (show zA K _ _ (.ref p_pool) p_pool from rfl)) (ea_cons ev_int ea_nil)) 0 rfl h_q1474 rfl fun v1475 H E => ?_
  refine En.run E ev_int fun v1476 H E => ?_
  refine of_op ?_
  obtain ⟨d1478, e_d1478, hm⟩ := bnd hm
  refine En.run E (Ev.to (ev_eqI (ev_var (i := 0) rfl (E.rd (r := zI) (v := v1475) (d := q1474.1) 1 rfl)) (ev_var (i := 1) rfl (E.rd (r := zI) (v := v1476) (d := (0 : Int)) 0 rfl))) (Option.some.inj e_d1478)) fun v1477 H E => ?_
  refine tb2 (E.rd (r := zB) (v := v1477) (d := d1478) 0 rfl) (fun hc1481 => ?_) (fun hc1481 => ?_)
  · rw [if_pos hc1481] at hm
    refine iteT ?_
    refine ret_open ?_
    refine En.run E (ev_toD (ev_tupL E.td (ev_var (i := 1) rfl (E.rd (r := (zL zW)) (v := v_values) (d := p_values) 3 rfl)))) fun v1479 H E => ?_
    have hr9 := Prod.mk.inj (Option.some.inj hm)
    have hr8 := hr9.1
    have hr7 := hr9.2
    subst res
    subst sres
    exact hQ _ _ (En.fr E) (En.outc E (c := (cPx p_pool q1474.2)) 0 rfl) (En.out E (En.at E (f := (fR zD v1479 (Tod.toD (zU zW) p_values))) 0 rfl))
  · rw [if_neg (by rw [hc1481]; decide)] at hm
    refine iteF ?_
    first | refine nx_ ?_ | skip
    refine ret_open ?_
    refine En.run E (ev_toD (ev_listL E.td (ev_var (i := 1) rfl (E.rd (r := (zL zW)) (v := v_values) (d := p_values) 3 rfl)))) fun v1480 H E => ?_
    have hr9 := Prod.mk.inj (Option.some.inj hm)
    have hr8 := hr9.1
    have hr7 := hr9.2
    subst res
    subst sres
    exact hQ _ _ (En.fr E) (En.outc E (c := (cPx p_pool q1474.2)) 0 rfl) (En.out E (En.at E (f := (fR zD v1480 (Tod.toD (zL zW) p_values))) 0 rfl))

def m__law_handedI (p_values : (List Int)) (s00 : Px) : Option (PyData × Px) :=
((m__law_take (2 : Int) s00).bind fun (q1482 : Int × Px) =>
((some (decide (q1482.1 = (0 : Int)))).bind fun (d1486 : Bool) =>
(if d1486 = true then
some ((Tod.toD (zU zI) p_values), q1482.2)
else
some ((Tod.toD (zL zI) p_values), q1482.2))))
abbrev sp__law_handedI (K : PySem.W.Frag) : Sp := GSp K (aC zA (aC (zL zI) aN)) (fun (a : Addr × (List Int) × Unit) (s : Px) => cPx a.1 s) zD (fun (a : Addr × (List Int) × Unit) (s : Px) => m__law_handedI a.2.1 s)
theorem ok__law_handedI (S : Tx K mg) (G__law_take : Ok P w K mg base 1 ("_law_take", none) ["pool", "many"] (sp__law_take K)) : Ok P w K mg base 2 ("_law_handed", none) ["pool", "values"] (sp__law_handedI K) := by
  obtain ⟨fd, D⟩ := d__law_handed S
  refine mk_ok D sc__law_handed (D.bindsN fun _ _ _ _ _ _ us hl => match us, hl with | [_, _], _ => rfl) (GSp_len len2) (fun cdv A outer s H00 vs Q E hr h => ?_)
  obtain ⟨T00, ⟨p_pool, p_values, _⟩, s00, res, sres, hT, ⟨v_pool, _, rfl, r_pool, v_values, _, rfl, r_values, rfl⟩, hc, hTc, hnd, hm, hQ⟩ := h
  obtain rfl : v_pool = .ref p_pool := r_pool
  refine ⟨_, (pss_cons (ps_if (pt_cmpR op_eq (pe_callG G__law_take hr (by omega) (by rfl) (g__law_take S) (pa_cons (pv 0) (pa_cons pe_int pa_nil))) pe_int (nomark _)) (pss_one (ps_ret (pe_callTy (kc_tuple (K := K)) (by rfl) (m_tuple S) bt_tuple (pa_cons (pv 1) pa_nil)))) pss_nil) (pss_one (ps_ret (pe_callTy (kc_list (K := K)) (by rfl) (m_list S) bt_list (pa_cons (pv 1) pa_nil))))), ?_⟩
  have E : En K ⟨T00, [p_pool], H00⟩ [(fR (zL zI) v_values p_values)] [(cPx p_pool s00)] T00 H00 := En.start1 (c := (cPx p_pool s00)) hT ⟨r_values, trivial⟩ hc hTc hnd
  replace hm : m__law_handedI p_values s00 = some (res, sres) := hm
  unfold m__law_handedI at hm
  refine ifs_open ?_
  refine test_open ?_
  refine op_open ?_
  obtain ⟨q1482, h_q1482, hm⟩ := bnd hm
  refine En.gcall E (ea_cons (ev_var (i := 0) rfl (show zA K _ _ (.ref p_pool) p_pool from rfl)) (ea_cons ev_int ea_nil)) 0 rfl h_q1482 rfl fun v1483 H E => ?_
  refine En.run E ev_int fun v1484 H E => ?_
  refine of_op ?_
  obtain ⟨d1486, e_d1486, hm⟩ := bnd hm
  refine En.run E (Ev.to (ev_eqI (ev_var (i := 0) rfl (E.rd (r := zI) (v := v1483) (d := q1482.1) 1 rfl)) (ev_var (i := 1) rfl (E.rd (r := zI) (v := v1484) (d := (0 : Int)) 0 rfl))) (Option.some.inj e_d1486)) fun v1485 H E => ?_
  refine tb2 (E.rd (r := zB) (v := v1485) (d := d1486) 0 rfl) (fun hc1489 => ?_) (fun hc1489 => ?_)
  · rw [if_pos hc1489] at hm
    refine iteT ?_
    refine ret_open ?_
    refine En.run E (ev_toD (ev_tupL E.td (ev_var (i := 1) rfl (E.rd (r := (zL zI)) (v := v_values) (d := p_values) 3 rfl)))) fun v1487 H E => ?_
    have hr9 := Prod.mk.inj (Option.some.inj hm)
    have hr8 := hr9.1
    have hr7 := hr9.2
    subst res
    subst sres
    exact hQ _ _ (En.fr E) (En.outc E (c := (cPx p_pool q1482.2)) 0 rfl) (En.out E (En.at E (f := (fR zD v1487 (Tod.toD (zU zI) p_values))) 0 rfl))
  · rw [if_neg (by rw [hc1489]; decide)] at hm
    refine iteF ?_
    first | refine nx_ ?_ | skip
    refine ret_open ?_
    refine En.run E (ev_toD (ev_listL E.td (ev_var (i := 1) rfl (E.rd (r := (zL zI)) (v := v_values) (d := p_values) 3 rfl)))) fun v1488 H E => ?_
    have hr9 := Prod.mk.inj (Option.some.inj hm)
    have hr8 := hr9.1
    have hr7 := hr9.2
    subst res
    subst sres
    exact hQ _ _ (En.fr E) (En.outc E (c := (cPx p_pool q1482.2)) 0 rfl) (En.out E (En.at E (f := (fR zD v1488 (Tod.toD (zL zI) p_values))) 0 rfl))

def m__law_handedD (p_values : (List PyData)) (s00 : Px) : Option (PyData × Px) :=
((m__law_take (2 : Int) s00).bind fun (q1490 : Int × Px) =>
((some (decide (q1490.1 = (0 : Int)))).bind fun (d1494 : Bool) =>
(if d1494 = true then
some ((PyData.tuple p_values), q1490.2)
else
some ((PyData.list p_values), q1490.2))))
abbrev sp__law_handedD (K : PySem.W.Frag) : Sp := GSp K (aC zA (aC (zL zD) aN)) (fun (a : Addr × (List PyData) × Unit) (s : Px) => cPx a.1 s) zD (fun (a : Addr × (List PyData) × Unit) (s : Px) => m__law_handedD a.2.1 s)
theorem ok__law_handedD (S : Tx K mg) (G__law_take : Ok P w K mg base 1 ("_law_take", none) ["pool", "many"] (sp__law_take K)) : Ok P w K mg base 2 ("_law_handed", none) ["pool", "values"] (sp__law_handedD K) := by
  obtain ⟨fd, D⟩ := d__law_handed S
  refine mk_ok D sc__law_handed (D.bindsN fun _ _ _ _ _ _ us hl => match us, hl with | [_, _], _ => rfl) (GSp_len len2) (fun cdv A outer s H00 vs Q E hr h => ?_)
  obtain ⟨T00, ⟨p_pool, p_values, _⟩, s00, res, sres, hT, ⟨v_pool, _, rfl, r_pool, v_values, _, rfl, r_values, rfl⟩, hc, hTc, hnd, hm, hQ⟩ := h
  obtain rfl : v_pool = .ref p_pool := r_pool
  refine ⟨_, (pss_cons (ps_if (pt_cmpR op_eq (pe_callG G__law_take hr (by omega) (by rfl) (g__law_take S) (pa_cons (pv 0) (pa_cons pe_int pa_nil))) pe_int (nomark _)) (pss_one (ps_ret (pe_callTy (kc_tuple (K := K)) (by rfl) (m_tuple S) bt_tuple (pa_cons (pv 1) pa_nil)))) pss_nil) (pss_one (ps_ret (pe_callTy (kc_list (K := K)) (by rfl) (m_list S) bt_list (pa_cons (pv 1) pa_nil))))), ?_⟩
  have E : En K ⟨T00, [p_pool], H00⟩ [(fR (zL zD) v_values p_values)] [(cPx p_pool s00)] T00 H00 := En.start1 (c := (cPx p_pool s00)) hT ⟨r_values, trivial⟩ hc hTc hnd
  replace hm : m__law_handedD p_values s00 = some (res, sres) := hm
  unfold m__law_handedD at hm
  refine ifs_open ?_
  refine test_open ?_
  refine op_open ?_
  obtain ⟨q1490, h_q1490, hm⟩ := bnd hm
  refine En.gcall E (ea_cons (ev_var (i := 0) rfl (show zA K _ _ (.ref p_pool) p_pool from rfl)) (ea_cons ev_int ea_nil)) 0 rfl h_q1490 rfl fun v1491 H E => ?_
  refine En.run E ev_int fun v1492 H E => ?_
  refine of_op ?_
  obtain ⟨d1494, e_d1494, hm⟩ := bnd hm
  refine En.run E (Ev.to (ev_eqI (ev_var (i := 0) rfl (E.rd (r := zI) (v := v1491) (d := q1490.1) 1 rfl)) (ev_var (i := 1) rfl (E.rd (r := zI) (v := v1492) (d := (0 : Int)) 0 rfl))) (Option.some.inj e_d1494)) fun v1493 H E => ?_
  refine tb2 (E.rd (r := zB) (v := v1493) (d := d1494) 0 rfl) (fun hc1497 => ?_) (fun hc1497 => ?_)
  · rw [if_pos hc1497] at hm
    refine iteT ?_
    refine ret_open ?_
    refine En.run E (ev_toDU (ev_tupL E.td (ev_var (i := 1) rfl (E.rd (r := (zL zD)) (v := v_values) (d := p_values) 3 rfl)))) fun v1495 H E => ?_
    have hr9 := Prod.mk.inj (Option.some.inj hm)
    have hr8 := hr9.1
    have hr7 := hr9.2
    subst res
    subst sres
    exact hQ _ _ (En.fr E) (En.outc E (c := (cPx p_pool q1490.2)) 0 rfl) (En.out E (En.at E (f := (fR zD v1495 (PyData.tuple p_values))) 0 rfl))
  · rw [if_neg (by rw [hc1497]; decide)] at hm
    refine iteF ?_
    first | refine nx_ ?_ | skip
    refine ret_open ?_
    refine En.run E (ev_toDL (ev_listL E.td (ev_var (i := 1) rfl (E.rd (r := (zL zD)) (v := v_values) (d := p_values) 3 rfl)))) fun v1496 H E => ?_
    have hr9 := Prod.mk.inj (Option.some.inj hm)
    have hr8 := hr9.1
    have hr7 := hr9.2
    subst res
    subst sres
    exact hQ _ _ (En.fr E) (En.outc E (c := (cPx p_pool q1490.2)) 0 rfl) (En.out E (En.at E (f := (fR zD v1496 (PyData.list p_values))) 0 rfl))

def m__law_bad_rows (p_rows : (List (List Bool))) (s00 : Px) : Option (PyData × Px) :=
((m__law_take (4 : Int) s00).bind fun (q1498 : Int × Px) =>
(if (decide (q1498.1 = (0 : Int))) = true then
((some ([PyData.none, (PyData.bool true), (PyData.int (0 : Int)), (PyData.int (3 : Int)), (PyData.str (wS ([] : List Bool))), (PyData.str (wS ([false] : List Bool))), (PyData.str (wS ([false, true] : List Bool))), (PyData.tuple ([] : List PyData)), (PyData.list ([] : List PyData)), (PyData.tuple ([(PyData.tuple ([] : List PyData))])), (PyData.list ([(PyData.list ([] : List PyData))])), (PyData.tuple ([(PyData.int (0 : Int))])), (PyData.list ([(PyData.int (1 : Int)), (PyData.int (0 : Int))])), (PyData.tuple ([PyData.none])), (PyData.list ([(PyData.bool false)])), (PyData.tuple ([(PyData.tuple ([(PyData.str (wS ([false] : List Bool)))]))])), (PyData.list ([(PyData.str ("2" : Str))]))] : (List PyData))).bind fun (d1501 : (List PyData)) =>
((m__law_take ((d1501).length : Int) q1498.2).bind fun (q1503 : Int × Px) =>
((atI d1501 q1503.1).bind fun (x1505 : PyData) =>
some (x1505, q1503.2))))
else
((some ((p_rows.map (Tod.toD zW)))).bind fun (d1507 : List PyData) =>
((m__law_take ((p_rows).length : Int) q1498.2).bind fun (q1509 : Int × Px) =>
(((if (decide (q1498.1 = (1 : Int))) = true then
((atI p_rows (0 : Int)).bind fun (x1558 : (List Bool)) =>
((some ([false, true] : List Bool)).bind fun (d1561 : (List Bool)) =>
((m__law_take (2 : Int) q1509.2).bind fun (q1562 : Int × Px) =>
((atI d1561 q1562.1).bind fun (x1564 : Bool) =>
((some ([x1564])).bind fun (d1566 : (List Bool)) =>
((grd (x1558.length + d1566.length ≤ 100000)).bind fun (u1567 : Unit) =>
((some (x1558 ++ d1566)).bind fun (d1569 : (List Bool)) =>
((insO d1507 q1509.1 (PyData.str (wS d1569))).bind fun (d1570 : List PyData) =>
some (d1570, q1562.2)))))))))
else
((atI p_rows q1509.1).bind fun (x1571 : (List Bool)) =>
((m__law_take (mx2 (1 : Int) ((x1571).length : Int)) q1509.2).bind fun (q1573 : Int × Px) =>
((some ("2 a-O.:x" : Str)).bind fun (d1576 : Str) =>
((m__law_take (8 : Int) q1573.2).bind fun (q1577 : Int × Px) =>
((ixS d1576 q1577.1).bind fun (x1579 : Str) =>
((grd ((wS (cutA x1571 none (some q1573.1))).length + x1579.length ≤ 1000000)).bind fun (u1583 : Unit) =>
((grd (((wS (cutA x1571 none (some q1573.1))) ++ x1579).length + (wS (cutA x1571 (some (q1573.1 + (1 : Int))) none)).length ≤ 1000000)).bind fun (u1584 : Unit) =>
((some ([PyData.none, (PyData.bool true), (PyData.int (0 : Int)), (PyData.int (1 : Int)), (PyData.list ([(PyData.str (wS x1571))])), (PyData.tuple ([(PyData.str (wS x1571))])), (Tod.toD (zU zW) ((((x1571).map fun b => [b])).map fun (x1581 : (List Bool)) => x1581)), (PyData.str (((wS (cutA x1571 none (some q1573.1))) ++ x1579) ++ (wS (cutA x1571 (some (q1573.1 + (1 : Int))) none))))] : (List PyData))).bind fun (d1586 : (List PyData)) =>
((m__law_take ((d1586).length : Int) q1577.2).bind fun (q1588 : Int × Px) =>
((atI d1586 q1588.1).bind fun (x1590 : PyData) =>
((setO d1507 q1509.1 x1590).bind fun (d1592 : List PyData) =>
some (d1592, q1588.2)))))))))))))).bind fun (j1548 : (List PyData) × Px) =>
((m__law_handedD j1548.1 j1548.2).bind fun (q1594 : PyData × Px) =>
some (q1594.1, q1594.2)))))))
abbrev sp__law_bad_rows (K : PySem.W.Frag) : Sp := GSp K (aC zA (aC (zL zW) aN)) (fun (a : Addr × (List (List Bool)) × Unit) (s : Px) => cPx a.1 s) zD (fun (a : Addr × (List (List Bool)) × Unit) (s : Px) => m__law_bad_rows a.2.1 s)
theorem ok__law_bad_rows (S : Tx K mg) (G__law_handedD : Ok P w K mg base 2 ("_law_handed", none) ["pool", "values"] (sp__law_handedD K)) (G__law_take : Ok P w K mg base 1 ("_law_take", none) ["pool", "many"] (sp__law_take K)) : Ok P w K mg base 3 ("_law_bad_rows", none) ["pool", "rows"] (sp__law_bad_rows K) := by
  obtain ⟨fd, D⟩ := d__law_bad_rows S
  refine mk_ok D sc__law_bad_rows (D.bindsN fun _ _ _ _ _ _ us hl => match us, hl with | [_, _], _ => rfl) (GSp_len len2) (fun cdv A outer s H00 vs Q E hr h => ?_)
  obtain ⟨T00, ⟨p_pool, p_rows, _⟩, s00, res, sres, hT, ⟨v_pool, _, rfl, r_pool, v_rows, _, rfl, r_rows, rfl⟩, hc, hTc, hnd, hm, hQ⟩ := h
  obtain rfl : v_pool = .ref p_pool := r_pool
  refine ⟨_, (pss_cons (ps_set (i := 2) sc__law_bad_rows.nd rfl (.inl rfl) (pe_callG G__law_take hr (by omega) (by rfl) (g__law_take S) (pa_cons (pv 0) (pa_cons pe_int pa_nil)))) (pss_cons (ps_if (pt_cmpR op_eq (pv 2) pe_int (nomark _)) (pss_cons (ps_set (i := 5) sc__law_bad_rows.nd rfl (.inl rfl) (pe_lst (pa_cons pe_non (pa_cons pe_bl (pa_cons pe_int (pa_cons pe_int (pa_cons pe_str (pa_cons pe_str (pa_cons pe_str (pa_cons (pe_tup pa_nil) (pa_cons (pe_lst pa_nil) (pa_cons (pe_tup (pa_cons (pe_tup pa_nil) pa_nil)) (pa_cons (pe_lst (pa_cons (pe_lst pa_nil) pa_nil)) (pa_cons (pe_tup (pa_cons pe_int pa_nil)) (pa_cons (pe_lst (pa_cons pe_int (pa_cons pe_int pa_nil))) (pa_cons (pe_tup (pa_cons pe_non pa_nil)) (pa_cons (pe_lst (pa_cons pe_bl pa_nil)) (pa_cons (pe_tup (pa_cons (pe_tup (pa_cons pe_str pa_nil)) pa_nil)) (pa_cons (pe_lst (pa_cons pe_str pa_nil)) pa_nil))))))))))))))))))) (pss_one (ps_ret (pe_ix (kx_list (K := K)) (pv 5) (pe_callG G__law_take hr (by omega) (by rfl) (g__law_take S) (pa_cons (pv 0) (pa_cons (pe_callB (kc_len (K := K)) (by rfl) (m_len S) bt_len (pa_cons (pv 5) pa_nil)) pa_nil))) (fun _ _ => rfl))))) pss_nil) (pss_cons (ps_set (i := 3) sc__law_bad_rows.nd rfl (.inl rfl) (pe_callTy (kc_list (K := K)) (by rfl) (m_list S) bt_list (pa_cons (pv 1) pa_nil))) (pss_cons (ps_set (i := 4) sc__law_bad_rows.nd rfl (.inl rfl) (pe_callG G__law_take hr (by omega) (by rfl) (g__law_take S) (pa_cons (pv 0) (pa_cons (pe_callB (kc_len (K := K)) (by rfl) (m_len S) bt_len (pa_cons (pv 1) pa_nil)) pa_nil)))) (pss_cons (ps_if (pt_cmpR op_eq (pv 2) pe_int (nomark _)) (pss_one (ps_expr (pe_bm PySem.F.plainAttrs_list PySem.F.slot_list_insert PySem.F.type_list_insert mt_insertQ (pv 3) (pa_cons (pv 4) (pa_cons (pe_op op_addS (pe_ix (kx_list (K := K)) (pv 1) pe_int (fun _ _ => rfl)) (pe_ix ix_str pe_str (pe_callG G__law_take hr (by omega) (by rfl) (g__law_take S) (pa_cons (pv 0) (pa_cons pe_int pa_nil))) (fun _ _ => rfl))) pa_nil))))) (pss_cons (ps_set (i := 6) sc__law_bad_rows.nd rfl (.inl rfl) (pe_ix (kx_list (K := K)) (pv 1) (pv 4) (fun _ _ => rfl))) (pss_cons (ps_set (i := 7) sc__law_bad_rows.nd rfl (.inl rfl) (pe_callG G__law_take hr (by omega) (by rfl) (g__law_take S) (pa_cons (pv 0) (pa_cons (pe_callB call_max2Q (by rfl) (m_max S) bt_max (pa_cons pe_int (pa_cons (pe_callB call_lenS (by rfl) (m_len S) bt_len (pa_cons (pv 6) pa_nil)) pa_nil))) pa_nil)))) (pss_cons (ps_set (i := 8) sc__law_bad_rows.nd rfl (.inl rfl) (pe_ix ix_str pe_str (pe_callG G__law_take hr (by omega) (by rfl) (g__law_take S) (pa_cons (pv 0) (pa_cons pe_int pa_nil))) (fun _ _ => rfl))) (pss_cons (ps_set (i := 5) sc__law_bad_rows.nd rfl (.inl rfl) (pe_lst (pa_cons pe_non (pa_cons pe_bl (pa_cons pe_int (pa_cons pe_int (pa_cons (pe_lst (pa_cons (pv 6) pa_nil)) (pa_cons (pe_tup (pa_cons (pv 6) pa_nil)) (pa_cons (pe_callTy (kc_tuple (K := K)) (by rfl) (m_tuple S) bt_tuple (pa_cons (pe_lc (own := [("part", 9)]) (by rfl) sc__law_bad_rows.nd (pi_str (pv 6)) (blkOk_by (N := ["pool", "rows", "kind", "spoilt", "at", "menu", "row", "place", "sign", "part"]) (sc := defScope s__law_bad_rows) (by decide +kernel)) (fun _ _ _ _ _ => pg_name (i := 9) sc__law_bad_rows.nd rfl (.inl rfl)) (fun _ _ _ _ _ => pts_nil) (fun _ _ _ _ _ => (pv 9))) pa_nil)) (pa_cons (pe_op op_addS (pe_op op_addS (pe_slice sl_str (pv 6) po_none (po_some (pv 7))) (pv 8)) (pe_slice sl_str (pv 6) (po_some (pe_op op_add (pv 7) pe_int)) po_none)) pa_nil)))))))))) (pss_one (ps_asg (pe_ix (kx_list (K := K)) (pv 5) (pe_callG G__law_take hr (by omega) (by rfl) (g__law_take S) (pa_cons (pv 0) (pa_cons (pe_callB (kc_len (K := K)) (by rfl) (m_len S) bt_len (pa_cons (pv 5) pa_nil)) pa_nil))) (fun _ _ => rfl)) (pg_sub (pv 3) (pv 4) set_list)))))))) (pss_one (ps_ret (pe_callG G__law_handedD hr (by omega) (by rfl) (g__law_handed S) (pa_cons (pv 0) (pa_cons (pv 3) pa_nil)))))))))), ?_⟩
  have E : En K ⟨T00, [p_pool], H00⟩ [(fR (zL zW) v_rows p_rows)] [(cPx p_pool s00)] T00 H00 := En.start1 (c := (cPx p_pool s00)) hT ⟨r_rows, trivial⟩ hc hTc hnd
  replace hm : m__law_bad_rows p_rows s00 = some (res, sres) := hm
  unfold m__law_bad_rows at hm
  refine asg_open ?_
  obtain ⟨q1498, h_q1498, hm⟩ := bnd hm
  refine En.gcall E (ea_cons (ev_var (i := 0) rfl (show zA K _ _ (.ref p_pool) p_pool from rfl)) (ea_cons ev_int ea_nil)) 0 rfl h_q1498 rfl fun v1499 H E => ?_
  first | refine nx_ ?_ | skip
  refine ifs_open ?_
  refine En.test E (et_test (K := K) (ev_eqI (ev_var (i := 2) rfl (E.rd (r := zI) (v := v1499) (d := q1498.1) 0 rfl)) ev_int)) fun H E => ?_
  refine iteB (fun hc1596 => ?_) (fun hc1596 => ?_)
  · rw [if_pos hc1596] at hm
    refine asg_open ?_
    obtain ⟨d1501, e_d1501, hm⟩ := bnd hm
    refine En.run E (Ev.to (ev_lst E.td (eh_cons (ev_toD ev_non) (eh_cons (ev_toD ev_bl) (eh_cons (ev_toD ev_int) (eh_cons (ev_toD ev_int) (eh_cons (ev_toD (ev_word [] (by decide) (by decide))) (eh_cons (ev_toD (ev_word [false] (by decide) (by decide))) (eh_cons (ev_toD (ev_word [false, true] (by decide) (by decide))) (eh_cons (ev_toDU (ev_tupU (r := zD) (xs := []) E.td eh_nil (Nat.le_of_ble_eq_true rfl))) (eh_cons (ev_toDL (ev_lst (r := zD) (xs := []) E.td eh_nil (Nat.le_of_ble_eq_true rfl))) (eh_cons (ev_toDU (ev_tupU (r := zD) (xs := [(PyData.tuple ([] : List PyData))]) E.td (eh_cons (ev_toDU (ev_tupU (r := zD) (xs := []) E.td eh_nil (Nat.le_of_ble_eq_true rfl))) eh_nil) (Nat.le_of_ble_eq_true rfl))) (eh_cons (ev_toDL (ev_lst (r := zD) (xs := [(PyData.list ([] : List PyData))]) E.td (eh_cons (ev_toDL (ev_lst (r := zD) (xs := []) E.td eh_nil (Nat.le_of_ble_eq_true rfl))) eh_nil) (Nat.le_of_ble_eq_true rfl))) (eh_cons (ev_toDU (ev_tupU (r := zD) (xs := [(PyData.int (0 : Int))]) E.td (eh_cons (ev_toD ev_int) eh_nil) (Nat.le_of_ble_eq_true rfl))) (eh_cons (ev_toDL (ev_lst (r := zD) (xs := [(PyData.int (1 : Int)), (PyData.int (0 : Int))]) E.td (eh_cons (ev_toD ev_int) (eh_cons (ev_toD ev_int) eh_nil)) (Nat.le_of_ble_eq_true rfl))) (eh_cons (ev_toDU (ev_tupU (r := zD) (xs := [PyData.none]) E.td (eh_cons (ev_toD ev_non) eh_nil) (Nat.le_of_ble_eq_true rfl))) (eh_cons (ev_toDL (ev_lst (r := zD) (xs := [(PyData.bool false)]) E.td (eh_cons (ev_toD ev_bl) eh_nil) (Nat.le_of_ble_eq_true rfl))) (eh_cons (ev_toDU (ev_tupU (r := zD) (xs := [(PyData.tuple ([(PyData.str (wS ([false] : List Bool)))]))]) E.td (eh_cons (ev_toDU (ev_tupU (r := zD) (xs := [(PyData.str (wS ([false] : List Bool)))]) E.td (eh_cons (ev_toD (ev_word [false] (by decide) (by decide))) eh_nil) (Nat.le_of_ble_eq_true rfl))) eh_nil) (Nat.le_of_ble_eq_true rfl))) (eh_cons (ev_toDL (ev_lst (r := zD) (xs := [(PyData.str ("2" : Str))]) E.td (eh_cons (ev_toD ev_str) eh_nil) (Nat.le_of_ble_eq_true rfl))) eh_nil))))))))))))))))) (Nat.le_of_ble_eq_true rfl)) (Option.some.inj e_d1501)) fun v1500 H E => ?_
    first | refine nx_ ?_ | skip
    refine ret_open ?_
    refine op_open ?_
    refine En.run E (ev_var (i := 5) rfl (E.rd (r := (zL zD)) (v := v1500) (d := d1501) 0 rfl)) fun v1502 H E => ?_
    obtain ⟨q1503, h_q1503, hm⟩ := bnd hm
    refine En.gcall E (ea_cons (ev_var (i := 0) rfl (show zA K _ _ (.ref p_pool) p_pool from rfl)) (ea_cons (ev_lenL (ev_var (i := 5) rfl (E.rd (r := (zL zD)) (v := v1500) (d := d1501) 1 rfl))) ea_nil)) 0 rfl h_q1503 rfl fun v1504 H E => ?_
    refine of_op ?_
    obtain ⟨x1505, h_x1505, hm⟩ := bnd hm
    refine En.run E (ev_ixL (ev_var (i := 0) rfl (E.rd (r := (zL zD)) (v := v1502) (d := d1501) 1 rfl)) (ev_var (i := 1) rfl (E.rd (r := zI) (v := v1504) (d := q1503.1) 0 rfl)) h_x1505) fun v1506 H E => ?_
    have hr9 := Prod.mk.inj (Option.some.inj hm)
    have hr8 := hr9.1
    have hr7 := hr9.2
    subst res
    subst sres
    exact hQ _ _ (En.fr E) (En.outc E (c := (cPx p_pool q1503.2)) 0 rfl) (En.out E (En.at E (f := (fR zD v1506 x1505)) 0 rfl))
  · rw [if_neg (by rw [hc1596]; decide)] at hm
    first | refine nx_ ?_ | skip
    refine asg_open ?_
    obtain ⟨d1507, e_d1507, hm⟩ := bnd hm
    refine En.newL (r := zD) E (EvF.to (ef_listL (ev_LD (ev_var (i := 1) rfl (E.rd (r := (zL zW)) (v := v_rows) (d := p_rows) 1 rfl)))) (Option.some.inj e_d1507)) fun p1508 H E => ?_
    first | refine nx_ ?_ | skip
    refine asg_open ?_
    obtain ⟨q1509, h_q1509, hm⟩ := bnd hm
    refine En.gcall E (ea_cons (ev_var (i := 0) rfl (show zA K _ _ (.ref p_pool) p_pool from rfl)) (ea_cons (ev_lenL (ev_var (i := 1) rfl (E.rd (r := (zL zW)) (v := v_rows) (d := p_rows) 2 rfl))) ea_nil)) 1 rfl h_q1509 rfl fun v1510 H E => ?_
    first | refine nx_ ?_ | skip
    obtain ⟨j1548, hm9, hm8⟩ := bnd hm
    refine seq_open ?_
    refine cut_ (fun σ9 H9 => ∃ (T : AS), ∃ (u1549 : Option V), ∃ (u1550 : Option V), ∃ (u1551 : Option V), ∃ (u1552 : Option V), ∃ (u1553 : Option V), ∃ (u1554 : Option V), ∃ (u1555 : Option V), ∃ (u1556 : Option V), σ9 = [some (.ref p_pool), u1549, u1550, some (.ref p1508), u1551, u1552, u1553, u1554, u1555, u1556] ∧ En K ⟨T00, [p_pool], H00⟩ [] [(cL zD p1508 j1548.1), (cPx p_pool j1548.2)] T H9) ?_ fun rest => ?_
    · rintro _ H ⟨T, u1549, u1550, u1551, u1552, u1553, u1554, u1555, u1556, rfl, E⟩
      have hm := hm8
      first | refine nx_ ?_ | skip
      replace E := En.freeze (r := zD) (p := p1508) (xs := j1548.1) (cs := [(cPx p_pool j1548.2)]) E (by simp [owns])
      refine ret_open ?_
      obtain ⟨q1594, h_q1594, hm⟩ := bnd hm
      refine En.gcall E (ea_cons (ev_var (i := 0) rfl (show zA K _ _ (.ref p_pool) p_pool from rfl)) (ea_cons (ev_var (i := 3) rfl (E.rd (r := (zL zD)) (v := (.ref p1508)) (d := j1548.1) 0 rfl)) ea_nil)) 0 rfl h_q1594 rfl fun v1595 H E => ?_
      have hr9 := Prod.mk.inj (Option.some.inj hm)
      have hr8 := hr9.1
      have hr7 := hr9.2
      subst res
      subst sres
      exact hQ _ _ (En.fr E) (En.outc E (c := (cPx p_pool q1594.2)) 0 rfl) (En.out E (En.at E (f := (fR zD v1595 q1594.1)) 0 rfl))
    · have hm := hm9
      refine ifs_open ?_
      refine En.test E (et_test (K := K) (ev_eqI (ev_var (i := 2) rfl (E.rd (r := zI) (v := v1499) (d := q1498.1) 2 rfl)) ev_int)) fun H E => ?_
      refine iteB (fun hc1593 => ?_) (fun hc1593 => ?_)
      · rw [if_pos hc1593] at hm
        refine drop_open ?_
        refine En.bm (p := p1508) (r := zD) (xs := d1507) E rfl 0 rfl ?_
        refine cons_open ?_
        refine En.run E (ev_var (i := 4) rfl (E.rd (r := zI) (v := v1510) (d := q1509.1) 0 rfl)) fun v1557 H E => ?_
        refine cons_open ?_
        refine op_open ?_
        obtain ⟨x1558, h_x1558, hm⟩ := bnd hm
        refine En.run E (ev_ixL (ev_var (i := 1) rfl (E.rd (r := (zL zW)) (v := v_rows) (d := p_rows) 4 rfl)) ev_int h_x1558) fun v1559 H E => ?_
        refine op_open ?_
        obtain ⟨d1561, e_d1561, hm⟩ := bnd hm
        refine En.run E (Ev.to (ev_word [false, true] (by decide) (by decide)) (Option.some.inj e_d1561)) fun v1560 H E => ?_
        obtain ⟨q1562, h_q1562, hm⟩ := bnd hm
        refine En.gcall E (ea_cons (ev_var (i := 0) rfl (show zA K _ _ (.ref p_pool) p_pool from rfl)) (ea_cons ev_int ea_nil)) 1 rfl h_q1562 rfl fun v1563 H E => ?_
        refine of_op ?_
        obtain ⟨x1564, h_x1564, hm⟩ := bnd hm
        obtain ⟨d1566, e_d1566, hm⟩ := bnd hm
        refine En.run E (Ev.to (ev_ixW (ev_var (i := 0) rfl (E.rd (r := zW) (v := v1560) (d := d1561) 1 rfl)) (ev_var (i := 1) rfl (E.rd (r := zI) (v := v1563) (d := q1562.1) 0 rfl)) h_x1564) (Option.some.inj e_d1566)) fun v1565 H E => ?_
        refine of_op ?_
        obtain ⟨u1567, h_u1567, hm⟩ := bnd hm
        obtain ⟨d1569, e_d1569, hm⟩ := bnd hm
        refine En.run E (Ev.to (ev_catW (ev_var (i := 0) rfl (E.rd (r := zW) (v := v1559) (d := x1558) 3 rfl)) (ev_var (i := 1) rfl (E.rd (r := zW) (v := v1565) (d := d1566) 0 rfl)) (grd_ok h_u1567)) (Option.some.inj e_d1569)) fun v1568 H E => ?_
        replace E := En.add (f := (fR zD v1568 (PyData.str (wS d1569)))) E (zd_up (r := zW) (E.rd (r := zW) (v := v1568) (d := d1569) 0 rfl))
        refine nil_open ?_
        obtain rfl : v1557 = .int q1509.1 := E.at (f := (fR zI v1557 q1509.1)) 6 rfl
        obtain ⟨d1570, e_d1570, hm⟩ := bnd hm
        refine En.insertQ (r := zD) (p := p1508) (xs := d1507) (v := v1568) E 0 rfl (E.rd (r := zD) (v := v1568) (d := (PyData.str (wS d1569))) 0 rfl) e_d1570 fun H E => ?_
        have hj9 := Option.some.inj hm
        subst j1548
        exact rest _ _ ⟨_, _, _, _, _, _, _, _, _, rfl, (En.facts (En.pick E [0, 1] (by decide) rfl) trivial)⟩
      · rw [if_neg (by rw [hc1593]; decide)] at hm
        refine asg_open ?_
        obtain ⟨x1571, h_x1571, hm⟩ := bnd hm
        refine En.run E (ev_ixL (ev_var (i := 1) rfl (E.rd (r := (zL zW)) (v := v_rows) (d := p_rows) 3 rfl)) (ev_var (i := 4) rfl (E.rd (r := zI) (v := v1510) (d := q1509.1) 0 rfl)) h_x1571) fun v1572 H E => ?_
        first | refine nx_ ?_ | skip
        refine asg_open ?_
        obtain ⟨q1573, h_q1573, hm⟩ := bnd hm
        refine En.gcall E (ea_cons (ev_var (i := 0) rfl (show zA K _ _ (.ref p_pool) p_pool from rfl)) (ea_cons (ev_max2 ev_int (ev_lenW (ev_var (i := 6) rfl (E.rd (r := zW) (v := v1572) (d := x1571) 0 rfl)))) ea_nil)) 1 rfl h_q1573 rfl fun v1574 H E => ?_
        first | refine nx_ ?_ | skip
        refine asg_open ?_
        refine op_open ?_
        obtain ⟨d1576, e_d1576, hm⟩ := bnd hm
        refine En.run E (Ev.to ev_str (Option.some.inj e_d1576)) fun v1575 H E => ?_
        obtain ⟨q1577, h_q1577, hm⟩ := bnd hm
        refine En.gcall E (ea_cons (ev_var (i := 0) rfl (show zA K _ _ (.ref p_pool) p_pool from rfl)) (ea_cons ev_int ea_nil)) 1 rfl h_q1577 rfl fun v1578 H E => ?_
        refine of_op ?_
        obtain ⟨x1579, h_x1579, hm⟩ := bnd hm
        refine En.run E (ev_ixS (ev_var (i := 0) rfl (E.rd (r := zS) (v := v1575) (d := d1576) 1 rfl)) (ev_var (i := 1) rfl (E.rd (r := zI) (v := v1578) (d := q1577.1) 0 rfl)) h_x1579) fun v1580 H E => ?_
        first | refine nx_ ?_ | skip
        refine asg_open ?_
        obtain ⟨u1583, h_u1583, hm⟩ := bnd hm
        obtain ⟨u1584, h_u1584, hm⟩ := bnd hm
        obtain ⟨d1586, e_d1586, hm⟩ := bnd hm
        refine En.run E (Ev.to (ev_lst E.td (eh_cons (ev_toD ev_non) (eh_cons (ev_toD ev_bl) (eh_cons (ev_toD ev_int) (eh_cons (ev_toD ev_int) (eh_cons (ev_toDL (ev_lst (r := zD) (xs := [(PyData.str (wS x1571))]) E.td (eh_cons (ev_toD (ev_var (i := 6) rfl (E.rd (r := zW) (v := v1572) (d := x1571) 4 rfl))) eh_nil) (Nat.le_of_ble_eq_true rfl))) (eh_cons (ev_toDU (ev_tupU (r := zD) (xs := [(PyData.str (wS x1571))]) E.td (eh_cons (ev_toD (ev_var (i := 6) rfl (E.rd (r := zW) (v := v1572) (d := x1571) 4 rfl))) eh_nil) (Nat.le_of_ble_eq_true rfl))) (eh_cons (ev_toD (ev_tupL E.td (ev_lc1 (f := fun (x1581 : (List Bool)) => x1581) E.td (ei_word (ev_var (i := 6) rfl (E.rd (r := zW) (v := v1572) (d := x1571) 4 rfl))) (fun T1581 H1581 v1581 x1581 L1581 hT1581 hx1581 r1581 Q1581 q1581 => q1581 _ wipe1 (ev_var (i := 9) rfl r1581))))) (eh_cons (ev_toD (ev_catS (ev_catS (ev_WS (ev_slW (ev_var (i := 6) rfl (E.rd (r := zW) (v := v1572) (d := x1571) 4 rfl)) eo_none (eo_some (K := K) (ev_var (i := 7) rfl (E.rd (r := zI) (v := v1574) (d := q1573.1) 3 rfl))))) (ev_var (i := 8) rfl (E.rd (r := zS) (v := v1580) (d := x1579) 0 rfl)) (grd_ok h_u1583)) (ev_WS (ev_slW (ev_var (i := 6) rfl (E.rd (r := zW) (v := v1572) (d := x1571) 4 rfl)) (eo_some (K := K) (ev_add (ev_var (i := 7) rfl (E.rd (r := zI) (v := v1574) (d := q1573.1) 3 rfl)) ev_int)) eo_none)) (grd_ok h_u1584))) eh_nil)))))))) (Nat.le_of_ble_eq_true rfl)) (Option.some.inj e_d1586)) fun v1585 H E => ?_
        first | refine nx_ ?_ | skip
        refine asgt_open ?_
        refine op_open ?_
        refine En.run E (ev_var (i := 5) rfl (E.rd (r := (zL zD)) (v := v1585) (d := d1586) 0 rfl)) fun v1587 H E => ?_
        obtain ⟨q1588, h_q1588, hm⟩ := bnd hm
        refine En.gcall E (ea_cons (ev_var (i := 0) rfl (show zA K _ _ (.ref p_pool) p_pool from rfl)) (ea_cons (ev_lenL (ev_var (i := 5) rfl (E.rd (r := (zL zD)) (v := v1585) (d := d1586) 1 rfl))) ea_nil)) 1 rfl h_q1588 rfl fun v1589 H E => ?_
        refine of_op ?_
        obtain ⟨x1590, h_x1590, hm⟩ := bnd hm
        refine En.run E (ev_ixL (ev_var (i := 0) rfl (E.rd (r := (zL zD)) (v := v1587) (d := d1586) 1 rfl)) (ev_var (i := 1) rfl (E.rd (r := zI) (v := v1589) (d := q1588.1) 0 rfl)) h_x1590) fun v1591 H E => ?_
        obtain ⟨d1592, e_d1592, hm⟩ := bnd hm
        refine En.setitem (r := zD) (p := p1508) (xs := d1507) E rfl 0 rfl (E.rd (r := zD) (v := v1591) (d := x1590) 0 rfl) (ev_var (i := 4) rfl (E.rd (r := zI) (v := v1510) (d := q1509.1) 9 rfl)) e_d1592 fun H E => ?_
        have hj9 := Option.some.inj hm
        subst j1548
        exact rest _ _ ⟨_, _, _, _, _, _, _, _, _, rfl, (En.facts (En.pick E [0, 1] (by decide) rfl) trivial)⟩

def m__law_bad_budgets (p_budgets : (List Int)) (s00 : Px) : Option (PyData × Px) :=
((m__law_take (4 : Int) s00).bind fun (q1597 : Int × Px) =>
((m__law_take ((p_budgets).length : Int) q1597.2).bind fun (q1599 : Int × Px) =>
(if (decide (q1597.1 = (0 : Int))) = true then
((some ([PyData.none, (PyData.bool true), (PyData.bool false), (PyData.int (0 : Int)), (PyData.int (2 : Int)), (PyData.str (wS ([] : List Bool))), (PyData.str (wS ([false] : List Bool))), (PyData.str (wS ([true, true] : List Bool))), (PyData.tuple ([] : List PyData)), (PyData.list ([] : List PyData)), (PyData.tuple ([PyData.none])), (PyData.list ([(PyData.str (wS ([true] : List Bool)))])), (PyData.tuple ([(PyData.bool true)])), (PyData.list ([(PyData.int (-(1 : Int)))])), (PyData.tuple ([(PyData.tuple ([(PyData.int (0 : Int))]))]))] : (List PyData))).bind fun (d1602 : (List PyData)) =>
((m__law_take ((d1602).length : Int) q1599.2).bind fun (q1604 : Int × Px) =>
((atI d1602 q1604.1).bind fun (x1606 : PyData) =>
some (x1606, q1604.2))))
else
((some ((p_budgets.map (Tod.toD zI)))).bind fun (d1608 : List PyData) =>
(((if (decide (q1597.1 = (1 : Int))) = true then
((m__law_take (3 : Int) q1599.2).bind fun (q1700 : Int × Px) =>
((insO d1608 q1599.1 (PyData.int q1700.1)).bind fun (d1702 : List PyData) =>
some (d1702, q1700.2)))
else
(((if (decide (q1597.1 = (2 : Int))) = true then
((popAtO d1608 q1599.1).bind fun (q1746 : PyData × List PyData) =>
some (q1746.2, q1599.2))
else
((some (PyData.bool true)).bind fun (d1750 : PyData) =>
((some (PyData.bool false)).bind fun (d1752 : PyData) =>
((some (PyData.str (wS ([true] : List Bool)))).bind fun (d1754 : PyData) =>
((some (PyData.str (wS ([] : List Bool)))).bind fun (d1756 : PyData) =>
((some (PyData.int (-(1 : Int)))).bind fun (d1758 : PyData) =>
((some (-(1 : Int))).bind fun (d1760 : Int) =>
((grd (CPow (10 : Int) (9 : Int))).bind fun (u1762 : Unit) =>
((m__law_take ((10 : Int) ^ ((9 : Int)).toNat) q1599.2).bind fun (q1763 : Int × Px) =>
((some (d1760 - q1763.1)).bind fun (d1766 : Int) =>
((some (PyData.tuple ([(PyData.int (1 : Int))]))).bind fun (d1768 : PyData) =>
((some (PyData.list ([(PyData.int (0 : Int))]))).bind fun (d1770 : PyData) =>
((some (PyData.tuple ([] : List PyData))).bind fun (d1772 : PyData) =>
((some [PyData.none, d1750, d1752, d1754, d1756, d1758, (PyData.int d1766), d1768, d1770, d1772]).bind fun (d1773 : List PyData) =>
((m__law_take ((d1773).length : Int) q1763.2).bind fun (q1776 : Int × Px) =>
((atI d1773 q1776.1).bind fun (x1778 : PyData) =>
((setO d1608 q1599.1 x1778).bind fun (d1780 : List PyData) =>
some (d1780, q1776.2))))))))))))))))))).bind fun (j1740 : (List PyData) × Px) =>
some (j1740.1, j1740.2)))).bind fun (j1694 : (List PyData) × Px) =>
((m__law_handedD j1694.1 j1694.2).bind fun (q1783 : PyData × Px) =>
some (q1783.1, q1783.2)))))))
abbrev sp__law_bad_budgets (K : PySem.W.Frag) : Sp := GSp K (aC zA (aC (zL zI) aN)) (fun (a : Addr × (List Int) × Unit) (s : Px) => cPx a.1 s) zD (fun (a : Addr × (List Int) × Unit) (s : Px) => m__law_bad_budgets a.2.1 s)
theorem ok__law_bad_budgets (S : Tx K mg) (G__law_handedD : Ok P w K mg base 2 ("_law_handed", none) ["pool", "values"] (sp__law_handedD K)) (G__law_take : Ok P w K mg base 1 ("_law_take", none) ["pool", "many"] (sp__law_take K)) : Ok P w K mg base 3 ("_law_bad_budgets", none) ["pool", "budgets"] (sp__law_bad_budgets K) := by
  obtain ⟨fd, D⟩ := d__law_bad_budgets S
  refine mk_ok D sc__law_bad_budgets (D.bindsN fun _ _ _ _ _ _ us hl => match us, hl with | [_, _], _ => rfl) (GSp_len len2) (fun cdv A outer s H00 vs Q E hr h => ?_)
  obtain ⟨T00, ⟨p_pool, p_budgets, _⟩, s00, res, sres, hT, ⟨v_pool, _, rfl, r_pool, v_budgets, _, rfl, r_budgets, rfl⟩, hc, hTc, hnd, hm, hQ⟩ := h
  obtain rfl : v_pool = .ref p_pool := r_pool
  refine ⟨_, (pss_cons (ps_set (i := 2) sc__law_bad_budgets.nd rfl (.inl rfl) (pe_callG G__law_take hr (by omega) (by rfl) (g__law_take S) (pa_cons (pv 0) (pa_cons pe_int pa_nil)))) (pss_cons (ps_set (i := 3) sc__law_bad_budgets.nd rfl (.inl rfl) (pe_callG G__law_take hr (by omega) (by rfl) (g__law_take S) (pa_cons (pv 0) (pa_cons (pe_callB (kc_len (K := K)) (by rfl) (m_len S) bt_len (pa_cons (pv 1) pa_nil)) pa_nil)))) (pss_cons (ps_if (pt_cmpR op_eq (pv 2) pe_int (nomark _)) (pss_cons (ps_set (i := 5) sc__law_bad_budgets.nd rfl (.inl rfl) (pe_lst (pa_cons pe_non (pa_cons pe_bl (pa_cons pe_bl (pa_cons pe_int (pa_cons pe_int (pa_cons pe_str (pa_cons pe_str (pa_cons pe_str (pa_cons (pe_tup pa_nil) (pa_cons (pe_lst pa_nil) (pa_cons (pe_tup (pa_cons pe_non pa_nil)) (pa_cons (pe_lst (pa_cons pe_str pa_nil)) (pa_cons (pe_tup (pa_cons pe_bl pa_nil)) (pa_cons (pe_lst (pa_cons (pe_un un_neg pe_int) pa_nil)) (pa_cons (pe_tup (pa_cons (pe_tup (pa_cons pe_int pa_nil)) pa_nil)) pa_nil))))))))))))))))) (pss_one (ps_ret (pe_ix (kx_list (K := K)) (pv 5) (pe_callG G__law_take hr (by omega) (by rfl) (g__law_take S) (pa_cons (pv 0) (pa_cons (pe_callB (kc_len (K := K)) (by rfl) (m_len S) bt_len (pa_cons (pv 5) pa_nil)) pa_nil))) (fun _ _ => rfl))))) pss_nil) (pss_cons (ps_set (i := 4) sc__law_bad_budgets.nd rfl (.inl rfl) (pe_callTy (kc_list (K := K)) (by rfl) (m_list S) bt_list (pa_cons (pv 1) pa_nil))) (pss_cons (ps_if (pt_cmpR op_eq (pv 2) pe_int (nomark _)) (pss_one (ps_expr (pe_bm PySem.F.plainAttrs_list PySem.F.slot_list_insert PySem.F.type_list_insert mt_insertQ (pv 4) (pa_cons (pv 3) (pa_cons (pe_callG G__law_take hr (by omega) (by rfl) (g__law_take S) (pa_cons (pv 0) (pa_cons pe_int pa_nil))) pa_nil))))) (pss_one (ps_if (pt_cmpR op_eq (pv 2) pe_int (nomark _)) (pss_one (ps_expr (pe_bm PySem.F.plainAttrs_list PySem.F.slot_list_pop PySem.F.type_list_pop mt_popAt (pv 4) (pa_cons (pv 3) pa_nil)))) (pss_cons (ps_set (i := 5) sc__law_bad_budgets.nd rfl (.inl rfl) (pe_lst (pa_cons pe_non (pa_cons pe_bl (pa_cons pe_bl (pa_cons pe_str (pa_cons pe_str (pa_cons (pe_un un_neg pe_int) (pa_cons (pe_op op_sub (pe_un un_neg pe_int) (pe_callG G__law_take hr (by omega) (by rfl) (g__law_take S) (pa_cons (pv 0) (pa_cons (pe_op op_pow pe_int pe_int) pa_nil)))) (pa_cons (pe_tup (pa_cons pe_int pa_nil)) (pa_cons (pe_lst (pa_cons pe_int pa_nil)) (pa_cons (pe_tup pa_nil) pa_nil)))))))))))) (pss_one (ps_asg (pe_ix (kx_list (K := K)) (pv 5) (pe_callG G__law_take hr (by omega) (by rfl) (g__law_take S) (pa_cons (pv 0) (pa_cons (pe_callB (kc_len (K := K)) (by rfl) (m_len S) bt_len (pa_cons (pv 5) pa_nil)) pa_nil))) (fun _ _ => rfl)) (pg_sub (pv 4) (pv 3) set_list))))))) (pss_one (ps_ret (pe_callG G__law_handedD hr (by omega) (by rfl) (g__law_handed S) (pa_cons (pv 0) (pa_cons (pv 4) pa_nil)))))))))), ?_⟩
  have E : En K ⟨T00, [p_pool], H00⟩ [(fR (zL zI) v_budgets p_budgets)] [(cPx p_pool s00)] T00 H00 := En.start1 (c := (cPx p_pool s00)) hT ⟨r_budgets, trivial⟩ hc hTc hnd
  replace hm : m__law_bad_budgets p_budgets s00 = some (res, sres) := hm
  unfold m__law_bad_budgets at hm
  refine asg_open ?_
  obtain ⟨q1597, h_q1597, hm⟩ := bnd hm
  refine En.gcall E (ea_cons (ev_var (i := 0) rfl (show zA K _ _ (.ref p_pool) p_pool from rfl)) (ea_cons ev_int ea_nil)) 0 rfl h_q1597 rfl fun v1598 H E => ?_
  first | refine nx_ ?_ | skip
  refine asg_open ?_
  obtain ⟨q1599, h_q1599, hm⟩ := bnd hm
  refine En.gcall E (ea_cons (ev_var (i := 0) rfl (show zA K _ _ (.ref p_pool) p_pool from rfl)) (ea_cons (ev_lenL (ev_var (i := 1) rfl (E.rd (r := (zL zI)) (v := v_budgets) (d := p_budgets) 1 rfl))) ea_nil)) 0 rfl h_q1599 rfl fun v1600 H E => ?_
  first | refine nx_ ?_ | skip
  refine ifs_open ?_
  refine En.test E (et_test (K := K) (ev_eqI (ev_var (i := 2) rfl (E.rd (r := zI) (v := v1598) (d := q1597.1) 1 rfl)) ev_int)) fun H E => ?_
  refine iteB (fun hc1785 => ?_) (fun hc1785 => ?_)
  · rw [if_pos hc1785] at hm
    refine asg_open ?_
    obtain ⟨d1602, e_d1602, hm⟩ := bnd hm
    refine En.run E (Ev.to (ev_lst E.td (eh_cons (ev_toD ev_non) (eh_cons (ev_toD ev_bl) (eh_cons (ev_toD ev_bl) (eh_cons (ev_toD ev_int) (eh_cons (ev_toD ev_int) (eh_cons (ev_toD (ev_word [] (by decide) (by decide))) (eh_cons (ev_toD (ev_word [false] (by decide) (by decide))) (eh_cons (ev_toD (ev_word [true, true] (by decide) (by decide))) (eh_cons (ev_toDU (ev_tupU (r := zD) (xs := []) E.td eh_nil (Nat.le_of_ble_eq_true rfl))) (eh_cons (ev_toDL (ev_lst (r := zD) (xs := []) E.td eh_nil (Nat.le_of_ble_eq_true rfl))) (eh_cons (ev_toDU (ev_tupU (r := zD) (xs := [PyData.none]) E.td (eh_cons (ev_toD ev_non) eh_nil) (Nat.le_of_ble_eq_true rfl))) (eh_cons (ev_toDL (ev_lst (r := zD) (xs := [(PyData.str (wS ([true] : List Bool)))]) E.td (eh_cons (ev_toD (ev_word [true] (by decide) (by decide))) eh_nil) (Nat.le_of_ble_eq_true rfl))) (eh_cons (ev_toDU (ev_tupU (r := zD) (xs := [(PyData.bool true)]) E.td (eh_cons (ev_toD ev_bl) eh_nil) (Nat.le_of_ble_eq_true rfl))) (eh_cons (ev_toDL (ev_lst (r := zD) (xs := [(PyData.int (-(1 : Int)))]) E.td (eh_cons (ev_toD (ev_neg ev_int)) eh_nil) (Nat.le_of_ble_eq_true rfl))) (eh_cons (ev_toDU (ev_tupU (r := zD) (xs := [(PyData.tuple ([(PyData.int (0 : Int))]))]) E.td (eh_cons (ev_toDU (ev_tupU (r := zD) (xs := [(PyData.int (0 : Int))]) E.td (eh_cons (ev_toD ev_int) eh_nil) (Nat.le_of_ble_eq_true rfl))) eh_nil) (Nat.le_of_ble_eq_true rfl))) eh_nil))))))))))))))) (Nat.le_of_ble_eq_true rfl)) (Option.some.inj e_d1602)) fun v1601 H E => ?_
    first | refine nx_ ?_ | skip
    refine ret_open ?_
    refine op_open ?_
    refine En.run E (ev_var (i := 5) rfl (E.rd (r := (zL zD)) (v := v1601) (d := d1602) 0 rfl)) fun v1603 H E => ?_
    obtain ⟨q1604, h_q1604, hm⟩ := bnd hm
    refine En.gcall E (ea_cons (ev_var (i := 0) rfl (show zA K _ _ (.ref p_pool) p_pool from rfl)) (ea_cons (ev_lenL (ev_var (i := 5) rfl (E.rd (r := (zL zD)) (v := v1601) (d := d1602) 1 rfl))) ea_nil)) 0 rfl h_q1604 rfl fun v1605 H E => ?_
    refine of_op ?_
    obtain ⟨x1606, h_x1606, hm⟩ := bnd hm
    refine En.run E (ev_ixL (ev_var (i := 0) rfl (E.rd (r := (zL zD)) (v := v1603) (d := d1602) 1 rfl)) (ev_var (i := 1) rfl (E.rd (r := zI) (v := v1605) (d := q1604.1) 0 rfl)) h_x1606) fun v1607 H E => ?_
    have hr9 := Prod.mk.inj (Option.some.inj hm)
    have hr8 := hr9.1
    have hr7 := hr9.2
    subst res
    subst sres
    exact hQ _ _ (En.fr E) (En.outc E (c := (cPx p_pool q1604.2)) 0 rfl) (En.out E (En.at E (f := (fR zD v1607 x1606)) 0 rfl))
  · rw [if_neg (by rw [hc1785]; decide)] at hm
    first | refine nx_ ?_ | skip
    refine asg_open ?_
    obtain ⟨d1608, e_d1608, hm⟩ := bnd hm
    refine En.newL (r := zD) E (EvF.to (ef_listL (ev_LD (ev_var (i := 1) rfl (E.rd (r := (zL zI)) (v := v_budgets) (d := p_budgets) 2 rfl)))) (Option.some.inj e_d1608)) fun p1609 H E => ?_
    first | refine nx_ ?_ | skip
    obtain ⟨j1694, hm9, hm8⟩ := bnd hm
    refine seq_open ?_
    refine cut_ (fun σ9 H9 => ∃ (T : AS), ∃ (u1695 : Option V), ∃ (u1696 : Option V), ∃ (u1697 : Option V), ∃ (u1698 : Option V), σ9 = [some (.ref p_pool), u1695, u1696, u1697, some (.ref p1609), u1698] ∧ En K ⟨T00, [p_pool], H00⟩ [] [(cL zD p1609 j1694.1), (cPx p_pool j1694.2)] T H9) ?_ fun rest => ?_
    · rintro _ H ⟨T, u1695, u1696, u1697, u1698, rfl, E⟩
      have hm := hm8
      first | refine nx_ ?_ | skip
      replace E := En.freeze (r := zD) (p := p1609) (xs := j1694.1) (cs := [(cPx p_pool j1694.2)]) E (by simp [owns])
      refine ret_open ?_
      obtain ⟨q1783, h_q1783, hm⟩ := bnd hm
      refine En.gcall E (ea_cons (ev_var (i := 0) rfl (show zA K _ _ (.ref p_pool) p_pool from rfl)) (ea_cons (ev_var (i := 4) rfl (E.rd (r := (zL zD)) (v := (.ref p1609)) (d := j1694.1) 0 rfl)) ea_nil)) 0 rfl h_q1783 rfl fun v1784 H E => ?_
      have hr9 := Prod.mk.inj (Option.some.inj hm)
      have hr8 := hr9.1
      have hr7 := hr9.2
      subst res
      subst sres
      exact hQ _ _ (En.fr E) (En.outc E (c := (cPx p_pool q1783.2)) 0 rfl) (En.out E (En.at E (f := (fR zD v1784 q1783.1)) 0 rfl))
    · have hm := hm9
      refine ifs_open ?_
      refine En.test E (et_test (K := K) (ev_eqI (ev_var (i := 2) rfl (E.rd (r := zI) (v := v1598) (d := q1597.1) 2 rfl)) ev_int)) fun H E => ?_
      refine iteB (fun hc1782 => ?_) (fun hc1782 => ?_)
      · rw [if_pos hc1782] at hm
        refine drop_open ?_
        refine En.bm (p := p1609) (r := zD) (xs := d1608) E rfl 0 rfl ?_
        refine cons_open ?_
        refine En.run E (ev_var (i := 3) rfl (E.rd (r := zI) (v := v1600) (d := q1599.1) 1 rfl)) fun v1699 H E => ?_
        refine cons_open ?_
        obtain ⟨q1700, h_q1700, hm⟩ := bnd hm
        refine En.gcall E (ea_cons (ev_var (i := 0) rfl (show zA K _ _ (.ref p_pool) p_pool from rfl)) (ea_cons ev_int ea_nil)) 1 rfl h_q1700 rfl fun v1701 H E => ?_
        replace E := En.add (f := (fR zD v1701 (PyData.int q1700.1))) E (zd_up (r := zI) (E.rd (r := zI) (v := v1701) (d := q1700.1) 0 rfl))
        refine nil_open ?_
        obtain rfl : v1699 = .int q1599.1 := E.at (f := (fR zI v1699 q1599.1)) 2 rfl
        obtain ⟨d1702, e_d1702, hm⟩ := bnd hm
        refine En.insertQ (r := zD) (p := p1609) (xs := d1608) (v := v1701) E 0 rfl (E.rd (r := zD) (v := v1701) (d := (PyData.int q1700.1)) 0 rfl) e_d1702 fun H E => ?_
        have hj9 := Option.some.inj hm
        subst j1694
        exact rest _ _ ⟨_, _, _, _, _, rfl, (En.facts (En.pick E [0, 1] (by decide) rfl) trivial)⟩
      · rw [if_neg (by rw [hc1782]; decide)] at hm
        obtain ⟨j1740, hm9, hm8⟩ := bnd hm
        refine cut_ (fun σ9 H9 => ∃ (T : AS), ∃ (u1741 : Option V), ∃ (u1742 : Option V), ∃ (u1743 : Option V), ∃ (u1744 : Option V), σ9 = [some (.ref p_pool), u1741, u1742, u1743, some (.ref p1609), u1744] ∧ En K ⟨T00, [p_pool], H00⟩ [] [(cL zD p1609 j1740.1), (cPx p_pool j1740.2)] T H9) ?_ fun rest => ?_
        · rintro _ H ⟨T, u1741, u1742, u1743, u1744, rfl, E⟩
          have hm := hm8
          have hj9 := Option.some.inj hm
          subst j1694
          exact rest _ _ ⟨_, _, _, _, _, rfl, (En.facts (En.pick E [0, 1] (by decide) rfl) trivial)⟩
        · have hm := hm9
          refine ifs_open ?_
          refine En.test E (et_test (K := K) (ev_eqI (ev_var (i := 2) rfl (E.rd (r := zI) (v := v1598) (d := q1597.1) 2 rfl)) ev_int)) fun H E => ?_
          refine iteB (fun hc1781 => ?_) (fun hc1781 => ?_)
          · rw [if_pos hc1781] at hm
            refine drop_open ?_
            refine En.bm (p := p1609) (r := zD) (xs := d1608) E rfl 0 rfl ?_
            refine cons_open ?_
            refine En.run E (ev_var (i := 3) rfl (E.rd (r := zI) (v := v1600) (d := q1599.1) 1 rfl)) fun v1745 H E => ?_
            refine nil_open ?_
            obtain ⟨q1746, h_q1746, hm⟩ := bnd hm
            obtain rfl : v1745 = .int q1599.1 := E.at (f := (fR zI v1745 q1599.1)) 0 rfl
            refine En.popAt (r := zD) (p := p1609) (xs := d1608) E 0 rfl h_q1746 fun v1747 H E => ?_
            have hj9 := Option.some.inj hm
            subst j1740
            exact rest _ _ ⟨_, _, _, _, _, rfl, (En.facts (En.pick E [0, 1] (by decide) rfl) trivial)⟩
          · rw [if_neg (by rw [hc1781]; decide)] at hm
            refine asg_open ?_
            refine lst_open ?_
            refine cons_open ?_
            refine En.run E (ev_toD ev_non) fun v1748 H E => ?_
            refine cons_open ?_
            obtain ⟨d1750, e_d1750, hm⟩ := bnd hm
            refine En.run E (Ev.to (ev_toD ev_bl) (Option.some.inj e_d1750)) fun v1749 H E => ?_
            refine cons_open ?_
            obtain ⟨d1752, e_d1752, hm⟩ := bnd hm
            refine En.run E (Ev.to (ev_toD ev_bl) (Option.some.inj e_d1752)) fun v1751 H E => ?_
            refine cons_open ?_
            obtain ⟨d1754, e_d1754, hm⟩ := bnd hm
            refine En.run E (Ev.to (ev_toD (ev_word [true] (by decide) (by decide))) (Option.some.inj e_d1754)) fun v1753 H E => ?_
            refine cons_open ?_
            obtain ⟨d1756, e_d1756, hm⟩ := bnd hm
            refine En.run E (Ev.to (ev_toD (ev_word [] (by decide) (by decide))) (Option.some.inj e_d1756)) fun v1755 H E => ?_
            refine cons_open ?_
            obtain ⟨d1758, e_d1758, hm⟩ := bnd hm
            refine En.run E (Ev.to (ev_toD (ev_neg ev_int)) (Option.some.inj e_d1758)) fun v1757 H E => ?_
            refine cons_open ?_
            refine op_open ?_
            obtain ⟨d1760, e_d1760, hm⟩ := bnd hm
            refine En.run E (Ev.to (ev_neg ev_int) (Option.some.inj e_d1760)) fun v1759 H E => ?_
            obtain ⟨u1762, h_u1762, hm⟩ := bnd hm
            obtain ⟨q1763, h_q1763, hm⟩ := bnd hm
            refine En.gcall E (ea_cons (ev_var (i := 0) rfl (show zA K _ _ (.ref p_pool) p_pool from rfl)) (ea_cons (ev_pow ev_int ev_int (grd_ok h_u1762)) ea_nil)) 1 rfl h_q1763 rfl fun v1764 H E => ?_
            refine of_op ?_
            obtain ⟨d1766, e_d1766, hm⟩ := bnd hm
            refine En.run E (Ev.to (ev_sub (ev_var (i := 0) rfl (E.rd (r := zI) (v := v1759) (d := d1760) 1 rfl)) (ev_var (i := 1) rfl (E.rd (r := zI) (v := v1764) (d := q1763.1) 0 rfl))) (Option.some.inj e_d1766)) fun v1765 H E => ?_
            replace E := En.add (f := (fR zD v1765 (PyData.int d1766))) E (zd_up (r := zI) (E.rd (r := zI) (v := v1765) (d := d1766) 0 rfl))
            refine cons_open ?_
            obtain ⟨d1768, e_d1768, hm⟩ := bnd hm
            refine En.run E (Ev.to (ev_toDU (ev_tupU (r := zD) (xs := [(PyData.int (1 : Int))]) E.td (eh_cons (ev_toD ev_int) eh_nil) (Nat.le_of_ble_eq_true rfl))) (Option.some.inj e_d1768)) fun v1767 H E => ?_
            refine cons_open ?_
            obtain ⟨d1770, e_d1770, hm⟩ := bnd hm
            refine En.run E (Ev.to (ev_toDL (ev_lst (r := zD) (xs := [(PyData.int (0 : Int))]) E.td (eh_cons (ev_toD ev_int) eh_nil) (Nat.le_of_ble_eq_true rfl))) (Option.some.inj e_d1770)) fun v1769 H E => ?_
            refine cons_open ?_
            obtain ⟨d1772, e_d1772, hm⟩ := bnd hm
            refine En.run E (Ev.to (ev_toDU (ev_tupU (r := zD) (xs := []) E.td eh_nil (Nat.le_of_ble_eq_true rfl))) (Option.some.inj e_d1772)) fun v1771 H E => ?_
            refine nil_open ?_
            obtain ⟨d1773, e_d1773, hm⟩ := bnd hm
            refine En.lstV (r := zD) E (all2_to (.cons (E.rd (r := zD) (v := v1748) (d := PyData.none) 12 rfl) (.cons (E.rd (r := zD) (v := v1749) (d := d1750) 11 rfl) (.cons (E.rd (r := zD) (v := v1751) (d := d1752) 10 rfl) (.cons (E.rd (r := zD) (v := v1753) (d := d1754) 9 rfl) (.cons (E.rd (r := zD) (v := v1755) (d := d1756) 8 rfl) (.cons (E.rd (r := zD) (v := v1757) (d := d1758) 7 rfl) (.cons (E.rd (r := zD) (v := v1765) (d := (PyData.int d1766)) 3 rfl) (.cons (E.rd (r := zD) (v := v1767) (d := d1768) 2 rfl) (.cons (E.rd (r := zD) (v := v1769) (d := d1770) 1 rfl) (.cons (E.rd (r := zD) (v := v1771) (d := d1772) 0 rfl) .nil)))))))))) (Option.some.inj e_d1773)) (by rw [← Option.some.inj e_d1773]; exact Nat.le_of_ble_eq_true rfl) fun p1774 E => ?_
            revert E
            generalize upd _ p1774 _ = H
            intro E
            first | refine nx_ ?_ | skip
            refine asgt_open ?_
            refine op_open ?_
            refine En.run E (ev_var (i := 5) rfl (E.rd (r := (zL zD)) (v := (.ref p1774)) (d := d1773) 0 rfl)) fun v1775 H E => ?_
            obtain ⟨q1776, h_q1776, hm⟩ := bnd hm
            refine En.gcall E (ea_cons (ev_var (i := 0) rfl (show zA K _ _ (.ref p_pool) p_pool from rfl)) (ea_cons (ev_lenL (ev_var (i := 5) rfl (E.rd (r := (zL zD)) (v := (.ref p1774)) (d := d1773) 1 rfl))) ea_nil)) 1 rfl h_q1776 rfl fun v1777 H E => ?_
            refine of_op ?_
            obtain ⟨x1778, h_x1778, hm⟩ := bnd hm
            refine En.run E (ev_ixL (ev_var (i := 0) rfl (E.rd (r := (zL zD)) (v := v1775) (d := d1773) 1 rfl)) (ev_var (i := 1) rfl (E.rd (r := zI) (v := v1777) (d := q1776.1) 0 rfl)) h_x1778) fun v1779 H E => ?_
            obtain ⟨d1780, e_d1780, hm⟩ := bnd hm
            refine En.setitem (r := zD) (p := p1609) (xs := d1608) E rfl 0 rfl (E.rd (r := zD) (v := v1779) (d := x1778) 0 rfl) (ev_var (i := 3) rfl (E.rd (r := zI) (v := v1600) (d := q1599.1) 18 rfl)) e_d1780 fun H E => ?_
            have hj9 := Option.some.inj hm
            subst j1740
            exact rest _ _ ⟨_, _, _, _, _, rfl, (En.facts (En.pick E [0, 1] (by decide) rfl) trivial)⟩

end
end EB

set_option Elab.async false
set_option linter.all false
set_option maxRecDepth 100000
set_option maxHeartbeats 4000000

namespace EB
open PySem PySem.Spec PyProof.Rows L2

section
variable {P : Program} {w : World} {K : PySem.W.Frag} {mg : Str → Option Value} {base : Heap}

abbrev DPointGame : Type := (List (List Bool)) × (List Int)
abbrev fPointGame {K : PySem.W.Frag} : Unit := ()
def zPointGame : Rp DPointGame := fun K T H v d => ∃ kk, zOb "PointGame" ["rows", "budgets", "known"] (aC (zU zW) (aC (zU zI) (aC zA aN))) K T H v (d.1, d.2, kk, ())
instance : Mo zPointGame := ⟨fun w ⟨kk, h⟩ => ⟨kk, Mo.wd w h⟩⟩
instance : IsOb "PointGame" ["rows", "budgets", "known"] zPointGame := ⟨fun ⟨kk, p, dx, vs, e, _, h, _⟩ => ⟨p, dx, vs, e, h⟩⟩
theorem fd_PointGame_rows {K : PySem.W.Frag} {mg : Str → Option Value} (S : Tx K mg) {T : AS} {σ : L2.St} {H : Hp} {ta : TE} {d : DPointGame} (h : Ev K T ta σ H zPointGame d) : Ev K T (tFld K ta "rows") σ H (zU zW) d.1 :=
  ev_fldX (c_PointGame S) (na_PointGame_rows S) h fun H1 v ⟨kk, p, dx, vs, e, _, hp, hr⟩ => by
    obtain ⟨v0, _, rfl, r0, v1, _, rfl, r1, v2, _, rfl, r2, rfl⟩ := hr
    exact ⟨p, dx, _, v0, e, hp, rfl, r0⟩
theorem fd_PointGame_budgets {K : PySem.W.Frag} {mg : Str → Option Value} (S : Tx K mg) {T : AS} {σ : L2.St} {H : Hp} {ta : TE} {d : DPointGame} (h : Ev K T ta σ H zPointGame d) : Ev K T (tFld K ta "budgets") σ H (zU zI) d.2 :=
  ev_fldX (c_PointGame S) (na_PointGame_budgets S) h fun H1 v ⟨kk, p, dx, vs, e, _, hp, hr⟩ => by
    obtain ⟨v0, _, rfl, r0, v1, _, rfl, r1, v2, _, rfl, r2, rfl⟩ := hr
    exact ⟨p, dx, _, v1, e, hp, rfl, r1⟩

def m_PointGame___init__ (p_rows : PyData) (p_budgets : PyData) : Option (Except Err DPointGame) :=
catE (m_check_rows p_rows p_budgets) (fun (d1786 : Unit) =>
((Fd.fd (zQ zW) p_rows).bind fun (x1790 : (List (List Bool))) =>
((Fd.fd (zQ zI) p_budgets).bind fun (x1792 : (List Int)) =>
some (.ok (x1790, x1792))))) (fun (k1787 : Str × Str) (y1788 : PyData) =>
some (.error ⟨k1787, y1788⟩))
abbrev sp_PointGame___init__ (K : PySem.W.Frag) : Sp := ISpX K "PointGame" ["rows", "budgets", "known"] (aC zD (aC zD aN)) (aC (zU zW) (aC (zU zI) (aC zA aN))) (fun (a : PyData × PyData × Unit) => m_PointGame___init__ a.1 a.2.1) (fun (d : DPointGame) kk => (d.1, d.2, kk, ()))
theorem ok_PointGame___init__ (S : Tx K mg) (G_check_rows : OkX P w K mg base 4 ("check_rows", none) ["rows", "budgets"] (sp_check_rows K)) : OkX P w K mg base 5 ("PointGame", some "__init__") ["self", "rows", "budgets"] (sp_PointGame___init__ K) := by
  obtain ⟨fd, D⟩ := d_PointGame___init__ S
  refine mk_okX D sc_PointGame___init__ (D.bindsN fun _ _ _ _ _ _ us hl => match us, hl with | [_, _, _], _ => rfl) (ISpX_len len2) (fun cdv A outer s H00 vs Q E hr h => ?_)
  obtain ⟨T00, ⟨p_rows, p_budgets, _⟩, x00, dx00, ws, res, hT, nx, rfl, hx, ⟨v_rows, _, rfl, r_rows, v_budgets, _, rfl, r_budgets, rfl⟩, hm, hQ, hX⟩ := h
  refine ⟨_, (pss_cons (ps_expr (px_call G_check_rows (fun σ => passAt (takes_of rfl rfl rfl rfl) σ) hr (by omega) (by rfl) (g_check_rows S) (pa_cons (pv 1) (pa_cons (pv 2) pa_nil)))) (pss_cons (ps_fld (pv 0) (pe_callTy (kc_tuple (K := K)) (by rfl) (m_tuple S) bt_tuple (pa_cons (pv 1) pa_nil)) (by rfl)) (pss_cons (ps_fld (pv 0) (pe_callTy (kc_tuple (K := K)) (by rfl) (m_tuple S) bt_tuple (pa_cons (pv 2) pa_nil)) (by rfl)) (pss_one (ps_fld (pv 0) pe_dnewK (by rfl)))))), ?_⟩
  have E : En K ⟨Tp T00 x00, [x00], H00⟩ [(fR zD v_rows p_rows), (fR zD v_budgets p_budgets)] [(cV x00 (.ins (He.ga K "PointGame") dx00 []))] (Tp T00 x00) H00 := En.start1 (c := (cV x00 (.ins (He.ga K "PointGame") dx00 []))) hT ⟨r_rows, r_budgets, trivial⟩ hx (fun a ha => by rw [List.mem_singleton] at ha; exact .inr ha) (by simp)
  replace hm : m_PointGame___init__ p_rows p_budgets = some res := hm
  unfold m_PointGame___init__ at hm
  rcases catE_or hm with ⟨d1786, h_d1786, hm⟩ | ⟨k1787, y1788, h_d1786, hm⟩
  · refine drop_open ?_
    refine En.run E (ev_callX E.td (ea_cons (ev_var (i := 1) rfl (E.rd (r := zD) (v := v_rows) (d := p_rows) 0 rfl)) (ea_cons (ev_var (i := 2) rfl (E.rd (r := zD) (v := v_budgets) (d := p_budgets) 1 rfl)) ea_nil)) h_d1786) fun v1789 H E => ?_
    first | refine nx_ ?_ | skip
    refine fld_open ?_
    obtain ⟨x1790, h_x1790, hm⟩ := bnd hm
    refine En.run E (ev_tupQ E.td (ev_fd (r := (zQ zW)) (ev_var (i := 1) rfl (E.rd (r := zD) (v := v_rows) (d := p_rows) 1 rfl)) h_x1790)) fun v1791 H E => ?_
    refine En.fld (Cn := "PointGame") (x := x00) (dx := dx00) (fl := []) E 0 rfl rfl (c_PointGame S) (na_PointGame_rows S) (by simp) fun H E => ?_
    rw [show putF "rows" v1791 ([] : List (Str × V)) = ([("rows", v1791)] : List (Str × V)) from rfl] at E
    first | refine nx_ ?_ | skip
    refine fld_open ?_
    obtain ⟨x1792, h_x1792, hm⟩ := bnd hm
    refine En.run E (ev_tupQ E.td (ev_fd (r := (zQ zI)) (ev_var (i := 2) rfl (E.rd (r := zD) (v := v_budgets) (d := p_budgets) 3 rfl)) h_x1792)) fun v1793 H E => ?_
    refine En.fld (Cn := "PointGame") (x := x00) (dx := dx00) (fl := [("rows", v1791)]) E 0 rfl rfl (c_PointGame S) (na_PointGame_budgets S) (by simp) fun H E => ?_
    rw [show putF "budgets" v1793 ([("rows", v1791)] : List (Str × V)) = ([("rows", v1791), ("budgets", v1793)] : List (Str × V)) from rfl] at E
    first | refine nx_ ?_ | skip
    refine fld_open ?_
    refine En.newD E fun kk1794 H E => ?_
    refine En.fld (Cn := "PointGame") (x := x00) (dx := dx00) (fl := [("rows", v1791), ("budgets", v1793)]) E 1 rfl rfl (c_PointGame S) (na_PointGame_known S) (by simp) fun H E => ?_
    rw [show putF "known" (.ref kk1794) ([("rows", v1791), ("budgets", v1793)] : List (Str × V)) = ([("rows", v1791), ("budgets", v1793), ("known", .ref kk1794)] : List (Str × V)) from rfl] at E
    have hr9 := Option.some.inj hm
    subst res
    replace E := En.pick (cs' := [(cV kk1794 (.dK [])), (cV x00 (.ins (He.ga K "PointGame") dx00 [("rows", v1791), ("budgets", v1793), ("known", .ref kk1794)]))]) E [0, 1] (by decide) rfl
    obtain ⟨f9, n9, h9, i9, s9⟩ := En.initX E
    exact hQ _ rfl _ kk1794 [v1791, v1793, .ref kk1794] f9 n9 h9 i9 ⟨v1791, _, rfl, Mo.wd (Wd.sub s9) (E.rd (r := (zU zW)) (v := v1791) (d := x1790) 1 rfl), v1793, _, rfl, Mo.wd (Wd.sub s9) (E.rd (r := (zU zI)) (v := v1793) (d := x1792) 0 rfl), .ref kk1794, _, rfl, rfl, rfl⟩
  · refine st_dropE (ee_callX E.td (ea_cons (ev_var (i := 1) rfl (E.rd (r := zD) (v := v_rows) (d := p_rows) 0 rfl)) (ea_cons (ev_var (i := 2) rfl (E.rd (r := zD) (v := v_budgets) (d := p_budgets) 1 rfl)) ea_nil)) h_d1786) (En.err (e := ⟨k1787, y1788⟩) E fun p1795 H E => ?_)
    have hr9 := Option.some.inj hm
    subst res
    exact hX _ rfl _ _ (E.fr.mono fun a ha => by simpa using ha) (En.out E (En.at E (f := (fR (zX k1787.2) (.ref p1795) y1788)) 0 rfl))

def m_PointGame_parts (p_self : DPointGame) (p_lot : (List Int)) (p_point : Int) : Option ((List Int) × (List Int)) :=
((lcO (fun (x1796 : Int) =>
((atI p_self.1 x1796).bind fun (x1797 : (List Bool)) =>
((atI x1797 p_point).bind fun (x1798 : Bool) =>
some (decide ([x1798] = ([false] : List Bool)))))) (fun (x1796 : Int) =>
some x1796) p_lot).bind fun (x1799 : (List Int)) =>
some (x1799, ((((p_lot).filter fun (x1802 : Int) => (!decide (x1802 ∈ x1799)))).map fun (x1802 : Int) => x1802)))
abbrev sp_PointGame_parts (K : PySem.W.Frag) : Sp := FSp K (aC zPointGame (aC (zU zI) (aC zI aN))) (zP (zU zI) (zU zI)) (fun (a : DPointGame × (List Int) × Int × Unit) => m_PointGame_parts a.1 a.2.1 a.2.2.1)
theorem ok_PointGame_parts (S : Tx K mg)  : Ok P w K mg base 1 ("PointGame", some "parts") ["self", "lot", "point"] (sp_PointGame_parts K) := by
  obtain ⟨fd, D⟩ := d_PointGame_parts S
  refine mk_ok D sc_PointGame_parts (D.bindsN fun _ _ _ _ _ _ us hl => match us, hl with | [_, _, _], _ => rfl) (FSp_len len3) (fun cdv A outer s H00 vs Q E hr h => ?_)
  obtain ⟨T00, ⟨p_self, p_lot, p_point, _⟩, res, hT, ⟨v_self, _, rfl, r_self, v_lot, _, rfl, r_lot, v_point, _, rfl, r_point, rfl⟩, hm, hQ⟩ := h
  refine ⟨_, (pss_cons (ps_set (i := 3) sc_PointGame_parts.nd rfl (.inr rfl) (pe_callTy (kc_tuple (K := K)) (by rfl) (m_tuple S) bt_tuple (pa_cons (pe_lc (own := [("program", 4)]) (by rfl) sc_PointGame_parts.nd (kp_tup (K := K) (pv 1)) (blkOk_by (N := ["self", "lot", "point", "lower", "program"]) (sc := defScope s_PointGame_parts) (by decide +kernel)) (fun _ _ _ _ _ => pg_name (i := 4) sc_PointGame_parts.nd rfl (.inl rfl)) (fun _ _ _ _ _ => pts_one (pt_cmpR op_eq (pe_ix ix_str (pe_ix (kx_tup (K := K)) (ke_fld (K := K) (pv 0)) (pv 4) (fun _ _ => rfl)) (pv 2) (fun _ _ => rfl)) pe_str (nomark _))) (fun _ _ _ _ _ => (pv 4))) pa_nil))) (pss_one (ps_ret (pe_tup (pa_cons (pv 3) (pa_cons (pe_callTy (kc_tuple (K := K)) (by rfl) (m_tuple S) bt_tuple (pa_cons (pe_lc (own := [("program", 4)]) (by rfl) sc_PointGame_parts.nd (kp_tup (K := K) (pv 1)) (blkOk_by (N := ["self", "lot", "point", "lower", "program"]) (sc := defScope s_PointGame_parts) (by decide +kernel)) (fun _ _ _ _ _ => pg_name (i := 4) sc_PointGame_parts.nd rfl (.inl rfl)) (fun _ _ _ _ _ => pts_one (pt_cmpR (kop_notIn (K := K)) (pv 4) (pv 3) (by rfl))) (fun _ _ _ _ _ => (pv 4))) pa_nil)) pa_nil)))))), ?_⟩
  have E : En K ⟨T00, [], H00⟩ [(fR zPointGame v_self p_self), (fR (zU zI) v_lot p_lot), (fR zI v_point p_point)] [] T00 H00 := En.start hT ⟨r_self, r_lot, r_point, trivial⟩
  replace hm : m_PointGame_parts p_self p_lot p_point = some res := hm
  unfold m_PointGame_parts at hm
  refine asg_open ?_
  obtain ⟨x1799, h_x1799, hm⟩ := bnd hm
  refine En.run E (ev_tupL E.td (ev_lcQ E.td (ei_tup (ev_var (i := 1) rfl (E.rd (r := (zU zI)) (v := v_lot) (d := p_lot) 1 rfl))) h_x1799 (fun T1796 H1796 v1796 x1796 L1796 hT1796 hx1796 r1796 Q1796 q1796 => q1796 _ wipe1 (fun y1796a hy1796a => by
          obtain ⟨x1797, h_x1797, hy1796a⟩ := bnd hy1796a; obtain ⟨x1798, h_x1798, hy1796a⟩ := bnd hy1796a; cases hy1796a; exact (et_test (K := K) (ev_eqW (ev_ixW (ev_ixU (fd_PointGame_rows S (ev_var (i := 0) rfl (L1796.ap (E.rd (r := zPointGame) (v := v_self) (d := p_self) 0 rfl)))) (ev_var (i := 4) rfl r1796) h_x1797) (ev_var (i := 2) rfl (L1796.ap (E.rd (r := zI) (v := v_point) (d := p_point) 2 rfl))) h_x1798) (ev_word [false] (by decide) (by decide))))) (fun hp1796 => fun y1796b hy1796b => by
          cases hy1796b; exact (ev_var (i := 4) rfl r1796))))) fun v1800 H E => ?_
  first | refine nx_ ?_ | skip
  refine ret_open ?_
  refine En.run E (ev_tup2 E.td (ea_cons (ev_var (i := 3) rfl (E.rd (r := (zU zI)) (v := v1800) (d := x1799) 0 rfl)) (ea_cons (ev_tupL E.td (ev_lc (p := fun (x1802 : Int) => (!decide (x1802 ∈ x1799))) (f := fun (x1802 : Int) => x1802) E.td (ei_tup (ev_var (i := 1) rfl (E.rd (r := (zU zI)) (v := v_lot) (d := p_lot) 2 rfl))) (fun T1802 H1802 v1802 x1802 L1802 hT1802 hx1802 r1802 Q1802 q1802 => q1802 _ wipe1 (et_test (K := K) (ev_inIU (neg := true) (ev_var (i := 4) rfl r1802) (ev_var (i := 3) rfl (L1802.ap (E.rd (r := (zU zI)) (v := v1800) (d := x1799) 0 rfl))))) fun hp1802 => (ev_var (i := 4) rfl r1802)))) ea_nil))) fun v1803 H E => ?_
  have hr9 := Option.some.inj hm
  subst res
  exact hQ _ _ (En.isEx E) (En.out E (En.at E (f := (fR (zP (zU zI) (zU zI)) v1803 (x1799, ((((p_lot).filter fun (x1802 : Int) => (!decide (x1802 ∈ x1799)))).map fun (x1802 : Int) => x1802)))) 0 rfl))

def m_PointGame_all_programs (p_self : DPointGame) : Option (List Int) :=
((grd (0 ≤ ((p_self.1).length : Int) ∧ ((p_self.1).length : Int) ≤ 1000000)).bind fun (u1804 : Unit) =>
some (rng 0 (((p_self.1).length : Int)).toNat))
abbrev sp_PointGame_all_programs (K : PySem.W.Frag) : Sp := FSp K (aC zPointGame aN) (zU zI) (fun (a : DPointGame × Unit) => m_PointGame_all_programs a.1)
theorem ok_PointGame_all_programs (S : Tx K mg)  : Ok P w K mg base 1 ("PointGame", some "all_programs") ["self"] (sp_PointGame_all_programs K) := by
  obtain ⟨fd, D⟩ := d_PointGame_all_programs S
  refine mk_ok D sc_PointGame_all_programs (D.bindsN fun _ _ _ _ _ _ us hl => match us, hl with | [_], _ => rfl) (FSp_len len1) (fun cdv A outer s H00 vs Q E hr h => ?_)
  obtain ⟨T00, ⟨p_self, _⟩, res, hT, ⟨v_self, _, rfl, r_self, rfl⟩, hm, hQ⟩ := h
  refine ⟨_, (pss_one (ps_ret (pe_tupRg rfl (by rfl) (m_tuple S) (prg_1 (by rfl) (m_range S) (pe_callB (kc_len (K := K)) (by rfl) (m_len S) bt_len (pa_cons (ke_fld (K := K) (pv 0)) pa_nil)))))), ?_⟩
  have E : En K ⟨T00, [], H00⟩ [(fR zPointGame v_self p_self)] [] T00 H00 := En.start hT ⟨r_self, trivial⟩
  replace hm : m_PointGame_all_programs p_self = some res := hm
  unfold m_PointGame_all_programs at hm
  refine ret_open ?_
  obtain ⟨u1804, h_u1804, hm⟩ := bnd hm
  refine En.run E (ev_tupRg1 E.td (ev_lenU (fd_PointGame_rows S (ev_var (i := 0) rfl (E.rd (r := zPointGame) (v := v_self) (d := p_self) 0 rfl)))) (grd_ok h_u1804)) fun v1805 H E => ?_
  have hr9 := Option.some.inj hm
  subst res
  exact hQ _ _ (En.isEx E) (En.out E (En.at E (f := (fR (zU zI) v1805 (rng 0 (((p_self.1).length : Int)).toNat))) 0 rfl))

def m_is_knot (p_tree : PyData) (p_points : Int) : Option Bool :=
((if (isD "tuple" p_tree) = true then ((dLen p_tree).bind fun (x1806 : Int) =>
((if (decide (x1806 = (3 : Int))) = true then ((dIx p_tree (0 : Int)).bind fun (x1810 : PyData) =>
((m_is_between x1810 (0 : Int) (p_points - (1 : Int))).bind fun (r1811 : Bool) =>
some r1811)) else some false).bind fun (b1813 : Bool) =>
some b1813)) else some false).bind fun (b1816 : Bool) =>
some b1816)
abbrev sp_is_knot (K : PySem.W.Frag) : Sp := FSp K (aC zD (aC zI aN)) zB (fun (a : PyData × Int × Unit) => m_is_knot a.1 a.2.1)
theorem ok_is_knot (S : Tx K mg) (G_is_between : Ok P w K mg base 2 ("is_between", none) ["value", "least", "most"] (sp_is_between K)) : Ok P w K mg base 3 ("is_knot", none) ["tree", "points"] (sp_is_knot K) := by
  obtain ⟨fd, D⟩ := d_is_knot S
  refine mk_ok D sc_is_knot (D.bindsN fun _ _ _ _ _ _ us hl => match us, hl with | [_, _], _ => rfl) (FSp_len len2) (fun cdv A outer s H00 vs Q E hr h => ?_)
  obtain ⟨T00, ⟨p_tree, p_points, _⟩, res, hT, ⟨v_tree, _, rfl, r_tree, v_points, _, rfl, r_points, rfl⟩, hm, hQ⟩ := h
  refine ⟨_, (pss_one (ps_ret (pe_and (pe_callB (kc_isi (K := K)) (by rfl) (m_isinstance S) bt_isinstance (pa_cons (pv 0) (pa_cons (pe_cls (by rfl) (m_tuple S) bt_tuple) pa_nil))) (pe_and (pe_cmpR op_eq (pe_callB (kc_lenD (K := K)) (by rfl) (m_len S) bt_len (pa_cons (pv 0) pa_nil)) pe_int (nomark _)) (pe_one (pe_callG G_is_between hr (by omega) (by rfl) (g_is_between S) (pa_cons (pe_ix (kx_seq (K := K)) (pv 0) pe_int (fun _ _ => rfl)) (pa_cons pe_int (pa_cons (pe_op op_sub (pv 1) pe_int) pa_nil))))))))), ?_⟩
  have E : En K ⟨T00, [], H00⟩ [(fR zD v_tree p_tree), (fR zI v_points p_points)] [] T00 H00 := En.start hT ⟨r_tree, r_points, trivial⟩
  replace hm : m_is_knot p_tree p_points = some res := hm
  unfold m_is_knot at hm
  refine ret_open ?_
  obtain ⟨b1816, h_b1816, hm⟩ := bnd hm
  refine En.run E (ev_andO (ev_isiD (n := "tuple") (ev_var (i := 0) rfl (E.rd (r := zD) (v := v_tree) (d := p_tree) 0 rfl))) (fun hc1815 y1817 hy1817 => by
          obtain ⟨x1806, h_x1806, hy1817⟩ := bnd hy1817; obtain ⟨b1813, h_b1813, hy1817⟩ := bnd hy1817; cases hy1817; exact (ev_andO (ev_eqI (ev_lenD (ev_var (i := 0) rfl (E.rd (r := zD) (v := v_tree) (d := p_tree) 0 rfl)) h_x1806) ev_int) (fun hc1812 y1814 hy1814 => by
          obtain ⟨x1810, h_x1810, hy1814⟩ := bnd hy1814; obtain ⟨r1811, h_r1811, hy1814⟩ := bnd hy1814; cases hy1814; exact (ev_callO E.td (ea_cons (ev_ixD (ev_var (i := 0) rfl (E.rd (r := zD) (v := v_tree) (d := p_tree) 0 rfl)) ev_int h_x1810) (ea_cons ev_int (ea_cons (ev_sub (ev_var (i := 1) rfl (E.rd (r := zI) (v := v_points) (d := p_points) 1 rfl)) ev_int) ea_nil))) h_r1811)) h_b1813)) h_b1816) fun v1818 H E => ?_
  have hr9 := Option.some.inj hm
  subst res
  exact hQ _ _ (En.isEx E) (En.out E (En.at E (f := (fR zB v1818 b1816)) 0 rfl))

def m_tree_holds : Nat → DPointGame → PyData → (List Int) → Int → Option Bool
  | 0, _, _, _, _ => none
  | n9 + 1, p_game, p_tree, p_lot, p_knots =>
    ((m_is_integer p_tree).bind fun (r1819 : Bool) =>
    (if r1819 = true then
    ((dInt p_tree).bind fun (x1820 : Int) =>
    ((if (decide (x1820 ∈ p_lot)) = true then ((dInt p_tree).bind fun (x1821 : Int) =>
    ((atI p_game.2 x1821).bind fun (x1822 : Int) =>
    some (decide (x1822 < p_knots)))) else some false).bind fun (b1824 : Bool) =>
    some b1824))
    else
    ((atI p_game.1 (0 : Int)).bind fun (x1830 : (List Bool)) =>
    ((m_is_knot p_tree ((x1830).length : Int)).bind fun (r1831 : Bool) =>
    (if (!r1831) = true then
    some false
    else
    ((dIx p_tree (0 : Int)).bind fun (x1835 : PyData) =>
    ((dInt x1835).bind fun (x1836 : Int) =>
    ((m_PointGame_parts p_game p_lot x1836).bind fun (r1837 : ((List Int) × (List Int))) =>
    ((dIx p_tree (1 : Int)).bind fun (x1844 : PyData) =>
    ((m_tree_holds n9 p_game x1844 r1837.1 (p_knots + (1 : Int))).bind fun (r1845 : Bool) =>
    ((if r1845 = true then ((dIx p_tree (2 : Int)).bind fun (x1849 : PyData) =>
    ((m_tree_holds n9 p_game x1849 r1837.2 (p_knots + (1 : Int))).bind fun (r1850 : Bool) =>
    some r1850)) else some false).bind fun (b1852 : Bool) =>
    some b1852)))))))))))
abbrev sp_tree_holds (n : Nat) (K : PySem.W.Frag) : Sp := FSp K (aC zPointGame (aC zD (aC (zU zI) (aC zI aN)))) zB (fun (a : DPointGame × PyData × (List Int) × Int × Unit) => m_tree_holds n a.1 a.2.1 a.2.2.1 a.2.2.2.1)
theorem okn_tree_holds (S : Tx K mg) (G_PointGame_parts : Ok P w K mg base 1 ("PointGame", some "parts") ["self", "lot", "point"] (sp_PointGame_parts K)) (G_is_integer : Ok P w K mg base 1 ("is_integer", none) ["value"] (sp_is_integer K)) (G_is_knot : Ok P w K mg base 3 ("is_knot", none) ["tree", "points"] (sp_is_knot K)) : ∀ n, Ok P w K mg base (4 + n) ("tree_holds", none) ["game", "tree", "lot", "knots"] (sp_tree_holds n K) := by
  obtain ⟨fd, D⟩ := d_tree_holds S
  intro n
  induction n with
  | zero =>
    refine mk_ok (k := 3) D sc_tree_holds (D.bindsN fun _ _ _ _ _ _ us hl => match us, hl with | [_, _, _, _], _ => rfl) (FSp_len len4) (fun cdv A outer s H00 vs Q E hr h => ?_)
    obtain ⟨T00, ⟨p_game, p_tree, p_lot, p_knots, _⟩, res, hT, ⟨v_game, _, rfl, r_game, v_tree, _, rfl, r_tree, v_lot, _, rfl, r_lot, v_knots, _, rfl, r_knots, rfl⟩, hm, hQ⟩ := h
    cases hm
  | succ n9 ih =>
    refine mk_ok (k := 4 + n9) D sc_tree_holds (D.bindsN fun _ _ _ _ _ _ us hl => match us, hl with | [_, _, _, _], _ => rfl) (FSp_len len4) (fun cdv A outer s H00 vs Q E hr h => ?_)
    obtain ⟨T00, ⟨p_game, p_tree, p_lot, p_knots, _⟩, res, hT, ⟨v_game, _, rfl, r_game, v_tree, _, rfl, r_tree, v_lot, _, rfl, r_lot, v_knots, _, rfl, r_knots, rfl⟩, hm, hQ⟩ := h
    refine ⟨_, (pss_cons (ps_if (pt_val (pe_callG G_is_integer hr (by omega) (by rfl) (g_is_integer S) (pa_cons (pv 1) pa_nil))) (pss_one (ps_ret (pe_and (pe_cmpR (kop_in (K := K)) (pv 1) (pv 2) (by rfl)) (pe_one (pe_cmpR op_gt (pv 3) (pe_ix (kx_tup (K := K)) (ke_fld (K := K) (pv 0)) (pv 1) (fun _ _ => rfl)) (nomark _)))))) pss_nil) (pss_cons (ps_if (pt_not (pt_val (pe_callG G_is_knot hr (by omega) (by rfl) (g_is_knot S) (pa_cons (pv 1) (pa_cons (pe_callB call_lenS (by rfl) (m_len S) bt_len (pa_cons (pe_ix (kx_tup (K := K)) (ke_fld (K := K) (pv 0)) pe_int (fun _ _ => rfl)) pa_nil)) pa_nil))))) (pss_one (ps_ret pe_bl)) pss_nil) (pss_cons (ps_asg (ke_meth (K := K) (pv 0) (c_PointGame S) (mm_PointGame_parts S) G_PointGame_parts hr (by omega) (pa_cons (pv 2) (pa_cons (pe_ix (kx_seq (K := K)) (pv 1) pe_int (fun _ _ => rfl)) pa_nil))) (kg_tup (K := K) (n := 2) rfl (pgs_cons (pg_name (i := 4) sc_tree_holds.nd rfl (.inl rfl)) (pgs_cons (pg_name (i := 5) sc_tree_holds.nd rfl (.inl rfl)) pgs_nil)))) (pss_one (ps_ret (pe_and (pe_callG ih hr (by omega) (by rfl) (g_tree_holds S) (pa_cons (pv 0) (pa_cons (pe_ix (kx_seq (K := K)) (pv 1) pe_int (fun _ _ => rfl)) (pa_cons (pv 4) (pa_cons (pe_op op_add (pv 3) pe_int) pa_nil))))) (pe_one (pe_callG ih hr (by omega) (by rfl) (g_tree_holds S) (pa_cons (pv 0) (pa_cons (pe_ix (kx_seq (K := K)) (pv 1) pe_int (fun _ _ => rfl)) (pa_cons (pv 5) (pa_cons (pe_op op_add (pv 3) pe_int) pa_nil)))))))))))), ?_⟩
    have E : En K ⟨T00, [], H00⟩ [(fR zPointGame v_game p_game), (fR zD v_tree p_tree), (fR (zU zI) v_lot p_lot), (fR zI v_knots p_knots)] [] T00 H00 := En.start hT ⟨r_game, r_tree, r_lot, r_knots, trivial⟩
    replace hm : m_tree_holds (n9 + 1) p_game p_tree p_lot p_knots = some res := hm
    unfold m_tree_holds at hm
    refine ifs_open ?_
    obtain ⟨r1819, h_r1819, hm⟩ := bnd hm
    refine En.test E (et_B (K := K) (ev_callO E.td (ea_cons (ev_var (i := 1) rfl (E.rd (r := zD) (v := v_tree) (d := p_tree) 1 rfl)) ea_nil) h_r1819)) fun H E => ?_
    refine iteB (fun hc1856 => ?_) (fun hc1856 => ?_)
    · rw [if_pos hc1856] at hm
      refine ret_open ?_
      obtain ⟨x1820, h_x1820, hm⟩ := bnd hm
      obtain ⟨b1824, h_b1824, hm⟩ := bnd hm
      refine En.run E (ev_andO (ev_inIU (neg := false) (ev_dI (ev_var (i := 1) rfl (E.rd (r := zD) (v := v_tree) (d := p_tree) 1 rfl)) h_x1820) (ev_var (i := 2) rfl (E.rd (r := (zU zI)) (v := v_lot) (d := p_lot) 2 rfl))) (fun hc1823 y1825 hy1825 => by
          obtain ⟨x1821, h_x1821, hy1825⟩ := bnd hy1825; obtain ⟨x1822, h_x1822, hy1825⟩ := bnd hy1825; cases hy1825; exact (ev_gt (ev_var (i := 3) rfl (E.rd (r := zI) (v := v_knots) (d := p_knots) 3 rfl)) (ev_ixU (fd_PointGame_budgets S (ev_var (i := 0) rfl (E.rd (r := zPointGame) (v := v_game) (d := p_game) 0 rfl))) (ev_dI (ev_var (i := 1) rfl (E.rd (r := zD) (v := v_tree) (d := p_tree) 1 rfl)) h_x1821) h_x1822))) h_b1824) fun v1826 H E => ?_
      have hr9 := Option.some.inj hm
      subst res
      exact hQ _ _ (En.isEx E) (En.out E (En.at E (f := (fR zB v1826 b1824)) 0 rfl))
    · rw [if_neg (by rw [hc1856]; decide)] at hm
      first | refine nx_ ?_ | skip
      refine ifs_open ?_
      obtain ⟨x1830, h_x1830, hm⟩ := bnd hm
      obtain ⟨r1831, h_r1831, hm⟩ := bnd hm
      refine En.test E (et_not (et_B (K := K) (ev_callO E.td (ea_cons (ev_var (i := 1) rfl (E.rd (r := zD) (v := v_tree) (d := p_tree) 1 rfl)) (ea_cons (ev_lenW (ev_ixU (fd_PointGame_rows S (ev_var (i := 0) rfl (E.rd (r := zPointGame) (v := v_game) (d := p_game) 0 rfl))) ev_int h_x1830)) ea_nil)) h_r1831))) fun H E => ?_
      refine iteB (fun hc1855 => ?_) (fun hc1855 => ?_)
      · rw [if_pos hc1855] at hm
        refine ret_open ?_
        refine En.run E ev_bl fun v1832 H E => ?_
        have hr9 := Option.some.inj hm
        subst res
        exact hQ _ _ (En.isEx E) (En.out E (En.at E (f := (fR zB v1832 false)) 0 rfl))
      · rw [if_neg (by rw [hc1855]; decide)] at hm
        first | refine nx_ ?_ | skip
        refine asgt_open ?_
        obtain ⟨x1835, h_x1835, hm⟩ := bnd hm
        obtain ⟨x1836, h_x1836, hm⟩ := bnd hm
        obtain ⟨r1837, h_r1837, hm⟩ := bnd hm
        refine En.run E (ev_methX (Cn := "PointGame") (fn := ["rows", "budgets", "known"]) E.td (by decide) (ev_var (i := 0) rfl (E.rd (r := zPointGame) (v := v_game) (d := p_game) 0 rfl)) (ea_cons (ev_var (i := 2) rfl (E.rd (r := (zU zI)) (v := v_lot) (d := p_lot) 2 rfl)) (ea_cons (ev_dI (ev_ixD (ev_var (i := 1) rfl (E.rd (r := zD) (v := v_tree) (d := p_tree) 1 rfl)) ev_int h_x1835) h_x1836) ea_nil)) h_r1837) fun v1838 H E => ?_
        refine g2_tup (E.rd (r := (zP (zU zI) (zU zI))) (v := v1838) (d := r1837) 0 rfl) fun w1839 rw1839 w1840 rw1840 => ?_
        replace E := En.add (f := (fR (zU zI) w1839 r1837.1)) E rw1839
        replace E := En.add (f := (fR (zU zI) w1840 r1837.2)) E rw1840
        first | refine nx_ ?_ | skip
        refine ret_open ?_
        obtain ⟨x1844, h_x1844, hm⟩ := bnd hm
        obtain ⟨r1845, h_r1845, hm⟩ := bnd hm
        obtain ⟨b1852, h_b1852, hm⟩ := bnd hm
        refine En.run E (ev_andO (ev_callO E.td (ea_cons (ev_var (i := 0) rfl (E.rd (r := zPointGame) (v := v_game) (d := p_game) 3 rfl)) (ea_cons (ev_ixD (ev_var (i := 1) rfl (E.rd (r := zD) (v := v_tree) (d := p_tree) 4 rfl)) ev_int h_x1844) (ea_cons (ev_var (i := 4) rfl (E.rd (r := (zU zI)) (v := w1839) (d := r1837.1) 1 rfl)) (ea_cons (ev_add (ev_var (i := 3) rfl (E.rd (r := zI) (v := v_knots) (d := p_knots) 6 rfl)) ev_int) ea_nil)))) h_r1845) (fun hc1851 y1853 hy1853 => by
          obtain ⟨x1849, h_x1849, hy1853⟩ := bnd hy1853; obtain ⟨r1850, h_r1850, hy1853⟩ := bnd hy1853; cases hy1853; exact (ev_callO E.td (ea_cons (ev_var (i := 0) rfl (E.rd (r := zPointGame) (v := v_game) (d := p_game) 3 rfl)) (ea_cons (ev_ixD (ev_var (i := 1) rfl (E.rd (r := zD) (v := v_tree) (d := p_tree) 4 rfl)) ev_int h_x1849) (ea_cons (ev_var (i := 5) rfl (E.rd (r := (zU zI)) (v := w1840) (d := r1837.2) 0 rfl)) (ea_cons (ev_add (ev_var (i := 3) rfl (E.rd (r := zI) (v := v_knots) (d := p_knots) 6 rfl)) ev_int) ea_nil)))) h_r1850)) h_b1852) fun v1854 H E => ?_
        have hr9 := Option.some.inj hm
        subst res
        exact hQ _ _ (En.isEx E) (En.out E (En.at E (f := (fR zB v1854 b1852)) 0 rfl))
theorem ok_tree_holds (S : Tx K mg) (G_PointGame_parts : Ok P w K mg base 1 ("PointGame", some "parts") ["self", "lot", "point"] (sp_PointGame_parts K)) (G_is_integer : Ok P w K mg base 1 ("is_integer", none) ["value"] (sp_is_integer K)) (G_is_knot : Ok P w K mg base 3 ("is_knot", none) ["tree", "points"] (sp_is_knot K)) : Ok P w K mg base 36 ("tree_holds", none) ["game", "tree", "lot", "knots"] ((sp_tree_holds 32) K) := okn_tree_holds S G_PointGame_parts G_is_integer G_is_knot 32

def m_judge_point_tree (p_rows : PyData) (p_budgets : PyData) (p_tree : PyData) : Option (Except Err Bool) :=
catE (m_PointGame___init__ p_rows p_budgets) (fun (d1857 : DPointGame) =>
((m_PointGame_all_programs d1857).bind fun (r1864 : (List Int)) =>
((m_tree_holds 32 d1857 p_tree r1864 (0 : Int)).bind fun (r1865 : Bool) =>
some (.ok r1865)))) (fun (k1858 : Str × Str) (y1859 : PyData) =>
some (.error ⟨k1858, y1859⟩))
abbrev sp_judge_point_tree (K : PySem.W.Frag) : Sp := XSp K (aC zD (aC zD (aC zD aN))) zB (fun (a : PyData × PyData × PyData × Unit) => m_judge_point_tree a.1 a.2.1 a.2.2.1)
theorem ok_judge_point_tree (S : Tx K mg) (G_PointGame___init__ : OkX P w K mg base 5 ("PointGame", some "__init__") ["self", "rows", "budgets"] (sp_PointGame___init__ K)) (G_PointGame_all_programs : Ok P w K mg base 1 ("PointGame", some "all_programs") ["self"] (sp_PointGame_all_programs K)) (G_tree_holds : Ok P w K mg base 36 ("tree_holds", none) ["game", "tree", "lot", "knots"] ((sp_tree_holds 32) K)) : OkX P w K mg base 37 ("judge_point_tree", none) ["rows", "budgets", "tree"] (sp_judge_point_tree K) := by
  obtain ⟨fd, D⟩ := d_judge_point_tree S
  refine mk_okX D sc_judge_point_tree (D.bindsN fun _ _ _ _ _ _ us hl => match us, hl with | [_, _, _], _ => rfl) (XSp_len len3) (fun cdv A outer s H00 vs Q E hr h => ?_)
  obtain ⟨T00, ⟨p_rows, p_budgets, p_tree, _⟩, res, hT, ⟨v_rows, _, rfl, r_rows, v_budgets, _, rfl, r_budgets, v_tree, _, rfl, r_tree, rfl⟩, hm, hQ, hX⟩ := h
  refine ⟨_, (pss_cons (ps_set (i := 3) sc_judge_point_tree.nd rfl (.inl rfl) (px_make (E := WE _) G_PointGame___init__ (k_PointGame S) (fun σ => passAt (takes_of rfl rfl rfl rfl) σ) hr (by omega) (by rfl) (g_PointGame S) (pa_cons (pv 0) (pa_cons (pv 1) pa_nil)))) (pss_one (ps_ret (pe_callG G_tree_holds hr (by omega) (by rfl) (g_tree_holds S) (pa_cons (pv 3) (pa_cons (pv 2) (pa_cons (ke_meth0 (K := K) (pv 3) (c_PointGame S) (mm_PointGame_all_programs S) G_PointGame_all_programs hr (by omega)) (pa_cons pe_int pa_nil)))))))), ?_⟩
  have E : En K ⟨T00, [], H00⟩ [(fR zD v_rows p_rows), (fR zD v_budgets p_budgets), (fR zD v_tree p_tree)] [] T00 H00 := En.start hT ⟨r_rows, r_budgets, r_tree, trivial⟩
  replace hm : m_judge_point_tree p_rows p_budgets p_tree = some res := hm
  unfold m_judge_point_tree at hm
  rcases catE_or hm with ⟨d1857, h_d1857, hm⟩ | ⟨k1858, y1859, h_d1857, hm⟩
  · refine asg_open ?_
    refine En.run E (ev_makeX (r := zPointGame) (fun _ _ _ kk z => ⟨kk, z⟩) E.td (ea_cons (ev_var (i := 0) rfl (E.rd (r := zD) (v := v_rows) (d := p_rows) 0 rfl)) (ea_cons (ev_var (i := 1) rfl (E.rd (r := zD) (v := v_budgets) (d := p_budgets) 1 rfl)) ea_nil)) h_d1857) fun v1860 H E => ?_
    first | refine nx_ ?_ | skip
    refine ret_open ?_
    obtain ⟨r1864, h_r1864, hm⟩ := bnd hm
    obtain ⟨r1865, h_r1865, hm⟩ := bnd hm
    refine En.run E (ev_callO E.td (ea_cons (ev_var (i := 3) rfl (E.rd (r := zPointGame) (v := v1860) (d := d1857) 0 rfl)) (ea_cons (ev_var (i := 2) rfl (E.rd (r := zD) (v := v_tree) (d := p_tree) 3 rfl)) (ea_cons (ev_methX (Cn := "PointGame") (fn := ["rows", "budgets", "known"]) E.td (by decide) (ev_var (i := 3) rfl (E.rd (r := zPointGame) (v := v1860) (d := d1857) 0 rfl)) ea_nil h_r1864) (ea_cons ev_int ea_nil)))) h_r1865) fun v1866 H E => ?_
    have hr9 := Option.some.inj hm
    subst res
    exact hQ _ rfl _ _ (En.isEx E) (En.out E (En.at E (f := (fR zB v1866 r1865)) 0 rfl))
  · refine st_asgE (makeX_err E.td (ea_cons (ev_var (i := 0) rfl (E.rd (r := zD) (v := v_rows) (d := p_rows) 0 rfl)) (ea_cons (ev_var (i := 1) rfl (E.rd (r := zD) (v := v_budgets) (d := p_budgets) 1 rfl)) ea_nil)) h_d1857) (En.err (e := ⟨k1858, y1859⟩) E fun p1867 H E => ?_)
    have hr9 := Option.some.inj hm
    subst res
    exact hX _ rfl _ _ (En.isEx E) (En.out E (En.at E (f := (fR (zX k1858.2) (.ref p1867) y1859)) 0 rfl))
theorem ok_judge_point_treeKW (S : Tx K mg) (G_PointGame___init__ : OkX P w K mg base 5 ("PointGame", some "__init__") ["self", "rows", "budgets"] (sp_PointGame___init__ K)) (G_PointGame_all_programs : Ok P w K mg base 1 ("PointGame", some "all_programs") ["self"] (sp_PointGame_all_programs K)) (G_tree_holds : Ok P w K mg base 36 ("tree_holds", none) ["game", "tree", "lot", "knots"] ((sp_tree_holds 32) K)) : OkXK P w K mg base 37 ("judge_point_tree", none) ["rows", "budgets", "tree"] ["tree", "budgets", "rows"] [2, 1, 0] (sp_judge_point_tree K) := by
  obtain ⟨fd, D⟩ := d_judge_point_tree S
  refine mk_okXK (js := [2, 1, 0]) D sc_judge_point_tree (fun _ _ _ _ _ _ ws hl => match ws, hl with | [_, _, _], _ => rfl) (XSp_len len3) (fun cdv A outer s H00 vs Q E hr h => ?_)
  obtain ⟨T00, ⟨p_rows, p_budgets, p_tree, _⟩, res, hT, ⟨v_rows, _, rfl, r_rows, v_budgets, _, rfl, r_budgets, v_tree, _, rfl, r_tree, rfl⟩, hm, hQ, hX⟩ := h
  refine ⟨_, (pss_cons (ps_set (i := 3) sc_judge_point_tree.nd rfl (.inl rfl) (px_make (E := WE _) G_PointGame___init__ (k_PointGame S) (fun σ => passAt (takes_of rfl rfl rfl rfl) σ) hr (by omega) (by rfl) (g_PointGame S) (pa_cons (pv 0) (pa_cons (pv 1) pa_nil)))) (pss_one (ps_ret (pe_callG G_tree_holds hr (by omega) (by rfl) (g_tree_holds S) (pa_cons (pv 3) (pa_cons (pv 2) (pa_cons (ke_meth0 (K := K) (pv 3) (c_PointGame S) (mm_PointGame_all_programs S) G_PointGame_all_programs hr (by omega)) (pa_cons pe_int pa_nil)))))))), ?_⟩
  have E : En K ⟨T00, [], H00⟩ [(fR zD v_rows p_rows), (fR zD v_budgets p_budgets), (fR zD v_tree p_tree)] [] T00 H00 := En.start hT ⟨r_rows, r_budgets, r_tree, trivial⟩
  replace hm : m_judge_point_tree p_rows p_budgets p_tree = some res := hm
  unfold m_judge_point_tree at hm
  rcases catE_or hm with ⟨d1857, h_d1857, hm⟩ | ⟨k1858, y1859, h_d1857, hm⟩
  · refine asg_open ?_
    refine En.run E (ev_makeX (r := zPointGame) (fun _ _ _ kk z => ⟨kk, z⟩) E.td (ea_cons (ev_var (i := 0) rfl (E.rd (r := zD) (v := v_rows) (d := p_rows) 0 rfl)) (ea_cons (ev_var (i := 1) rfl (E.rd (r := zD) (v := v_budgets) (d := p_budgets) 1 rfl)) ea_nil)) h_d1857) fun v1860 H E => ?_
    first | refine nx_ ?_ | skip
    refine ret_open ?_
    obtain ⟨r1864, h_r1864, hm⟩ := bnd hm
    obtain ⟨r1865, h_r1865, hm⟩ := bnd hm
    refine En.run E (ev_callO E.td (ea_cons (ev_var (i := 3) rfl (E.rd (r := zPointGame) (v := v1860) (d := d1857) 0 rfl)) (ea_cons (ev_var (i := 2) rfl (E.rd (r := zD) (v := v_tree) (d := p_tree) 3 rfl)) (ea_cons (ev_methX (Cn := "PointGame") (fn := ["rows", "budgets", "known"]) E.td (by decide) (ev_var (i := 3) rfl (E.rd (r := zPointGame) (v := v1860) (d := d1857) 0 rfl)) ea_nil h_r1864) (ea_cons ev_int ea_nil)))) h_r1865) fun v1866 H E => ?_
    have hr9 := Option.some.inj hm
    subst res
    exact hQ _ rfl _ _ (En.isEx E) (En.out E (En.at E (f := (fR zB v1866 r1865)) 0 rfl))
  · refine st_asgE (makeX_err E.td (ea_cons (ev_var (i := 0) rfl (E.rd (r := zD) (v := v_rows) (d := p_rows) 0 rfl)) (ea_cons (ev_var (i := 1) rfl (E.rd (r := zD) (v := v_budgets) (d := p_budgets) 1 rfl)) ea_nil)) h_d1857) (En.err (e := ⟨k1858, y1859⟩) E fun p1867 H E => ?_)
    have hr9 := Option.some.inj hm
    subst res
    exact hX _ rfl _ _ (En.isEx E) (En.out E (En.at E (f := (fR (zX k1858.2) (.ref p1867) y1859)) 0 rfl))

end
end EB

set_option Elab.async false
set_option linter.all false
set_option maxRecDepth 100000
set_option maxHeartbeats 4000000

namespace EB
open PySem PySem.Spec PyProof.Rows L2

section
variable {P : Program} {w : World} {K : PySem.W.Frag} {mg : Str → Option Value} {base : Heap}

def m__law_grown : Nat → (List (List Bool)) → (List Int) → Bool → Px → Option (PyData × Px)
  | 0, _, _, _, _ => none
  | n9 + 1, p_rows, p_lot, p_root, s00 =>
    ((some ([])).bind fun (d1868 : List Int) =>
    ((atI p_rows (0 : Int)).bind fun (x1870 : (List Bool)) =>
    ((grd (((x1870).length : Int) ≤ 1000000 ∧ -1000000 ≤ ((x1870).length : Int))).bind fun (u1871 : Unit) =>
    ((forP (fun (s1872 : (List Int)) (x1876 : Int) =>
    ((((mapO (fun (x1932 : Int) =>
    ((atI p_rows x1932).bind fun (x1933 : (List Bool)) =>
    ((atI x1933 x1876).bind fun (x1934 : Bool) =>
    some (decide ([x1934] = ([false] : List Bool)))))) p_lot).bind fun (x1935 : (List Bool)) =>
    ((if ((x1935).any id) = true then ((mapO (fun (x1936 : Int) =>
    ((atI p_rows x1936).bind fun (x1937 : (List Bool)) =>
    ((atI x1937 x1876).bind fun (x1938 : Bool) =>
    some (decide ([x1938] = ([true] : List Bool)))))) p_lot).bind fun (x1939 : (List Bool)) =>
    some ((x1939).any id)) else some false).bind fun (b1941 : Bool) =>
    (if b1941 = true then
    ((grd (s1872.length < 1000000)).bind fun (_ : Unit) =>
    ((some (s1872 ++ [x1876])).bind fun (d1944 : List Int) =>
    some d1944))
    else
    some s1872)))).bind fun (j1928 : (List Int)) =>
    some j1928)) d1868 (rng 0 (((x1870).length : Int)).toNat)).bind fun (s1874 : (List Int)) =>
    (if (decide (((s1874).length : Int) = (0 : Int))) = true then
    ((m__law_take ((p_lot).length : Int) s00).bind fun (q1947 : Int × Px) =>
    ((atI p_lot q1947.1).bind fun (x1949 : Int) =>
    some ((PyData.int x1949), q1947.2)))
    else
    (if p_root = true then
    ((m__law_take ((s1874).length : Int) s00).bind fun (q1952 : Int × Px) =>
    ((atI s1874 q1952.1).bind fun (x1954 : Int) =>
    ((lcO (fun (x1960 : Int) =>
    ((atI p_rows x1960).bind fun (x1961 : (List Bool)) =>
    ((atI x1961 x1954).bind fun (x1962 : Bool) =>
    some (decide ([x1962] = ([false] : List Bool)))))) (fun (x1960 : Int) =>
    some x1960) p_lot).bind fun (x1963 : (List Int)) =>
    ((m__law_grown n9 p_rows x1963 false q1952.2).bind fun (q1964 : PyData × Px) =>
    ((some (PyData.int x1954)).bind fun (d1967 : PyData) =>
    ((lcO (fun (x1973 : Int) =>
    ((atI p_rows x1973).bind fun (x1974 : (List Bool)) =>
    ((atI x1974 x1954).bind fun (x1975 : Bool) =>
    some (decide ([x1975] = ([true] : List Bool)))))) (fun (x1973 : Int) =>
    some x1973) p_lot).bind fun (x1976 : (List Int)) =>
    ((m__law_grown n9 p_rows x1976 false q1964.2).bind fun (q1977 : PyData × Px) =>
    ((some [d1967, q1964.1, q1977.1]).bind fun (d1979 : List PyData) =>
    some ((PyData.tuple d1979), q1977.2)))))))))
    else
    ((m__law_take (4 : Int) s00).bind fun (q1981 : Int × Px) =>
    ((some (decide (q1981.1 = (0 : Int)))).bind fun (d1985 : Bool) =>
    (if d1985 = true then
    ((m__law_take ((p_lot).length : Int) q1981.2).bind fun (q1987 : Int × Px) =>
    ((atI p_lot q1987.1).bind fun (x1989 : Int) =>
    some ((PyData.int x1989), q1987.2)))
    else
    ((m__law_take ((s1874).length : Int) q1981.2).bind fun (q1992 : Int × Px) =>
    ((atI s1874 q1992.1).bind fun (x1994 : Int) =>
    ((lcO (fun (x2000 : Int) =>
    ((atI p_rows x2000).bind fun (x2001 : (List Bool)) =>
    ((atI x2001 x1994).bind fun (x2002 : Bool) =>
    some (decide ([x2002] = ([false] : List Bool)))))) (fun (x2000 : Int) =>
    some x2000) p_lot).bind fun (x2003 : (List Int)) =>
    ((m__law_grown n9 p_rows x2003 false q1992.2).bind fun (q2004 : PyData × Px) =>
    ((some (PyData.int x1994)).bind fun (d2007 : PyData) =>
    ((lcO (fun (x2013 : Int) =>
    ((atI p_rows x2013).bind fun (x2014 : (List Bool)) =>
    ((atI x2014 x1994).bind fun (x2015 : Bool) =>
    some (decide ([x2015] = ([true] : List Bool)))))) (fun (x2013 : Int) =>
    some x2013) p_lot).bind fun (x2016 : (List Int)) =>
    ((m__law_grown n9 p_rows x2016 false q2004.2).bind fun (q2017 : PyData × Px) =>
    ((some [d2007, q2004.1, q2017.1]).bind fun (d2019 : List PyData) =>
    some ((PyData.tuple d2019), q2017.2))))))))))))))))))
abbrev sp__law_grown (n : Nat) (K : PySem.W.Frag) : Sp := GSp K (aC zA (aC (zL zW) (aC (zL zI) (aC zB aN)))) (fun (a : Addr × (List (List Bool)) × (List Int) × Bool × Unit) (s : Px) => cPx a.1 s) zD (fun (a : Addr × (List (List Bool)) × (List Int) × Bool × Unit) (s : Px) => m__law_grown n a.2.1 a.2.2.1 a.2.2.2.1 s)
theorem okn__law_grown (S : Tx K mg) (G__law_take : Ok P w K mg base 1 ("_law_take", none) ["pool", "many"] (sp__law_take K)) : ∀ n, Ok P w K mg base (2 + n) ("_law_grown", none) ["pool", "rows", "lot", "root"] (sp__law_grown n K) := by
  obtain ⟨fd, D⟩ := d__law_grown S
  intro n
  induction n with
  | zero =>
    refine mk_ok (k := 1) D sc__law_grown (D.bindsN fun _ _ _ _ _ _ us hl => match us, hl with | [_, _, _, _], _ => rfl) (GSp_len len4) (fun cdv A outer s H00 vs Q E hr h => ?_)
    obtain ⟨T00, ⟨p_pool, p_rows, p_lot, p_root, _⟩, s00, res, sres, hT, ⟨v_pool, _, rfl, r_pool, v_rows, _, rfl, r_rows, v_lot, _, rfl, r_lot, v_root, _, rfl, r_root, rfl⟩, hc, hTc, hnd, hm, hQ⟩ := h
    cases hm
  | succ n9 ih =>
    refine mk_ok (k := 2 + n9) D sc__law_grown (D.bindsN fun _ _ _ _ _ _ us hl => match us, hl with | [_, _, _, _], _ => rfl) (GSp_len len4) (fun cdv A outer s H00 vs Q E hr h => ?_)
    obtain ⟨T00, ⟨p_pool, p_rows, p_lot, p_root, _⟩, s00, res, sres, hT, ⟨v_pool, _, rfl, r_pool, v_rows, _, rfl, r_rows, v_lot, _, rfl, r_lot, v_root, _, rfl, r_root, rfl⟩, hc, hTc, hnd, hm, hQ⟩ := h
    obtain rfl : v_pool = .ref p_pool := r_pool
    refine ⟨_, (pss_cons (ps_set (i := 4) sc__law_grown.nd rfl (.inl rfl) (pe_lst pa_nil)) (pss_cons (ps_for PassesOwn.never rfl (pi_range1 (by rfl) (m_range S) (pa_cons (pe_callB call_lenS (by rfl) (m_len S) bt_len (pa_cons (pe_ix (kx_list (K := K)) (pv 1) pe_int (fun _ _ => rfl)) pa_nil)) pa_nil)) (pg_name (i := 5) sc__law_grown.nd rfl (.inr rfl)) (pss_one (ps_if (PW.pt (pw_and (pt_val (pe_callB (kr_any (K := K) rfl) (by rfl) (m_any S) bt_any (pa_cons (pe_lc (own := [("q", 7)]) (by rfl) sc__law_grown.nd (kp_list (K := K) (pv 2)) (blkOk_by (N := ["pool", "rows", "lot", "root", "points", "p", "lower", "q"]) (sc := defScope s__law_grown) (by decide +kernel)) (fun _ _ _ _ _ => pg_name (i := 7) sc__law_grown.nd rfl (.inl rfl)) (fun _ _ _ _ _ => pts_nil) (fun _ _ _ _ _ => (pe_cmpR op_eq (pe_ix ix_str (pe_ix (kx_list (K := K)) (pv 1) (pv 7) (fun _ _ => rfl)) (pv 5) (fun _ _ => rfl)) pe_str (nomark _)))) pa_nil))) (pw_and1 (pt_val (pe_callB (kr_any (K := K) rfl) (by rfl) (m_any S) bt_any (pa_cons (pe_lc (own := [("q", 7)]) (by rfl) sc__law_grown.nd (kp_list (K := K) (pv 2)) (blkOk_by (N := ["pool", "rows", "lot", "root", "points", "p", "lower", "q"]) (sc := defScope s__law_grown) (by decide +kernel)) (fun _ _ _ _ _ => pg_name (i := 7) sc__law_grown.nd rfl (.inl rfl)) (fun _ _ _ _ _ => pts_nil) (fun _ _ _ _ _ => (pe_cmpR op_eq (pe_ix ix_str (pe_ix (kx_list (K := K)) (pv 1) (pv 7) (fun _ _ => rfl)) (pv 5) (fun _ _ => rfl)) pe_str (nomark _)))) pa_nil)))))) (pss_one (ps_expr (pe_bm PySem.F.plainAttrs_list PySem.F.slot_list_append PySem.F.type_list_append mt_append (pv 4) (pa_cons (pv 5) pa_nil)))) pss_nil))) (pss_cons (ps_if (PW.pt (pw_or (pt_cmpR op_eq (pe_callB (kc_len (K := K)) (by rfl) (m_len S) bt_len (pa_cons (pv 4) pa_nil)) pe_int (nomark _)) (pw_or1 (PW.pt (pw_and (pt_not (pt_val (pv 3))) (pw_and1 (pt_cmpR op_eq (pe_callG G__law_take hr (by omega) (by rfl) (g__law_take S) (pa_cons (pv 0) (pa_cons pe_int pa_nil))) pe_int (nomark _)))))))) (pss_one (ps_ret (pe_ix (kx_list (K := K)) (pv 2) (pe_callG G__law_take hr (by omega) (by rfl) (g__law_take S) (pa_cons (pv 0) (pa_cons (pe_callB (kc_len (K := K)) (by rfl) (m_len S) bt_len (pa_cons (pv 2) pa_nil)) pa_nil))) (fun _ _ => rfl)))) pss_nil) (pss_cons (ps_set (i := 5) sc__law_grown.nd rfl (.inr rfl) (pe_ix (kx_list (K := K)) (pv 4) (pe_callG G__law_take hr (by omega) (by rfl) (g__law_take S) (pa_cons (pv 0) (pa_cons (pe_callB (kc_len (K := K)) (by rfl) (m_len S) bt_len (pa_cons (pv 4) pa_nil)) pa_nil))) (fun _ _ => rfl))) (pss_cons (ps_set (i := 6) sc__law_grown.nd rfl (.inl rfl) (pe_callG ih hr (by omega) (by rfl) (g__law_grown S) (pa_cons (pv 0) (pa_cons (pv 1) (pa_cons (pe_lc (own := [("q", 7)]) (by rfl) sc__law_grown.nd (kp_list (K := K) (pv 2)) (blkOk_by (N := ["pool", "rows", "lot", "root", "points", "p", "lower", "q"]) (sc := defScope s__law_grown) (by decide +kernel)) (fun _ _ _ _ _ => pg_name (i := 7) sc__law_grown.nd rfl (.inl rfl)) (fun _ _ _ _ _ => pts_one (pt_cmpR op_eq (pe_ix ix_str (pe_ix (kx_list (K := K)) (pv 1) (pv 7) (fun _ _ => rfl)) (pv 5) (fun _ _ => rfl)) pe_str (nomark _))) (fun _ _ _ _ _ => (pv 7))) (pa_cons pe_bl pa_nil)))))) (pss_one (ps_ret (pe_tup (pa_cons (pv 5) (pa_cons (pv 6) (pa_cons (pe_callG ih hr (by omega) (by rfl) (g__law_grown S) (pa_cons (pv 0) (pa_cons (pv 1) (pa_cons (pe_lc (own := [("q", 7)]) (by rfl) sc__law_grown.nd (kp_list (K := K) (pv 2)) (blkOk_by (N := ["pool", "rows", "lot", "root", "points", "p", "lower", "q"]) (sc := defScope s__law_grown) (by decide +kernel)) (fun _ _ _ _ _ => pg_name (i := 7) sc__law_grown.nd rfl (.inl rfl)) (fun _ _ _ _ _ => pts_one (pt_cmpR op_eq (pe_ix ix_str (pe_ix (kx_list (K := K)) (pv 1) (pv 7) (fun _ _ => rfl)) (pv 5) (fun _ _ => rfl)) pe_str (nomark _))) (fun _ _ _ _ _ => (pv 7))) (pa_cons pe_bl pa_nil))))) pa_nil))))))))))), ?_⟩
    have E : En K ⟨T00, [p_pool], H00⟩ [(fR (zL zW) v_rows p_rows), (fR (zL zI) v_lot p_lot), (fR zB v_root p_root)] [(cPx p_pool s00)] T00 H00 := En.start1 (c := (cPx p_pool s00)) hT ⟨r_rows, r_lot, r_root, trivial⟩ hc hTc hnd
    replace hm : m__law_grown (n9 + 1) p_rows p_lot p_root s00 = some (res, sres) := hm
    unfold m__law_grown at hm
    refine asg_open ?_
    obtain ⟨d1868, e_d1868, hm⟩ := bnd hm
    refine En.newL (r := zI) E (EvF.to (ef_lst (xs := []) eh_nil (Nat.le_of_ble_eq_true rfl)) (Option.some.inj e_d1868)) fun p1869 H E => ?_
    first | refine nx_ ?_ | skip
    obtain ⟨x1870, h_x1870, hm⟩ := bnd hm
    obtain ⟨u1871, h_u1871, hm⟩ := bnd hm
    obtain ⟨s1874, h_s1874, hm⟩ := bnd hm
    refine En.forP (K := K) (fun (b1875 : Bs) (s1872 : (List Int)) (T : AS) (σ9 : L2.St) (H9 : Hp) => ∃ (u1911 : Option V), ∃ (u1912 : Option V), ∃ (u1913 : Option V), σ9 = [some (.ref p_pool), some v_rows, some v_lot, some v_root, some (.ref p1869), u1911, u1912, u1913] ∧ En K b1875 [(fR (zL zW) v_rows p_rows), (fR (zL zI) v_lot p_lot), (fR zB v_root p_root)] [(cL zI p1869 s1872), (cPx p_pool s00)] T H9) E (ei_range (ea_cons (ev_lenW (ev_ixL (ev_var (i := 1) rfl (E.rd (r := (zL zW)) (v := v_rows) (d := p_rows) 1 rfl)) ev_int h_x1870)) ea_nil) (grd_ok h_u1871).1 (grd_ok h_u1871).2) h_s1874 (fun H E => ⟨_, _, _, rfl, (En.facts (En.pick E [0, 1] (by decide) rfl) ⟨(E.rd (r := (zL zW)) (v := v_rows) (d := p_rows) 1 rfl), (E.rd (r := (zL zI)) (v := v_lot) (d := p_lot) 2 rfl), (E.rd (r := zB) (v := v_root) (d := p_root) 3 rfl), trivial⟩)⟩) (by rintro _ _ _ _ _ ⟨u1911, u1912, u1913, rfl, E⟩; exact ⟨En.wd E, En.td E⟩) (fun b1875 s1872 x1876 o1873 T _ H1 H v1877 D1878 hx1878 hI1878 ex1878 hr1878 hm hrt1878 hn1878 => ?_) (fun H2 T _ H E2 hI1878 => ?_)
    · obtain ⟨u1911, u1912, u1913, rfl, E⟩ := hI1878
      replace E := En.add (f := (fR zI v1877 x1876)) (En.ex E ex1878) hr1878
      refine gn ?_
      obtain ⟨j1928, hm9, hm8⟩ := bnd hm
      refine cut_ (fun σ9 H9 => ∃ (T : AS), ∃ (u1929 : Option V), ∃ (u1930 : Option V), ∃ (u1931 : Option V), σ9 = [some (.ref p_pool), some v_rows, some v_lot, some v_root, some (.ref p1869), u1929, u1930, u1931] ∧ En K b1875 [(fR (zL zW) v_rows p_rows), (fR (zL zI) v_lot p_lot), (fR zB v_root p_root)] [(cL zI p1869 j1928), (cPx p_pool s00)] T H9) ?_ fun rest => ?_
      · rintro _ H ⟨T, u1929, u1930, u1931, rfl, E⟩
        have hm := hm8
        have hj9 := Option.some.inj hm
        subst o1873
        exact (hn1878 _ _ _ ⟨_, _, _, rfl, (En.facts (En.pick E [0, 1] (by decide) rfl) ⟨(E.rd (r := (zL zW)) (v := v_rows) (d := p_rows) 0 rfl), (E.rd (r := (zL zI)) (v := v_lot) (d := p_lot) 1 rfl), (E.rd (r := zB) (v := v_root) (d := p_root) 2 rfl), trivial⟩)⟩).1
      · have hm := hm9
        refine ifs_open ?_
        obtain ⟨x1935, h_x1935, hm⟩ := bnd hm
        obtain ⟨b1941, h_b1941, hm⟩ := bnd hm
        refine En.test E (et_andO (et_B (K := K) (ev_any (ev_lcO1 E.td (ei_list (ev_var (i := 2) rfl (E.rd (r := (zL zI)) (v := v_lot) (d := p_lot) 2 rfl))) h_x1935 (fun T1932 H1932 v1932 x1932 L1932 hT1932 hx1932 r1932 Q1932 q1932 => q1932 _ wipe1 (fun y1932 hy1932 => by
            obtain ⟨x1933, h_x1933, hy1932⟩ := bnd hy1932; obtain ⟨x1934, h_x1934, hy1932⟩ := bnd hy1932; cases hy1932; exact (ev_eqW (ev_ixW (ev_ixL (ev_var (i := 1) rfl (L1932.ap (E.rd (r := (zL zW)) (v := v_rows) (d := p_rows) 1 rfl))) (ev_var (i := 7) rfl r1932) h_x1933) (ev_var (i := 5) rfl (L1932.ap (E.rd (r := zI) (v := v1877) (d := x1876) 0 rfl))) h_x1934) (ev_word [false] (by decide) (by decide)))))))) (fun hc1940 y1942 hy1942 => by
            obtain ⟨x1939, h_x1939, hy1942⟩ := bnd hy1942; cases hy1942; exact (et_B (K := K) (ev_any (ev_lcO1 E.td (ei_list (ev_var (i := 2) rfl (E.rd (r := (zL zI)) (v := v_lot) (d := p_lot) 2 rfl))) h_x1939 (fun T1936 H1936 v1936 x1936 L1936 hT1936 hx1936 r1936 Q1936 q1936 => q1936 _ wipe1 (fun y1936 hy1936 => by
            obtain ⟨x1937, h_x1937, hy1936⟩ := bnd hy1936; obtain ⟨x1938, h_x1938, hy1936⟩ := bnd hy1936; cases hy1936; exact (ev_eqW (ev_ixW (ev_ixL (ev_var (i := 1) rfl (L1936.ap (E.rd (r := (zL zW)) (v := v_rows) (d := p_rows) 1 rfl))) (ev_var (i := 7) rfl r1936) h_x1937) (ev_var (i := 5) rfl (L1936.ap (E.rd (r := zI) (v := v1877) (d := x1876) 0 rfl))) h_x1938) (ev_word [true] (by decide) (by decide))))))))) h_b1941) fun H E => ?_
        refine iteB (fun hc1945 => ?_) (fun hc1945 => ?_)
        · rw [if_pos hc1945] at hm
          refine drop_open ?_
          refine En.bm (p := p1869) (r := zI) (xs := s1872) E rfl 0 rfl ?_
          refine cons_open ?_
          refine En.run E (ev_var (i := 5) rfl (E.rd (r := zI) (v := v1877) (d := x1876) 0 rfl)) fun v1943 H E => ?_
          refine nil_open ?_
          obtain ⟨_, hgd1944, hm⟩ := bnd hm
          obtain ⟨d1944, e_d1944, hm⟩ := bnd hm
          refine En.append (r := zI) (p := p1869) (xs := s1872) E 0 rfl (E.rd (r := zI) (v := v1943) (d := x1876) 0 rfl) (grd_ok hgd1944) fun H E => ?_
          rw [Option.some.inj e_d1944] at E
          have hj9 := Option.some.inj hm
          subst j1928
          exact rest _ _ ⟨_, _, _, _, rfl, (En.facts (En.pick E [0, 1] (by decide) rfl) ⟨(E.rd (r := (zL zW)) (v := v_rows) (d := p_rows) 2 rfl), (E.rd (r := (zL zI)) (v := v_lot) (d := p_lot) 3 rfl), (E.rd (r := zB) (v := v_root) (d := p_root) 4 rfl), trivial⟩)⟩
        · rw [if_neg (by rw [hc1945]; decide)] at hm
          have hj9 := Option.some.inj hm
          subst j1928
          exact rest _ _ ⟨_, _, _, _, rfl, (En.facts (En.pick E [0, 1] (by decide) rfl) ⟨(E.rd (r := (zL zW)) (v := v_rows) (d := p_rows) 1 rfl), (E.rd (r := (zL zI)) (v := v_lot) (d := p_lot) 2 rfl), (E.rd (r := zB) (v := v_root) (d := p_root) 3 rfl), trivial⟩)⟩
    · obtain ⟨u1911, u1912, u1913, rfl, E⟩ := hI1878
      replace E := En.back E2 E
      first | refine nx_ ?_ | skip
      refine ifs_open ?_
      refine or_open ?_
      refine En.test2B E (et_test (K := K) (ev_eqI (ev_lenL (ev_var (i := 4) rfl (E.clB (r := zI) (p := p1869) (xs := s1874) 0 rfl))) ev_int)) (fun hc2023 H E => ?_) (fun hc2023 H E => ?_)
      · rw [if_pos hc2023] at hm
        refine iteT ?_
        refine iteT ?_
        refine ret_open ?_
        refine op_open ?_
        refine En.run E (ev_var (i := 2) rfl (E.rd (r := (zL zI)) (v := v_lot) (d := p_lot) 1 rfl)) fun v1946 H E => ?_
        obtain ⟨q1947, h_q1947, hm⟩ := bnd hm
        refine En.gcall E (ea_cons (ev_var (i := 0) rfl (show zA K _ _ (.ref p_pool) p_pool from rfl)) (ea_cons (ev_lenL (ev_var (i := 2) rfl (E.rd (r := (zL zI)) (v := v_lot) (d := p_lot) 2 rfl))) ea_nil)) 1 rfl h_q1947 rfl fun v1948 H E => ?_
        refine of_op ?_
        obtain ⟨x1949, h_x1949, hm⟩ := bnd hm
        refine En.run E (ev_ixL (ev_var (i := 0) rfl (E.rd (r := (zL zI)) (v := v1946) (d := p_lot) 1 rfl)) (ev_var (i := 1) rfl (E.rd (r := zI) (v := v1948) (d := q1947.1) 0 rfl)) h_x1949) fun v1950 H E => ?_
        replace E := En.add (f := (fR zD v1950 (PyData.int x1949))) E (zd_up (r := zI) (E.rd (r := zI) (v := v1950) (d := x1949) 0 rfl))
        have hr9 := Prod.mk.inj (Option.some.inj hm)
        have hr8 := hr9.1
        have hr7 := hr9.2
        subst res
        subst sres
        exact hQ _ _ (En.fr E) (En.outc E (c := (cPx p_pool q1947.2)) 1 rfl) (En.out E (En.at E (f := (fR zD v1950 (PyData.int x1949))) 0 rfl))
      · rw [if_neg (by rw [hc2023]; decide)] at hm
        refine iteF ?_
        refine and_open ?_
        refine not_open ?_
        refine En.test2 E (et_B (K := K) (ev_var (i := 3) rfl (E.rd (r := zB) (v := v_root) (d := p_root) 2 rfl))) (fun hc2022 H E => ?_) (fun hc2022 H E => ?_)
        · rw [if_pos hc2022] at hm
          refine iteF ?_
          refine iteF ?_
          first | refine nx_ ?_ | skip
          replace E := En.freeze (r := zI) (p := p1869) (xs := s1874) (cs := [(cPx p_pool s00)]) E (by simp [owns])
          refine asg_open ?_
          refine op_open ?_
          refine En.run E (ev_var (i := 4) rfl (E.rd (r := (zL zI)) (v := (.ref p1869)) (d := s1874) 0 rfl)) fun v1951 H E => ?_
          obtain ⟨q1952, h_q1952, hm⟩ := bnd hm
          refine En.gcall E (ea_cons (ev_var (i := 0) rfl (show zA K _ _ (.ref p_pool) p_pool from rfl)) (ea_cons (ev_lenL (ev_var (i := 4) rfl (E.rd (r := (zL zI)) (v := (.ref p1869)) (d := s1874) 1 rfl))) ea_nil)) 0 rfl h_q1952 rfl fun v1953 H E => ?_
          refine of_op ?_
          obtain ⟨x1954, h_x1954, hm⟩ := bnd hm
          refine En.run E (ev_ixL (ev_var (i := 0) rfl (E.rd (r := (zL zI)) (v := v1951) (d := s1874) 1 rfl)) (ev_var (i := 1) rfl (E.rd (r := zI) (v := v1953) (d := q1952.1) 0 rfl)) h_x1954) fun v1955 H E => ?_
          first | refine nx_ ?_ | skip
          refine asg_open ?_
          obtain ⟨x1963, h_x1963, hm⟩ := bnd hm
          obtain ⟨q1964, h_q1964, hm⟩ := bnd hm
          refine En.gcall E (ea_cons (ev_var (i := 0) rfl (show zA K _ _ (.ref p_pool) p_pool from rfl)) (ea_cons (ev_var (i := 1) rfl (E.rd (r := (zL zW)) (v := v_rows) (d := p_rows) 4 rfl)) (ea_cons (ev_lcQ E.td (ei_list (ev_var (i := 2) rfl (E.rd (r := (zL zI)) (v := v_lot) (d := p_lot) 5 rfl))) h_x1963 (fun T1960 H1960 v1960 x1960 L1960 hT1960 hx1960 r1960 Q1960 q1960 => q1960 _ wipe1 (fun y1960a hy1960a => by
            obtain ⟨x1961, h_x1961, hy1960a⟩ := bnd hy1960a; obtain ⟨x1962, h_x1962, hy1960a⟩ := bnd hy1960a; cases hy1960a; exact (et_test (K := K) (ev_eqW (ev_ixW (ev_ixL (ev_var (i := 1) rfl (L1960.ap (E.rd (r := (zL zW)) (v := v_rows) (d := p_rows) 4 rfl))) (ev_var (i := 7) rfl r1960) h_x1961) (ev_var (i := 5) rfl (L1960.ap (E.rd (r := zI) (v := v1955) (d := x1954) 0 rfl))) h_x1962) (ev_word [false] (by decide) (by decide))))) (fun hp1960 => fun y1960b hy1960b => by
            cases hy1960b; exact (ev_var (i := 7) rfl r1960)))) (ea_cons ev_bl ea_nil)))) 0 rfl h_q1964 rfl fun v1965 H E => ?_
          first | refine nx_ ?_ | skip
          refine ret_open ?_
          refine tup_open ?_
          refine cons_open ?_
          obtain ⟨d1967, e_d1967, hm⟩ := bnd hm
          refine En.run E (Ev.to (ev_toD (ev_var (i := 5) rfl (E.rd (r := zI) (v := v1955) (d := x1954) 1 rfl))) (Option.some.inj e_d1967)) fun v1966 H E => ?_
          refine cons_open ?_
          refine En.run E (ev_var (i := 6) rfl (E.rd (r := zD) (v := v1965) (d := q1964.1) 1 rfl)) fun v1968 H E => ?_
          refine cons_open ?_
          obtain ⟨x1976, h_x1976, hm⟩ := bnd hm
          obtain ⟨q1977, h_q1977, hm⟩ := bnd hm
          refine En.gcall E (ea_cons (ev_var (i := 0) rfl (show zA K _ _ (.ref p_pool) p_pool from rfl)) (ea_cons (ev_var (i := 1) rfl (E.rd (r := (zL zW)) (v := v_rows) (d := p_rows) 7 rfl)) (ea_cons (ev_lcQ E.td (ei_list (ev_var (i := 2) rfl (E.rd (r := (zL zI)) (v := v_lot) (d := p_lot) 8 rfl))) h_x1976 (fun T1973 H1973 v1973 x1973 L1973 hT1973 hx1973 r1973 Q1973 q1973 => q1973 _ wipe1 (fun y1973a hy1973a => by
            obtain ⟨x1974, h_x1974, hy1973a⟩ := bnd hy1973a; obtain ⟨x1975, h_x1975, hy1973a⟩ := bnd hy1973a; cases hy1973a; exact (et_test (K := K) (ev_eqW (ev_ixW (ev_ixL (ev_var (i := 1) rfl (L1973.ap (E.rd (r := (zL zW)) (v := v_rows) (d := p_rows) 7 rfl))) (ev_var (i := 7) rfl r1973) h_x1974) (ev_var (i := 5) rfl (L1973.ap (E.rd (r := zI) (v := v1955) (d := x1954) 3 rfl))) h_x1975) (ev_word [true] (by decide) (by decide))))) (fun hp1973 => fun y1973b hy1973b => by
            cases hy1973b; exact (ev_var (i := 7) rfl r1973)))) (ea_cons ev_bl ea_nil)))) 0 rfl h_q1977 rfl fun v1978 H E => ?_
          refine nil_open ?_
          obtain ⟨d1979, e_d1979, hm⟩ := bnd hm
          refine En.tupV (r := zD) E (all2_to (.cons (E.rd (r := zD) (v := v1966) (d := d1967) 2 rfl) (.cons (E.rd (r := zD) (v := v1968) (d := q1964.1) 1 rfl) (.cons (E.rd (r := zD) (v := v1978) (d := q1977.1) 0 rfl) .nil))) (Option.some.inj e_d1979)) (by rw [← Option.some.inj e_d1979]; exact Nat.le_of_ble_eq_true rfl) fun p1980 E => ?_
          revert E
          generalize upd _ p1980 _ = H
          intro E
          replace E := En.add (f := (fR zD (.ref p1980) (PyData.tuple d1979))) E (zd_U (E.rd (r := (zU zD)) (v := (.ref p1980)) (d := d1979) 0 rfl))
          have hr9 := Prod.mk.inj (Option.some.inj hm)
          have hr8 := hr9.1
          have hr7 := hr9.2
          subst res
          subst sres
          exact hQ _ _ (En.fr E) (En.outc E (c := (cPx p_pool q1977.2)) 0 rfl) (En.out E (En.at E (f := (fR zD (.ref p1980) (PyData.tuple d1979))) 0 rfl))
        · rw [if_neg (by rw [hc2022]; decide)] at hm
          refine iteT ?_
          refine test_open ?_
          refine op_open ?_
          obtain ⟨q1981, h_q1981, hm⟩ := bnd hm
          refine En.gcall E (ea_cons (ev_var (i := 0) rfl (show zA K _ _ (.ref p_pool) p_pool from rfl)) (ea_cons ev_int ea_nil)) 1 rfl h_q1981 rfl fun v1982 H E => ?_
          refine En.run E ev_int fun v1983 H E => ?_
          refine of_op ?_
          obtain ⟨d1985, e_d1985, hm⟩ := bnd hm
          refine En.run E (Ev.to (ev_eqI (ev_var (i := 0) rfl (E.rd (r := zI) (v := v1982) (d := q1981.1) 1 rfl)) (ev_var (i := 1) rfl (E.rd (r := zI) (v := v1983) (d := (0 : Int)) 0 rfl))) (Option.some.inj e_d1985)) fun v1984 H E => ?_
          refine tb2 (E.rd (r := zB) (v := v1984) (d := d1985) 0 rfl) (fun hc2021 => ?_) (fun hc2021 => ?_)
          · rw [if_pos hc2021] at hm
            refine iteT ?_
            refine ret_open ?_
            refine op_open ?_
            refine En.run E (ev_var (i := 2) rfl (E.rd (r := (zL zI)) (v := v_lot) (d := p_lot) 4 rfl)) fun v1986 H E => ?_
            obtain ⟨q1987, h_q1987, hm⟩ := bnd hm
            refine En.gcall E (ea_cons (ev_var (i := 0) rfl (show zA K _ _ (.ref p_pool) p_pool from rfl)) (ea_cons (ev_lenL (ev_var (i := 2) rfl (E.rd (r := (zL zI)) (v := v_lot) (d := p_lot) 5 rfl))) ea_nil)) 1 rfl h_q1987 rfl fun v1988 H E => ?_
            refine of_op ?_
            obtain ⟨x1989, h_x1989, hm⟩ := bnd hm
            refine En.run E (ev_ixL (ev_var (i := 0) rfl (E.rd (r := (zL zI)) (v := v1986) (d := p_lot) 1 rfl)) (ev_var (i := 1) rfl (E.rd (r := zI) (v := v1988) (d := q1987.1) 0 rfl)) h_x1989) fun v1990 H E => ?_
            replace E := En.add (f := (fR zD v1990 (PyData.int x1989))) E (zd_up (r := zI) (E.rd (r := zI) (v := v1990) (d := x1989) 0 rfl))
            have hr9 := Prod.mk.inj (Option.some.inj hm)
            have hr8 := hr9.1
            have hr7 := hr9.2
            subst res
            subst sres
            exact hQ _ _ (En.fr E) (En.outc E (c := (cPx p_pool q1987.2)) 1 rfl) (En.out E (En.at E (f := (fR zD v1990 (PyData.int x1989))) 0 rfl))
          · rw [if_neg (by rw [hc2021]; decide)] at hm
            refine iteF ?_
            first | refine nx_ ?_ | skip
            replace E := En.freeze (r := zI) (p := p1869) (xs := s1874) (cs := [(cPx p_pool q1981.2)]) E (by simp [owns])
            refine asg_open ?_
            refine op_open ?_
            refine En.run E (ev_var (i := 4) rfl (E.rd (r := (zL zI)) (v := (.ref p1869)) (d := s1874) 0 rfl)) fun v1991 H E => ?_
            obtain ⟨q1992, h_q1992, hm⟩ := bnd hm
            refine En.gcall E (ea_cons (ev_var (i := 0) rfl (show zA K _ _ (.ref p_pool) p_pool from rfl)) (ea_cons (ev_lenL (ev_var (i := 4) rfl (E.rd (r := (zL zI)) (v := (.ref p1869)) (d := s1874) 1 rfl))) ea_nil)) 0 rfl h_q1992 rfl fun v1993 H E => ?_
            refine of_op ?_
            obtain ⟨x1994, h_x1994, hm⟩ := bnd hm
            refine En.run E (ev_ixL (ev_var (i := 0) rfl (E.rd (r := (zL zI)) (v := v1991) (d := s1874) 1 rfl)) (ev_var (i := 1) rfl (E.rd (r := zI) (v := v1993) (d := q1992.1) 0 rfl)) h_x1994) fun v1995 H E => ?_
            first | refine nx_ ?_ | skip
            refine asg_open ?_
            obtain ⟨x2003, h_x2003, hm⟩ := bnd hm
            obtain ⟨q2004, h_q2004, hm⟩ := bnd hm
            refine En.gcall E (ea_cons (ev_var (i := 0) rfl (show zA K _ _ (.ref p_pool) p_pool from rfl)) (ea_cons (ev_var (i := 1) rfl (E.rd (r := (zL zW)) (v := v_rows) (d := p_rows) 7 rfl)) (ea_cons (ev_lcQ E.td (ei_list (ev_var (i := 2) rfl (E.rd (r := (zL zI)) (v := v_lot) (d := p_lot) 8 rfl))) h_x2003 (fun T2000 H2000 v2000 x2000 L2000 hT2000 hx2000 r2000 Q2000 q2000 => q2000 _ wipe1 (fun y2000a hy2000a => by
            obtain ⟨x2001, h_x2001, hy2000a⟩ := bnd hy2000a; obtain ⟨x2002, h_x2002, hy2000a⟩ := bnd hy2000a; cases hy2000a; exact (et_test (K := K) (ev_eqW (ev_ixW (ev_ixL (ev_var (i := 1) rfl (L2000.ap (E.rd (r := (zL zW)) (v := v_rows) (d := p_rows) 7 rfl))) (ev_var (i := 7) rfl r2000) h_x2001) (ev_var (i := 5) rfl (L2000.ap (E.rd (r := zI) (v := v1995) (d := x1994) 0 rfl))) h_x2002) (ev_word [false] (by decide) (by decide))))) (fun hp2000 => fun y2000b hy2000b => by
            cases hy2000b; exact (ev_var (i := 7) rfl r2000)))) (ea_cons ev_bl ea_nil)))) 0 rfl h_q2004 rfl fun v2005 H E => ?_
            first | refine nx_ ?_ | skip
            refine ret_open ?_
            refine tup_open ?_
            refine cons_open ?_
            obtain ⟨d2007, e_d2007, hm⟩ := bnd hm
            refine En.run E (Ev.to (ev_toD (ev_var (i := 5) rfl (E.rd (r := zI) (v := v1995) (d := x1994) 1 rfl))) (Option.some.inj e_d2007)) fun v2006 H E => ?_
            refine cons_open ?_
            refine En.run E (ev_var (i := 6) rfl (E.rd (r := zD) (v := v2005) (d := q2004.1) 1 rfl)) fun v2008 H E => ?_
            refine cons_open ?_
            obtain ⟨x2016, h_x2016, hm⟩ := bnd hm
            obtain ⟨q2017, h_q2017, hm⟩ := bnd hm
            refine En.gcall E (ea_cons (ev_var (i := 0) rfl (show zA K _ _ (.ref p_pool) p_pool from rfl)) (ea_cons (ev_var (i := 1) rfl (E.rd (r := (zL zW)) (v := v_rows) (d := p_rows) 10 rfl)) (ea_cons (ev_lcQ E.td (ei_list (ev_var (i := 2) rfl (E.rd (r := (zL zI)) (v := v_lot) (d := p_lot) 11 rfl))) h_x2016 (fun T2013 H2013 v2013 x2013 L2013 hT2013 hx2013 r2013 Q2013 q2013 => q2013 _ wipe1 (fun y2013a hy2013a => by
            obtain ⟨x2014, h_x2014, hy2013a⟩ := bnd hy2013a; obtain ⟨x2015, h_x2015, hy2013a⟩ := bnd hy2013a; cases hy2013a; exact (et_test (K := K) (ev_eqW (ev_ixW (ev_ixL (ev_var (i := 1) rfl (L2013.ap (E.rd (r := (zL zW)) (v := v_rows) (d := p_rows) 10 rfl))) (ev_var (i := 7) rfl r2013) h_x2014) (ev_var (i := 5) rfl (L2013.ap (E.rd (r := zI) (v := v1995) (d := x1994) 3 rfl))) h_x2015) (ev_word [true] (by decide) (by decide))))) (fun hp2013 => fun y2013b hy2013b => by
            cases hy2013b; exact (ev_var (i := 7) rfl r2013)))) (ea_cons ev_bl ea_nil)))) 0 rfl h_q2017 rfl fun v2018 H E => ?_
            refine nil_open ?_
            obtain ⟨d2019, e_d2019, hm⟩ := bnd hm
            refine En.tupV (r := zD) E (all2_to (.cons (E.rd (r := zD) (v := v2006) (d := d2007) 2 rfl) (.cons (E.rd (r := zD) (v := v2008) (d := q2004.1) 1 rfl) (.cons (E.rd (r := zD) (v := v2018) (d := q2017.1) 0 rfl) .nil))) (Option.some.inj e_d2019)) (by rw [← Option.some.inj e_d2019]; exact Nat.le_of_ble_eq_true rfl) fun p2020 E => ?_
            revert E
            generalize upd _ p2020 _ = H
            intro E
            replace E := En.add (f := (fR zD (.ref p2020) (PyData.tuple d2019))) E (zd_U (E.rd (r := (zU zD)) (v := (.ref p2020)) (d := d2019) 0 rfl))
            have hr9 := Prod.mk.inj (Option.some.inj hm)
            have hr8 := hr9.1
            have hr7 := hr9.2
            subst res
            subst sres
            exact hQ _ _ (En.fr E) (En.outc E (c := (cPx p_pool q2017.2)) 0 rfl) (En.out E (En.at E (f := (fR zD (.ref p2020) (PyData.tuple d2019))) 0 rfl))
theorem ok__law_grown (S : Tx K mg) (G__law_take : Ok P w K mg base 1 ("_law_take", none) ["pool", "many"] (sp__law_take K)) : Ok P w K mg base 18 ("_law_grown", none) ["pool", "rows", "lot", "root"] ((sp__law_grown 16) K) := okn__law_grown S G__law_take 16

def m__law_leaves : Nat → PyData → Int → Option (List PyData)
  | 0, _, _ => none
  | n9 + 1, p_tree, p_knots =>
    (if (isD "tuple" p_tree) = true then
    ((dIx p_tree (1 : Int)).bind fun (x2027 : PyData) =>
    ((m__law_leaves n9 x2027 (p_knots + (1 : Int))).bind fun (r2028 : (List PyData)) =>
    ((dIx p_tree (2 : Int)).bind fun (x2032 : PyData) =>
    ((m__law_leaves n9 x2032 (p_knots + (1 : Int))).bind fun (r2033 : (List PyData)) =>
    ((grd (r2028.length + r2033.length ≤ 1000000)).bind fun (u2034 : Unit) =>
    some (r2028 ++ r2033))))))
    else
    some ([(PyData.list ([p_tree, (PyData.int p_knots)]))] : (List PyData)))
abbrev sp__law_leaves (n : Nat) (K : PySem.W.Frag) : Sp := FSp K (aC zD (aC zI aN)) (zL zD) (fun (a : PyData × Int × Unit) => m__law_leaves n a.1 a.2.1)
theorem okn__law_leaves (S : Tx K mg)  : ∀ n, Ok P w K mg base (1 + n) ("_law_leaves", none) ["tree", "knots"] (sp__law_leaves n K) := by
  obtain ⟨fd, D⟩ := d__law_leaves S
  intro n
  induction n with
  | zero =>
    refine mk_ok (k := 0) D sc__law_leaves (D.bindsN fun _ _ _ _ _ _ us hl => match us, hl with | [_, _], _ => rfl) (FSp_len len2) (fun cdv A outer s H00 vs Q E hr h => ?_)
    obtain ⟨T00, ⟨p_tree, p_knots, _⟩, res, hT, ⟨v_tree, _, rfl, r_tree, v_knots, _, rfl, r_knots, rfl⟩, hm, hQ⟩ := h
    cases hm
  | succ n9 ih =>
    refine mk_ok (k := 1 + n9) D sc__law_leaves (D.bindsN fun _ _ _ _ _ _ us hl => match us, hl with | [_, _], _ => rfl) (FSp_len len2) (fun cdv A outer s H00 vs Q E hr h => ?_)
    obtain ⟨T00, ⟨p_tree, p_knots, _⟩, res, hT, ⟨v_tree, _, rfl, r_tree, v_knots, _, rfl, r_knots, rfl⟩, hm, hQ⟩ := h
    refine ⟨_, (pss_cons (ps_if (pt_val (pe_callB (kc_isi (K := K)) (by rfl) (m_isinstance S) bt_isinstance (pa_cons (pv 0) (pa_cons (pe_cls (by rfl) (m_tuple S) bt_tuple) pa_nil)))) (pss_one (ps_ret (pe_op (op_catQ (K := K)) (pe_callG ih hr (by omega) (by rfl) (g__law_leaves S) (pa_cons (pe_ix (kx_seq (K := K)) (pv 0) pe_int (fun _ _ => rfl)) (pa_cons (pe_op op_add (pv 1) pe_int) pa_nil))) (pe_callG ih hr (by omega) (by rfl) (g__law_leaves S) (pa_cons (pe_ix (kx_seq (K := K)) (pv 0) pe_int (fun _ _ => rfl)) (pa_cons (pe_op op_add (pv 1) pe_int) pa_nil)))))) pss_nil) (pss_one (ps_ret (pe_lst (pa_cons (pe_lst (pa_cons (pv 0) (pa_cons (pv 1) pa_nil))) pa_nil))))), ?_⟩
    have E : En K ⟨T00, [], H00⟩ [(fR zD v_tree p_tree), (fR zI v_knots p_knots)] [] T00 H00 := En.start hT ⟨r_tree, r_knots, trivial⟩
    replace hm : m__law_leaves (n9 + 1) p_tree p_knots = some res := hm
    unfold m__law_leaves at hm
    refine ifs_open ?_
    refine En.test E (et_B (K := K) (ev_isiD (n := "tuple") (ev_var (i := 0) rfl (E.rd (r := zD) (v := v_tree) (d := p_tree) 0 rfl)))) fun H E => ?_
    refine iteB (fun hc2037 => ?_) (fun hc2037 => ?_)
    · rw [if_pos hc2037] at hm
      refine ret_open ?_
      obtain ⟨x2027, h_x2027, hm⟩ := bnd hm
      obtain ⟨r2028, h_r2028, hm⟩ := bnd hm
      obtain ⟨x2032, h_x2032, hm⟩ := bnd hm
      obtain ⟨r2033, h_r2033, hm⟩ := bnd hm
      obtain ⟨u2034, h_u2034, hm⟩ := bnd hm
      refine En.run E (ev_catL E.td (ev_callO E.td (ea_cons (ev_ixD (ev_var (i := 0) rfl (E.rd (r := zD) (v := v_tree) (d := p_tree) 0 rfl)) ev_int h_x2027) (ea_cons (ev_add (ev_var (i := 1) rfl (E.rd (r := zI) (v := v_knots) (d := p_knots) 1 rfl)) ev_int) ea_nil)) h_r2028) (ev_callO E.td (ea_cons (ev_ixD (ev_var (i := 0) rfl (E.rd (r := zD) (v := v_tree) (d := p_tree) 0 rfl)) ev_int h_x2032) (ea_cons (ev_add (ev_var (i := 1) rfl (E.rd (r := zI) (v := v_knots) (d := p_knots) 1 rfl)) ev_int) ea_nil)) h_r2033) (grd_ok h_u2034)) fun v2035 H E => ?_
      have hr9 := Option.some.inj hm
      subst res
      exact hQ _ _ (En.isEx E) (En.out E (En.at E (f := (fR (zL zD) v2035 (r2028 ++ r2033))) 0 rfl))
    · rw [if_neg (by rw [hc2037]; decide)] at hm
      first | refine nx_ ?_ | skip
      refine ret_open ?_
      refine En.run E (ev_lst E.td (eh_cons (ev_toDL (ev_lst (r := zD) (xs := [p_tree, (PyData.int p_knots)]) E.td (eh_cons (ev_var (i := 0) rfl (E.rd (r := zD) (v := v_tree) (d := p_tree) 0 rfl)) (eh_cons (ev_toD (ev_var (i := 1) rfl (E.rd (r := zI) (v := v_knots) (d := p_knots) 1 rfl))) eh_nil)) (Nat.le_of_ble_eq_true rfl))) eh_nil) (Nat.le_of_ble_eq_true rfl)) fun v2036 H E => ?_
      have hr9 := Option.some.inj hm
      subst res
      exact hQ _ _ (En.isEx E) (En.out E (En.at E (f := (fR (zL zD) v2036 ([(PyData.list ([p_tree, (PyData.int p_knots)]))] : (List PyData)))) 0 rfl))
theorem ok__law_leaves (S : Tx K mg)  : Ok P w K mg base 17 ("_law_leaves", none) ["tree", "knots"] ((sp__law_leaves 16) K) := okn__law_leaves S  16

def m__law_paths : Nat → PyData → (List Int) → Option (List (List Int))
  | 0, _, _ => none
  | n9 + 1, p_tree, p_path =>
    (if (isD "tuple" p_tree) = true then
    ((dIx p_tree (1 : Int)).bind fun (x2044 : PyData) =>
    ((grd (p_path.length + ([(1 : Int)] : (List Int)).length ≤ 1000000)).bind fun (u2045 : Unit) =>
    ((m__law_paths n9 x2044 (p_path ++ ([(1 : Int)] : (List Int)))).bind fun (r2046 : (List (List Int))) =>
    ((grd (([p_path] : (List (List Int))).length + r2046.length ≤ 1000000)).bind fun (u2047 : Unit) =>
    ((dIx p_tree (2 : Int)).bind fun (x2054 : PyData) =>
    ((grd (p_path.length + ([(2 : Int)] : (List Int)).length ≤ 1000000)).bind fun (u2055 : Unit) =>
    ((m__law_paths n9 x2054 (p_path ++ ([(2 : Int)] : (List Int)))).bind fun (r2056 : (List (List Int))) =>
    ((grd ((([p_path] : (List (List Int))) ++ r2046).length + r2056.length ≤ 1000000)).bind fun (u2057 : Unit) =>
    some ((([p_path] : (List (List Int))) ++ r2046) ++ r2056)))))))))
    else
    some ([p_path] : (List (List Int))))
abbrev sp__law_paths (n : Nat) (K : PySem.W.Frag) : Sp := FSp K (aC zD (aC (zL zI) aN)) (zL (zL zI)) (fun (a : PyData × (List Int) × Unit) => m__law_paths n a.1 a.2.1)
theorem okn__law_paths (S : Tx K mg)  : ∀ n, Ok P w K mg base (1 + n) ("_law_paths", none) ["tree", "path"] (sp__law_paths n K) := by
  obtain ⟨fd, D⟩ := d__law_paths S
  intro n
  induction n with
  | zero =>
    refine mk_ok (k := 0) D sc__law_paths (D.bindsN fun _ _ _ _ _ _ us hl => match us, hl with | [_, _], _ => rfl) (FSp_len len2) (fun cdv A outer s H00 vs Q E hr h => ?_)
    obtain ⟨T00, ⟨p_tree, p_path, _⟩, res, hT, ⟨v_tree, _, rfl, r_tree, v_path, _, rfl, r_path, rfl⟩, hm, hQ⟩ := h
    cases hm
  | succ n9 ih =>
    refine mk_ok (k := 1 + n9) D sc__law_paths (D.bindsN fun _ _ _ _ _ _ us hl => match us, hl with | [_, _], _ => rfl) (FSp_len len2) (fun cdv A outer s H00 vs Q E hr h => ?_)
    obtain ⟨T00, ⟨p_tree, p_path, _⟩, res, hT, ⟨v_tree, _, rfl, r_tree, v_path, _, rfl, r_path, rfl⟩, hm, hQ⟩ := h
    refine ⟨_, (pss_cons (ps_if (pt_val (pe_callB (kc_isi (K := K)) (by rfl) (m_isinstance S) bt_isinstance (pa_cons (pv 0) (pa_cons (pe_cls (by rfl) (m_tuple S) bt_tuple) pa_nil)))) (pss_one (ps_ret (pe_op (op_catQ (K := K)) (pe_op (op_catQ (K := K)) (pe_lst (pa_cons (pv 1) pa_nil)) (pe_callG ih hr (by omega) (by rfl) (g__law_paths S) (pa_cons (pe_ix (kx_seq (K := K)) (pv 0) pe_int (fun _ _ => rfl)) (pa_cons (pe_op (op_catQ (K := K)) (pv 1) (pe_lst (pa_cons pe_int pa_nil))) pa_nil)))) (pe_callG ih hr (by omega) (by rfl) (g__law_paths S) (pa_cons (pe_ix (kx_seq (K := K)) (pv 0) pe_int (fun _ _ => rfl)) (pa_cons (pe_op (op_catQ (K := K)) (pv 1) (pe_lst (pa_cons pe_int pa_nil))) pa_nil)))))) pss_nil) (pss_one (ps_ret (pe_lst (pa_cons (pv 1) pa_nil))))), ?_⟩
    have E : En K ⟨T00, [], H00⟩ [(fR zD v_tree p_tree), (fR (zL zI) v_path p_path)] [] T00 H00 := En.start hT ⟨r_tree, r_path, trivial⟩
    replace hm : m__law_paths (n9 + 1) p_tree p_path = some res := hm
    unfold m__law_paths at hm
    refine ifs_open ?_
    refine En.test E (et_B (K := K) (ev_isiD (n := "tuple") (ev_var (i := 0) rfl (E.rd (r := zD) (v := v_tree) (d := p_tree) 0 rfl)))) fun H E => ?_
    refine iteB (fun hc2060 => ?_) (fun hc2060 => ?_)
    · rw [if_pos hc2060] at hm
      refine ret_open ?_
      obtain ⟨x2044, h_x2044, hm⟩ := bnd hm
      obtain ⟨u2045, h_u2045, hm⟩ := bnd hm
      obtain ⟨r2046, h_r2046, hm⟩ := bnd hm
      obtain ⟨u2047, h_u2047, hm⟩ := bnd hm
      obtain ⟨x2054, h_x2054, hm⟩ := bnd hm
      obtain ⟨u2055, h_u2055, hm⟩ := bnd hm
      obtain ⟨r2056, h_r2056, hm⟩ := bnd hm
      obtain ⟨u2057, h_u2057, hm⟩ := bnd hm
      refine En.run E (ev_catL E.td (ev_catL E.td (ev_lst E.td (eh_cons (ev_var (i := 1) rfl (E.rd (r := (zL zI)) (v := v_path) (d := p_path) 1 rfl)) eh_nil) (Nat.le_of_ble_eq_true rfl)) (ev_callO E.td (ea_cons (ev_ixD (ev_var (i := 0) rfl (E.rd (r := zD) (v := v_tree) (d := p_tree) 0 rfl)) ev_int h_x2044) (ea_cons (ev_catL E.td (ev_var (i := 1) rfl (E.rd (r := (zL zI)) (v := v_path) (d := p_path) 1 rfl)) (ev_lst E.td (eh_cons ev_int eh_nil) (Nat.le_of_ble_eq_true rfl)) (grd_ok h_u2045)) ea_nil)) h_r2046) (grd_ok h_u2047)) (ev_callO E.td (ea_cons (ev_ixD (ev_var (i := 0) rfl (E.rd (r := zD) (v := v_tree) (d := p_tree) 0 rfl)) ev_int h_x2054) (ea_cons (ev_catL E.td (ev_var (i := 1) rfl (E.rd (r := (zL zI)) (v := v_path) (d := p_path) 1 rfl)) (ev_lst E.td (eh_cons ev_int eh_nil) (Nat.le_of_ble_eq_true rfl)) (grd_ok h_u2055)) ea_nil)) h_r2056) (grd_ok h_u2057)) fun v2058 H E => ?_
      have hr9 := Option.some.inj hm
      subst res
      exact hQ _ _ (En.isEx E) (En.out E (En.at E (f := (fR (zL (zL zI)) v2058 ((([p_path] : (List (List Int))) ++ r2046) ++ r2056))) 0 rfl))
    · rw [if_neg (by rw [hc2060]; decide)] at hm
      first | refine nx_ ?_ | skip
      refine ret_open ?_
      refine En.run E (ev_lst E.td (eh_cons (ev_var (i := 1) rfl (E.rd (r := (zL zI)) (v := v_path) (d := p_path) 1 rfl)) eh_nil) (Nat.le_of_ble_eq_true rfl)) fun v2059 H E => ?_
      have hr9 := Option.some.inj hm
      subst res
      exact hQ _ _ (En.isEx E) (En.out E (En.at E (f := (fR (zL (zL zI)) v2059 ([p_path] : (List (List Int))))) 0 rfl))
theorem ok__law_paths (S : Tx K mg)  : Ok P w K mg base 17 ("_law_paths", none) ["tree", "path"] ((sp__law_paths 16) K) := okn__law_paths S  16

def m__law_part (p_tree : PyData) (p_path : (List Int)) : Option PyData :=
((forP (fun (s2061 : PyData) (x2065 : Int) =>
((dIx s2061 x2065).bind fun (x2073 : PyData) =>
some x2073)) p_tree p_path).bind fun (s2063 : PyData) =>
some s2063)
abbrev sp__law_part (K : PySem.W.Frag) : Sp := FSp K (aC zD (aC (zL zI) aN)) zD (fun (a : PyData × (List Int) × Unit) => m__law_part a.1 a.2.1)
theorem ok__law_part (S : Tx K mg)  : Ok P w K mg base 1 ("_law_part", none) ["tree", "path"] (sp__law_part K) := by
  obtain ⟨fd, D⟩ := d__law_part S
  refine mk_ok D sc__law_part (D.bindsN fun _ _ _ _ _ _ us hl => match us, hl with | [_, _], _ => rfl) (FSp_len len2) (fun cdv A outer s H00 vs Q E hr h => ?_)
  obtain ⟨T00, ⟨p_tree, p_path, _⟩, res, hT, ⟨v_tree, _, rfl, r_tree, v_path, _, rfl, r_path, rfl⟩, hm, hQ⟩ := h
  refine ⟨_, (pss_cons (ps_for PassesOwn.never rfl (kp_list (K := K) (pv 1)) (pg_name (i := 2) sc__law_part.nd rfl (.inl rfl)) (pss_one (ps_set (i := 0) sc__law_part.nd rfl (.inl rfl) (pe_ix (kx_seq (K := K)) (pv 0) (pv 2) (fun _ _ => rfl))))) (pss_one (ps_ret (pv 0)))), ?_⟩
  have E : En K ⟨T00, [], H00⟩ [(fR zD v_tree p_tree), (fR (zL zI) v_path p_path)] [] T00 H00 := En.start hT ⟨r_tree, r_path, trivial⟩
  replace hm : m__law_part p_tree p_path = some res := hm
  unfold m__law_part at hm
  obtain ⟨s2063, h_s2063, hm⟩ := bnd hm
  refine En.forP (K := K) (fun (b2064 : Bs) (s2061 : PyData) (T : AS) (σ9 : L2.St) (H9 : Hp) => ∃ (v2070 : V), ∃ (u2071 : Option V), ∃ (u2072 : Option V), σ9 = [some v2070, u2071, u2072] ∧ En K b2064 [(fR zD v2070 s2061)] [] T H9) E (ei_list (ev_var (i := 1) rfl (E.rd (r := (zL zI)) (v := v_path) (d := p_path) 1 rfl))) h_s2063 (fun H E => ⟨v_tree, _, _, rfl, (En.facts (En.pick E [] (by decide) rfl) ⟨(E.rd (r := zD) (v := v_tree) (d := p_tree) 0 rfl), trivial⟩)⟩) (by rintro _ _ _ _ _ ⟨v2070, u2071, u2072, rfl, E⟩; exact ⟨En.wd E, En.td E⟩) (fun b2064 s2061 x2065 o2062 T _ H1 H v2066 D2067 hx2067 hI2067 ex2067 hr2067 hm hrt2067 hn2067 => ?_) (fun H2 T _ H E2 hI2067 => ?_)
  · obtain ⟨v2070, u2071, u2072, rfl, E⟩ := hI2067
    replace E := En.add (f := (fR zI v2066 x2065)) (En.ex E ex2067) hr2067
    refine gn ?_
    refine asg_open ?_
    obtain ⟨x2073, h_x2073, hm⟩ := bnd hm
    refine En.run E (ev_ixD (ev_var (i := 0) rfl (E.rd (r := zD) (v := v2070) (d := s2061) 1 rfl)) (ev_var (i := 2) rfl (E.rd (r := zI) (v := v2066) (d := x2065) 0 rfl)) h_x2073) fun v2074 H E => ?_
    have hj9 := Option.some.inj hm
    subst o2062
    exact (hn2067 _ _ _ ⟨v2074, _, _, rfl, (En.facts (En.pick E [] (by decide) rfl) ⟨(E.rd (r := zD) (v := v2074) (d := x2073) 0 rfl), trivial⟩)⟩).1
  · obtain ⟨v2070, u2071, u2072, rfl, E⟩ := hI2067
    replace E := En.back E2 E
    first | refine nx_ ?_ | skip
    refine ret_open ?_
    refine En.run E (ev_var (i := 0) rfl (E.rd (r := zD) (v := v2070) (d := s2063) 0 rfl)) fun v2075 H E => ?_
    have hr9 := Option.some.inj hm
    subst res
    exact hQ _ _ (En.isEx E) (En.out E (En.at E (f := (fR zD v2075 s2063)) 0 rfl))

def m__law_put : Nat → PyData → (List Int) → PyData → Option PyData
  | 0, _, _, _ => none
  | n9 + 1, p_tree, p_path, p_part =>
    (if (decide (((p_path).length : Int) = (0 : Int))) = true then
    some p_part
    else
    ((dIx p_tree (0 : Int)).bind fun (x2077 : PyData) =>
    ((dIx p_tree (1 : Int)).bind fun (x2078 : PyData) =>
    ((dIx p_tree (2 : Int)).bind fun (x2079 : PyData) =>
    ((some ([x2077, x2078, x2079])).bind fun (d2080 : List PyData) =>
    ((atI p_path (0 : Int)).bind fun (x2088 : Int) =>
    ((dIx p_tree x2088).bind fun (x2089 : PyData) =>
    ((m__law_put n9 x2089 (cutA p_path (some (1 : Int)) none) p_part).bind fun (r2090 : PyData) =>
    ((atI p_path (0 : Int)).bind fun (x2092 : Int) =>
    ((setO d2080 x2092 r2090).bind fun (d2093 : List PyData) =>
    some (PyData.tuple d2093)))))))))))
abbrev sp__law_put (n : Nat) (K : PySem.W.Frag) : Sp := FSp K (aC zD (aC (zL zI) (aC zD aN))) zD (fun (a : PyData × (List Int) × PyData × Unit) => m__law_put n a.1 a.2.1 a.2.2.1)
theorem okn__law_put (S : Tx K mg)  : ∀ n, Ok P w K mg base (1 + n) ("_law_put", none) ["tree", "path", "part"] (sp__law_put n K) := by
  obtain ⟨fd, D⟩ := d__law_put S
  intro n
  induction n with
  | zero =>
    refine mk_ok (k := 0) D sc__law_put (D.bindsN fun _ _ _ _ _ _ us hl => match us, hl with | [_, _, _], _ => rfl) (FSp_len len3) (fun cdv A outer s H00 vs Q E hr h => ?_)
    obtain ⟨T00, ⟨p_tree, p_path, p_part, _⟩, res, hT, ⟨v_tree, _, rfl, r_tree, v_path, _, rfl, r_path, v_part, _, rfl, r_part, rfl⟩, hm, hQ⟩ := h
    cases hm
  | succ n9 ih =>
    refine mk_ok (k := 1 + n9) D sc__law_put (D.bindsN fun _ _ _ _ _ _ us hl => match us, hl with | [_, _, _], _ => rfl) (FSp_len len3) (fun cdv A outer s H00 vs Q E hr h => ?_)
    obtain ⟨T00, ⟨p_tree, p_path, p_part, _⟩, res, hT, ⟨v_tree, _, rfl, r_tree, v_path, _, rfl, r_path, v_part, _, rfl, r_part, rfl⟩, hm, hQ⟩ := h
    refine ⟨_, (pss_cons (ps_if (pt_cmpR op_eq (pe_callB (kc_len (K := K)) (by rfl) (m_len S) bt_len (pa_cons (pv 1) pa_nil)) pe_int (nomark _)) (pss_one (ps_ret (pv 2))) pss_nil) (pss_cons (ps_set (i := 3) sc__law_put.nd rfl (.inl rfl) (pe_lst (pa_cons (pe_ix (kx_seq (K := K)) (pv 0) pe_int (fun _ _ => rfl)) (pa_cons (pe_ix (kx_seq (K := K)) (pv 0) pe_int (fun _ _ => rfl)) (pa_cons (pe_ix (kx_seq (K := K)) (pv 0) pe_int (fun _ _ => rfl)) pa_nil))))) (pss_cons (ps_asg (pe_callG ih hr (by omega) (by rfl) (g__law_put S) (pa_cons (pe_ix (kx_seq (K := K)) (pv 0) (pe_ix (kx_list (K := K)) (pv 1) pe_int (fun _ _ => rfl)) (fun _ _ => rfl)) (pa_cons (pe_slice (ks_list (K := K)) (pv 1) (po_some pe_int) po_none) (pa_cons (pv 2) pa_nil)))) (pg_sub (pv 3) (pe_ix (kx_list (K := K)) (pv 1) pe_int (fun _ _ => rfl)) set_list)) (pss_one (ps_ret (pe_callTy (kc_tuple (K := K)) (by rfl) (m_tuple S) bt_tuple (pa_cons (pv 3) pa_nil))))))), ?_⟩
    have E : En K ⟨T00, [], H00⟩ [(fR zD v_tree p_tree), (fR (zL zI) v_path p_path), (fR zD v_part p_part)] [] T00 H00 := En.start hT ⟨r_tree, r_path, r_part, trivial⟩
    replace hm : m__law_put (n9 + 1) p_tree p_path p_part = some res := hm
    unfold m__law_put at hm
    refine ifs_open ?_
    refine En.test E (et_test (K := K) (ev_eqI (ev_lenL (ev_var (i := 1) rfl (E.rd (r := (zL zI)) (v := v_path) (d := p_path) 1 rfl))) ev_int)) fun H E => ?_
    refine iteB (fun hc2095 => ?_) (fun hc2095 => ?_)
    · rw [if_pos hc2095] at hm
      refine ret_open ?_
      refine En.run E (ev_var (i := 2) rfl (E.rd (r := zD) (v := v_part) (d := p_part) 2 rfl)) fun v2076 H E => ?_
      have hr9 := Option.some.inj hm
      subst res
      exact hQ _ _ (En.isEx E) (En.out E (En.at E (f := (fR zD v2076 p_part)) 0 rfl))
    · rw [if_neg (by rw [hc2095]; decide)] at hm
      first | refine nx_ ?_ | skip
      refine asg_open ?_
      obtain ⟨x2077, h_x2077, hm⟩ := bnd hm
      obtain ⟨x2078, h_x2078, hm⟩ := bnd hm
      obtain ⟨x2079, h_x2079, hm⟩ := bnd hm
      obtain ⟨d2080, e_d2080, hm⟩ := bnd hm
      refine En.newL (r := zD) E (EvF.to (ef_lst (xs := [x2077, x2078, x2079]) (eh_cons (ev_ixD (ev_var (i := 0) rfl (E.rd (r := zD) (v := v_tree) (d := p_tree) 0 rfl)) ev_int h_x2077) (eh_cons (ev_ixD (ev_var (i := 0) rfl (E.rd (r := zD) (v := v_tree) (d := p_tree) 0 rfl)) ev_int h_x2078) (eh_cons (ev_ixD (ev_var (i := 0) rfl (E.rd (r := zD) (v := v_tree) (d := p_tree) 0 rfl)) ev_int h_x2079) eh_nil))) (Nat.le_of_ble_eq_true rfl)) (Option.some.inj e_d2080)) fun p2081 H E => ?_
      first | refine nx_ ?_ | skip
      refine asgt_open ?_
      obtain ⟨x2088, h_x2088, hm⟩ := bnd hm
      obtain ⟨x2089, h_x2089, hm⟩ := bnd hm
      obtain ⟨r2090, h_r2090, hm⟩ := bnd hm
      refine En.run E (ev_callO E.td (ea_cons (ev_ixD (ev_var (i := 0) rfl (E.rd (r := zD) (v := v_tree) (d := p_tree) 1 rfl)) (ev_ixL (ev_var (i := 1) rfl (E.rd (r := (zL zI)) (v := v_path) (d := p_path) 2 rfl)) ev_int h_x2088) h_x2089) (ea_cons (ev_slL E.td (ev_var (i := 1) rfl (E.rd (r := (zL zI)) (v := v_path) (d := p_path) 2 rfl)) (eo_some (K := K) ev_int) eo_none) (ea_cons (ev_var (i := 2) rfl (E.rd (r := zD) (v := v_part) (d := p_part) 3 rfl)) ea_nil))) h_r2090) fun v2091 H E => ?_
      obtain ⟨x2092, h_x2092, hm⟩ := bnd hm
      obtain ⟨d2093, e_d2093, hm⟩ := bnd hm
      refine En.setitem (r := zD) (p := p2081) (xs := d2080) E rfl 0 rfl (E.rd (r := zD) (v := v2091) (d := r2090) 0 rfl) (ev_ixL (ev_var (i := 1) rfl (E.rd (r := (zL zI)) (v := v_path) (d := p_path) 3 rfl)) ev_int h_x2092) e_d2093 fun H E => ?_
      first | refine nx_ ?_ | skip
      replace E := En.freeze (r := zD) (p := p2081) (xs := d2093) (cs := []) E (by simp [owns])
      refine ret_open ?_
      refine En.run E (ev_toDU (ev_tupL E.td (ev_var (i := 3) rfl (E.rd (r := (zL zD)) (v := (.ref p2081)) (d := d2093) 0 rfl)))) fun v2094 H E => ?_
      have hr9 := Option.some.inj hm
      subst res
      exact hQ _ _ (En.isEx E) (En.out E (En.at E (f := (fR zD v2094 (PyData.tuple d2093))) 0 rfl))
theorem ok__law_put (S : Tx K mg)  : Ok P w K mg base 17 ("_law_put", none) ["tree", "path", "part"] ((sp__law_put 16) K) := okn__law_put S  16

def m__law_breaks : Nat → PyData → (List (List Bool)) → (List Int) → (List PyData) → Option Bool
  | 0, _, _, _, _ => none
  | n9 + 1, p_tree, p_rows, p_budgets, p_ways =>
    (if (decide ((12 : Int) < ((p_ways).length : Int))) = true then
    some false
    else
    (if (isD "tuple" p_tree) = true then
    ((dLen p_tree).bind fun (x2097 : Int) =>
    ((if (!decide (x2097 = (3 : Int))) = true then some true else ((dIx p_tree (0 : Int)).bind fun (x2101 : PyData) =>
    ((m__law_is_integer x2101).bind fun (r2102 : Bool) =>
    ((if (!r2102) = true then some true else ((dIx p_tree (0 : Int)).bind fun (x2103 : PyData) =>
    ((dInt x2103).bind fun (x2104 : Int) =>
    ((if (decide (x2104 < (0 : Int))) = true then some true else ((dIx p_tree (0 : Int)).bind fun (x2105 : PyData) =>
    ((atI p_rows (0 : Int)).bind fun (x2106 : (List Bool)) =>
    ((dInt x2105).bind fun (x2107 : Int) =>
    some (decide (((x2106).length : Int) ≤ x2107)))))).bind fun (b2109 : Bool) =>
    some b2109)))).bind fun (b2112 : Bool) =>
    some b2112)))).bind fun (b2115 : Bool) =>
    (if b2115 = true then
    some false
    else
    ((dIx p_tree (1 : Int)).bind fun (x2127 : PyData) =>
    ((dIx p_tree (0 : Int)).bind fun (x2128 : PyData) =>
    ((grd (p_ways.length + ([(PyData.list ([x2128, (PyData.str (wS ([false] : List Bool)))]))] : (List PyData)).length ≤ 1000000)).bind fun (u2129 : Unit) =>
    ((m__law_breaks n9 x2127 p_rows p_budgets (p_ways ++ ([(PyData.list ([x2128, (PyData.str (wS ([false] : List Bool)))]))] : (List PyData)))).bind fun (r2130 : Bool) =>
    (if (!r2130) = true then
    some false
    else
    ((dIx p_tree (2 : Int)).bind fun (x2141 : PyData) =>
    ((dIx p_tree (0 : Int)).bind fun (x2142 : PyData) =>
    ((grd (p_ways.length + ([(PyData.list ([x2142, (PyData.str (wS ([true] : List Bool)))]))] : (List PyData)).length ≤ 1000000)).bind fun (u2143 : Unit) =>
    ((m__law_breaks n9 x2141 p_rows p_budgets (p_ways ++ ([(PyData.list ([x2142, (PyData.str (wS ([true] : List Bool)))]))] : (List PyData)))).bind fun (r2144 : Bool) =>
    some r2144))))))))))))
    else
    ((m__law_is_integer p_tree).bind fun (r2148 : Bool) =>
    ((if (!r2148) = true then some true else ((dInt p_tree).bind fun (x2149 : Int) =>
    ((if (decide (x2149 < (0 : Int))) = true then some true else ((dInt p_tree).bind fun (x2150 : Int) =>
    some (decide (((p_rows).length : Int) ≤ x2150)))).bind fun (b2152 : Bool) =>
    some b2152))).bind fun (b2155 : Bool) =>
    (if b2155 = true then
    some false
    else
    ((dInt p_tree).bind fun (x2158 : Int) =>
    ((atI p_budgets x2158).bind fun (x2159 : Int) =>
    ((if (decide (x2159 < ((p_ways).length : Int))) = true then ((mapO (fun (x2160 : PyData) =>
    ((dInt p_tree).bind fun (x2161 : Int) =>
    ((atI p_rows x2161).bind fun (x2162 : (List Bool)) =>
    ((dIx x2160 (0 : Int)).bind fun (x2163 : PyData) =>
    ((dInt x2163).bind fun (x2164 : Int) =>
    ((atI x2162 x2164).bind fun (x2165 : Bool) =>
    ((dIx x2160 (1 : Int)).bind fun (x2166 : PyData) =>
    ((grd (SeqAt.shaped (PyData.str (wS ([x2165]))) = true)).bind fun (u2167 : Unit) =>
    ((grd (SeqAt.shaped x2166 = true)).bind fun (u2168 : Unit) =>
    some (PyData.eqv (PyData.str (wS ([x2165]))) x2166)))))))))) p_ways).bind fun (x2169 : (List Bool)) =>
    some ((x2169).all id)) else some false).bind fun (b2171 : Bool) =>
    some b2171))))))))
abbrev sp__law_breaks (n : Nat) (K : PySem.W.Frag) : Sp := FSp K (aC zD (aC (zL zW) (aC (zL zI) (aC (zL zD) aN)))) zB (fun (a : PyData × (List (List Bool)) × (List Int) × (List PyData) × Unit) => m__law_breaks n a.1 a.2.1 a.2.2.1 a.2.2.2.1)
theorem okn__law_breaks (S : Tx K mg) (G__law_is_integer : Ok P w K mg base 1 ("_law_is_integer", none) ["value"] (sp__law_is_integer K)) : ∀ n, Ok P w K mg base (2 + n) ("_law_breaks", none) ["tree", "rows", "budgets", "ways"] (sp__law_breaks n K) := by
  obtain ⟨fd, D⟩ := d__law_breaks S
  intro n
  induction n with
  | zero =>
    refine mk_ok (k := 1) D sc__law_breaks (D.bindsN fun _ _ _ _ _ _ us hl => match us, hl with | [_, _, _, _], _ => rfl) (FSp_len len4) (fun cdv A outer s H00 vs Q E hr h => ?_)
    obtain ⟨T00, ⟨p_tree, p_rows, p_budgets, p_ways, _⟩, res, hT, ⟨v_tree, _, rfl, r_tree, v_rows, _, rfl, r_rows, v_budgets, _, rfl, r_budgets, v_ways, _, rfl, r_ways, rfl⟩, hm, hQ⟩ := h
    cases hm
  | succ n9 ih =>
    refine mk_ok (k := 2 + n9) D sc__law_breaks (D.bindsN fun _ _ _ _ _ _ us hl => match us, hl with | [_, _, _, _], _ => rfl) (FSp_len len4) (fun cdv A outer s H00 vs Q E hr h => ?_)
    obtain ⟨T00, ⟨p_tree, p_rows, p_budgets, p_ways, _⟩, res, hT, ⟨v_tree, _, rfl, r_tree, v_rows, _, rfl, r_rows, v_budgets, _, rfl, r_budgets, v_ways, _, rfl, r_ways, rfl⟩, hm, hQ⟩ := h
    refine ⟨_, (pss_cons (ps_if (pt_cmpR op_gt (pe_callB (kc_len (K := K)) (by rfl) (m_len S) bt_len (pa_cons (pv 3) pa_nil)) pe_int (nomark _)) (pss_one (ps_ret pe_bl)) pss_nil) (pss_cons (ps_if (pt_val (pe_callB (kc_isi (K := K)) (by rfl) (m_isinstance S) bt_isinstance (pa_cons (pv 0) (pa_cons (pe_cls (by rfl) (m_tuple S) bt_tuple) pa_nil)))) (pss_cons (ps_if (PW.pt (pw_or (pt_cmpR op_ne (pe_callB (kc_lenD (K := K)) (by rfl) (m_len S) bt_len (pa_cons (pv 0) pa_nil)) pe_int (nomark _)) (pw_or (pt_not (pt_val (pe_callG G__law_is_integer hr (by omega) (by rfl) (g__law_is_integer S) (pa_cons (pe_ix (kx_seq (K := K)) (pv 0) pe_int (fun _ _ => rfl)) pa_nil)))) (pw_or (pt_cmpR op_lt (pe_ix (kx_seq (K := K)) (pv 0) pe_int (fun _ _ => rfl)) pe_int (nomark _)) (pw_or1 (pt_cmpR op_ge (pe_ix (kx_seq (K := K)) (pv 0) pe_int (fun _ _ => rfl)) (pe_callB call_lenS (by rfl) (m_len S) bt_len (pa_cons (pe_ix (kx_list (K := K)) (pv 1) pe_int (fun _ _ => rfl)) pa_nil)) (nomark _))))))) (pss_one (ps_ret pe_bl)) pss_nil) (pss_cons (ps_if (pt_not (pt_val (pe_callG ih hr (by omega) (by rfl) (g__law_breaks S) (pa_cons (pe_ix (kx_seq (K := K)) (pv 0) pe_int (fun _ _ => rfl)) (pa_cons (pv 1) (pa_cons (pv 2) (pa_cons (pe_op (op_catQ (K := K)) (pv 3) (pe_lst (pa_cons (pe_lst (pa_cons (pe_ix (kx_seq (K := K)) (pv 0) pe_int (fun _ _ => rfl)) (pa_cons pe_str pa_nil))) pa_nil))) pa_nil))))))) (pss_one (ps_ret pe_bl)) pss_nil) (pss_one (ps_ret (pe_callG ih hr (by omega) (by rfl) (g__law_breaks S) (pa_cons (pe_ix (kx_seq (K := K)) (pv 0) pe_int (fun _ _ => rfl)) (pa_cons (pv 1) (pa_cons (pv 2) (pa_cons (pe_op (op_catQ (K := K)) (pv 3) (pe_lst (pa_cons (pe_lst (pa_cons (pe_ix (kx_seq (K := K)) (pv 0) pe_int (fun _ _ => rfl)) (pa_cons pe_str pa_nil))) pa_nil))) pa_nil))))))))) pss_nil) (pss_cons (ps_if (PW.pt (pw_or (pt_not (pt_val (pe_callG G__law_is_integer hr (by omega) (by rfl) (g__law_is_integer S) (pa_cons (pv 0) pa_nil)))) (pw_or (pt_cmpR op_lt (pv 0) pe_int (nomark _)) (pw_or1 (pt_cmpR op_ge (pv 0) (pe_callB (kc_len (K := K)) (by rfl) (m_len S) bt_len (pa_cons (pv 1) pa_nil)) (nomark _)))))) (pss_one (ps_ret pe_bl)) pss_nil) (pss_one (ps_ret (pe_and (pe_cmpR op_gt (pe_callB (kc_len (K := K)) (by rfl) (m_len S) bt_len (pa_cons (pv 3) pa_nil)) (pe_ix (kx_list (K := K)) (pv 2) (pv 0) (fun _ _ => rfl)) (nomark _)) (pe_one (pe_callB (kr_all (K := K) rfl) (by rfl) (m_all S) bt_all (pa_cons (pe_lc (own := [("way", 4)]) (by rfl) sc__law_breaks.nd (kp_list (K := K) (pv 3)) (blkOk_by (N := ["tree", "rows", "budgets", "ways", "way"]) (sc := defScope s__law_breaks) (by decide +kernel)) (fun _ _ _ _ _ => pg_name (i := 4) sc__law_breaks.nd rfl (.inl rfl)) (fun _ _ _ _ _ => pts_nil) (fun _ _ _ _ _ => (pe_cmpR (op_eqDQ (room_64 hr)) (pe_ix ix_str (pe_ix (kx_list (K := K)) (pv 1) (pv 0) (fun _ _ => rfl)) (pe_ix (kx_seq (K := K)) (pv 4) pe_int (fun _ _ => rfl)) (fun _ _ => rfl)) (pe_ix (kx_seq (K := K)) (pv 4) pe_int (fun _ _ => rfl)) (nomark _)))) pa_nil))))))))), ?_⟩
    have E : En K ⟨T00, [], H00⟩ [(fR zD v_tree p_tree), (fR (zL zW) v_rows p_rows), (fR (zL zI) v_budgets p_budgets), (fR (zL zD) v_ways p_ways)] [] T00 H00 := En.start hT ⟨r_tree, r_rows, r_budgets, r_ways, trivial⟩
    replace hm : m__law_breaks (n9 + 1) p_tree p_rows p_budgets p_ways = some res := hm
    unfold m__law_breaks at hm
    refine ifs_open ?_
    refine En.test E (et_test (K := K) (ev_gt (ev_lenL (ev_var (i := 3) rfl (E.rd (r := (zL zD)) (v := v_ways) (d := p_ways) 3 rfl))) ev_int)) fun H E => ?_
    refine iteB (fun hc2176 => ?_) (fun hc2176 => ?_)
    · rw [if_pos hc2176] at hm
      refine ret_open ?_
      refine En.run E ev_bl fun v2096 H E => ?_
      have hr9 := Option.some.inj hm
      subst res
      exact hQ _ _ (En.isEx E) (En.out E (En.at E (f := (fR zB v2096 false)) 0 rfl))
    · rw [if_neg (by rw [hc2176]; decide)] at hm
      first | refine nx_ ?_ | skip
      refine ifs_open ?_
      refine En.test E (et_B (K := K) (ev_isiD (n := "tuple") (ev_var (i := 0) rfl (E.rd (r := zD) (v := v_tree) (d := p_tree) 0 rfl)))) fun H E => ?_
      refine iteB (fun hc2175 => ?_) (fun hc2175 => ?_)
      · rw [if_pos hc2175] at hm
        refine ifs_open ?_
        obtain ⟨x2097, h_x2097, hm⟩ := bnd hm
        obtain ⟨b2115, h_b2115, hm⟩ := bnd hm
        refine En.test E (et_orO (et_test (K := K) (ev_neI (ev_lenD (ev_var (i := 0) rfl (E.rd (r := zD) (v := v_tree) (d := p_tree) 0 rfl)) h_x2097) ev_int)) (fun hc2114 y2116 hy2116 => by
          obtain ⟨x2101, h_x2101, hy2116⟩ := bnd hy2116; obtain ⟨r2102, h_r2102, hy2116⟩ := bnd hy2116; obtain ⟨b2112, h_b2112, hy2116⟩ := bnd hy2116; cases hy2116; exact (et_orO (et_not (et_B (K := K) (ev_callO E.td (ea_cons (ev_ixD (ev_var (i := 0) rfl (E.rd (r := zD) (v := v_tree) (d := p_tree) 0 rfl)) ev_int h_x2101) ea_nil) h_r2102))) (fun hc2111 y2113 hy2113 => by
          obtain ⟨x2103, h_x2103, hy2113⟩ := bnd hy2113; obtain ⟨x2104, h_x2104, hy2113⟩ := bnd hy2113; obtain ⟨b2109, h_b2109, hy2113⟩ := bnd hy2113; cases hy2113; exact (et_orO (et_test (K := K) (ev_lt (ev_dI (ev_ixD (ev_var (i := 0) rfl (E.rd (r := zD) (v := v_tree) (d := p_tree) 0 rfl)) ev_int h_x2103) h_x2104) ev_int)) (fun hc2108 y2110 hy2110 => by
          obtain ⟨x2105, h_x2105, hy2110⟩ := bnd hy2110; obtain ⟨x2106, h_x2106, hy2110⟩ := bnd hy2110; obtain ⟨x2107, h_x2107, hy2110⟩ := bnd hy2110; cases hy2110; exact (et_test (K := K) (ev_ge (ev_dI (ev_ixD (ev_var (i := 0) rfl (E.rd (r := zD) (v := v_tree) (d := p_tree) 0 rfl)) ev_int h_x2105) h_x2107) (ev_lenW (ev_ixL (ev_var (i := 1) rfl (E.rd (r := (zL zW)) (v := v_rows) (d := p_rows) 1 rfl)) ev_int h_x2106))))) h_b2109)) h_b2112)) h_b2115) fun H E => ?_
        refine iteB (fun hc2147 => ?_) (fun hc2147 => ?_)
        · rw [if_pos hc2147] at hm
          refine ret_open ?_
          refine En.run E ev_bl fun v2117 H E => ?_
          have hr9 := Option.some.inj hm
          subst res
          exact hQ _ _ (En.isEx E) (En.out E (En.at E (f := (fR zB v2117 false)) 0 rfl))
        · rw [if_neg (by rw [hc2147]; decide)] at hm
          first | refine nx_ ?_ | skip
          refine ifs_open ?_
          obtain ⟨x2127, h_x2127, hm⟩ := bnd hm
          obtain ⟨x2128, h_x2128, hm⟩ := bnd hm
          obtain ⟨u2129, h_u2129, hm⟩ := bnd hm
          obtain ⟨r2130, h_r2130, hm⟩ := bnd hm
          refine En.test E (et_not (et_B (K := K) (ev_callO E.td (ea_cons (ev_ixD (ev_var (i := 0) rfl (E.rd (r := zD) (v := v_tree) (d := p_tree) 0 rfl)) ev_int h_x2127) (ea_cons (ev_var (i := 1) rfl (E.rd (r := (zL zW)) (v := v_rows) (d := p_rows) 1 rfl)) (ea_cons (ev_var (i := 2) rfl (E.rd (r := (zL zI)) (v := v_budgets) (d := p_budgets) 2 rfl)) (ea_cons (ev_catL E.td (ev_var (i := 3) rfl (E.rd (r := (zL zD)) (v := v_ways) (d := p_ways) 3 rfl)) (ev_lst E.td (eh_cons (ev_toDL (ev_lst (r := zD) (xs := [x2128, (PyData.str (wS ([false] : List Bool)))]) E.td (eh_cons (ev_ixD (ev_var (i := 0) rfl (E.rd (r := zD) (v := v_tree) (d := p_tree) 0 rfl)) ev_int h_x2128) (eh_cons (ev_toD (ev_word [false] (by decide) (by decide))) eh_nil)) (Nat.le_of_ble_eq_true rfl))) eh_nil) (Nat.le_of_ble_eq_true rfl)) (grd_ok h_u2129)) ea_nil)))) h_r2130))) fun H E => ?_
          refine iteB (fun hc2146 => ?_) (fun hc2146 => ?_)
          · rw [if_pos hc2146] at hm
            refine ret_open ?_
            refine En.run E ev_bl fun v2131 H E => ?_
            have hr9 := Option.some.inj hm
            subst res
            exact hQ _ _ (En.isEx E) (En.out E (En.at E (f := (fR zB v2131 false)) 0 rfl))
          · rw [if_neg (by rw [hc2146]; decide)] at hm
            first | refine nx_ ?_ | skip
            refine ret_open ?_
            obtain ⟨x2141, h_x2141, hm⟩ := bnd hm
            obtain ⟨x2142, h_x2142, hm⟩ := bnd hm
            obtain ⟨u2143, h_u2143, hm⟩ := bnd hm
            obtain ⟨r2144, h_r2144, hm⟩ := bnd hm
            refine En.run E (ev_callO E.td (ea_cons (ev_ixD (ev_var (i := 0) rfl (E.rd (r := zD) (v := v_tree) (d := p_tree) 0 rfl)) ev_int h_x2141) (ea_cons (ev_var (i := 1) rfl (E.rd (r := (zL zW)) (v := v_rows) (d := p_rows) 1 rfl)) (ea_cons (ev_var (i := 2) rfl (E.rd (r := (zL zI)) (v := v_budgets) (d := p_budgets) 2 rfl)) (ea_cons (ev_catL E.td (ev_var (i := 3) rfl (E.rd (r := (zL zD)) (v := v_ways) (d := p_ways) 3 rfl)) (ev_lst E.td (eh_cons (ev_toDL (ev_lst (r := zD) (xs := [x2142, (PyData.str (wS ([true] : List Bool)))]) E.td (eh_cons (ev_ixD (ev_var (i := 0) rfl (E.rd (r := zD) (v := v_tree) (d := p_tree) 0 rfl)) ev_int h_x2142) (eh_cons (ev_toD (ev_word [true] (by decide) (by decide))) eh_nil)) (Nat.le_of_ble_eq_true rfl))) eh_nil) (Nat.le_of_ble_eq_true rfl)) (grd_ok h_u2143)) ea_nil)))) h_r2144) fun v2145 H E => ?_
            have hr9 := Option.some.inj hm
            subst res
            exact hQ _ _ (En.isEx E) (En.out E (En.at E (f := (fR zB v2145 r2144)) 0 rfl))
      · rw [if_neg (by rw [hc2175]; decide)] at hm
        first | refine nx_ ?_ | skip
        refine ifs_open ?_
        obtain ⟨r2148, h_r2148, hm⟩ := bnd hm
        obtain ⟨b2155, h_b2155, hm⟩ := bnd hm
        refine En.test E (et_orO (et_not (et_B (K := K) (ev_callO E.td (ea_cons (ev_var (i := 0) rfl (E.rd (r := zD) (v := v_tree) (d := p_tree) 0 rfl)) ea_nil) h_r2148))) (fun hc2154 y2156 hy2156 => by
          obtain ⟨x2149, h_x2149, hy2156⟩ := bnd hy2156; obtain ⟨b2152, h_b2152, hy2156⟩ := bnd hy2156; cases hy2156; exact (et_orO (et_test (K := K) (ev_lt (ev_dI (ev_var (i := 0) rfl (E.rd (r := zD) (v := v_tree) (d := p_tree) 0 rfl)) h_x2149) ev_int)) (fun hc2151 y2153 hy2153 => by
          obtain ⟨x2150, h_x2150, hy2153⟩ := bnd hy2153; cases hy2153; exact (et_test (K := K) (ev_ge (ev_dI (ev_var (i := 0) rfl (E.rd (r := zD) (v := v_tree) (d := p_tree) 0 rfl)) h_x2150) (ev_lenL (ev_var (i := 1) rfl (E.rd (r := (zL zW)) (v := v_rows) (d := p_rows) 1 rfl)))))) h_b2152)) h_b2155) fun H E => ?_
        refine iteB (fun hc2174 => ?_) (fun hc2174 => ?_)
        · rw [if_pos hc2174] at hm
          refine ret_open ?_
          refine En.run E ev_bl fun v2157 H E => ?_
          have hr9 := Option.some.inj hm
          subst res
          exact hQ _ _ (En.isEx E) (En.out E (En.at E (f := (fR zB v2157 false)) 0 rfl))
        · rw [if_neg (by rw [hc2174]; decide)] at hm
          first | refine nx_ ?_ | skip
          refine ret_open ?_
          obtain ⟨x2158, h_x2158, hm⟩ := bnd hm
          obtain ⟨x2159, h_x2159, hm⟩ := bnd hm
          obtain ⟨b2171, h_b2171, hm⟩ := bnd hm
          refine En.run E (ev_andO (ev_gt (ev_lenL (ev_var (i := 3) rfl (E.rd (r := (zL zD)) (v := v_ways) (d := p_ways) 3 rfl))) (ev_ixL (ev_var (i := 2) rfl (E.rd (r := (zL zI)) (v := v_budgets) (d := p_budgets) 2 rfl)) (ev_dI (ev_var (i := 0) rfl (E.rd (r := zD) (v := v_tree) (d := p_tree) 0 rfl)) h_x2158) h_x2159)) (fun hc2170 y2172 hy2172 => by
          obtain ⟨x2169, h_x2169, hy2172⟩ := bnd hy2172; cases hy2172; exact (ev_all (ev_lcO1 E.td (ei_list (ev_var (i := 3) rfl (E.rd (r := (zL zD)) (v := v_ways) (d := p_ways) 3 rfl))) h_x2169 (fun T2160 H2160 v2160 x2160 L2160 hT2160 hx2160 r2160 Q2160 q2160 => q2160 _ wipe1 (fun y2160 hy2160 => by
          obtain ⟨x2161, h_x2161, hy2160⟩ := bnd hy2160; obtain ⟨x2162, h_x2162, hy2160⟩ := bnd hy2160; obtain ⟨x2163, h_x2163, hy2160⟩ := bnd hy2160; obtain ⟨x2164, h_x2164, hy2160⟩ := bnd hy2160; obtain ⟨x2165, h_x2165, hy2160⟩ := bnd hy2160; obtain ⟨x2166, h_x2166, hy2160⟩ := bnd hy2160; obtain ⟨u2167, h_u2167, hy2160⟩ := bnd hy2160; obtain ⟨u2168, h_u2168, hy2160⟩ := bnd hy2160; cases hy2160; exact (ev_eqDD (ev_toD (ev_ixW (ev_ixL (ev_var (i := 1) rfl (L2160.ap (E.rd (r := (zL zW)) (v := v_rows) (d := p_rows) 1 rfl))) (ev_dI (ev_var (i := 0) rfl (L2160.ap (E.rd (r := zD) (v := v_tree) (d := p_tree) 0 rfl))) h_x2161) h_x2162) (ev_dI (ev_ixD (ev_var (i := 4) rfl r2160) ev_int h_x2163) h_x2164) h_x2165)) (ev_ixD (ev_var (i := 4) rfl r2160) ev_int h_x2166) (grd_ok h_u2167) (grd_ok h_u2168))))))) h_b2171) fun v2173 H E => ?_
          have hr9 := Option.some.inj hm
          subst res
          exact hQ _ _ (En.isEx E) (En.out E (En.at E (f := (fR zB v2173 b2171)) 0 rfl))
theorem ok__law_breaks (S : Tx K mg) (G__law_is_integer : Ok P w K mg base 1 ("_law_is_integer", none) ["value"] (sp__law_is_integer K)) : Ok P w K mg base 34 ("_law_breaks", none) ["tree", "rows", "budgets", "ways"] ((sp__law_breaks 32) K) := okn__law_breaks S G__law_is_integer 32

def m__law_spoilt_leaf (p_rows : (List (List Bool))) (p_leaf : PyData) (p_kind : Int) (s00 : Px) : Option (PyData × Px) :=
((some ((p_rows).length : Int)).bind fun (d2178 : Int) =>
(if (decide (p_kind = (0 : Int))) = true then
((m__law_take d2178 s00).bind fun (q2179 : Int × Px) =>
some ((PyData.int q2179.1), q2179.2))
else
(if (decide (p_kind = (1 : Int))) = true then
((dInt p_leaf).bind fun (x2181 : Int) =>
((grd (x2181.natAbs.log2 < 1920)).bind fun (u2182 : Unit) =>
((dInt p_leaf).bind fun (x2183 : Int) =>
((dInt p_leaf).bind fun (x2184 : Int) =>
((atI p_rows x2184).bind fun (x2185 : (List Bool)) =>
((dInt p_leaf).bind fun (x2186 : Int) =>
((some ([PyData.none, (PyData.str (strI x2181)), (PyData.tuple ([p_leaf])), (PyData.list ([p_leaf])), (PyData.int (-(1 : Int))), (PyData.int d2178), (PyData.int (d2178 + x2183)), (PyData.tuple ([] : List PyData)), (PyData.str (wS x2185)), (PyData.int (x2186 - d2178)), (PyData.bool true), (PyData.bool false)] : (List PyData))).bind fun (d2188 : (List PyData)) =>
((((dInt p_leaf).bind fun (x2208 : Int) =>
(if (decide (x2208 < (2 : Int))) = true then
((grd (SeqAt.shaped p_leaf = true)).bind fun (u2209 : Unit) =>
((grd (SeqAt.shaped (PyData.int (1 : Int)) = true)).bind fun (u2210 : Unit) =>
((grd (SeqAt.shaped p_leaf = true)).bind fun (u2211 : Unit) =>
((grd (SeqAt.shaped (PyData.int (1 : Int)) = true)).bind fun (u2212 : Unit) =>
((grd (SeqAt.shaped p_leaf = true)).bind fun (u2213 : Unit) =>
((grd (SeqAt.shaped (PyData.int (1 : Int)) = true)).bind fun (u2214 : Unit) =>
((grd (d2188.length + ([(PyData.bool (PyData.eqv p_leaf (PyData.int (1 : Int)))), (PyData.bool (PyData.eqv p_leaf (PyData.int (1 : Int)))), (PyData.bool (PyData.eqv p_leaf (PyData.int (1 : Int))))] : (List PyData)).length ≤ 1000000)).bind fun (u2215 : Unit) =>
((some (d2188 ++ ([(PyData.bool (PyData.eqv p_leaf (PyData.int (1 : Int)))), (PyData.bool (PyData.eqv p_leaf (PyData.int (1 : Int)))), (PyData.bool (PyData.eqv p_leaf (PyData.int (1 : Int))))] : (List PyData)))).bind fun (d2217 : (List PyData)) =>
some d2217))))))))
else
some d2188))).bind fun (j2200 : (List PyData)) =>
((m__law_take ((j2200).length : Int) s00).bind fun (q2220 : Int × Px) =>
((atI j2200 q2220.1).bind fun (x2222 : PyData) =>
some (x2222, q2220.2)))))))))))
else
((atI p_rows (0 : Int)).bind fun (x2225 : (List Bool)) =>
((m__law_take ((x2225).length : Int) s00).bind fun (q2226 : Int × Px) =>
((m__law_take d2178 q2226.2).bind fun (q2228 : Int × Px) =>
((some ([(PyData.tuple ([(PyData.int q2226.1), p_leaf, (PyData.int q2228.1)])), (PyData.tuple ([(PyData.int q2226.1), (PyData.int q2228.1), p_leaf])), (PyData.tuple ([(PyData.int q2226.1), p_leaf, p_leaf]))] : (List PyData))).bind fun (d2231 : (List PyData)) =>
((m__law_take (3 : Int) q2228.2).bind fun (q2232 : Int × Px) =>
((atI d2231 q2232.1).bind fun (x2234 : PyData) =>
some (x2234, q2232.2))))))))))
abbrev sp__law_spoilt_leaf (K : PySem.W.Frag) : Sp := GSp K (aC zA (aC (zL zW) (aC zD (aC zI aN)))) (fun (a : Addr × (List (List Bool)) × PyData × Int × Unit) (s : Px) => cPx a.1 s) zD (fun (a : Addr × (List (List Bool)) × PyData × Int × Unit) (s : Px) => m__law_spoilt_leaf a.2.1 a.2.2.1 a.2.2.2.1 s)
theorem ok__law_spoilt_leaf (S : Tx K mg) (G__law_take : Ok P w K mg base 1 ("_law_take", none) ["pool", "many"] (sp__law_take K)) : Ok P w K mg base 2 ("_law_spoilt_leaf", none) ["pool", "rows", "leaf", "kind"] (sp__law_spoilt_leaf K) := by
  obtain ⟨fd, D⟩ := d__law_spoilt_leaf S
  refine mk_ok D sc__law_spoilt_leaf (D.bindsN fun _ _ _ _ _ _ us hl => match us, hl with | [_, _, _, _], _ => rfl) (GSp_len len4) (fun cdv A outer s H00 vs Q E hr h => ?_)
  obtain ⟨T00, ⟨p_pool, p_rows, p_leaf, p_kind, _⟩, s00, res, sres, hT, ⟨v_pool, _, rfl, r_pool, v_rows, _, rfl, r_rows, v_leaf, _, rfl, r_leaf, v_kind, _, rfl, r_kind, rfl⟩, hc, hTc, hnd, hm, hQ⟩ := h
  obtain rfl : v_pool = .ref p_pool := r_pool
  refine ⟨_, (pss_cons (ps_set (i := 4) sc__law_spoilt_leaf.nd rfl (.inl rfl) (pe_callB (kc_len (K := K)) (by rfl) (m_len S) bt_len (pa_cons (pv 1) pa_nil))) (pss_cons (ps_if (pt_cmpR op_eq (pv 3) pe_int (nomark _)) (pss_one (ps_ret (pe_callG G__law_take hr (by omega) (by rfl) (g__law_take S) (pa_cons (pv 0) (pa_cons (pv 4) pa_nil))))) pss_nil) (pss_cons (ps_if (pt_cmpR op_eq (pv 3) pe_int (nomark _)) (pss_cons (ps_set (i := 7) sc__law_spoilt_leaf.nd rfl (.inl rfl) (pe_lst (pa_cons pe_non (pa_cons (pe_callTy call_strI (by rfl) (m_str S) bt_str (pa_cons (pv 2) pa_nil)) (pa_cons (pe_tup (pa_cons (pv 2) pa_nil)) (pa_cons (pe_lst (pa_cons (pv 2) pa_nil)) (pa_cons (pe_un un_neg pe_int) (pa_cons (pv 4) (pa_cons (pe_op op_add (pv 4) (pv 2)) (pa_cons (pe_tup pa_nil) (pa_cons (pe_ix (kx_list (K := K)) (pv 1) (pv 2) (fun _ _ => rfl)) (pa_cons (pe_op op_sub (pv 2) (pv 4)) (pa_cons pe_bl (pa_cons pe_bl pa_nil)))))))))))))) (pss_cons (ps_if (pt_cmpR op_lt (pv 2) pe_int (nomark _)) (pss_one (ps_set (i := 7) sc__law_spoilt_leaf.nd rfl (.inl rfl) (pe_op (op_catQ (K := K)) (pv 7) (pe_lst (pa_cons (pe_cmpR (op_eqDQ (room_64 hr)) (pv 2) pe_int (nomark _)) (pa_cons (pe_cmpR (op_eqDQ (room_64 hr)) (pv 2) pe_int (nomark _)) (pa_cons (pe_cmpR (op_eqDQ (room_64 hr)) (pv 2) pe_int (nomark _)) pa_nil))))))) pss_nil) (pss_one (ps_ret (pe_ix (kx_list (K := K)) (pv 7) (pe_callG G__law_take hr (by omega) (by rfl) (g__law_take S) (pa_cons (pv 0) (pa_cons (pe_callB (kc_len (K := K)) (by rfl) (m_len S) bt_len (pa_cons (pv 7) pa_nil)) pa_nil))) (fun _ _ => rfl)))))) pss_nil) (pss_cons (ps_set (i := 5) sc__law_spoilt_leaf.nd rfl (.inl rfl) (pe_callG G__law_take hr (by omega) (by rfl) (g__law_take S) (pa_cons (pv 0) (pa_cons (pe_callB call_lenS (by rfl) (m_len S) bt_len (pa_cons (pe_ix (kx_list (K := K)) (pv 1) pe_int (fun _ _ => rfl)) pa_nil)) pa_nil)))) (pss_cons (ps_set (i := 6) sc__law_spoilt_leaf.nd rfl (.inl rfl) (pe_callG G__law_take hr (by omega) (by rfl) (g__law_take S) (pa_cons (pv 0) (pa_cons (pv 4) pa_nil)))) (pss_one (ps_ret (pe_ix (kx_list (K := K)) (pe_lst (pa_cons (pe_tup (pa_cons (pv 5) (pa_cons (pv 2) (pa_cons (pv 6) pa_nil)))) (pa_cons (pe_tup (pa_cons (pv 5) (pa_cons (pv 6) (pa_cons (pv 2) pa_nil)))) (pa_cons (pe_tup (pa_cons (pv 5) (pa_cons (pv 2) (pa_cons (pv 2) pa_nil)))) pa_nil)))) (pe_callG G__law_take hr (by omega) (by rfl) (g__law_take S) (pa_cons (pv 0) (pa_cons pe_int pa_nil))) (fun _ _ => rfl))))))))), ?_⟩
  have E : En K ⟨T00, [p_pool], H00⟩ [(fR (zL zW) v_rows p_rows), (fR zD v_leaf p_leaf), (fR zI v_kind p_kind)] [(cPx p_pool s00)] T00 H00 := En.start1 (c := (cPx p_pool s00)) hT ⟨r_rows, r_leaf, r_kind, trivial⟩ hc hTc hnd
  replace hm : m__law_spoilt_leaf p_rows p_leaf p_kind s00 = some (res, sres) := hm
  unfold m__law_spoilt_leaf at hm
  refine asg_open ?_
  obtain ⟨d2178, e_d2178, hm⟩ := bnd hm
  refine En.run E (Ev.to (ev_lenL (ev_var (i := 1) rfl (E.rd (r := (zL zW)) (v := v_rows) (d := p_rows) 0 rfl))) (Option.some.inj e_d2178)) fun v2177 H E => ?_
  first | refine nx_ ?_ | skip
  refine ifs_open ?_
  refine En.test E (et_test (K := K) (ev_eqI (ev_var (i := 3) rfl (E.rd (r := zI) (v := v_kind) (d := p_kind) 3 rfl)) ev_int)) fun H E => ?_
  refine iteB (fun hc2237 => ?_) (fun hc2237 => ?_)
  · rw [if_pos hc2237] at hm
    refine ret_open ?_
    obtain ⟨q2179, h_q2179, hm⟩ := bnd hm
    refine En.gcall E (ea_cons (ev_var (i := 0) rfl (show zA K _ _ (.ref p_pool) p_pool from rfl)) (ea_cons (ev_var (i := 4) rfl (E.rd (r := zI) (v := v2177) (d := d2178) 0 rfl)) ea_nil)) 0 rfl h_q2179 rfl fun v2180 H E => ?_
    replace E := En.add (f := (fR zD v2180 (PyData.int q2179.1))) E (zd_up (r := zI) (E.rd (r := zI) (v := v2180) (d := q2179.1) 0 rfl))
    have hr9 := Prod.mk.inj (Option.some.inj hm)
    have hr8 := hr9.1
    have hr7 := hr9.2
    subst res
    subst sres
    exact hQ _ _ (En.fr E) (En.outc E (c := (cPx p_pool q2179.2)) 0 rfl) (En.out E (En.at E (f := (fR zD v2180 (PyData.int q2179.1))) 0 rfl))
  · rw [if_neg (by rw [hc2237]; decide)] at hm
    first | refine nx_ ?_ | skip
    refine ifs_open ?_
    refine En.test E (et_test (K := K) (ev_eqI (ev_var (i := 3) rfl (E.rd (r := zI) (v := v_kind) (d := p_kind) 3 rfl)) ev_int)) fun H E => ?_
    refine iteB (fun hc2236 => ?_) (fun hc2236 => ?_)
    · rw [if_pos hc2236] at hm
      refine asg_open ?_
      obtain ⟨x2181, h_x2181, hm⟩ := bnd hm
      obtain ⟨u2182, h_u2182, hm⟩ := bnd hm
      obtain ⟨x2183, h_x2183, hm⟩ := bnd hm
      obtain ⟨x2184, h_x2184, hm⟩ := bnd hm
      obtain ⟨x2185, h_x2185, hm⟩ := bnd hm
      obtain ⟨x2186, h_x2186, hm⟩ := bnd hm
      obtain ⟨d2188, e_d2188, hm⟩ := bnd hm
      refine En.run E (Ev.to (ev_lst E.td (eh_cons (ev_toD ev_non) (eh_cons (ev_toD (ev_strI (ev_dI (ev_var (i := 2) rfl (E.rd (r := zD) (v := v_leaf) (d := p_leaf) 2 rfl)) h_x2181) (grd_ok h_u2182))) (eh_cons (ev_toDU (ev_tupU (r := zD) (xs := [p_leaf]) E.td (eh_cons (ev_var (i := 2) rfl (E.rd (r := zD) (v := v_leaf) (d := p_leaf) 2 rfl)) eh_nil) (Nat.le_of_ble_eq_true rfl))) (eh_cons (ev_toDL (ev_lst (r := zD) (xs := [p_leaf]) E.td (eh_cons (ev_var (i := 2) rfl (E.rd (r := zD) (v := v_leaf) (d := p_leaf) 2 rfl)) eh_nil) (Nat.le_of_ble_eq_true rfl))) (eh_cons (ev_toD (ev_neg ev_int)) (eh_cons (ev_toD (ev_var (i := 4) rfl (E.rd (r := zI) (v := v2177) (d := d2178) 0 rfl))) (eh_cons (ev_toD (ev_add (ev_var (i := 4) rfl (E.rd (r := zI) (v := v2177) (d := d2178) 0 rfl)) (ev_dI (ev_var (i := 2) rfl (E.rd (r := zD) (v := v_leaf) (d := p_leaf) 2 rfl)) h_x2183))) (eh_cons (ev_toDU (ev_tupU (r := zD) (xs := []) E.td eh_nil (Nat.le_of_ble_eq_true rfl))) (eh_cons (ev_toD (ev_ixL (ev_var (i := 1) rfl (E.rd (r := (zL zW)) (v := v_rows) (d := p_rows) 1 rfl)) (ev_dI (ev_var (i := 2) rfl (E.rd (r := zD) (v := v_leaf) (d := p_leaf) 2 rfl)) h_x2184) h_x2185)) (eh_cons (ev_toD (ev_sub (ev_dI (ev_var (i := 2) rfl (E.rd (r := zD) (v := v_leaf) (d := p_leaf) 2 rfl)) h_x2186) (ev_var (i := 4) rfl (E.rd (r := zI) (v := v2177) (d := d2178) 0 rfl)))) (eh_cons (ev_toD ev_bl) (eh_cons (ev_toD ev_bl) eh_nil)))))))))))) (Nat.le_of_ble_eq_true rfl)) (Option.some.inj e_d2188)) fun v2187 H E => ?_
      first | refine nx_ ?_ | skip
      obtain ⟨j2200, hm9, hm8⟩ := bnd hm
      refine seq_open ?_
      refine cut_ (fun σ9 H9 => ∃ (T : AS), ∃ (u2201 : Option V), ∃ (u2202 : Option V), ∃ (u2203 : Option V), ∃ (u2204 : Option V), ∃ (u2205 : Option V), ∃ (u2206 : Option V), ∃ (v2207 : V), σ9 = [some (.ref p_pool), u2201, u2202, u2203, u2204, u2205, u2206, some v2207] ∧ En K ⟨T00, [p_pool], H00⟩ [(fR (zL zD) v2207 j2200)] [(cPx p_pool s00)] T H9) ?_ fun rest => ?_
      · rintro _ H ⟨T, u2201, u2202, u2203, u2204, u2205, u2206, v2207, rfl, E⟩
        have hm := hm8
        first | refine nx_ ?_ | skip
        refine ret_open ?_
        refine op_open ?_
        refine En.run E (ev_var (i := 7) rfl (E.rd (r := (zL zD)) (v := v2207) (d := j2200) 0 rfl)) fun v2219 H E => ?_
        obtain ⟨q2220, h_q2220, hm⟩ := bnd hm
        refine En.gcall E (ea_cons (ev_var (i := 0) rfl (show zA K _ _ (.ref p_pool) p_pool from rfl)) (ea_cons (ev_lenL (ev_var (i := 7) rfl (E.rd (r := (zL zD)) (v := v2207) (d := j2200) 1 rfl))) ea_nil)) 0 rfl h_q2220 rfl fun v2221 H E => ?_
        refine of_op ?_
        obtain ⟨x2222, h_x2222, hm⟩ := bnd hm
        refine En.run E (ev_ixL (ev_var (i := 0) rfl (E.rd (r := (zL zD)) (v := v2219) (d := j2200) 1 rfl)) (ev_var (i := 1) rfl (E.rd (r := zI) (v := v2221) (d := q2220.1) 0 rfl)) h_x2222) fun v2223 H E => ?_
        have hr9 := Prod.mk.inj (Option.some.inj hm)
        have hr8 := hr9.1
        have hr7 := hr9.2
        subst res
        subst sres
        exact hQ _ _ (En.fr E) (En.outc E (c := (cPx p_pool q2220.2)) 0 rfl) (En.out E (En.at E (f := (fR zD v2223 x2222)) 0 rfl))
      · have hm := hm9
        refine ifs_open ?_
        obtain ⟨x2208, h_x2208, hm⟩ := bnd hm
        refine En.test E (et_test (K := K) (ev_lt (ev_dI (ev_var (i := 2) rfl (E.rd (r := zD) (v := v_leaf) (d := p_leaf) 3 rfl)) h_x2208) ev_int)) fun H E => ?_
        refine iteB (fun hc2218 => ?_) (fun hc2218 => ?_)
        · rw [if_pos hc2218] at hm
          refine asg_open ?_
          obtain ⟨u2209, h_u2209, hm⟩ := bnd hm
          obtain ⟨u2210, h_u2210, hm⟩ := bnd hm
          obtain ⟨u2211, h_u2211, hm⟩ := bnd hm
          obtain ⟨u2212, h_u2212, hm⟩ := bnd hm
          obtain ⟨u2213, h_u2213, hm⟩ := bnd hm
          obtain ⟨u2214, h_u2214, hm⟩ := bnd hm
          obtain ⟨u2215, h_u2215, hm⟩ := bnd hm
          obtain ⟨d2217, e_d2217, hm⟩ := bnd hm
          refine En.run E (Ev.to (ev_catL E.td (ev_var (i := 7) rfl (E.rd (r := (zL zD)) (v := v2187) (d := d2188) 0 rfl)) (ev_lst E.td (eh_cons (ev_toD (ev_eqDD (ev_var (i := 2) rfl (E.rd (r := zD) (v := v_leaf) (d := p_leaf) 3 rfl)) (ev_toD ev_int) (grd_ok h_u2209) (grd_ok h_u2210))) (eh_cons (ev_toD (ev_eqDD (ev_var (i := 2) rfl (E.rd (r := zD) (v := v_leaf) (d := p_leaf) 3 rfl)) (ev_toD ev_int) (grd_ok h_u2211) (grd_ok h_u2212))) (eh_cons (ev_toD (ev_eqDD (ev_var (i := 2) rfl (E.rd (r := zD) (v := v_leaf) (d := p_leaf) 3 rfl)) (ev_toD ev_int) (grd_ok h_u2213) (grd_ok h_u2214))) eh_nil))) (Nat.le_of_ble_eq_true rfl)) (grd_ok h_u2215)) (Option.some.inj e_d2217)) fun v2216 H E => ?_
          have hj9 := Option.some.inj hm
          subst j2200
          exact rest _ _ ⟨_, _, _, _, _, _, _, v2216, rfl, (En.facts (En.pick E [0] (by decide) rfl) ⟨(E.rd (r := (zL zD)) (v := v2216) (d := d2217) 0 rfl), trivial⟩)⟩
        · rw [if_neg (by rw [hc2218]; decide)] at hm
          have hj9 := Option.some.inj hm
          subst j2200
          exact rest _ _ ⟨_, _, _, _, _, _, _, v2187, rfl, (En.facts (En.pick E [0] (by decide) rfl) ⟨(E.rd (r := (zL zD)) (v := v2187) (d := d2188) 0 rfl), trivial⟩)⟩
    · rw [if_neg (by rw [hc2236]; decide)] at hm
      first | refine nx_ ?_ | skip
      refine asg_open ?_
      obtain ⟨x2225, h_x2225, hm⟩ := bnd hm
      obtain ⟨q2226, h_q2226, hm⟩ := bnd hm
      refine En.gcall E (ea_cons (ev_var (i := 0) rfl (show zA K _ _ (.ref p_pool) p_pool from rfl)) (ea_cons (ev_lenW (ev_ixL (ev_var (i := 1) rfl (E.rd (r := (zL zW)) (v := v_rows) (d := p_rows) 1 rfl)) ev_int h_x2225)) ea_nil)) 0 rfl h_q2226 rfl fun v2227 H E => ?_
      first | refine nx_ ?_ | skip
      refine asg_open ?_
      obtain ⟨q2228, h_q2228, hm⟩ := bnd hm
      refine En.gcall E (ea_cons (ev_var (i := 0) rfl (show zA K _ _ (.ref p_pool) p_pool from rfl)) (ea_cons (ev_var (i := 4) rfl (E.rd (r := zI) (v := v2177) (d := d2178) 1 rfl)) ea_nil)) 0 rfl h_q2228 rfl fun v2229 H E => ?_
      first | refine nx_ ?_ | skip
      refine ret_open ?_
      refine op_open ?_
      obtain ⟨d2231, e_d2231, hm⟩ := bnd hm
      refine En.run E (Ev.to (ev_lst E.td (eh_cons (ev_toDU (ev_tupU (r := zD) (xs := [(PyData.int q2226.1), p_leaf, (PyData.int q2228.1)]) E.td (eh_cons (ev_toD (ev_var (i := 5) rfl (E.rd (r := zI) (v := v2227) (d := q2226.1) 1 rfl))) (eh_cons (ev_var (i := 2) rfl (E.rd (r := zD) (v := v_leaf) (d := p_leaf) 4 rfl)) (eh_cons (ev_toD (ev_var (i := 6) rfl (E.rd (r := zI) (v := v2229) (d := q2228.1) 0 rfl))) eh_nil))) (Nat.le_of_ble_eq_true rfl))) (eh_cons (ev_toDU (ev_tupU (r := zD) (xs := [(PyData.int q2226.1), (PyData.int q2228.1), p_leaf]) E.td (eh_cons (ev_toD (ev_var (i := 5) rfl (E.rd (r := zI) (v := v2227) (d := q2226.1) 1 rfl))) (eh_cons (ev_toD (ev_var (i := 6) rfl (E.rd (r := zI) (v := v2229) (d := q2228.1) 0 rfl))) (eh_cons (ev_var (i := 2) rfl (E.rd (r := zD) (v := v_leaf) (d := p_leaf) 4 rfl)) eh_nil))) (Nat.le_of_ble_eq_true rfl))) (eh_cons (ev_toDU (ev_tupU (r := zD) (xs := [(PyData.int q2226.1), p_leaf, p_leaf]) E.td (eh_cons (ev_toD (ev_var (i := 5) rfl (E.rd (r := zI) (v := v2227) (d := q2226.1) 1 rfl))) (eh_cons (ev_var (i := 2) rfl (E.rd (r := zD) (v := v_leaf) (d := p_leaf) 4 rfl)) (eh_cons (ev_var (i := 2) rfl (E.rd (r := zD) (v := v_leaf) (d := p_leaf) 4 rfl)) eh_nil))) (Nat.le_of_ble_eq_true rfl))) eh_nil))) (Nat.le_of_ble_eq_true rfl)) (Option.some.inj e_d2231)) fun v2230 H E => ?_
      obtain ⟨q2232, h_q2232, hm⟩ := bnd hm
      refine En.gcall E (ea_cons (ev_var (i := 0) rfl (show zA K _ _ (.ref p_pool) p_pool from rfl)) (ea_cons ev_int ea_nil)) 0 rfl h_q2232 rfl fun v2233 H E => ?_
      refine of_op ?_
      obtain ⟨x2234, h_x2234, hm⟩ := bnd hm
      refine En.run E (ev_ixL (ev_var (i := 0) rfl (E.rd (r := (zL zD)) (v := v2230) (d := d2231) 1 rfl)) (ev_var (i := 1) rfl (E.rd (r := zI) (v := v2233) (d := q2232.1) 0 rfl)) h_x2234) fun v2235 H E => ?_
      have hr9 := Prod.mk.inj (Option.some.inj hm)
      have hr8 := hr9.1
      have hr7 := hr9.2
      subst res
      subst sres
      exact hQ _ _ (En.fr E) (En.outc E (c := (cPx p_pool q2232.2)) 0 rfl) (En.out E (En.at E (f := (fR zD v2235 x2234)) 0 rfl))

def m__law_spoilt_knot (p_rows : (List (List Bool))) (p_knot : PyData) (p_kind : Int) (s00 : Px) : Option (PyData × Px) :=
((dIx p_knot (0 : Int)).bind fun (x2238 : PyData) =>
(if (decide (p_kind = (3 : Int))) = true then
((dIx p_knot (2 : Int)).bind fun (x2240 : PyData) =>
((dIx p_knot (1 : Int)).bind fun (x2241 : PyData) =>
some ((PyData.tuple ([x2238, x2240, x2241])), s00)))
else
(if (decide (p_kind = (4 : Int))) = true then
((dIx p_knot (1 : Int)).bind fun (x2243 : PyData) =>
((dIx p_knot (2 : Int)).bind fun (x2244 : PyData) =>
some ((PyData.list ([x2238, x2243, x2244])), s00)))
else
(if (decide (p_kind = (5 : Int))) = true then
((dIx p_knot (1 : Int)).bind fun (x2246 : PyData) =>
((dIx p_knot (1 : Int)).bind fun (x2247 : PyData) =>
((dIx p_knot (2 : Int)).bind fun (x2248 : PyData) =>
((dIx p_knot (2 : Int)).bind fun (x2249 : PyData) =>
((dIx p_knot (1 : Int)).bind fun (x2250 : PyData) =>
((dIx p_knot (2 : Int)).bind fun (x2251 : PyData) =>
((dIx p_knot (1 : Int)).bind fun (x2252 : PyData) =>
((dIx p_knot (2 : Int)).bind fun (x2253 : PyData) =>
((some ([(PyData.tuple ([] : List PyData)), (PyData.tuple ([x2238])), (PyData.tuple ([x2238, x2246])), (PyData.tuple ([x2238, x2247, x2248, x2249])), (PyData.tuple ([x2250, x2251])), (PyData.tuple ([x2238, x2238, x2252, x2253]))] : (List PyData))).bind fun (d2255 : (List PyData)) =>
((m__law_take ((d2255).length : Int) s00).bind fun (q2257 : Int × Px) =>
((atI d2255 q2257.1).bind fun (x2259 : PyData) =>
some (x2259, q2257.2))))))))))))
else
(if (decide (p_kind = (6 : Int))) = true then
((m__law_leaves 16 p_knot (0 : Int)).bind fun (r2261 : (List PyData)) =>
((m__law_take ((r2261).length : Int) s00).bind fun (q2264 : Int × Px) =>
((atI r2261 q2264.1).bind fun (x2266 : PyData) =>
((dIx x2266 (0 : Int)).bind fun (x2269 : PyData) =>
some (x2269, q2264.2)))))
else
(if (decide (p_kind = (7 : Int))) = true then
((dIx p_knot (2 : Int)).bind fun (x2273 : PyData) =>
((dIx p_knot (1 : Int)).bind fun (x2274 : PyData) =>
((some ([(x2238, p_knot, x2273), (x2238, x2274, p_knot)] : (List (PyData × PyData × PyData)))).bind fun (d2276 : (List (PyData × PyData × PyData))) =>
((m__law_take (2 : Int) s00).bind fun (q2277 : Int × Px) =>
((atI d2276 q2277.1).bind fun (x2279 : (PyData × PyData × PyData)) =>
some ((Tod.toD (zP3 zD zD zD) x2279), q2277.2))))))
else
(if (decide (p_kind = (8 : Int))) = true then
((atI p_rows (0 : Int)).bind fun (x2282 : (List Bool)) =>
((m__law_take ((x2282).length : Int) s00).bind fun (q2283 : Int × Px) =>
((dIx p_knot (1 : Int)).bind fun (x2285 : PyData) =>
((dIx p_knot (2 : Int)).bind fun (x2287 : PyData) =>
((some [(PyData.int q2283.1), x2285, x2287]).bind fun (d2289 : List PyData) =>
some ((PyData.tuple d2289), q2283.2))))))
else
((atI p_rows (0 : Int)).bind fun (x2291 : (List Bool)) =>
((dInt x2238).bind fun (x2292 : Int) =>
((grd (x2292.natAbs.log2 < 1920)).bind fun (u2293 : Unit) =>
((atI p_rows (0 : Int)).bind fun (x2295 : (List Bool)) =>
((dInt x2238).bind fun (x2296 : Int) =>
((atI p_rows (0 : Int)).bind fun (x2297 : (List Bool)) =>
((dInt x2238).bind fun (x2298 : Int) =>
((atI p_rows (0 : Int)).bind fun (x2299 : (List Bool)) =>
((some ([PyData.none, (PyData.int (-(1 : Int))), (PyData.int ((x2291).length : Int)), (PyData.str (strI x2292)), (PyData.tuple ([x2238])), (PyData.list ([x2238])), (PyData.tuple ([] : List PyData)), (PyData.int (((x2295).length : Int) + x2296)), (PyData.int (x2298 - ((x2297).length : Int))), (PyData.str (wS x2299)), (PyData.bool true), (PyData.bool false)] : (List PyData))).bind fun (d2301 : (List PyData)) =>
((((dInt x2238).bind fun (x2319 : Int) =>
(if (decide (x2319 < (2 : Int))) = true then
((grd (SeqAt.shaped x2238 = true)).bind fun (u2320 : Unit) =>
((grd (SeqAt.shaped (PyData.int (1 : Int)) = true)).bind fun (u2321 : Unit) =>
((grd (SeqAt.shaped x2238 = true)).bind fun (u2322 : Unit) =>
((grd (SeqAt.shaped (PyData.int (1 : Int)) = true)).bind fun (u2323 : Unit) =>
((grd (SeqAt.shaped x2238 = true)).bind fun (u2324 : Unit) =>
((grd (SeqAt.shaped (PyData.int (1 : Int)) = true)).bind fun (u2325 : Unit) =>
((grd (d2301.length + ([(PyData.bool (PyData.eqv x2238 (PyData.int (1 : Int)))), (PyData.bool (PyData.eqv x2238 (PyData.int (1 : Int)))), (PyData.bool (PyData.eqv x2238 (PyData.int (1 : Int))))] : (List PyData)).length ≤ 1000000)).bind fun (u2326 : Unit) =>
((some (d2301 ++ ([(PyData.bool (PyData.eqv x2238 (PyData.int (1 : Int)))), (PyData.bool (PyData.eqv x2238 (PyData.int (1 : Int)))), (PyData.bool (PyData.eqv x2238 (PyData.int (1 : Int))))] : (List PyData)))).bind fun (d2328 : (List PyData)) =>
some d2328))))))))
else
some d2301))).bind fun (j2313 : (List PyData)) =>
((m__law_take ((j2313).length : Int) s00).bind fun (q2331 : Int × Px) =>
((atI j2313 q2331.1).bind fun (x2333 : PyData) =>
((dIx p_knot (1 : Int)).bind fun (x2335 : PyData) =>
((dIx p_knot (2 : Int)).bind fun (x2337 : PyData) =>
((some [x2333, x2335, x2337]).bind fun (d2339 : List PyData) =>
some ((PyData.tuple d2339), q2331.2)))))))))))))))))))))))
abbrev sp__law_spoilt_knot (K : PySem.W.Frag) : Sp := GSp K (aC zA (aC (zL zW) (aC zD (aC zI aN)))) (fun (a : Addr × (List (List Bool)) × PyData × Int × Unit) (s : Px) => cPx a.1 s) zD (fun (a : Addr × (List (List Bool)) × PyData × Int × Unit) (s : Px) => m__law_spoilt_knot a.2.1 a.2.2.1 a.2.2.2.1 s)
theorem ok__law_spoilt_knot (S : Tx K mg) (G__law_leaves : Ok P w K mg base 17 ("_law_leaves", none) ["tree", "knots"] ((sp__law_leaves 16) K)) (G__law_take : Ok P w K mg base 1 ("_law_take", none) ["pool", "many"] (sp__law_take K)) : Ok P w K mg base 18 ("_law_spoilt_knot", none) ["pool", "rows", "knot", "kind"] (sp__law_spoilt_knot K) := by
  obtain ⟨fd, D⟩ := d__law_spoilt_knot S
  refine mk_ok D sc__law_spoilt_knot (D.bindsN fun _ _ _ _ _ _ us hl => match us, hl with | [_, _, _, _], _ => rfl) (GSp_len len4) (fun cdv A outer s H00 vs Q E hr h => ?_)
  obtain ⟨T00, ⟨p_pool, p_rows, p_knot, p_kind, _⟩, s00, res, sres, hT, ⟨v_pool, _, rfl, r_pool, v_rows, _, rfl, r_rows, v_knot, _, rfl, r_knot, v_kind, _, rfl, r_kind, rfl⟩, hc, hTc, hnd, hm, hQ⟩ := h
  obtain rfl : v_pool = .ref p_pool := r_pool
  refine ⟨_, (pss_cons (ps_set (i := 4) sc__law_spoilt_knot.nd rfl (.inl rfl) (pe_ix (kx_seq (K := K)) (pv 2) pe_int (fun _ _ => rfl))) (pss_cons (ps_if (pt_cmpR op_eq (pv 3) pe_int (nomark _)) (pss_one (ps_ret (pe_tup (pa_cons (pv 4) (pa_cons (pe_ix (kx_seq (K := K)) (pv 2) pe_int (fun _ _ => rfl)) (pa_cons (pe_ix (kx_seq (K := K)) (pv 2) pe_int (fun _ _ => rfl)) pa_nil)))))) pss_nil) (pss_cons (ps_if (pt_cmpR op_eq (pv 3) pe_int (nomark _)) (pss_one (ps_ret (pe_lst (pa_cons (pv 4) (pa_cons (pe_ix (kx_seq (K := K)) (pv 2) pe_int (fun _ _ => rfl)) (pa_cons (pe_ix (kx_seq (K := K)) (pv 2) pe_int (fun _ _ => rfl)) pa_nil)))))) pss_nil) (pss_cons (ps_if (pt_cmpR op_eq (pv 3) pe_int (nomark _)) (pss_cons (ps_set (i := 5) sc__law_spoilt_knot.nd rfl (.inl rfl) (pe_lst (pa_cons (pe_tup pa_nil) (pa_cons (pe_tup (pa_cons (pv 4) pa_nil)) (pa_cons (pe_tup (pa_cons (pv 4) (pa_cons (pe_ix (kx_seq (K := K)) (pv 2) pe_int (fun _ _ => rfl)) pa_nil))) (pa_cons (pe_tup (pa_cons (pv 4) (pa_cons (pe_ix (kx_seq (K := K)) (pv 2) pe_int (fun _ _ => rfl)) (pa_cons (pe_ix (kx_seq (K := K)) (pv 2) pe_int (fun _ _ => rfl)) (pa_cons (pe_ix (kx_seq (K := K)) (pv 2) pe_int (fun _ _ => rfl)) pa_nil))))) (pa_cons (pe_tup (pa_cons (pe_ix (kx_seq (K := K)) (pv 2) pe_int (fun _ _ => rfl)) (pa_cons (pe_ix (kx_seq (K := K)) (pv 2) pe_int (fun _ _ => rfl)) pa_nil))) (pa_cons (pe_tup (pa_cons (pv 4) (pa_cons (pv 4) (pa_cons (pe_ix (kx_seq (K := K)) (pv 2) pe_int (fun _ _ => rfl)) (pa_cons (pe_ix (kx_seq (K := K)) (pv 2) pe_int (fun _ _ => rfl)) pa_nil))))) pa_nil)))))))) (pss_one (ps_ret (pe_ix (kx_list (K := K)) (pv 5) (pe_callG G__law_take hr (by omega) (by rfl) (g__law_take S) (pa_cons (pv 0) (pa_cons (pe_callB (kc_len (K := K)) (by rfl) (m_len S) bt_len (pa_cons (pv 5) pa_nil)) pa_nil))) (fun _ _ => rfl))))) pss_nil) (pss_cons (ps_if (pt_cmpR op_eq (pv 3) pe_int (nomark _)) (pss_cons (ps_set (i := 6) sc__law_spoilt_knot.nd rfl (.inl rfl) (pe_callG G__law_leaves hr (by omega) (by rfl) (g__law_leaves S) (pa_cons (pv 2) (pa_cons pe_int pa_nil)))) (pss_one (ps_ret (pe_ix (kx_seq (K := K)) (pe_ix (kx_list (K := K)) (pv 6) (pe_callG G__law_take hr (by omega) (by rfl) (g__law_take S) (pa_cons (pv 0) (pa_cons (pe_callB (kc_len (K := K)) (by rfl) (m_len S) bt_len (pa_cons (pv 6) pa_nil)) pa_nil))) (fun _ _ => rfl)) pe_int (fun _ _ => rfl))))) pss_nil) (pss_cons (ps_if (pt_cmpR op_eq (pv 3) pe_int (nomark _)) (pss_one (ps_ret (pe_ix (kx_list (K := K)) (pe_lst (pa_cons (pe_tup (pa_cons (pv 4) (pa_cons (pv 2) (pa_cons (pe_ix (kx_seq (K := K)) (pv 2) pe_int (fun _ _ => rfl)) pa_nil)))) (pa_cons (pe_tup (pa_cons (pv 4) (pa_cons (pe_ix (kx_seq (K := K)) (pv 2) pe_int (fun _ _ => rfl)) (pa_cons (pv 2) pa_nil)))) pa_nil))) (pe_callG G__law_take hr (by omega) (by rfl) (g__law_take S) (pa_cons (pv 0) (pa_cons pe_int pa_nil))) (fun _ _ => rfl)))) pss_nil) (pss_cons (ps_if (pt_cmpR op_eq (pv 3) pe_int (nomark _)) (pss_one (ps_ret (pe_tup (pa_cons (pe_callG G__law_take hr (by omega) (by rfl) (g__law_take S) (pa_cons (pv 0) (pa_cons (pe_callB call_lenS (by rfl) (m_len S) bt_len (pa_cons (pe_ix (kx_list (K := K)) (pv 1) pe_int (fun _ _ => rfl)) pa_nil)) pa_nil))) (pa_cons (pe_ix (kx_seq (K := K)) (pv 2) pe_int (fun _ _ => rfl)) (pa_cons (pe_ix (kx_seq (K := K)) (pv 2) pe_int (fun _ _ => rfl)) pa_nil)))))) pss_nil) (pss_cons (ps_set (i := 5) sc__law_spoilt_knot.nd rfl (.inl rfl) (pe_lst (pa_cons pe_non (pa_cons (pe_un un_neg pe_int) (pa_cons (pe_callB call_lenS (by rfl) (m_len S) bt_len (pa_cons (pe_ix (kx_list (K := K)) (pv 1) pe_int (fun _ _ => rfl)) pa_nil)) (pa_cons (pe_callTy call_strI (by rfl) (m_str S) bt_str (pa_cons (pv 4) pa_nil)) (pa_cons (pe_tup (pa_cons (pv 4) pa_nil)) (pa_cons (pe_lst (pa_cons (pv 4) pa_nil)) (pa_cons (pe_tup pa_nil) (pa_cons (pe_op op_add (pe_callB call_lenS (by rfl) (m_len S) bt_len (pa_cons (pe_ix (kx_list (K := K)) (pv 1) pe_int (fun _ _ => rfl)) pa_nil)) (pv 4)) (pa_cons (pe_op op_sub (pv 4) (pe_callB call_lenS (by rfl) (m_len S) bt_len (pa_cons (pe_ix (kx_list (K := K)) (pv 1) pe_int (fun _ _ => rfl)) pa_nil))) (pa_cons (pe_ix (kx_list (K := K)) (pv 1) pe_int (fun _ _ => rfl)) (pa_cons pe_bl (pa_cons pe_bl pa_nil)))))))))))))) (pss_cons (ps_if (pt_cmpR op_lt (pv 4) pe_int (nomark _)) (pss_one (ps_set (i := 5) sc__law_spoilt_knot.nd rfl (.inl rfl) (pe_op (op_catQ (K := K)) (pv 5) (pe_lst (pa_cons (pe_cmpR (op_eqDQ (room_64 hr)) (pv 4) pe_int (nomark _)) (pa_cons (pe_cmpR (op_eqDQ (room_64 hr)) (pv 4) pe_int (nomark _)) (pa_cons (pe_cmpR (op_eqDQ (room_64 hr)) (pv 4) pe_int (nomark _)) pa_nil))))))) pss_nil) (pss_one (ps_ret (pe_tup (pa_cons (pe_ix (kx_list (K := K)) (pv 5) (pe_callG G__law_take hr (by omega) (by rfl) (g__law_take S) (pa_cons (pv 0) (pa_cons (pe_callB (kc_len (K := K)) (by rfl) (m_len S) bt_len (pa_cons (pv 5) pa_nil)) pa_nil))) (fun _ _ => rfl)) (pa_cons (pe_ix (kx_seq (K := K)) (pv 2) pe_int (fun _ _ => rfl)) (pa_cons (pe_ix (kx_seq (K := K)) (pv 2) pe_int (fun _ _ => rfl)) pa_nil))))))))))))))), ?_⟩
  have E : En K ⟨T00, [p_pool], H00⟩ [(fR (zL zW) v_rows p_rows), (fR zD v_knot p_knot), (fR zI v_kind p_kind)] [(cPx p_pool s00)] T00 H00 := En.start1 (c := (cPx p_pool s00)) hT ⟨r_rows, r_knot, r_kind, trivial⟩ hc hTc hnd
  replace hm : m__law_spoilt_knot p_rows p_knot p_kind s00 = some (res, sres) := hm
  unfold m__law_spoilt_knot at hm
  refine asg_open ?_
  obtain ⟨x2238, h_x2238, hm⟩ := bnd hm
  refine En.run E (ev_ixD (ev_var (i := 2) rfl (E.rd (r := zD) (v := v_knot) (d := p_knot) 1 rfl)) ev_int h_x2238) fun v2239 H E => ?_
  first | refine nx_ ?_ | skip
  refine ifs_open ?_
  refine En.test E (et_test (K := K) (ev_eqI (ev_var (i := 3) rfl (E.rd (r := zI) (v := v_kind) (d := p_kind) 3 rfl)) ev_int)) fun H E => ?_
  refine iteB (fun hc2346 => ?_) (fun hc2346 => ?_)
  · rw [if_pos hc2346] at hm
    refine ret_open ?_
    obtain ⟨x2240, h_x2240, hm⟩ := bnd hm
    obtain ⟨x2241, h_x2241, hm⟩ := bnd hm
    refine En.run E (ev_toDU (ev_tupU (r := zD) (xs := [x2238, x2240, x2241]) E.td (eh_cons (ev_var (i := 4) rfl (E.rd (r := zD) (v := v2239) (d := x2238) 0 rfl)) (eh_cons (ev_ixD (ev_var (i := 2) rfl (E.rd (r := zD) (v := v_knot) (d := p_knot) 2 rfl)) ev_int h_x2240) (eh_cons (ev_ixD (ev_var (i := 2) rfl (E.rd (r := zD) (v := v_knot) (d := p_knot) 2 rfl)) ev_int h_x2241) eh_nil))) (Nat.le_of_ble_eq_true rfl))) fun v2242 H E => ?_
    have hr9 := Prod.mk.inj (Option.some.inj hm)
    have hr8 := hr9.1
    have hr7 := hr9.2
    subst res
    subst sres
    exact hQ _ _ (En.fr E) (En.outc E (c := (cPx p_pool s00)) 0 rfl) (En.out E (En.at E (f := (fR zD v2242 (PyData.tuple ([x2238, x2240, x2241])))) 0 rfl))
  · rw [if_neg (by rw [hc2346]; decide)] at hm
    first | refine nx_ ?_ | skip
    refine ifs_open ?_
    refine En.test E (et_test (K := K) (ev_eqI (ev_var (i := 3) rfl (E.rd (r := zI) (v := v_kind) (d := p_kind) 3 rfl)) ev_int)) fun H E => ?_
    refine iteB (fun hc2345 => ?_) (fun hc2345 => ?_)
    · rw [if_pos hc2345] at hm
      refine ret_open ?_
      obtain ⟨x2243, h_x2243, hm⟩ := bnd hm
      obtain ⟨x2244, h_x2244, hm⟩ := bnd hm
      refine En.run E (ev_toDL (ev_lst (r := zD) (xs := [x2238, x2243, x2244]) E.td (eh_cons (ev_var (i := 4) rfl (E.rd (r := zD) (v := v2239) (d := x2238) 0 rfl)) (eh_cons (ev_ixD (ev_var (i := 2) rfl (E.rd (r := zD) (v := v_knot) (d := p_knot) 2 rfl)) ev_int h_x2243) (eh_cons (ev_ixD (ev_var (i := 2) rfl (E.rd (r := zD) (v := v_knot) (d := p_knot) 2 rfl)) ev_int h_x2244) eh_nil))) (Nat.le_of_ble_eq_true rfl))) fun v2245 H E => ?_
      have hr9 := Prod.mk.inj (Option.some.inj hm)
      have hr8 := hr9.1
      have hr7 := hr9.2
      subst res
      subst sres
      exact hQ _ _ (En.fr E) (En.outc E (c := (cPx p_pool s00)) 0 rfl) (En.out E (En.at E (f := (fR zD v2245 (PyData.list ([x2238, x2243, x2244])))) 0 rfl))
    · rw [if_neg (by rw [hc2345]; decide)] at hm
      first | refine nx_ ?_ | skip
      refine ifs_open ?_
      refine En.test E (et_test (K := K) (ev_eqI (ev_var (i := 3) rfl (E.rd (r := zI) (v := v_kind) (d := p_kind) 3 rfl)) ev_int)) fun H E => ?_
      refine iteB (fun hc2344 => ?_) (fun hc2344 => ?_)
      · rw [if_pos hc2344] at hm
        refine asg_open ?_
        obtain ⟨x2246, h_x2246, hm⟩ := bnd hm
        obtain ⟨x2247, h_x2247, hm⟩ := bnd hm
        obtain ⟨x2248, h_x2248, hm⟩ := bnd hm
        obtain ⟨x2249, h_x2249, hm⟩ := bnd hm
        obtain ⟨x2250, h_x2250, hm⟩ := bnd hm
        obtain ⟨x2251, h_x2251, hm⟩ := bnd hm
        obtain ⟨x2252, h_x2252, hm⟩ := bnd hm
        obtain ⟨x2253, h_x2253, hm⟩ := bnd hm
        obtain ⟨d2255, e_d2255, hm⟩ := bnd hm
        refine En.run E (Ev.to (ev_lst E.td (eh_cons (ev_toDU (ev_tupU (r := zD) (xs := []) E.td eh_nil (Nat.le_of_ble_eq_true rfl))) (eh_cons (ev_toDU (ev_tupU (r := zD) (xs := [x2238]) E.td (eh_cons (ev_var (i := 4) rfl (E.rd (r := zD) (v := v2239) (d := x2238) 0 rfl)) eh_nil) (Nat.le_of_ble_eq_true rfl))) (eh_cons (ev_toDU (ev_tupU (r := zD) (xs := [x2238, x2246]) E.td (eh_cons (ev_var (i := 4) rfl (E.rd (r := zD) (v := v2239) (d := x2238) 0 rfl)) (eh_cons (ev_ixD (ev_var (i := 2) rfl (E.rd (r := zD) (v := v_knot) (d := p_knot) 2 rfl)) ev_int h_x2246) eh_nil)) (Nat.le_of_ble_eq_true rfl))) (eh_cons (ev_toDU (ev_tupU (r := zD) (xs := [x2238, x2247, x2248, x2249]) E.td (eh_cons (ev_var (i := 4) rfl (E.rd (r := zD) (v := v2239) (d := x2238) 0 rfl)) (eh_cons (ev_ixD (ev_var (i := 2) rfl (E.rd (r := zD) (v := v_knot) (d := p_knot) 2 rfl)) ev_int h_x2247) (eh_cons (ev_ixD (ev_var (i := 2) rfl (E.rd (r := zD) (v := v_knot) (d := p_knot) 2 rfl)) ev_int h_x2248) (eh_cons (ev_ixD (ev_var (i := 2) rfl (E.rd (r := zD) (v := v_knot) (d := p_knot) 2 rfl)) ev_int h_x2249) eh_nil)))) (Nat.le_of_ble_eq_true rfl))) (eh_cons (ev_toDU (ev_tupU (r := zD) (xs := [x2250, x2251]) E.td (eh_cons (ev_ixD (ev_var (i := 2) rfl (E.rd (r := zD) (v := v_knot) (d := p_knot) 2 rfl)) ev_int h_x2250) (eh_cons (ev_ixD (ev_var (i := 2) rfl (E.rd (r := zD) (v := v_knot) (d := p_knot) 2 rfl)) ev_int h_x2251) eh_nil)) (Nat.le_of_ble_eq_true rfl))) (eh_cons (ev_toDU (ev_tupU (r := zD) (xs := [x2238, x2238, x2252, x2253]) E.td (eh_cons (ev_var (i := 4) rfl (E.rd (r := zD) (v := v2239) (d := x2238) 0 rfl)) (eh_cons (ev_var (i := 4) rfl (E.rd (r := zD) (v := v2239) (d := x2238) 0 rfl)) (eh_cons (ev_ixD (ev_var (i := 2) rfl (E.rd (r := zD) (v := v_knot) (d := p_knot) 2 rfl)) ev_int h_x2252) (eh_cons (ev_ixD (ev_var (i := 2) rfl (E.rd (r := zD) (v := v_knot) (d := p_knot) 2 rfl)) ev_int h_x2253) eh_nil)))) (Nat.le_of_ble_eq_true rfl))) eh_nil)))))) (Nat.le_of_ble_eq_true rfl)) (Option.some.inj e_d2255)) fun v2254 H E => ?_
        first | refine nx_ ?_ | skip
        refine ret_open ?_
        refine op_open ?_
        refine En.run E (ev_var (i := 5) rfl (E.rd (r := (zL zD)) (v := v2254) (d := d2255) 0 rfl)) fun v2256 H E => ?_
        obtain ⟨q2257, h_q2257, hm⟩ := bnd hm
        refine En.gcall E (ea_cons (ev_var (i := 0) rfl (show zA K _ _ (.ref p_pool) p_pool from rfl)) (ea_cons (ev_lenL (ev_var (i := 5) rfl (E.rd (r := (zL zD)) (v := v2254) (d := d2255) 1 rfl))) ea_nil)) 0 rfl h_q2257 rfl fun v2258 H E => ?_
        refine of_op ?_
        obtain ⟨x2259, h_x2259, hm⟩ := bnd hm
        refine En.run E (ev_ixL (ev_var (i := 0) rfl (E.rd (r := (zL zD)) (v := v2256) (d := d2255) 1 rfl)) (ev_var (i := 1) rfl (E.rd (r := zI) (v := v2258) (d := q2257.1) 0 rfl)) h_x2259) fun v2260 H E => ?_
        have hr9 := Prod.mk.inj (Option.some.inj hm)
        have hr8 := hr9.1
        have hr7 := hr9.2
        subst res
        subst sres
        exact hQ _ _ (En.fr E) (En.outc E (c := (cPx p_pool q2257.2)) 0 rfl) (En.out E (En.at E (f := (fR zD v2260 x2259)) 0 rfl))
      · rw [if_neg (by rw [hc2344]; decide)] at hm
        first | refine nx_ ?_ | skip
        refine ifs_open ?_
        refine En.test E (et_test (K := K) (ev_eqI (ev_var (i := 3) rfl (E.rd (r := zI) (v := v_kind) (d := p_kind) 3 rfl)) ev_int)) fun H E => ?_
        refine iteB (fun hc2343 => ?_) (fun hc2343 => ?_)
        · rw [if_pos hc2343] at hm
          refine asg_open ?_
          obtain ⟨r2261, h_r2261, hm⟩ := bnd hm
          refine En.run E (ev_callO E.td (ea_cons (ev_var (i := 2) rfl (E.rd (r := zD) (v := v_knot) (d := p_knot) 2 rfl)) (ea_cons ev_int ea_nil)) h_r2261) fun v2262 H E => ?_
          first | refine nx_ ?_ | skip
          refine ret_open ?_
          refine op_open ?_
          refine op_open ?_
          refine En.run E (ev_var (i := 6) rfl (E.rd (r := (zL zD)) (v := v2262) (d := r2261) 0 rfl)) fun v2263 H E => ?_
          obtain ⟨q2264, h_q2264, hm⟩ := bnd hm
          refine En.gcall E (ea_cons (ev_var (i := 0) rfl (show zA K _ _ (.ref p_pool) p_pool from rfl)) (ea_cons (ev_lenL (ev_var (i := 6) rfl (E.rd (r := (zL zD)) (v := v2262) (d := r2261) 1 rfl))) ea_nil)) 0 rfl h_q2264 rfl fun v2265 H E => ?_
          refine of_op ?_
          obtain ⟨x2266, h_x2266, hm⟩ := bnd hm
          refine En.run E (ev_ixL (ev_var (i := 0) rfl (E.rd (r := (zL zD)) (v := v2263) (d := r2261) 1 rfl)) (ev_var (i := 1) rfl (E.rd (r := zI) (v := v2265) (d := q2264.1) 0 rfl)) h_x2266) fun v2267 H E => ?_
          refine En.run E ev_int fun v2268 H E => ?_
          refine of_op ?_
          obtain ⟨x2269, h_x2269, hm⟩ := bnd hm
          refine En.run E (ev_ixD (ev_var (i := 0) rfl (E.rd (r := zD) (v := v2267) (d := x2266) 1 rfl)) (ev_var (i := 1) rfl (E.rd (r := zI) (v := v2268) (d := (0 : Int)) 0 rfl)) h_x2269) fun v2270 H E => ?_
          have hr9 := Prod.mk.inj (Option.some.inj hm)
          have hr8 := hr9.1
          have hr7 := hr9.2
          subst res
          subst sres
          exact hQ _ _ (En.fr E) (En.outc E (c := (cPx p_pool q2264.2)) 0 rfl) (En.out E (En.at E (f := (fR zD v2270 x2269)) 0 rfl))
        · rw [if_neg (by rw [hc2343]; decide)] at hm
          first | refine nx_ ?_ | skip
          refine ifs_open ?_
          refine En.test E (et_test (K := K) (ev_eqI (ev_var (i := 3) rfl (E.rd (r := zI) (v := v_kind) (d := p_kind) 3 rfl)) ev_int)) fun H E => ?_
          refine iteB (fun hc2342 => ?_) (fun hc2342 => ?_)
          · rw [if_pos hc2342] at hm
            refine ret_open ?_
            refine op_open ?_
            obtain ⟨x2273, h_x2273, hm⟩ := bnd hm
            obtain ⟨x2274, h_x2274, hm⟩ := bnd hm
            obtain ⟨d2276, e_d2276, hm⟩ := bnd hm
            refine En.run E (Ev.to (ev_lst E.td (eh_cons (ev_tup3 E.td (ea_cons (ev_var (i := 4) rfl (E.rd (r := zD) (v := v2239) (d := x2238) 0 rfl)) (ea_cons (ev_var (i := 2) rfl (E.rd (r := zD) (v := v_knot) (d := p_knot) 2 rfl)) (ea_cons (ev_ixD (ev_var (i := 2) rfl (E.rd (r := zD) (v := v_knot) (d := p_knot) 2 rfl)) ev_int h_x2273) ea_nil)))) (eh_cons (ev_tup3 E.td (ea_cons (ev_var (i := 4) rfl (E.rd (r := zD) (v := v2239) (d := x2238) 0 rfl)) (ea_cons (ev_ixD (ev_var (i := 2) rfl (E.rd (r := zD) (v := v_knot) (d := p_knot) 2 rfl)) ev_int h_x2274) (ea_cons (ev_var (i := 2) rfl (E.rd (r := zD) (v := v_knot) (d := p_knot) 2 rfl)) ea_nil)))) eh_nil)) (Nat.le_of_ble_eq_true rfl)) (Option.some.inj e_d2276)) fun v2275 H E => ?_
            obtain ⟨q2277, h_q2277, hm⟩ := bnd hm
            refine En.gcall E (ea_cons (ev_var (i := 0) rfl (show zA K _ _ (.ref p_pool) p_pool from rfl)) (ea_cons ev_int ea_nil)) 0 rfl h_q2277 rfl fun v2278 H E => ?_
            refine of_op ?_
            obtain ⟨x2279, h_x2279, hm⟩ := bnd hm
            refine En.run E (ev_ixL (ev_var (i := 0) rfl (E.rd (r := (zL (zP3 zD zD zD))) (v := v2275) (d := d2276) 1 rfl)) (ev_var (i := 1) rfl (E.rd (r := zI) (v := v2278) (d := q2277.1) 0 rfl)) h_x2279) fun v2280 H E => ?_
            replace E := En.add (f := (fR zD v2280 (Tod.toD (zP3 zD zD zD) x2279))) E (zd_up (r := (zP3 zD zD zD)) (E.rd (r := (zP3 zD zD zD)) (v := v2280) (d := x2279) 0 rfl))
            have hr9 := Prod.mk.inj (Option.some.inj hm)
            have hr8 := hr9.1
            have hr7 := hr9.2
            subst res
            subst sres
            exact hQ _ _ (En.fr E) (En.outc E (c := (cPx p_pool q2277.2)) 0 rfl) (En.out E (En.at E (f := (fR zD v2280 (Tod.toD (zP3 zD zD zD) x2279))) 0 rfl))
          · rw [if_neg (by rw [hc2342]; decide)] at hm
            first | refine nx_ ?_ | skip
            refine ifs_open ?_
            refine En.test E (et_test (K := K) (ev_eqI (ev_var (i := 3) rfl (E.rd (r := zI) (v := v_kind) (d := p_kind) 3 rfl)) ev_int)) fun H E => ?_
            refine iteB (fun hc2341 => ?_) (fun hc2341 => ?_)
            · rw [if_pos hc2341] at hm
              refine ret_open ?_
              refine tup_open ?_
              refine cons_open ?_
              obtain ⟨x2282, h_x2282, hm⟩ := bnd hm
              obtain ⟨q2283, h_q2283, hm⟩ := bnd hm
              refine En.gcall E (ea_cons (ev_var (i := 0) rfl (show zA K _ _ (.ref p_pool) p_pool from rfl)) (ea_cons (ev_lenW (ev_ixL (ev_var (i := 1) rfl (E.rd (r := (zL zW)) (v := v_rows) (d := p_rows) 1 rfl)) ev_int h_x2282)) ea_nil)) 0 rfl h_q2283 rfl fun v2284 H E => ?_
              replace E := En.add (f := (fR zD v2284 (PyData.int q2283.1))) E (zd_up (r := zI) (E.rd (r := zI) (v := v2284) (d := q2283.1) 0 rfl))
              refine cons_open ?_
              obtain ⟨x2285, h_x2285, hm⟩ := bnd hm
              refine En.run E (ev_ixD (ev_var (i := 2) rfl (E.rd (r := zD) (v := v_knot) (d := p_knot) 4 rfl)) ev_int h_x2285) fun v2286 H E => ?_
              refine cons_open ?_
              obtain ⟨x2287, h_x2287, hm⟩ := bnd hm
              refine En.run E (ev_ixD (ev_var (i := 2) rfl (E.rd (r := zD) (v := v_knot) (d := p_knot) 5 rfl)) ev_int h_x2287) fun v2288 H E => ?_
              refine nil_open ?_
              obtain ⟨d2289, e_d2289, hm⟩ := bnd hm
              refine En.tupV (r := zD) E (all2_to (.cons (E.rd (r := zD) (v := v2284) (d := (PyData.int q2283.1)) 2 rfl) (.cons (E.rd (r := zD) (v := v2286) (d := x2285) 1 rfl) (.cons (E.rd (r := zD) (v := v2288) (d := x2287) 0 rfl) .nil))) (Option.some.inj e_d2289)) (by rw [← Option.some.inj e_d2289]; exact Nat.le_of_ble_eq_true rfl) fun p2290 E => ?_
              revert E
              generalize upd _ p2290 _ = H
              intro E
              replace E := En.add (f := (fR zD (.ref p2290) (PyData.tuple d2289))) E (zd_U (E.rd (r := (zU zD)) (v := (.ref p2290)) (d := d2289) 0 rfl))
              have hr9 := Prod.mk.inj (Option.some.inj hm)
              have hr8 := hr9.1
              have hr7 := hr9.2
              subst res
              subst sres
              exact hQ _ _ (En.fr E) (En.outc E (c := (cPx p_pool q2283.2)) 0 rfl) (En.out E (En.at E (f := (fR zD (.ref p2290) (PyData.tuple d2289))) 0 rfl))
            · rw [if_neg (by rw [hc2341]; decide)] at hm
              first | refine nx_ ?_ | skip
              refine asg_open ?_
              obtain ⟨x2291, h_x2291, hm⟩ := bnd hm
              obtain ⟨x2292, h_x2292, hm⟩ := bnd hm
              obtain ⟨u2293, h_u2293, hm⟩ := bnd hm
              obtain ⟨x2295, h_x2295, hm⟩ := bnd hm
              obtain ⟨x2296, h_x2296, hm⟩ := bnd hm
              obtain ⟨x2297, h_x2297, hm⟩ := bnd hm
              obtain ⟨x2298, h_x2298, hm⟩ := bnd hm
              obtain ⟨x2299, h_x2299, hm⟩ := bnd hm
              obtain ⟨d2301, e_d2301, hm⟩ := bnd hm
              refine En.run E (Ev.to (ev_lst E.td (eh_cons (ev_toD ev_non) (eh_cons (ev_toD (ev_neg ev_int)) (eh_cons (ev_toD (ev_lenW (ev_ixL (ev_var (i := 1) rfl (E.rd (r := (zL zW)) (v := v_rows) (d := p_rows) 1 rfl)) ev_int h_x2291))) (eh_cons (ev_toD (ev_strI (ev_dI (ev_var (i := 4) rfl (E.rd (r := zD) (v := v2239) (d := x2238) 0 rfl)) h_x2292) (grd_ok h_u2293))) (eh_cons (ev_toDU (ev_tupU (r := zD) (xs := [x2238]) E.td (eh_cons (ev_var (i := 4) rfl (E.rd (r := zD) (v := v2239) (d := x2238) 0 rfl)) eh_nil) (Nat.le_of_ble_eq_true rfl))) (eh_cons (ev_toDL (ev_lst (r := zD) (xs := [x2238]) E.td (eh_cons (ev_var (i := 4) rfl (E.rd (r := zD) (v := v2239) (d := x2238) 0 rfl)) eh_nil) (Nat.le_of_ble_eq_true rfl))) (eh_cons (ev_toDU (ev_tupU (r := zD) (xs := []) E.td eh_nil (Nat.le_of_ble_eq_true rfl))) (eh_cons (ev_toD (ev_add (ev_lenW (ev_ixL (ev_var (i := 1) rfl (E.rd (r := (zL zW)) (v := v_rows) (d := p_rows) 1 rfl)) ev_int h_x2295)) (ev_dI (ev_var (i := 4) rfl (E.rd (r := zD) (v := v2239) (d := x2238) 0 rfl)) h_x2296))) (eh_cons (ev_toD (ev_sub (ev_dI (ev_var (i := 4) rfl (E.rd (r := zD) (v := v2239) (d := x2238) 0 rfl)) h_x2298) (ev_lenW (ev_ixL (ev_var (i := 1) rfl (E.rd (r := (zL zW)) (v := v_rows) (d := p_rows) 1 rfl)) ev_int h_x2297)))) (eh_cons (ev_toD (ev_ixL (ev_var (i := 1) rfl (E.rd (r := (zL zW)) (v := v_rows) (d := p_rows) 1 rfl)) ev_int h_x2299)) (eh_cons (ev_toD ev_bl) (eh_cons (ev_toD ev_bl) eh_nil)))))))))))) (Nat.le_of_ble_eq_true rfl)) (Option.some.inj e_d2301)) fun v2300 H E => ?_
              first | refine nx_ ?_ | skip
              obtain ⟨j2313, hm9, hm8⟩ := bnd hm
              refine seq_open ?_
              refine cut_ (fun σ9 H9 => ∃ (T : AS), ∃ (u2314 : Option V), ∃ (u2315 : Option V), ∃ (u2316 : Option V), ∃ (v2317 : V), ∃ (u2318 : Option V), σ9 = [some (.ref p_pool), u2314, some v_knot, u2315, u2316, some v2317, u2318] ∧ En K ⟨T00, [p_pool], H00⟩ [(fR zD v_knot p_knot), (fR (zL zD) v2317 j2313)] [(cPx p_pool s00)] T H9) ?_ fun rest => ?_
              · rintro _ H ⟨T, u2314, u2315, u2316, v2317, u2318, rfl, E⟩
                have hm := hm8
                first | refine nx_ ?_ | skip
                refine ret_open ?_
                refine tup_open ?_
                refine cons_open ?_
                refine op_open ?_
                refine En.run E (ev_var (i := 5) rfl (E.rd (r := (zL zD)) (v := v2317) (d := j2313) 1 rfl)) fun v2330 H E => ?_
                obtain ⟨q2331, h_q2331, hm⟩ := bnd hm
                refine En.gcall E (ea_cons (ev_var (i := 0) rfl (show zA K _ _ (.ref p_pool) p_pool from rfl)) (ea_cons (ev_lenL (ev_var (i := 5) rfl (E.rd (r := (zL zD)) (v := v2317) (d := j2313) 2 rfl))) ea_nil)) 0 rfl h_q2331 rfl fun v2332 H E => ?_
                refine of_op ?_
                obtain ⟨x2333, h_x2333, hm⟩ := bnd hm
                refine En.run E (ev_ixL (ev_var (i := 0) rfl (E.rd (r := (zL zD)) (v := v2330) (d := j2313) 1 rfl)) (ev_var (i := 1) rfl (E.rd (r := zI) (v := v2332) (d := q2331.1) 0 rfl)) h_x2333) fun v2334 H E => ?_
                refine cons_open ?_
                obtain ⟨x2335, h_x2335, hm⟩ := bnd hm
                refine En.run E (ev_ixD (ev_var (i := 2) rfl (E.rd (r := zD) (v := v_knot) (d := p_knot) 3 rfl)) ev_int h_x2335) fun v2336 H E => ?_
                refine cons_open ?_
                obtain ⟨x2337, h_x2337, hm⟩ := bnd hm
                refine En.run E (ev_ixD (ev_var (i := 2) rfl (E.rd (r := zD) (v := v_knot) (d := p_knot) 4 rfl)) ev_int h_x2337) fun v2338 H E => ?_
                refine nil_open ?_
                obtain ⟨d2339, e_d2339, hm⟩ := bnd hm
                refine En.tupV (r := zD) E (all2_to (.cons (E.rd (r := zD) (v := v2334) (d := x2333) 2 rfl) (.cons (E.rd (r := zD) (v := v2336) (d := x2335) 1 rfl) (.cons (E.rd (r := zD) (v := v2338) (d := x2337) 0 rfl) .nil))) (Option.some.inj e_d2339)) (by rw [← Option.some.inj e_d2339]; exact Nat.le_of_ble_eq_true rfl) fun p2340 E => ?_
                revert E
                generalize upd _ p2340 _ = H
                intro E
                replace E := En.add (f := (fR zD (.ref p2340) (PyData.tuple d2339))) E (zd_U (E.rd (r := (zU zD)) (v := (.ref p2340)) (d := d2339) 0 rfl))
                have hr9 := Prod.mk.inj (Option.some.inj hm)
                have hr8 := hr9.1
                have hr7 := hr9.2
                subst res
                subst sres
                exact hQ _ _ (En.fr E) (En.outc E (c := (cPx p_pool q2331.2)) 0 rfl) (En.out E (En.at E (f := (fR zD (.ref p2340) (PyData.tuple d2339))) 0 rfl))
              · have hm := hm9
                refine ifs_open ?_
                obtain ⟨x2319, h_x2319, hm⟩ := bnd hm
                refine En.test E (et_test (K := K) (ev_lt (ev_dI (ev_var (i := 4) rfl (E.rd (r := zD) (v := v2239) (d := x2238) 1 rfl)) h_x2319) ev_int)) fun H E => ?_
                refine iteB (fun hc2329 => ?_) (fun hc2329 => ?_)
                · rw [if_pos hc2329] at hm
                  refine asg_open ?_
                  obtain ⟨u2320, h_u2320, hm⟩ := bnd hm
                  obtain ⟨u2321, h_u2321, hm⟩ := bnd hm
                  obtain ⟨u2322, h_u2322, hm⟩ := bnd hm
                  obtain ⟨u2323, h_u2323, hm⟩ := bnd hm
                  obtain ⟨u2324, h_u2324, hm⟩ := bnd hm
                  obtain ⟨u2325, h_u2325, hm⟩ := bnd hm
                  obtain ⟨u2326, h_u2326, hm⟩ := bnd hm
                  obtain ⟨d2328, e_d2328, hm⟩ := bnd hm
                  refine En.run E (Ev.to (ev_catL E.td (ev_var (i := 5) rfl (E.rd (r := (zL zD)) (v := v2300) (d := d2301) 0 rfl)) (ev_lst E.td (eh_cons (ev_toD (ev_eqDD (ev_var (i := 4) rfl (E.rd (r := zD) (v := v2239) (d := x2238) 1 rfl)) (ev_toD ev_int) (grd_ok h_u2320) (grd_ok h_u2321))) (eh_cons (ev_toD (ev_eqDD (ev_var (i := 4) rfl (E.rd (r := zD) (v := v2239) (d := x2238) 1 rfl)) (ev_toD ev_int) (grd_ok h_u2322) (grd_ok h_u2323))) (eh_cons (ev_toD (ev_eqDD (ev_var (i := 4) rfl (E.rd (r := zD) (v := v2239) (d := x2238) 1 rfl)) (ev_toD ev_int) (grd_ok h_u2324) (grd_ok h_u2325))) eh_nil))) (Nat.le_of_ble_eq_true rfl)) (grd_ok h_u2326)) (Option.some.inj e_d2328)) fun v2327 H E => ?_
                  have hj9 := Option.some.inj hm
                  subst j2313
                  exact rest _ _ ⟨_, _, _, _, v2327, _, rfl, (En.facts (En.pick E [0] (by decide) rfl) ⟨(E.rd (r := zD) (v := v_knot) (d := p_knot) 4 rfl), (E.rd (r := (zL zD)) (v := v2327) (d := d2328) 0 rfl), trivial⟩)⟩
                · rw [if_neg (by rw [hc2329]; decide)] at hm
                  have hj9 := Option.some.inj hm
                  subst j2313
                  exact rest _ _ ⟨_, _, _, _, v2300, _, rfl, (En.facts (En.pick E [0] (by decide) rfl) ⟨(E.rd (r := zD) (v := v_knot) (d := p_knot) 3 rfl), (E.rd (r := (zL zD)) (v := v2300) (d := d2301) 0 rfl), trivial⟩)⟩

def m__law_spoilt (p_tree : PyData) (p_rows : (List (List Bool))) (s00 : Px) : Option (PyData × Px) :=
((m__law_take (10 : Int) s00).bind fun (q2347 : Int × Px) =>
((m__law_paths 16 p_tree ([] : (List Int))).bind fun (r2349 : (List (List Int))) =>
((lcO (fun (x2350 : (List Int)) =>
((m__law_part p_tree x2350).bind fun (r2351 : PyData) =>
some (decide ((isD "tuple" r2351) = (decide ((2 : Int) < q2347.1)))))) (fun (x2350 : (List Int)) =>
some x2350) r2349).bind fun (x2352 : (List (List Int))) =>
((m__law_take ((x2352).length : Int) q2347.2).bind fun (q2355 : Int × Px) =>
((atI x2352 q2355.1).bind fun (x2357 : (List Int)) =>
((m__law_part p_tree x2357).bind fun (r2359 : PyData) =>
(if (decide (q2347.1 < (3 : Int))) = true then
((m__law_spoilt_leaf p_rows r2359 q2347.1 q2355.2).bind fun (q2363 : PyData × Px) =>
((m__law_put 16 p_tree x2357 q2363.1).bind fun (q2365 : PyData) =>
some (q2365, q2363.2)))
else
((m__law_spoilt_knot p_rows r2359 q2347.1 q2355.2).bind fun (q2369 : PyData × Px) =>
((m__law_put 16 p_tree x2357 q2369.1).bind fun (q2371 : PyData) =>
some (q2371, q2369.2))))))))))
abbrev sp__law_spoilt (K : PySem.W.Frag) : Sp := GSp K (aC zA (aC zD (aC (zL zW) aN))) (fun (a : Addr × PyData × (List (List Bool)) × Unit) (s : Px) => cPx a.1 s) zD (fun (a : Addr × PyData × (List (List Bool)) × Unit) (s : Px) => m__law_spoilt a.2.1 a.2.2.1 s)
theorem ok__law_spoilt (S : Tx K mg) (G__law_part : Ok P w K mg base 1 ("_law_part", none) ["tree", "path"] (sp__law_part K)) (G__law_paths : Ok P w K mg base 17 ("_law_paths", none) ["tree", "path"] ((sp__law_paths 16) K)) (G__law_put : Ok P w K mg base 17 ("_law_put", none) ["tree", "path", "part"] ((sp__law_put 16) K)) (G__law_spoilt_knot : Ok P w K mg base 18 ("_law_spoilt_knot", none) ["pool", "rows", "knot", "kind"] (sp__law_spoilt_knot K)) (G__law_spoilt_leaf : Ok P w K mg base 2 ("_law_spoilt_leaf", none) ["pool", "rows", "leaf", "kind"] (sp__law_spoilt_leaf K)) (G__law_take : Ok P w K mg base 1 ("_law_take", none) ["pool", "many"] (sp__law_take K)) : Ok P w K mg base 19 ("_law_spoilt", none) ["pool", "tree", "rows"] (sp__law_spoilt K) := by
  obtain ⟨fd, D⟩ := d__law_spoilt S
  refine mk_ok D sc__law_spoilt (D.bindsN fun _ _ _ _ _ _ us hl => match us, hl with | [_, _, _], _ => rfl) (GSp_len len3) (fun cdv A outer s H00 vs Q E hr h => ?_)
  obtain ⟨T00, ⟨p_pool, p_tree, p_rows, _⟩, s00, res, sres, hT, ⟨v_pool, _, rfl, r_pool, v_tree, _, rfl, r_tree, v_rows, _, rfl, r_rows, rfl⟩, hc, hTc, hnd, hm, hQ⟩ := h
  obtain rfl : v_pool = .ref p_pool := r_pool
  refine ⟨_, (pss_cons (ps_set (i := 3) sc__law_spoilt.nd rfl (.inr rfl) (pe_callG G__law_take hr (by omega) (by rfl) (g__law_take S) (pa_cons (pv 0) (pa_cons pe_int pa_nil)))) (pss_cons (ps_setLc (i := 4) (own := [("path", 5)]) (by rfl) sc__law_spoilt.nd rfl rfl (sw_true rfl rfl rfl (by decide +kernel)) (kp_list (K := K) (pe_callG G__law_paths hr (by omega) (by rfl) (g__law_paths S) (pa_cons (pv 1) (pa_cons (pe_lst pa_nil) pa_nil)))) (blkOk_by (N := ["pool", "tree", "rows", "kind", "paths", "path", "part"]) (sc := defScope s__law_spoilt) (by decide +kernel)) (fun _ _ _ _ _ => pg_name (i := 5) sc__law_spoilt.nd rfl (.inl rfl)) (fun _ _ _ _ _ => pts_one (pt_cmpR op_eq (pe_callB (kc_isi (K := K)) (by rfl) (m_isinstance S) bt_isinstance (pa_cons (pe_callG G__law_part hr (by omega) (by rfl) (g__law_part S) (pa_cons (pv 1) (pa_cons (pv 5) pa_nil))) (pa_cons (pe_cls (by rfl) (m_tuple S) bt_tuple) pa_nil))) (pe_cmpR op_gt (pv 3) pe_int (nomark _)) (nomark _))) (fun _ _ _ _ _ => (pv 5))) (pss_cons (ps_set (i := 5) sc__law_spoilt.nd rfl (.inl rfl) (pe_ix (kx_list (K := K)) (pv 4) (pe_callG G__law_take hr (by omega) (by rfl) (g__law_take S) (pa_cons (pv 0) (pa_cons (pe_callB (kc_len (K := K)) (by rfl) (m_len S) bt_len (pa_cons (pv 4) pa_nil)) pa_nil))) (fun _ _ => rfl))) (pss_cons (ps_set (i := 6) sc__law_spoilt.nd rfl (.inl rfl) (pe_callG G__law_part hr (by omega) (by rfl) (g__law_part S) (pa_cons (pv 1) (pa_cons (pv 5) pa_nil)))) (pss_cons (ps_if (pt_cmpR op_lt (pv 3) pe_int (nomark _)) (pss_one (ps_ret (pe_callG G__law_put hr (by omega) (by rfl) (g__law_put S) (pa_cons (pv 1) (pa_cons (pv 5) (pa_cons (pe_callG G__law_spoilt_leaf hr (by omega) (by rfl) (g__law_spoilt_leaf S) (pa_cons (pv 0) (pa_cons (pv 2) (pa_cons (pv 6) (pa_cons (pv 3) pa_nil))))) pa_nil)))))) pss_nil) (pss_one (ps_ret (pe_callG G__law_put hr (by omega) (by rfl) (g__law_put S) (pa_cons (pv 1) (pa_cons (pv 5) (pa_cons (pe_callG G__law_spoilt_knot hr (by omega) (by rfl) (g__law_spoilt_knot S) (pa_cons (pv 0) (pa_cons (pv 2) (pa_cons (pv 6) (pa_cons (pv 3) pa_nil))))) pa_nil))))))))))), ?_⟩
  have E : En K ⟨T00, [p_pool], H00⟩ [(fR zD v_tree p_tree), (fR (zL zW) v_rows p_rows)] [(cPx p_pool s00)] T00 H00 := En.start1 (c := (cPx p_pool s00)) hT ⟨r_tree, r_rows, trivial⟩ hc hTc hnd
  replace hm : m__law_spoilt p_tree p_rows s00 = some (res, sres) := hm
  unfold m__law_spoilt at hm
  refine asg_open ?_
  obtain ⟨q2347, h_q2347, hm⟩ := bnd hm
  refine En.gcall E (ea_cons (ev_var (i := 0) rfl (show zA K _ _ (.ref p_pool) p_pool from rfl)) (ea_cons ev_int ea_nil)) 0 rfl h_q2347 rfl fun v2348 H E => ?_
  first | refine nx_ ?_ | skip
  refine asg_open ?_
  obtain ⟨r2349, h_r2349, hm⟩ := bnd hm
  obtain ⟨x2352, h_x2352, hm⟩ := bnd hm
  refine En.run E (ev_lcQ E.td (ei_list (ev_callO E.td (ea_cons (ev_var (i := 1) rfl (E.rd (r := zD) (v := v_tree) (d := p_tree) 1 rfl)) (ea_cons (ev_lst (r := zI) (xs := []) E.td eh_nil (by decide)) ea_nil)) h_r2349)) h_x2352 (fun T2350 H2350 v2350 x2350 L2350 hT2350 hx2350 r2350 Q2350 q2350 => q2350 _ wipe1 (fun y2350a hy2350a => by
          obtain ⟨r2351, h_r2351, hy2350a⟩ := bnd hy2350a; cases hy2350a; exact (et_test (K := K) (ev_eqBl (ev_isiD (n := "tuple") (ev_callO hT2350 (ea_cons (ev_var (i := 1) rfl (L2350.ap (E.rd (r := zD) (v := v_tree) (d := p_tree) 1 rfl))) (ea_cons (ev_var (i := 5) rfl r2350) ea_nil)) h_r2351)) (ev_gt (ev_var (i := 3) rfl (L2350.ap (E.rd (r := zI) (v := v2348) (d := q2347.1) 0 rfl))) ev_int)))) (fun hp2350 => fun y2350b hy2350b => by
          cases hy2350b; exact (ev_var (i := 5) rfl r2350)))) fun v2353 H E => ?_
  first | refine nx_ ?_ | skip
  refine asg_open ?_
  refine op_open ?_
  refine En.run E (ev_var (i := 4) rfl (E.rd (r := (zL (zL zI))) (v := v2353) (d := x2352) 0 rfl)) fun v2354 H E => ?_
  obtain ⟨q2355, h_q2355, hm⟩ := bnd hm
  refine En.gcall E (ea_cons (ev_var (i := 0) rfl (show zA K _ _ (.ref p_pool) p_pool from rfl)) (ea_cons (ev_lenL (ev_var (i := 4) rfl (E.rd (r := (zL (zL zI))) (v := v2353) (d := x2352) 1 rfl))) ea_nil)) 0 rfl h_q2355 rfl fun v2356 H E => ?_
  refine of_op ?_
  obtain ⟨x2357, h_x2357, hm⟩ := bnd hm
  refine En.run E (ev_ixL (ev_var (i := 0) rfl (E.rd (r := (zL (zL zI))) (v := v2354) (d := x2352) 1 rfl)) (ev_var (i := 1) rfl (E.rd (r := zI) (v := v2356) (d := q2355.1) 0 rfl)) h_x2357) fun v2358 H E => ?_
  first | refine nx_ ?_ | skip
  refine asg_open ?_
  obtain ⟨r2359, h_r2359, hm⟩ := bnd hm
  refine En.run E (ev_callO E.td (ea_cons (ev_var (i := 1) rfl (E.rd (r := zD) (v := v_tree) (d := p_tree) 5 rfl)) (ea_cons (ev_var (i := 5) rfl (E.rd (r := (zL zI)) (v := v2358) (d := x2357) 0 rfl)) ea_nil)) h_r2359) fun v2360 H E => ?_
  first | refine nx_ ?_ | skip
  refine ifs_open ?_
  refine En.test E (et_test (K := K) (ev_lt (ev_var (i := 3) rfl (E.rd (r := zI) (v := v2348) (d := q2347.1) 5 rfl)) ev_int)) fun H E => ?_
  refine iteB (fun hc2373 => ?_) (fun hc2373 => ?_)
  · rw [if_pos hc2373] at hm
    refine ret_open ?_
    refine call_open ?_
    refine cons_open ?_
    refine En.run E (ev_var (i := 1) rfl (E.rd (r := zD) (v := v_tree) (d := p_tree) 6 rfl)) fun v2361 H E => ?_
    refine cons_open ?_
    refine En.run E (ev_var (i := 5) rfl (E.rd (r := (zL zI)) (v := v2358) (d := x2357) 2 rfl)) fun v2362 H E => ?_
    refine cons_open ?_
    obtain ⟨q2363, h_q2363, hm⟩ := bnd hm
    refine En.gcall E (ea_cons (ev_var (i := 0) rfl (show zA K _ _ (.ref p_pool) p_pool from rfl)) (ea_cons (ev_var (i := 2) rfl (E.rd (r := (zL zW)) (v := v_rows) (d := p_rows) 9 rfl)) (ea_cons (ev_var (i := 6) rfl (E.rd (r := zD) (v := v2360) (d := r2359) 2 rfl)) (ea_cons (ev_var (i := 3) rfl (E.rd (r := zI) (v := v2348) (d := q2347.1) 7 rfl)) ea_nil)))) 0 rfl h_q2363 rfl fun v2364 H E => ?_
    refine nil_open ?_
    obtain ⟨q2365, h_q2365, hm⟩ := bnd hm
    refine En.callF (a := (p_tree, x2357, q2363.1, ())) E ⟨v2361, _, rfl, (E.rd (r := zD) (v := v2361) (d := p_tree) 2 rfl), v2362, _, rfl, (E.rd (r := (zL zI)) (v := v2362) (d := x2357) 1 rfl), v2364, _, rfl, (E.rd (r := zD) (v := v2364) (d := q2363.1) 0 rfl), rfl⟩ h_q2365 fun v2366 H E => ?_
    have hr9 := Prod.mk.inj (Option.some.inj hm)
    have hr8 := hr9.1
    have hr7 := hr9.2
    subst res
    subst sres
    exact hQ _ _ (En.fr E) (En.outc E (c := (cPx p_pool q2363.2)) 0 rfl) (En.out E (En.at E (f := (fR zD v2366 q2365)) 0 rfl))
  · rw [if_neg (by rw [hc2373]; decide)] at hm
    first | refine nx_ ?_ | skip
    refine ret_open ?_
    refine call_open ?_
    refine cons_open ?_
    refine En.run E (ev_var (i := 1) rfl (E.rd (r := zD) (v := v_tree) (d := p_tree) 6 rfl)) fun v2367 H E => ?_
    refine cons_open ?_
    refine En.run E (ev_var (i := 5) rfl (E.rd (r := (zL zI)) (v := v2358) (d := x2357) 2 rfl)) fun v2368 H E => ?_
    refine cons_open ?_
    obtain ⟨q2369, h_q2369, hm⟩ := bnd hm
    refine En.gcall E (ea_cons (ev_var (i := 0) rfl (show zA K _ _ (.ref p_pool) p_pool from rfl)) (ea_cons (ev_var (i := 2) rfl (E.rd (r := (zL zW)) (v := v_rows) (d := p_rows) 9 rfl)) (ea_cons (ev_var (i := 6) rfl (E.rd (r := zD) (v := v2360) (d := r2359) 2 rfl)) (ea_cons (ev_var (i := 3) rfl (E.rd (r := zI) (v := v2348) (d := q2347.1) 7 rfl)) ea_nil)))) 0 rfl h_q2369 rfl fun v2370 H E => ?_
    refine nil_open ?_
    obtain ⟨q2371, h_q2371, hm⟩ := bnd hm
    refine En.callF (a := (p_tree, x2357, q2369.1, ())) E ⟨v2367, _, rfl, (E.rd (r := zD) (v := v2367) (d := p_tree) 2 rfl), v2368, _, rfl, (E.rd (r := (zL zI)) (v := v2368) (d := x2357) 1 rfl), v2370, _, rfl, (E.rd (r := zD) (v := v2370) (d := q2369.1) 0 rfl), rfl⟩ h_q2371 fun v2372 H E => ?_
    have hr9 := Prod.mk.inj (Option.some.inj hm)
    have hr8 := hr9.1
    have hr7 := hr9.2
    subst res
    subst sres
    exact hQ _ _ (En.fr E) (En.outc E (c := (cPx p_pool q2369.2)) 0 rfl) (En.out E (En.at E (f := (fR zD v2372 q2371)) 0 rfl))

end
end EB

set_option Elab.async false
set_option linter.all false
set_option maxRecDepth 100000
set_option maxHeartbeats 4000000

namespace EB
open PySem PySem.Spec PyProof.Rows L2

section
variable {P : Program} {w : World} {K : PySem.W.Frag} {mg : Str → Option Value} {base : Heap}

def m__law_below (p_tree : PyData) (p_many : Int) (s00 : Px) : Option ((List Int) × Px) :=
((grd (p_many ≤ 1000000 ∧ -1000000 ≤ p_many)).bind fun (u2374 : Unit) =>
((mapS (fun (s2376 : Px) (x2375 : Int) =>
((m__law_take (11 : Int) s2376).bind fun (q2377 : Int × Px) =>
some (q2377.1, q2377.2))) s00 (rng 0 (p_many).toNat)).bind fun (q2379 : List Int × Px) =>
((m__law_leaves 16 p_tree (0 : Int)).bind fun (r2381 : (List PyData)) =>
((forP (fun (s2382 : (List Int) × Px) (x2386 : PyData) =>
((((m__law_take (3 : Int) s2382.2).bind fun (q2449 : Int × Px) =>
((some (decide (q2449.1 = (0 : Int)))).bind fun (d2453 : Bool) =>
(if d2453 = true then
((dIx x2386 (1 : Int)).bind fun (x2456 : PyData) =>
((dInt x2456).bind fun (x2457 : Int) =>
((m__law_take x2457 q2449.2).bind fun (q2458 : Int × Px) =>
some (q2458.1, q2458.2))))
else
some ((0 : Int), q2449.2))))).bind fun (j2444 : Int × Px) =>
((dIx x2386 (1 : Int)).bind fun (x2461 : PyData) =>
((dInt x2461).bind fun (x2462 : Int) =>
((some ((x2462 - (1 : Int)) - j2444.1)).bind fun (d2464 : Int) =>
((dIx x2386 (0 : Int)).bind fun (x2465 : PyData) =>
((dInt x2465).bind fun (x2466 : Int) =>
((setO s2382.1 x2466 d2464).bind fun (d2467 : List Int) =>
some (d2467, j2444.2))))))))) (q2379.1, q2379.2) r2381).bind fun (s2384 : (List Int) × Px) =>
some (s2384.1, s2384.2)))))
abbrev sp__law_below (K : PySem.W.Frag) : Sp := GSp K (aC zA (aC zD (aC zI aN))) (fun (a : Addr × PyData × Int × Unit) (s : Px) => cPx a.1 s) (zL zI) (fun (a : Addr × PyData × Int × Unit) (s : Px) => m__law_below a.2.1 a.2.2.1 s)
theorem ok__law_below (S : Tx K mg) (G__law_leaves : Ok P w K mg base 17 ("_law_leaves", none) ["tree", "knots"] ((sp__law_leaves 16) K)) (G__law_take : Ok P w K mg base 1 ("_law_take", none) ["pool", "many"] (sp__law_take K)) : Ok P w K mg base 18 ("_law_below", none) ["pool", "tree", "many"] (sp__law_below K) := by
  obtain ⟨fd, D⟩ := d__law_below S
  refine mk_ok D sc__law_below (D.bindsN fun _ _ _ _ _ _ us hl => match us, hl with | [_, _, _], _ => rfl) (GSp_len len3) (fun cdv A outer s H00 vs Q E hr h => ?_)
  obtain ⟨T00, ⟨p_pool, p_tree, p_many, _⟩, s00, res, sres, hT, ⟨v_pool, _, rfl, r_pool, v_tree, _, rfl, r_tree, v_many, _, rfl, r_many, rfl⟩, hc, hTc, hnd, hm, hQ⟩ := h
  obtain rfl : v_pool = .ref p_pool := r_pool
  refine ⟨_, (pss_cons (ps_setLc (i := 3) (own := [("q", 6)]) (by rfl) sc__law_below.nd rfl rfl (sw_true rfl rfl rfl (by decide +kernel)) (pi_range1 (by rfl) (m_range S) (pa_cons (pv 2) pa_nil)) (blkOk_by (N := ["pool", "tree", "many", "budgets", "leaf", "less", "q"]) (sc := defScope s__law_below) (by decide +kernel)) (fun _ _ _ _ _ => pg_name (i := 6) sc__law_below.nd rfl (.inl rfl)) (fun _ _ _ _ _ => pts_nil) (fun _ _ _ _ _ => (pe_callG G__law_take hr (by omega) (by rfl) (g__law_take S) (pa_cons (pv 0) (pa_cons pe_int pa_nil))))) (pss_cons (ps_for PassesOwn.never rfl (kp_list (K := K) (pe_callG G__law_leaves hr (by omega) (by rfl) (g__law_leaves S) (pa_cons (pv 1) (pa_cons pe_int pa_nil)))) (pg_name (i := 4) sc__law_below.nd rfl (.inl rfl)) (pss_cons (ps_set (i := 5) sc__law_below.nd rfl (.inl rfl) pe_int) (pss_cons (ps_if (pt_cmpR op_eq (pe_callG G__law_take hr (by omega) (by rfl) (g__law_take S) (pa_cons (pv 0) (pa_cons pe_int pa_nil))) pe_int (nomark _)) (pss_one (ps_set (i := 5) sc__law_below.nd rfl (.inl rfl) (pe_callG G__law_take hr (by omega) (by rfl) (g__law_take S) (pa_cons (pv 0) (pa_cons (pe_ix (kx_seq (K := K)) (pv 4) pe_int (fun _ _ => rfl)) pa_nil))))) pss_nil) (pss_one (ps_asg (pe_op op_sub (pe_op op_sub (pe_ix (kx_seq (K := K)) (pv 4) pe_int (fun _ _ => rfl)) pe_int) (pv 5)) (pg_sub (pv 3) (pe_ix (kx_seq (K := K)) (pv 4) pe_int (fun _ _ => rfl)) set_list)))))) (pss_one (ps_ret (pv 3))))), ?_⟩
  have E : En K ⟨T00, [p_pool], H00⟩ [(fR zD v_tree p_tree), (fR zI v_many p_many)] [(cPx p_pool s00)] T00 H00 := En.start1 (c := (cPx p_pool s00)) hT ⟨r_tree, r_many, trivial⟩ hc hTc hnd
  replace hm : m__law_below p_tree p_many s00 = some (res, sres) := hm
  unfold m__law_below at hm
  refine asg_open ?_
  obtain ⟨u2374, h_u2374, hm⟩ := bnd hm
  obtain ⟨q2379, h_q2379, hm⟩ := bnd hm
  refine En.lc (s := zI) (Cs := fun (s2376 : Px) => [(cPx p_pool s2376)]) (fun _ => rfl) E (ei_range (ea_cons (ev_var (i := 2) rfl (E.rd (r := zI) (v := v_many) (d := p_many) 1 rfl)) ea_nil) (grd_ok h_u2374).1 (grd_ok h_u2374).2) h_q2379 (fun b2375 T2375 H v2375 x2375 s2376 t2375 y2375 hx2375 wd2375 rx2375 E hb2375 hm Qx2375 qx2375 => qx2375 _ wipe1 fun Qv2375 Qe2375 => ?_) fun p2380 H E => ?_
  · obtain ⟨q2377, h_q2377, hm⟩ := bnd hm
    refine En.gcall E (ea_cons (ev_var (i := 0) rfl (show zA K _ _ (.ref p_pool) p_pool from rfl)) (ea_cons ev_int ea_nil)) 0 rfl h_q2377 rfl fun v2378 H E => ?_
    have hq := Prod.mk.inj (Option.some.inj hm)
    have hq1 := hq.1
    have hq2 := hq.2
    subst y2375
    subst t2375
    exact Qe2375 _ _ _ _ E
  first | refine nx_ ?_ | skip
  obtain ⟨r2381, h_r2381, hm⟩ := bnd hm
  obtain ⟨s2384, h_s2384, hm⟩ := bnd hm
  refine En.forP (K := K) (fun (b2385 : Bs) (s2382 : (List Int) × Px) (T : AS) (σ9 : L2.St) (H9 : Hp) => ∃ (u2426 : Option V), ∃ (u2427 : Option V), ∃ (u2428 : Option V), ∃ (u2429 : Option V), ∃ (u2430 : Option V), σ9 = [some (.ref p_pool), u2426, u2427, some (.ref p2380), u2428, u2429, u2430] ∧ En K b2385 [] [(cL zI p2380 s2382.1), (cPx p_pool s2382.2)] T H9) E (ei_list (ev_callO E.td (ea_cons (ev_var (i := 1) rfl (E.rd (r := zD) (v := v_tree) (d := p_tree) 1 rfl)) (ea_cons ev_int ea_nil)) h_r2381)) h_s2384 (fun H E => ⟨_, _, _, _, _, rfl, (En.facts (En.pick E [0, 1] (by decide) rfl) trivial)⟩) (by rintro _ _ _ _ _ ⟨u2426, u2427, u2428, u2429, u2430, rfl, E⟩; exact ⟨En.wd E, En.td E⟩) (fun b2385 s2382 x2386 o2383 T _ H1 H v2387 D2388 hx2388 hI2388 ex2388 hr2388 hm hrt2388 hn2388 => ?_) (fun H2 T _ H E2 hI2388 => ?_)
  · obtain ⟨u2426, u2427, u2428, u2429, u2430, rfl, E⟩ := hI2388
    replace E := En.add (f := (fR zD v2387 x2386)) (En.ex E ex2388) hr2388
    refine gn ?_
    refine asg_open ?_
    refine En.run E ev_int fun v2431 H E => ?_
    first | refine nx_ ?_ | skip
    obtain ⟨j2444, hm9, hm8⟩ := bnd hm
    refine seq_open ?_
    refine cut_ (fun σ9 H9 => ∃ (T : AS), ∃ (u2445 : Option V), ∃ (u2446 : Option V), ∃ (v2447 : V), ∃ (u2448 : Option V), σ9 = [some (.ref p_pool), u2445, u2446, some (.ref p2380), some v2387, some v2447, u2448] ∧ En K b2385 [(fR zD v2387 x2386), (fR zI v2447 j2444.1)] [(cL zI p2380 s2382.1), (cPx p_pool j2444.2)] T H9) ?_ fun rest => ?_
    · rintro _ H ⟨T, u2445, u2446, v2447, u2448, rfl, E⟩
      have hm := hm8
      first | refine nx_ ?_ | skip
      refine asgt_open ?_
      obtain ⟨x2461, h_x2461, hm⟩ := bnd hm
      obtain ⟨x2462, h_x2462, hm⟩ := bnd hm
      obtain ⟨d2464, e_d2464, hm⟩ := bnd hm
      refine En.run E (Ev.to (ev_sub (ev_sub (ev_dI (ev_ixD (ev_var (i := 4) rfl (E.rd (r := zD) (v := v2387) (d := x2386) 0 rfl)) ev_int h_x2461) h_x2462) ev_int) (ev_var (i := 5) rfl (E.rd (r := zI) (v := v2447) (d := j2444.1) 1 rfl))) (Option.some.inj e_d2464)) fun v2463 H E => ?_
      obtain ⟨x2465, h_x2465, hm⟩ := bnd hm
      obtain ⟨x2466, h_x2466, hm⟩ := bnd hm
      obtain ⟨d2467, e_d2467, hm⟩ := bnd hm
      refine En.setitem (r := zI) (p := p2380) (xs := s2382.1) E rfl 0 rfl (E.rd (r := zI) (v := v2463) (d := d2464) 0 rfl) (ev_dI (ev_ixD (ev_var (i := 4) rfl (E.rd (r := zD) (v := v2387) (d := x2386) 1 rfl)) ev_int h_x2465) h_x2466) e_d2467 fun H E => ?_
      have hj9 := Option.some.inj hm
      subst o2383
      exact (hn2388 _ _ _ ⟨_, _, _, _, _, rfl, (En.facts (En.pick E [0, 1] (by decide) rfl) trivial)⟩).1
    · have hm := hm9
      refine ifs_open ?_
      refine test_open ?_
      refine op_open ?_
      obtain ⟨q2449, h_q2449, hm⟩ := bnd hm
      refine En.gcall E (ea_cons (ev_var (i := 0) rfl (show zA K _ _ (.ref p_pool) p_pool from rfl)) (ea_cons ev_int ea_nil)) 1 rfl h_q2449 rfl fun v2450 H E => ?_
      refine En.run E ev_int fun v2451 H E => ?_
      refine of_op ?_
      obtain ⟨d2453, e_d2453, hm⟩ := bnd hm
      refine En.run E (Ev.to (ev_eqI (ev_var (i := 0) rfl (E.rd (r := zI) (v := v2450) (d := q2449.1) 1 rfl)) (ev_var (i := 1) rfl (E.rd (r := zI) (v := v2451) (d := (0 : Int)) 0 rfl))) (Option.some.inj e_d2453)) fun v2452 H E => ?_
      refine tb2 (E.rd (r := zB) (v := v2452) (d := d2453) 0 rfl) (fun hc2460 => ?_) (fun hc2460 => ?_)
      · rw [if_pos hc2460] at hm
        refine iteT ?_
        refine asg_open ?_
        obtain ⟨x2456, h_x2456, hm⟩ := bnd hm
        obtain ⟨x2457, h_x2457, hm⟩ := bnd hm
        obtain ⟨q2458, h_q2458, hm⟩ := bnd hm
        refine En.gcall E (ea_cons (ev_var (i := 0) rfl (show zA K _ _ (.ref p_pool) p_pool from rfl)) (ea_cons (ev_dI (ev_ixD (ev_var (i := 4) rfl (E.rd (r := zD) (v := v2387) (d := x2386) 4 rfl)) ev_int h_x2456) h_x2457) ea_nil)) 1 rfl h_q2458 rfl fun v2459 H E => ?_
        have hj9 := Option.some.inj hm
        subst j2444
        exact rest _ _ ⟨_, _, _, v2459, _, rfl, (En.facts (En.pick E [0, 1] (by decide) rfl) ⟨(E.rd (r := zD) (v := v2387) (d := x2386) 5 rfl), (E.rd (r := zI) (v := v2459) (d := q2458.1) 0 rfl), trivial⟩)⟩
      · rw [if_neg (by rw [hc2460]; decide)] at hm
        refine iteF ?_
        have hj9 := Option.some.inj hm
        subst j2444
        exact rest _ _ ⟨_, _, _, v2431, _, rfl, (En.facts (En.pick E [0, 1] (by decide) rfl) ⟨(E.rd (r := zD) (v := v2387) (d := x2386) 4 rfl), (E.rd (r := zI) (v := v2431) (d := (0 : Int)) 3 rfl), trivial⟩)⟩
  · obtain ⟨u2426, u2427, u2428, u2429, u2430, rfl, E⟩ := hI2388
    replace E := En.back E2 E
    first | refine nx_ ?_ | skip
    replace E := En.freeze (r := zI) (p := p2380) (xs := s2384.1) (cs := [(cPx p_pool s2384.2)]) E (by simp [owns])
    refine ret_open ?_
    refine En.run E (ev_var (i := 3) rfl (E.rd (r := (zL zI)) (v := (.ref p2380)) (d := s2384.1) 0 rfl)) fun v9 H E => ?_
    have hr9 := Prod.mk.inj (Option.some.inj hm)
    have hr8 := hr9.1
    have hr7 := hr9.2
    subst res
    subst sres
    exact hQ _ _ (En.fr E) (En.outc E (c := (cPx p_pool s2384.2)) 0 rfl) (En.out E (En.at E (f := (fR (zL zI) v9 s2384.1)) 0 rfl))

def m__law_judged (p_rows : (List (List Bool))) (p_budgets : (List Int)) (p_tree : PyData) (p_due : Bool) (s00 : Px) : Option (Bool × Px) :=
((m__law_handedW p_rows s00).bind fun (q2468 : PyData × Px) =>
((m__law_handedI p_budgets q2468.2).bind fun (q2470 : PyData × Px) =>
((m__law_copy 16 p_tree).bind fun (r2472 : PyData) =>
((okX (m_judge_point_tree q2468.1 q2470.1 r2472)).bind fun (r2474 : Bool) =>
((dSeq q2468.1).bind fun (x2479 : List PyData) =>
((m__law_alike 16 (PyData.list x2479) (Tod.toD (zL zW) p_rows)).bind fun (r2480 : Bool) =>
((if (!r2480) = true then some true else ((dSeq q2470.1).bind fun (x2484 : List PyData) =>
((m__law_alike 16 (PyData.list x2484) (Tod.toD (zL zI) p_budgets)).bind fun (r2485 : Bool) =>
((if (!r2485) = true then some true else ((m__law_alike 16 r2472 p_tree).bind fun (r2486 : Bool) =>
some (!r2486))).bind fun (b2488 : Bool) =>
some b2488)))).bind fun (b2491 : Bool) =>
(if b2491 = true then
some (false, q2470.2)
else
((m__law_alike 16 (PyData.bool r2474) (PyData.bool p_due)).bind fun (r2494 : Bool) =>
some (r2494, q2470.2))))))))))
abbrev sp__law_judged (K : PySem.W.Frag) : Sp := GSp K (aC zA (aC (zL zW) (aC (zL zI) (aC zD (aC zB aN))))) (fun (a : Addr × (List (List Bool)) × (List Int) × PyData × Bool × Unit) (s : Px) => cPx a.1 s) zB (fun (a : Addr × (List (List Bool)) × (List Int) × PyData × Bool × Unit) (s : Px) => m__law_judged a.2.1 a.2.2.1 a.2.2.2.1 a.2.2.2.2.1 s)
theorem ok__law_judged (S : Tx K mg) (G__law_alike : Ok P w K mg base 18 ("_law_alike", none) ["one", "other"] ((sp__law_alike 16) K)) (G__law_copy : Ok P w K mg base 17 ("_law_copy", none) ["value"] ((sp__law_copy 16) K)) (G__law_handedI : Ok P w K mg base 2 ("_law_handed", none) ["pool", "values"] (sp__law_handedI K)) (G__law_handedW : Ok P w K mg base 2 ("_law_handed", none) ["pool", "values"] (sp__law_handedW K)) (G_judge_point_tree : OkX P w K mg base 37 ("judge_point_tree", none) ["rows", "budgets", "tree"] (sp_judge_point_tree K)) : Ok P w K mg base 38 ("_law_judged", none) ["pool", "rows", "budgets", "tree", "due"] (sp__law_judged K) := by
  obtain ⟨fd, D⟩ := d__law_judged S
  refine mk_ok D sc__law_judged (D.bindsN fun _ _ _ _ _ _ us hl => match us, hl with | [_, _, _, _, _], _ => rfl) (GSp_len len5) (fun cdv A outer s H00 vs Q E hr h => ?_)
  obtain ⟨T00, ⟨p_pool, p_rows, p_budgets, p_tree, p_due, _⟩, s00, res, sres, hT, ⟨v_pool, _, rfl, r_pool, v_rows, _, rfl, r_rows, v_budgets, _, rfl, r_budgets, v_tree, _, rfl, r_tree, v_due, _, rfl, r_due, rfl⟩, hc, hTc, hnd, hm, hQ⟩ := h
  obtain rfl : v_pool = .ref p_pool := r_pool
  refine ⟨_, (pss_cons (ps_set (i := 5) sc__law_judged.nd rfl (.inl rfl) (pe_callG G__law_handedW hr (by omega) (by rfl) (g__law_handed S) (pa_cons (pv 0) (pa_cons (pv 1) pa_nil)))) (pss_cons (ps_set (i := 6) sc__law_judged.nd rfl (.inl rfl) (pe_callG G__law_handedI hr (by omega) (by rfl) (g__law_handed S) (pa_cons (pv 0) (pa_cons (pv 2) pa_nil)))) (pss_cons (ps_set (i := 7) sc__law_judged.nd rfl (.inl rfl) (pe_callG G__law_copy hr (by omega) (by rfl) (g__law_copy S) (pa_cons (pv 3) pa_nil))) (pss_cons (ps_set (i := 8) sc__law_judged.nd rfl (.inl rfl) (px_call (W := WNo) G_judge_point_tree passNo hr (by omega) (by rfl) (g_judge_point_tree S) (pa_cons (pv 5) (pa_cons (pv 6) (pa_cons (pv 7) pa_nil))))) (pss_cons (ps_if (PW.pt (pw_or (pt_not (pt_val (pe_callG G__law_alike hr (by omega) (by rfl) (g__law_alike S) (pa_cons (pe_callTy (kc_list (K := K)) (by rfl) (m_list S) bt_list (pa_cons (pv 5) pa_nil)) (pa_cons (pv 1) pa_nil))))) (pw_or (pt_not (pt_val (pe_callG G__law_alike hr (by omega) (by rfl) (g__law_alike S) (pa_cons (pe_callTy (kc_list (K := K)) (by rfl) (m_list S) bt_list (pa_cons (pv 6) pa_nil)) (pa_cons (pv 2) pa_nil))))) (pw_or1 (pt_not (pt_val (pe_callG G__law_alike hr (by omega) (by rfl) (g__law_alike S) (pa_cons (pv 7) (pa_cons (pv 3) pa_nil))))))))) (pss_one (ps_ret pe_bl)) pss_nil) (pss_one (ps_ret (pe_callG G__law_alike hr (by omega) (by rfl) (g__law_alike S) (pa_cons (pv 8) (pa_cons (pv 4) pa_nil)))))))))), ?_⟩
  have E : En K ⟨T00, [p_pool], H00⟩ [(fR (zL zW) v_rows p_rows), (fR (zL zI) v_budgets p_budgets), (fR zD v_tree p_tree), (fR zB v_due p_due)] [(cPx p_pool s00)] T00 H00 := En.start1 (c := (cPx p_pool s00)) hT ⟨r_rows, r_budgets, r_tree, r_due, trivial⟩ hc hTc hnd
  replace hm : m__law_judged p_rows p_budgets p_tree p_due s00 = some (res, sres) := hm
  unfold m__law_judged at hm
  refine asg_open ?_
  obtain ⟨q2468, h_q2468, hm⟩ := bnd hm
  refine En.gcall E (ea_cons (ev_var (i := 0) rfl (show zA K _ _ (.ref p_pool) p_pool from rfl)) (ea_cons (ev_var (i := 1) rfl (E.rd (r := (zL zW)) (v := v_rows) (d := p_rows) 0 rfl)) ea_nil)) 0 rfl h_q2468 rfl fun v2469 H E => ?_
  first | refine nx_ ?_ | skip
  refine asg_open ?_
  obtain ⟨q2470, h_q2470, hm⟩ := bnd hm
  refine En.gcall E (ea_cons (ev_var (i := 0) rfl (show zA K _ _ (.ref p_pool) p_pool from rfl)) (ea_cons (ev_var (i := 2) rfl (E.rd (r := (zL zI)) (v := v_budgets) (d := p_budgets) 2 rfl)) ea_nil)) 0 rfl h_q2470 rfl fun v2471 H E => ?_
  first | refine nx_ ?_ | skip
  refine asg_open ?_
  obtain ⟨r2472, h_r2472, hm⟩ := bnd hm
  refine En.run E (ev_callO E.td (ea_cons (ev_var (i := 3) rfl (E.rd (r := zD) (v := v_tree) (d := p_tree) 4 rfl)) ea_nil) h_r2472) fun v2473 H E => ?_
  first | refine nx_ ?_ | skip
  refine asg_open ?_
  obtain ⟨r2474, h_r2474, hm⟩ := bnd hm
  refine En.run E (ev_callX E.td (ea_cons (ev_var (i := 5) rfl (E.rd (r := zD) (v := v2469) (d := q2468.1) 2 rfl)) (ea_cons (ev_var (i := 6) rfl (E.rd (r := zD) (v := v2471) (d := q2470.1) 1 rfl)) (ea_cons (ev_var (i := 7) rfl (E.rd (r := zD) (v := v2473) (d := r2472) 0 rfl)) ea_nil))) (okX_ok h_r2474)) fun v2475 H E => ?_
  first | refine nx_ ?_ | skip
  refine ifs_open ?_
  obtain ⟨x2479, h_x2479, hm⟩ := bnd hm
  obtain ⟨r2480, h_r2480, hm⟩ := bnd hm
  obtain ⟨b2491, h_b2491, hm⟩ := bnd hm
  refine En.test E (et_orO (et_not (et_B (K := K) (ev_callO E.td (ea_cons (ev_toDL (ev_listQ E.td (ev_dQ (ev_var (i := 5) rfl (E.rd (r := zD) (v := v2469) (d := q2468.1) 3 rfl)) h_x2479))) (ea_cons (ev_toD (ev_var (i := 1) rfl (E.rd (r := (zL zW)) (v := v_rows) (d := p_rows) 4 rfl))) ea_nil)) h_r2480))) (fun hc2490 y2492 hy2492 => by
          obtain ⟨x2484, h_x2484, hy2492⟩ := bnd hy2492; obtain ⟨r2485, h_r2485, hy2492⟩ := bnd hy2492; obtain ⟨b2488, h_b2488, hy2492⟩ := bnd hy2492; cases hy2492; exact (et_orO (et_not (et_B (K := K) (ev_callO E.td (ea_cons (ev_toDL (ev_listQ E.td (ev_dQ (ev_var (i := 6) rfl (E.rd (r := zD) (v := v2471) (d := q2470.1) 2 rfl)) h_x2484))) (ea_cons (ev_toD (ev_var (i := 2) rfl (E.rd (r := (zL zI)) (v := v_budgets) (d := p_budgets) 5 rfl))) ea_nil)) h_r2485))) (fun hc2487 y2489 hy2489 => by
          obtain ⟨r2486, h_r2486, hy2489⟩ := bnd hy2489; cases hy2489; exact (et_not (et_B (K := K) (ev_callO E.td (ea_cons (ev_var (i := 7) rfl (E.rd (r := zD) (v := v2473) (d := r2472) 1 rfl)) (ea_cons (ev_var (i := 3) rfl (E.rd (r := zD) (v := v_tree) (d := p_tree) 6 rfl)) ea_nil)) h_r2486)))) h_b2488)) h_b2491) fun H E => ?_
  refine iteB (fun hc2496 => ?_) (fun hc2496 => ?_)
  · rw [if_pos hc2496] at hm
    refine ret_open ?_
    refine En.run E ev_bl fun v2493 H E => ?_
    have hr9 := Prod.mk.inj (Option.some.inj hm)
    have hr8 := hr9.1
    have hr7 := hr9.2
    subst res
    subst sres
    exact hQ _ _ (En.fr E) (En.outc E (c := (cPx p_pool q2470.2)) 0 rfl) (En.out E (En.at E (f := (fR zB v2493 false)) 0 rfl))
  · rw [if_neg (by rw [hc2496]; decide)] at hm
    first | refine nx_ ?_ | skip
    refine ret_open ?_
    obtain ⟨r2494, h_r2494, hm⟩ := bnd hm
    refine En.run E (ev_callO E.td (ea_cons (ev_toD (ev_var (i := 8) rfl (E.rd (r := zB) (v := v2475) (d := r2474) 0 rfl))) (ea_cons (ev_toD (ev_var (i := 4) rfl (E.rd (r := zB) (v := v_due) (d := p_due) 7 rfl))) ea_nil)) h_r2494) fun v2495 H E => ?_
    have hr9 := Prod.mk.inj (Option.some.inj hm)
    have hr8 := hr9.1
    have hr7 := hr9.2
    subst res
    subst sres
    exact hQ _ _ (En.fr E) (En.outc E (c := (cPx p_pool q2470.2)) 0 rfl) (En.out E (En.at E (f := (fR zB v2495 r2494)) 0 rfl))

def m__law_turn (p_rows : (List (List Bool))) (s00 : Px) : Option (Bool × Px) :=
((grd (((p_rows).length : Int) ≤ 1000000 ∧ -1000000 ≤ ((p_rows).length : Int))).bind fun (u2499 : Unit) =>
((m__law_grown 16 p_rows (((rng 0 (((p_rows).length : Int)).toNat)).map fun (x2500 : Int) => x2500) true s00).bind fun (q2501 : PyData × Px) =>
((m__law_below q2501.1 ((p_rows).length : Int) q2501.2).bind fun (q2503 : (List Int) × Px) =>
((m__law_judged p_rows q2503.1 q2501.1 true q2503.2).bind fun (q2505 : Bool × Px) =>
(if q2505.1 = true then
((m__law_leaves 16 q2501.1 (0 : Int)).bind fun (r2507 : (List PyData)) =>
((m__law_take ((r2507).length : Int) q2505.2).bind fun (q2510 : Int × Px) =>
((atI r2507 q2510.1).bind fun (x2512 : PyData) =>
((some (q2503.1)).bind fun (d2514 : List Int) =>
((dIx x2512 (1 : Int)).bind fun (x2516 : PyData) =>
((m__law_take (2 : Int) q2510.2).bind fun (q2518 : Int × Px) =>
((dInt x2516).bind fun (x2520 : Int) =>
((some (x2520 + q2518.1)).bind fun (d2522 : Int) =>
((dIx x2512 (0 : Int)).bind fun (x2523 : PyData) =>
((dInt x2523).bind fun (x2524 : Int) =>
((setO d2514 x2524 d2522).bind fun (d2525 : List Int) =>
((m__law_judged p_rows d2525 q2501.1 false q2518.2).bind fun (q2526 : Bool × Px) =>
(if q2526.1 = true then
((dIx q2501.1 (0 : Int)).bind fun (x2531 : PyData) =>
((dIx q2501.1 (1 : Int)).bind fun (x2532 : PyData) =>
((dIx q2501.1 (2 : Int)).bind fun (x2533 : PyData) =>
((m__law_judged p_rows q2503.1 (PyData.list ([x2531, x2532, x2533])) false q2526.2).bind fun (q2534 : Bool × Px) =>
(if q2534.1 = true then
((forO (ρ := Bool × Px) (fun (s2536 : Px) (x2540 : Int) =>
((m__law_spoilt q2501.1 p_rows s2536).bind fun (q2560 : PyData × Px) =>
((m__law_breaks 32 q2560.1 p_rows q2503.1 ([] : (List PyData))).bind fun (r2563 : Bool) =>
((m__law_judged p_rows q2503.1 q2560.1 r2563 q2560.2).bind fun (q2564 : Bool × Px) =>
(if q2564.1 = true then
some (.nx q2564.2)
else
some (.ret (false, q2564.2))))))) q2534.2 (rng 0 ((5 : Int)).toNat)).bind fun (o2559 : Out (Bool × Px) (Px)) => outB o2559 fun (s2538 : Px) =>
((some ([PyData.none, (PyData.bool true), (PyData.bool false), (PyData.int (0 : Int)), (PyData.int (1 : Int)), (PyData.int (-(1 : Int))), (PyData.str (wS ([] : List Bool))), (PyData.str (wS ([false, true] : List Bool))), (PyData.tuple ([] : List PyData)), (PyData.list ([] : List PyData)), (PyData.tuple ([(PyData.int (0 : Int))])), (PyData.tuple ([PyData.none, (PyData.int (0 : Int)), (PyData.int (1 : Int))])), (PyData.list ([(PyData.int (0 : Int)), (PyData.int (0 : Int)), (PyData.int (1 : Int))])), (PyData.tuple ([(PyData.int (0 : Int)), (PyData.int (0 : Int))])), (PyData.tuple ([(PyData.str (wS ([false] : List Bool))), (PyData.int (0 : Int)), (PyData.int (1 : Int))])), (PyData.tuple ([q2501.1]))] : (List PyData))).bind fun (d2569 : (List PyData)) =>
((m__law_take ((d2569).length : Int) s2538).bind fun (q2571 : Int × Px) =>
((atI d2569 q2571.1).bind fun (x2573 : PyData) =>
((m__law_judged p_rows q2503.1 x2573 false q2571.2).bind fun (q2575 : Bool × Px) =>
(if q2575.1 = true then
((m__law_judged p_rows q2503.1 q2501.1 true q2575.2).bind fun (q2577 : Bool × Px) =>
some (q2577.1, q2577.2))
else
some (false, q2575.2)))))))
else
some (false, q2534.2))))))
else
some (false, q2526.2))))))))))))))
else
some (false, q2505.2))))))
abbrev sp__law_turn (K : PySem.W.Frag) : Sp := GSp K (aC zA (aC (zL zW) aN)) (fun (a : Addr × (List (List Bool)) × Unit) (s : Px) => cPx a.1 s) zB (fun (a : Addr × (List (List Bool)) × Unit) (s : Px) => m__law_turn a.2.1 s)
theorem ok__law_turn (S : Tx K mg) (G__law_below : Ok P w K mg base 18 ("_law_below", none) ["pool", "tree", "many"] (sp__law_below K)) (G__law_breaks : Ok P w K mg base 34 ("_law_breaks", none) ["tree", "rows", "budgets", "ways"] ((sp__law_breaks 32) K)) (G__law_grown : Ok P w K mg base 18 ("_law_grown", none) ["pool", "rows", "lot", "root"] ((sp__law_grown 16) K)) (G__law_judged : Ok P w K mg base 38 ("_law_judged", none) ["pool", "rows", "budgets", "tree", "due"] (sp__law_judged K)) (G__law_leaves : Ok P w K mg base 17 ("_law_leaves", none) ["tree", "knots"] ((sp__law_leaves 16) K)) (G__law_spoilt : Ok P w K mg base 19 ("_law_spoilt", none) ["pool", "tree", "rows"] (sp__law_spoilt K)) (G__law_take : Ok P w K mg base 1 ("_law_take", none) ["pool", "many"] (sp__law_take K)) : Ok P w K mg base 39 ("_law_turn", none) ["pool", "rows"] (sp__law_turn K) := by
  obtain ⟨fd, D⟩ := d__law_turn S
  refine mk_ok D sc__law_turn (D.bindsN fun _ _ _ _ _ _ us hl => match us, hl with | [_, _], _ => rfl) (GSp_len len2) (fun cdv A outer s H00 vs Q E hr h => ?_)
  obtain ⟨T00, ⟨p_pool, p_rows, _⟩, s00, res, sres, hT, ⟨v_pool, _, rfl, r_pool, v_rows, _, rfl, r_rows, rfl⟩, hc, hTc, hnd, hm, hQ⟩ := h
  obtain rfl : v_pool = .ref p_pool := r_pool
  refine ⟨_, (pss_cons (ps_set (i := 2) sc__law_turn.nd rfl (.inl rfl) (pe_callG G__law_grown hr (by omega) (by rfl) (g__law_grown S) (pa_cons (pv 0) (pa_cons (pv 1) (pa_cons (pe_lc (own := [("q", 11)]) (by rfl) sc__law_turn.nd (pi_range1 (by rfl) (m_range S) (pa_cons (pe_callB (kc_len (K := K)) (by rfl) (m_len S) bt_len (pa_cons (pv 1) pa_nil)) pa_nil)) (blkOk_by (N := ["pool", "rows", "tree", "budgets", "leaves", "leaf", "raised", "k", "menu", "other", "spoilt", "q"]) (sc := defScope s__law_turn) (by decide +kernel)) (fun _ _ _ _ _ => pg_name (i := 11) sc__law_turn.nd rfl (.inl rfl)) (fun _ _ _ _ _ => pts_nil) (fun _ _ _ _ _ => (pv 11))) (pa_cons pe_bl pa_nil)))))) (pss_cons (ps_set (i := 3) sc__law_turn.nd rfl (.inl rfl) (pe_callG G__law_below hr (by omega) (by rfl) (g__law_below S) (pa_cons (pv 0) (pa_cons (pv 2) (pa_cons (pe_callB (kc_len (K := K)) (by rfl) (m_len S) bt_len (pa_cons (pv 1) pa_nil)) pa_nil))))) (pss_cons (ps_if (pt_not (pt_val (pe_callG G__law_judged hr (by omega) (by rfl) (g__law_judged S) (pa_cons (pv 0) (pa_cons (pv 1) (pa_cons (pv 3) (pa_cons (pv 2) (pa_cons pe_bl pa_nil)))))))) (pss_one (ps_ret pe_bl)) pss_nil) (pss_cons (ps_set (i := 4) sc__law_turn.nd rfl (.inl rfl) (pe_callG G__law_leaves hr (by omega) (by rfl) (g__law_leaves S) (pa_cons (pv 2) (pa_cons pe_int pa_nil)))) (pss_cons (ps_set (i := 5) sc__law_turn.nd rfl (.inl rfl) (pe_ix (kx_list (K := K)) (pv 4) (pe_callG G__law_take hr (by omega) (by rfl) (g__law_take S) (pa_cons (pv 0) (pa_cons (pe_callB (kc_len (K := K)) (by rfl) (m_len S) bt_len (pa_cons (pv 4) pa_nil)) pa_nil))) (fun _ _ => rfl))) (pss_cons (ps_set (i := 6) sc__law_turn.nd rfl (.inl rfl) (pe_callTy (kc_list (K := K)) (by rfl) (m_list S) bt_list (pa_cons (pv 3) pa_nil))) (pss_cons (ps_asg (pe_op op_add (pe_ix (kx_seq (K := K)) (pv 5) pe_int (fun _ _ => rfl)) (pe_callG G__law_take hr (by omega) (by rfl) (g__law_take S) (pa_cons (pv 0) (pa_cons pe_int pa_nil)))) (pg_sub (pv 6) (pe_ix (kx_seq (K := K)) (pv 5) pe_int (fun _ _ => rfl)) set_list)) (pss_cons (ps_if (pt_not (pt_val (pe_callG G__law_judged hr (by omega) (by rfl) (g__law_judged S) (pa_cons (pv 0) (pa_cons (pv 1) (pa_cons (pv 6) (pa_cons (pv 2) (pa_cons pe_bl pa_nil)))))))) (pss_one (ps_ret pe_bl)) pss_nil) (pss_cons (ps_if (pt_not (pt_val (pe_callG G__law_judged hr (by omega) (by rfl) (g__law_judged S) (pa_cons (pv 0) (pa_cons (pv 1) (pa_cons (pv 3) (pa_cons (pe_lst (pa_cons (pe_ix (kx_seq (K := K)) (pv 2) pe_int (fun _ _ => rfl)) (pa_cons (pe_ix (kx_seq (K := K)) (pv 2) pe_int (fun _ _ => rfl)) (pa_cons (pe_ix (kx_seq (K := K)) (pv 2) pe_int (fun _ _ => rfl)) pa_nil)))) (pa_cons pe_bl pa_nil)))))))) (pss_one (ps_ret pe_bl)) pss_nil) (pss_cons (ps_for PassesOwn.never rfl (pi_range1 (by rfl) (m_range S) (pa_cons pe_int pa_nil)) (pg_name (i := 7) sc__law_turn.nd rfl (.inl rfl)) (pss_cons (ps_set (i := 10) sc__law_turn.nd rfl (.inl rfl) (pe_callG G__law_spoilt hr (by omega) (by rfl) (g__law_spoilt S) (pa_cons (pv 0) (pa_cons (pv 2) (pa_cons (pv 1) pa_nil))))) (pss_one (ps_if (pt_not (pt_val (pe_callG G__law_judged hr (by omega) (by rfl) (g__law_judged S) (pa_cons (pv 0) (pa_cons (pv 1) (pa_cons (pv 3) (pa_cons (pv 10) (pa_cons (pe_callG G__law_breaks hr (by omega) (by rfl) (g__law_breaks S) (pa_cons (pv 10) (pa_cons (pv 1) (pa_cons (pv 3) (pa_cons (pe_lst pa_nil) pa_nil))))) pa_nil)))))))) (pss_one (ps_ret pe_bl)) pss_nil)))) (pss_cons (ps_set (i := 8) sc__law_turn.nd rfl (.inl rfl) (pe_lst (pa_cons pe_non (pa_cons pe_bl (pa_cons pe_bl (pa_cons pe_int (pa_cons pe_int (pa_cons (pe_un un_neg pe_int) (pa_cons pe_str (pa_cons pe_str (pa_cons (pe_tup pa_nil) (pa_cons (pe_lst pa_nil) (pa_cons (pe_tup (pa_cons pe_int pa_nil)) (pa_cons (pe_tup (pa_cons pe_non (pa_cons pe_int (pa_cons pe_int pa_nil)))) (pa_cons (pe_lst (pa_cons pe_int (pa_cons pe_int (pa_cons pe_int pa_nil)))) (pa_cons (pe_tup (pa_cons pe_int (pa_cons pe_int pa_nil))) (pa_cons (pe_tup (pa_cons pe_str (pa_cons pe_int (pa_cons pe_int pa_nil)))) (pa_cons (pe_tup (pa_cons (pv 2) pa_nil)) pa_nil)))))))))))))))))) (pss_cons (ps_set (i := 9) sc__law_turn.nd rfl (.inl rfl) (pe_ix (kx_list (K := K)) (pv 8) (pe_callG G__law_take hr (by omega) (by rfl) (g__law_take S) (pa_cons (pv 0) (pa_cons (pe_callB (kc_len (K := K)) (by rfl) (m_len S) bt_len (pa_cons (pv 8) pa_nil)) pa_nil))) (fun _ _ => rfl))) (pss_cons (ps_if (pt_not (pt_val (pe_callG G__law_judged hr (by omega) (by rfl) (g__law_judged S) (pa_cons (pv 0) (pa_cons (pv 1) (pa_cons (pv 3) (pa_cons (pv 9) (pa_cons pe_bl pa_nil)))))))) (pss_one (ps_ret pe_bl)) pss_nil) (pss_one (ps_ret (pe_callG G__law_judged hr (by omega) (by rfl) (g__law_judged S) (pa_cons (pv 0) (pa_cons (pv 1) (pa_cons (pv 3) (pa_cons (pv 2) (pa_cons pe_bl pa_nil))))))))))))))))))))), ?_⟩
  have E : En K ⟨T00, [p_pool], H00⟩ [(fR (zL zW) v_rows p_rows)] [(cPx p_pool s00)] T00 H00 := En.start1 (c := (cPx p_pool s00)) hT ⟨r_rows, trivial⟩ hc hTc hnd
  replace hm : m__law_turn p_rows s00 = some (res, sres) := hm
  unfold m__law_turn at hm
  refine asg_open ?_
  obtain ⟨u2499, h_u2499, hm⟩ := bnd hm
  obtain ⟨q2501, h_q2501, hm⟩ := bnd hm
  refine En.gcall E (ea_cons (ev_var (i := 0) rfl (show zA K _ _ (.ref p_pool) p_pool from rfl)) (ea_cons (ev_var (i := 1) rfl (E.rd (r := (zL zW)) (v := v_rows) (d := p_rows) 0 rfl)) (ea_cons (ev_lc1 (f := fun (x2500 : Int) => x2500) E.td (ei_range (ea_cons (ev_lenL (ev_var (i := 1) rfl (E.rd (r := (zL zW)) (v := v_rows) (d := p_rows) 0 rfl))) ea_nil) (grd_ok h_u2499).1 (grd_ok h_u2499).2) (fun T2500 H2500 v2500 x2500 L2500 hT2500 hx2500 r2500 Q2500 q2500 => q2500 _ wipe1 (ev_var (i := 11) rfl r2500))) (ea_cons ev_bl ea_nil)))) 0 rfl h_q2501 rfl fun v2502 H E => ?_
  first | refine nx_ ?_ | skip
  refine asg_open ?_
  obtain ⟨q2503, h_q2503, hm⟩ := bnd hm
  refine En.gcall E (ea_cons (ev_var (i := 0) rfl (show zA K _ _ (.ref p_pool) p_pool from rfl)) (ea_cons (ev_var (i := 2) rfl (E.rd (r := zD) (v := v2502) (d := q2501.1) 0 rfl)) (ea_cons (ev_lenL (ev_var (i := 1) rfl (E.rd (r := (zL zW)) (v := v_rows) (d := p_rows) 1 rfl))) ea_nil))) 0 rfl h_q2503 rfl fun v2504 H E => ?_
  first | refine nx_ ?_ | skip
  refine ifs_open ?_
  refine not_open ?_
  refine tb_open ?_
  obtain ⟨q2505, h_q2505, hm⟩ := bnd hm
  refine En.gcall E (ea_cons (ev_var (i := 0) rfl (show zA K _ _ (.ref p_pool) p_pool from rfl)) (ea_cons (ev_var (i := 1) rfl (E.rd (r := (zL zW)) (v := v_rows) (d := p_rows) 2 rfl)) (ea_cons (ev_var (i := 3) rfl (E.rd (r := (zL zI)) (v := v2504) (d := q2503.1) 0 rfl)) (ea_cons (ev_var (i := 2) rfl (E.rd (r := zD) (v := v2502) (d := q2501.1) 1 rfl)) (ea_cons ev_bl ea_nil))))) 0 rfl h_q2505 rfl fun v2506 H E => ?_
  refine tb2 (E.rd (r := zB) (v := v2506) (d := q2505.1) 0 rfl) (fun hc2586 => ?_) (fun hc2586 => ?_)
  · rw [if_pos hc2586] at hm
    refine iteF ?_
    first | refine nx_ ?_ | skip
    refine asg_open ?_
    obtain ⟨r2507, h_r2507, hm⟩ := bnd hm
    refine En.run E (ev_callO E.td (ea_cons (ev_var (i := 2) rfl (E.rd (r := zD) (v := v2502) (d := q2501.1) 2 rfl)) (ea_cons ev_int ea_nil)) h_r2507) fun v2508 H E => ?_
    first | refine nx_ ?_ | skip
    refine asg_open ?_
    refine op_open ?_
    refine En.run E (ev_var (i := 4) rfl (E.rd (r := (zL zD)) (v := v2508) (d := r2507) 0 rfl)) fun v2509 H E => ?_
    obtain ⟨q2510, h_q2510, hm⟩ := bnd hm
    refine En.gcall E (ea_cons (ev_var (i := 0) rfl (show zA K _ _ (.ref p_pool) p_pool from rfl)) (ea_cons (ev_lenL (ev_var (i := 4) rfl (E.rd (r := (zL zD)) (v := v2508) (d := r2507) 1 rfl))) ea_nil)) 0 rfl h_q2510 rfl fun v2511 H E => ?_
    refine of_op ?_
    obtain ⟨x2512, h_x2512, hm⟩ := bnd hm
    refine En.run E (ev_ixL (ev_var (i := 0) rfl (E.rd (r := (zL zD)) (v := v2509) (d := r2507) 1 rfl)) (ev_var (i := 1) rfl (E.rd (r := zI) (v := v2511) (d := q2510.1) 0 rfl)) h_x2512) fun v2513 H E => ?_
    first | refine nx_ ?_ | skip
    refine asg_open ?_
    obtain ⟨d2514, e_d2514, hm⟩ := bnd hm
    refine En.newL (r := zI) E (EvF.to (ef_listL (ev_var (i := 3) rfl (E.rd (r := (zL zI)) (v := v2504) (d := q2503.1) 5 rfl))) (Option.some.inj e_d2514)) fun p2515 H E => ?_
    first | refine nx_ ?_ | skip
    refine asgt_open ?_
    refine op_open ?_
    obtain ⟨x2516, h_x2516, hm⟩ := bnd hm
    refine En.run E (ev_ixD (ev_var (i := 5) rfl (E.rd (r := zD) (v := v2513) (d := x2512) 1 rfl)) ev_int h_x2516) fun v2517 H E => ?_
    obtain ⟨q2518, h_q2518, hm⟩ := bnd hm
    refine En.gcall E (ea_cons (ev_var (i := 0) rfl (show zA K _ _ (.ref p_pool) p_pool from rfl)) (ea_cons ev_int ea_nil)) 1 rfl h_q2518 rfl fun v2519 H E => ?_
    refine of_op ?_
    obtain ⟨x2520, h_x2520, hm⟩ := bnd hm
    obtain ⟨d2522, e_d2522, hm⟩ := bnd hm
    refine En.run E (Ev.to (ev_add (ev_dI (ev_var (i := 0) rfl (E.rd (r := zD) (v := v2517) (d := x2516) 1 rfl)) h_x2520) (ev_var (i := 1) rfl (E.rd (r := zI) (v := v2519) (d := q2518.1) 0 rfl))) (Option.some.inj e_d2522)) fun v2521 H E => ?_
    obtain ⟨x2523, h_x2523, hm⟩ := bnd hm
    obtain ⟨x2524, h_x2524, hm⟩ := bnd hm
    obtain ⟨d2525, e_d2525, hm⟩ := bnd hm
    refine En.setitem (r := zI) (p := p2515) (xs := d2514) E rfl 0 rfl (E.rd (r := zI) (v := v2521) (d := d2522) 0 rfl) (ev_dI (ev_ixD (ev_var (i := 5) rfl (E.rd (r := zD) (v := v2513) (d := x2512) 4 rfl)) ev_int h_x2523) h_x2524) e_d2525 fun H E => ?_
    first | refine nx_ ?_ | skip
    replace E := En.freeze (r := zI) (p := p2515) (xs := d2525) (cs := [(cPx p_pool q2518.2)]) E (by simp [owns])
    refine ifs_open ?_
    refine not_open ?_
    refine tb_open ?_
    obtain ⟨q2526, h_q2526, hm⟩ := bnd hm
    refine En.gcall E (ea_cons (ev_var (i := 0) rfl (show zA K _ _ (.ref p_pool) p_pool from rfl)) (ea_cons (ev_var (i := 1) rfl (E.rd (r := (zL zW)) (v := v_rows) (d := p_rows) 12 rfl)) (ea_cons (ev_var (i := 6) rfl (E.rd (r := (zL zI)) (v := (.ref p2515)) (d := d2525) 0 rfl)) (ea_cons (ev_var (i := 2) rfl (E.rd (r := zD) (v := v2502) (d := q2501.1) 11 rfl)) (ea_cons ev_bl ea_nil))))) 0 rfl h_q2526 rfl fun v2527 H E => ?_
    refine tb2 (E.rd (r := zB) (v := v2527) (d := q2526.1) 0 rfl) (fun hc2584 => ?_) (fun hc2584 => ?_)
    · rw [if_pos hc2584] at hm
      refine iteF ?_
      first | refine nx_ ?_ | skip
      refine ifs_open ?_
      refine not_open ?_
      refine tb_open ?_
      obtain ⟨x2531, h_x2531, hm⟩ := bnd hm
      obtain ⟨x2532, h_x2532, hm⟩ := bnd hm
      obtain ⟨x2533, h_x2533, hm⟩ := bnd hm
      obtain ⟨q2534, h_q2534, hm⟩ := bnd hm
      refine En.gcall E (ea_cons (ev_var (i := 0) rfl (show zA K _ _ (.ref p_pool) p_pool from rfl)) (ea_cons (ev_var (i := 1) rfl (E.rd (r := (zL zW)) (v := v_rows) (d := p_rows) 13 rfl)) (ea_cons (ev_var (i := 3) rfl (E.rd (r := (zL zI)) (v := v2504) (d := q2503.1) 11 rfl)) (ea_cons (ev_toDL (ev_lst (r := zD) (xs := [x2531, x2532, x2533]) E.td (eh_cons (ev_ixD (ev_var (i := 2) rfl (E.rd (r := zD) (v := v2502) (d := q2501.1) 12 rfl)) ev_int h_x2531) (eh_cons (ev_ixD (ev_var (i := 2) rfl (E.rd (r := zD) (v := v2502) (d := q2501.1) 12 rfl)) ev_int h_x2532) (eh_cons (ev_ixD (ev_var (i := 2) rfl (E.rd (r := zD) (v := v2502) (d := q2501.1) 12 rfl)) ev_int h_x2533) eh_nil))) (Nat.le_of_ble_eq_true rfl))) (ea_cons ev_bl ea_nil))))) 0 rfl h_q2534 rfl fun v2535 H E => ?_
      refine tb2 (E.rd (r := zB) (v := v2535) (d := q2534.1) 0 rfl) (fun hc2582 => ?_) (fun hc2582 => ?_)
      · rw [if_pos hc2582] at hm
        refine iteF ?_
        first | refine nx_ ?_ | skip
        obtain ⟨o2559, h_o2559, hm⟩ := bnd hm
        have hmo2542 := hm
        refine En.for_ (K := K) (fun (b2539 : Bs) (s2536 : Px) (T : AS) (σ9 : L2.St) (H9 : Hp) => ∃ (u2551 : Option V), ∃ (u2552 : Option V), ∃ (u2553 : Option V), ∃ (u2554 : Option V), ∃ (u2555 : Option V), ∃ (u2556 : Option V), ∃ (u2557 : Option V), ∃ (u2558 : Option V), σ9 = [some (.ref p_pool), some v_rows, some v2502, some v2504, u2551, u2552, u2553, u2554, u2555, u2556, u2557, u2558] ∧ En K b2539 [(fR (zL zW) v_rows p_rows), (fR zD v2502 q2501.1), (fR (zL zI) v2504 q2503.1)] [(cPx p_pool s2536)] T H9) E (ei_range (ea_cons ev_int ea_nil) (by decide) (by decide)) h_o2559 (fun H E => ⟨_, _, _, _, _, _, _, _, rfl, (En.facts (En.pick E [0] (by decide) rfl) ⟨(E.rd (r := (zL zW)) (v := v_rows) (d := p_rows) 14 rfl), (E.rd (r := zD) (v := v2502) (d := q2501.1) 13 rfl), (E.rd (r := (zL zI)) (v := v2504) (d := q2503.1) 12 rfl), trivial⟩)⟩) (by rintro _ _ _ _ _ ⟨u2551, u2552, u2553, u2554, u2555, u2556, u2557, u2558, rfl, E⟩; exact ⟨En.wd E, En.td E⟩) (fun H2 E2_2542 s2536 x2540 o2537 T _ H1 H v2541 D2542 hx2542 hI2542 ex2542 hr2542 hm hrt2542 hq2542 hn2542 hbk2542 => ?_) (fun H2 s2538 T _ H E2 ho2542 hI2542 => ?_)
        · obtain ⟨u2551, u2552, u2553, u2554, u2555, u2556, u2557, u2558, rfl, E⟩ := hI2542
          replace E := En.add (f := (fR zI v2541 x2540)) (En.ex E ex2542) hr2542
          refine gn ?_
          refine asg_open ?_
          obtain ⟨q2560, h_q2560, hm⟩ := bnd hm
          refine En.gcall E (ea_cons (ev_var (i := 0) rfl (show zA K _ _ (.ref p_pool) p_pool from rfl)) (ea_cons (ev_var (i := 2) rfl (E.rd (r := zD) (v := v2502) (d := q2501.1) 2 rfl)) (ea_cons (ev_var (i := 1) rfl (E.rd (r := (zL zW)) (v := v_rows) (d := p_rows) 1 rfl)) ea_nil))) 0 rfl h_q2560 rfl fun v2561 H E => ?_
          first | refine nx_ ?_ | skip
          refine ifs_open ?_
          refine not_open ?_
          refine tb_open ?_
          obtain ⟨r2563, h_r2563, hm⟩ := bnd hm
          obtain ⟨q2564, h_q2564, hm⟩ := bnd hm
          refine En.gcall E (ea_cons (ev_var (i := 0) rfl (show zA K _ _ (.ref p_pool) p_pool from rfl)) (ea_cons (ev_var (i := 1) rfl (E.rd (r := (zL zW)) (v := v_rows) (d := p_rows) 2 rfl)) (ea_cons (ev_var (i := 3) rfl (E.rd (r := (zL zI)) (v := v2504) (d := q2503.1) 4 rfl)) (ea_cons (ev_var (i := 10) rfl (E.rd (r := zD) (v := v2561) (d := q2560.1) 0 rfl)) (ea_cons (ev_callO E.td (ea_cons (ev_var (i := 10) rfl (E.rd (r := zD) (v := v2561) (d := q2560.1) 0 rfl)) (ea_cons (ev_var (i := 1) rfl (E.rd (r := (zL zW)) (v := v_rows) (d := p_rows) 2 rfl)) (ea_cons (ev_var (i := 3) rfl (E.rd (r := (zL zI)) (v := v2504) (d := q2503.1) 4 rfl)) (ea_cons (ev_lst (r := zD) (xs := []) E.td eh_nil (by decide)) ea_nil)))) h_r2563) ea_nil))))) 0 rfl h_q2564 rfl fun v2565 H E => ?_
          refine tb2 (E.rd (r := zB) (v := v2565) (d := q2564.1) 0 rfl) (fun hc2567 => ?_) (fun hc2567 => ?_)
          · rw [if_pos hc2567] at hm
            refine iteF ?_
            have hj9 := Option.some.inj hm
            subst o2537
            exact (hn2542 _ _ _ _ rfl ⟨_, _, _, _, _, _, _, _, rfl, (En.facts (En.pick E [0] (by decide) rfl) ⟨(E.rd (r := (zL zW)) (v := v_rows) (d := p_rows) 3 rfl), (E.rd (r := zD) (v := v2502) (d := q2501.1) 4 rfl), (E.rd (r := (zL zI)) (v := v2504) (d := q2503.1) 5 rfl), trivial⟩)⟩).1
          · rw [if_neg (by rw [hc2567]; decide)] at hm
            refine iteT ?_
            refine ret_open ?_
            refine En.run E ev_bl fun v2566 H E => ?_
            have ho2542 := Option.some.inj hm
            subst o2537
            have hm := congrArg some (outB_ret (hq2542 _ rfl) hmo2542)
            rw [hrt2542]
            have hr9 := Prod.mk.inj (Option.some.inj hm)
            have hr8 := hr9.1
            have hr7 := hr9.2
            subst res
            subst sres
            exact hQ _ _ (En.fr (En.back E2_2542 E)) (En.outc (En.back E2_2542 E) (c := (cPx p_pool q2564.2)) 0 rfl) (En.out (En.back E2_2542 E) (En.at (En.back E2_2542 E) (f := (fR zB v2566 false)) 0 rfl))
        · subst o2559
          replace hm := outB_nx hm
          obtain ⟨u2551, u2552, u2553, u2554, u2555, u2556, u2557, u2558, rfl, E⟩ := hI2542
          replace E := En.back E2 E
          first | refine nx_ ?_ | skip
          refine asg_open ?_
          obtain ⟨d2569, e_d2569, hm⟩ := bnd hm
          refine En.run E (Ev.to (ev_lst E.td (eh_cons (ev_toD ev_non) (eh_cons (ev_toD ev_bl) (eh_cons (ev_toD ev_bl) (eh_cons (ev_toD ev_int) (eh_cons (ev_toD ev_int) (eh_cons (ev_toD (ev_neg ev_int)) (eh_cons (ev_toD (ev_word [] (by decide) (by decide))) (eh_cons (ev_toD (ev_word [false, true] (by decide) (by decide))) (eh_cons (ev_toDU (ev_tupU (r := zD) (xs := []) E.td eh_nil (Nat.le_of_ble_eq_true rfl))) (eh_cons (ev_toDL (ev_lst (r := zD) (xs := []) E.td eh_nil (Nat.le_of_ble_eq_true rfl))) (eh_cons (ev_toDU (ev_tupU (r := zD) (xs := [(PyData.int (0 : Int))]) E.td (eh_cons (ev_toD ev_int) eh_nil) (Nat.le_of_ble_eq_true rfl))) (eh_cons (ev_toDU (ev_tupU (r := zD) (xs := [PyData.none, (PyData.int (0 : Int)), (PyData.int (1 : Int))]) E.td (eh_cons (ev_toD ev_non) (eh_cons (ev_toD ev_int) (eh_cons (ev_toD ev_int) eh_nil))) (Nat.le_of_ble_eq_true rfl))) (eh_cons (ev_toDL (ev_lst (r := zD) (xs := [(PyData.int (0 : Int)), (PyData.int (0 : Int)), (PyData.int (1 : Int))]) E.td (eh_cons (ev_toD ev_int) (eh_cons (ev_toD ev_int) (eh_cons (ev_toD ev_int) eh_nil))) (Nat.le_of_ble_eq_true rfl))) (eh_cons (ev_toDU (ev_tupU (r := zD) (xs := [(PyData.int (0 : Int)), (PyData.int (0 : Int))]) E.td (eh_cons (ev_toD ev_int) (eh_cons (ev_toD ev_int) eh_nil)) (Nat.le_of_ble_eq_true rfl))) (eh_cons (ev_toDU (ev_tupU (r := zD) (xs := [(PyData.str (wS ([false] : List Bool))), (PyData.int (0 : Int)), (PyData.int (1 : Int))]) E.td (eh_cons (ev_toD (ev_word [false] (by decide) (by decide))) (eh_cons (ev_toD ev_int) (eh_cons (ev_toD ev_int) eh_nil))) (Nat.le_of_ble_eq_true rfl))) (eh_cons (ev_toDU (ev_tupU (r := zD) (xs := [q2501.1]) E.td (eh_cons (ev_var (i := 2) rfl (E.rd (r := zD) (v := v2502) (d := q2501.1) 1 rfl)) eh_nil) (Nat.le_of_ble_eq_true rfl))) eh_nil)))))))))))))))) (Nat.le_of_ble_eq_true rfl)) (Option.some.inj e_d2569)) fun v2568 H E => ?_
          first | refine nx_ ?_ | skip
          refine asg_open ?_
          refine op_open ?_
          refine En.run E (ev_var (i := 8) rfl (E.rd (r := (zL zD)) (v := v2568) (d := d2569) 0 rfl)) fun v2570 H E => ?_
          obtain ⟨q2571, h_q2571, hm⟩ := bnd hm
          refine En.gcall E (ea_cons (ev_var (i := 0) rfl (show zA K _ _ (.ref p_pool) p_pool from rfl)) (ea_cons (ev_lenL (ev_var (i := 8) rfl (E.rd (r := (zL zD)) (v := v2568) (d := d2569) 1 rfl))) ea_nil)) 0 rfl h_q2571 rfl fun v2572 H E => ?_
          refine of_op ?_
          obtain ⟨x2573, h_x2573, hm⟩ := bnd hm
          refine En.run E (ev_ixL (ev_var (i := 0) rfl (E.rd (r := (zL zD)) (v := v2570) (d := d2569) 1 rfl)) (ev_var (i := 1) rfl (E.rd (r := zI) (v := v2572) (d := q2571.1) 0 rfl)) h_x2573) fun v2574 H E => ?_
          first | refine nx_ ?_ | skip
          refine ifs_open ?_
          refine not_open ?_
          refine tb_open ?_
          obtain ⟨q2575, h_q2575, hm⟩ := bnd hm
          refine En.gcall E (ea_cons (ev_var (i := 0) rfl (show zA K _ _ (.ref p_pool) p_pool from rfl)) (ea_cons (ev_var (i := 1) rfl (E.rd (r := (zL zW)) (v := v_rows) (d := p_rows) 4 rfl)) (ea_cons (ev_var (i := 3) rfl (E.rd (r := (zL zI)) (v := v2504) (d := q2503.1) 6 rfl)) (ea_cons (ev_var (i := 9) rfl (E.rd (r := zD) (v := v2574) (d := x2573) 0 rfl)) (ea_cons ev_bl ea_nil))))) 0 rfl h_q2575 rfl fun v2576 H E => ?_
          refine tb2 (E.rd (r := zB) (v := v2576) (d := q2575.1) 0 rfl) (fun hc2580 => ?_) (fun hc2580 => ?_)
          · rw [if_pos hc2580] at hm
            refine iteF ?_
            first | refine nx_ ?_ | skip
            refine ret_open ?_
            obtain ⟨q2577, h_q2577, hm⟩ := bnd hm
            refine En.gcall E (ea_cons (ev_var (i := 0) rfl (show zA K _ _ (.ref p_pool) p_pool from rfl)) (ea_cons (ev_var (i := 1) rfl (E.rd (r := (zL zW)) (v := v_rows) (d := p_rows) 5 rfl)) (ea_cons (ev_var (i := 3) rfl (E.rd (r := (zL zI)) (v := v2504) (d := q2503.1) 7 rfl)) (ea_cons (ev_var (i := 2) rfl (E.rd (r := zD) (v := v2502) (d := q2501.1) 6 rfl)) (ea_cons ev_bl ea_nil))))) 0 rfl h_q2577 rfl fun v2578 H E => ?_
            have hr9 := Prod.mk.inj (Option.some.inj hm)
            have hr8 := hr9.1
            have hr7 := hr9.2
            subst res
            subst sres
            exact hQ _ _ (En.fr E) (En.outc E (c := (cPx p_pool q2577.2)) 0 rfl) (En.out E (En.at E (f := (fR zB v2578 q2577.1)) 0 rfl))
          · rw [if_neg (by rw [hc2580]; decide)] at hm
            refine iteT ?_
            refine ret_open ?_
            refine En.run E ev_bl fun v2579 H E => ?_
            have hr9 := Prod.mk.inj (Option.some.inj hm)
            have hr8 := hr9.1
            have hr7 := hr9.2
            subst res
            subst sres
            exact hQ _ _ (En.fr E) (En.outc E (c := (cPx p_pool q2575.2)) 0 rfl) (En.out E (En.at E (f := (fR zB v2579 false)) 0 rfl))
      · rw [if_neg (by rw [hc2582]; decide)] at hm
        refine iteT ?_
        refine ret_open ?_
        refine En.run E ev_bl fun v2581 H E => ?_
        have hr9 := Prod.mk.inj (Option.some.inj hm)
        have hr8 := hr9.1
        have hr7 := hr9.2
        subst res
        subst sres
        exact hQ _ _ (En.fr E) (En.outc E (c := (cPx p_pool q2534.2)) 0 rfl) (En.out E (En.at E (f := (fR zB v2581 false)) 0 rfl))
    · rw [if_neg (by rw [hc2584]; decide)] at hm
      refine iteT ?_
      refine ret_open ?_
      refine En.run E ev_bl fun v2583 H E => ?_
      have hr9 := Prod.mk.inj (Option.some.inj hm)
      have hr8 := hr9.1
      have hr7 := hr9.2
      subst res
      subst sres
      exact hQ _ _ (En.fr E) (En.outc E (c := (cPx p_pool q2526.2)) 0 rfl) (En.out E (En.at E (f := (fR zB v2583 false)) 0 rfl))
  · rw [if_neg (by rw [hc2586]; decide)] at hm
    refine iteT ?_
    refine ret_open ?_
    refine En.run E ev_bl fun v2585 H E => ?_
    have hr9 := Prod.mk.inj (Option.some.inj hm)
    have hr8 := hr9.1
    have hr7 := hr9.2
    subst res
    subst sres
    exact hQ _ _ (En.fr E) (En.outc E (c := (cPx p_pool q2505.2)) 0 rfl) (En.out E (En.at E (f := (fR zB v2585 false)) 0 rfl))

def m__law_refused (p_rows : PyData) (p_budgets : PyData) (p_tree : PyData) : Option PyData :=
catE (m_judge_point_tree p_rows p_budgets p_tree) (fun (d2588 : Bool) =>
some (PyData.list ([(PyData.str ("told" : Str)), PyData.none]))) (fun (k2589 : Str × Str) (y2590 : PyData) =>
(if k2589 = (("InvalidBudgets" : Str), ("budgets" : Str)) then
(if (false || (!true)) = true then
some (PyData.list ([(PyData.str ("odd" : Str)), PyData.none]))
else
some (PyData.list ([(PyData.str ("budgets" : Str)), y2590])))
else
(if k2589 = (("InvalidRows" : Str), ("rows" : Str)) then
(if (false || (false || (!true))) = true then
some (PyData.list ([(PyData.str ("odd" : Str)), PyData.none]))
else
some (PyData.list ([(PyData.str ("rows" : Str)), y2590])))
else
none)))
abbrev sp__law_refused (K : PySem.W.Frag) : Sp := FSp K (aC zD (aC zD (aC zD aN))) zD (fun (a : PyData × PyData × PyData × Unit) => m__law_refused a.1 a.2.1 a.2.2.1)
theorem ok__law_refused (S : Tx K mg) (G_judge_point_tree : OkX P w K mg base 37 ("judge_point_tree", none) ["rows", "budgets", "tree"] (sp_judge_point_tree K)) : Ok P w K mg base 38 ("_law_refused", none) ["rows", "budgets", "tree"] (sp__law_refused K) := by
  obtain ⟨fd, D⟩ := d__law_refused S
  refine mk_ok D sc__law_refused (D.bindsN fun _ _ _ _ _ _ us hl => match us, hl with | [_, _, _], _ => rfl) (FSp_len len3) (fun cdv A outer s H00 vs Q E hr h => ?_)
  obtain ⟨T00, ⟨p_rows, p_budgets, p_tree, _⟩, res, hT, ⟨v_rows, _, rfl, r_rows, v_budgets, _, rfl, r_budgets, v_tree, _, rfl, r_tree, rfl⟩, hm, hQ⟩ := h
  refine ⟨_, (pss_cons (ps_try_manyAs rfl rfl sc__law_refused.nd takesNo (fun W2587 pn2587 xe2587 tk2587 hp2587 => (pss_one (ps_expr (px_call G_judge_point_tree (fun σ => passAt tk2587 σ) hr (by omega) (by rfl) (g_judge_point_tree S) (pa_cons (pv 0) (pa_cons (pv 1) (pa_cons (pv 2) pa_nil))))))) (.cons (i := 3) rfl rfl ⟨rfl, by decide, .inl (g_InvalidRows S)⟩ (fun a9 oe9 cls9 d9 pn9 hz9 hf9 => (pss_cons (ps_if (PW.pt (pw_or (pt_val (pe_callB (kx_isX (K := K) hz9 hf9) (by rfl) (m_isinstance S) bt_isinstance (pa_cons (pv 3) (pa_cons (pe_glob (v := .ref (He.ga K "InvalidBudgets")) (by rfl) (g_InvalidBudgets S) rfl) pa_nil)))) (pw_or (pt_val (pe_callB (kx_isX (K := K) hz9 hf9) (by rfl) (m_isinstance S) bt_isinstance (pa_cons (pv 3) (pa_cons (pe_glob (v := .ref (He.ga K "InvalidNumber")) (by rfl) (g_InvalidNumber S) rfl) pa_nil)))) (pw_or1 (pt_not (pt_val (pe_callB (kx_isX (K := K) hz9 hf9) (by rfl) (m_isinstance S) bt_isinstance (pa_cons (pv 3) (pa_cons (pe_glob (v := .ref (He.ga K "BudgetError")) (by rfl) (g_BudgetError S) rfl) pa_nil))))))))) (pss_one (ps_ret (pe_lst (pa_cons pe_str (pa_cons pe_non pa_nil))))) pss_nil) (pss_one (ps_ret (pe_lst (pa_cons pe_str (pa_cons (kx_xf (K := K) (er_InvalidRows S).xf (er_InvalidRows S).nof hz9 hf9 (pv 3)) pa_nil))))))) (.cons (i := 3) rfl rfl ⟨rfl, by decide, .inl (g_InvalidBudgets S)⟩ (fun a9 oe9 cls9 d9 pn9 hz9 hf9 => (pss_cons (ps_if (PW.pt (pw_or (pt_val (pe_callB (kx_isX (K := K) hz9 hf9) (by rfl) (m_isinstance S) bt_isinstance (pa_cons (pv 3) (pa_cons (pe_glob (v := .ref (He.ga K "InvalidNumber")) (by rfl) (g_InvalidNumber S) rfl) pa_nil)))) (pw_or1 (pt_not (pt_val (pe_callB (kx_isX (K := K) hz9 hf9) (by rfl) (m_isinstance S) bt_isinstance (pa_cons (pv 3) (pa_cons (pe_glob (v := .ref (He.ga K "BudgetError")) (by rfl) (g_BudgetError S) rfl) pa_nil)))))))) (pss_one (ps_ret (pe_lst (pa_cons pe_str (pa_cons pe_non pa_nil))))) pss_nil) (pss_one (ps_ret (pe_lst (pa_cons pe_str (pa_cons (kx_xf (K := K) (er_InvalidBudgets S).xf (er_InvalidBudgets S).nof hz9 hf9 (pv 3)) pa_nil))))))) .nil))) (pss_one (ps_ret (pe_lst (pa_cons pe_str (pa_cons pe_non pa_nil)))))), ?_⟩
  have E : En K ⟨T00, [], H00⟩ [(fR zD v_rows p_rows), (fR zD v_budgets p_budgets), (fR zD v_tree p_tree)] [] T00 H00 := En.start hT ⟨r_rows, r_budgets, r_tree, trivial⟩
  replace hm : m__law_refused p_rows p_budgets p_tree = some res := hm
  unfold m__law_refused at hm
  rcases catE_or hm with ⟨d2588, h_d2588, hm⟩ | ⟨k2589, y2590, h_d2588, hm⟩
  · refine drop_open ?_
    refine En.run E (ev_callX E.td (ea_cons (ev_var (i := 0) rfl (E.rd (r := zD) (v := v_rows) (d := p_rows) 0 rfl)) (ea_cons (ev_var (i := 1) rfl (E.rd (r := zD) (v := v_budgets) (d := p_budgets) 1 rfl)) (ea_cons (ev_var (i := 2) rfl (E.rd (r := zD) (v := v_tree) (d := p_tree) 2 rfl)) ea_nil))) h_d2588) fun v2591 H E => ?_
    first | refine nx_ ?_ | skip
    refine ret_open ?_
    refine En.run E (ev_toDL (ev_lst (r := zD) (xs := [(PyData.str ("told" : Str)), PyData.none]) E.td (eh_cons (ev_toD ev_str) (eh_cons (ev_toD ev_non) eh_nil)) (Nat.le_of_ble_eq_true rfl))) fun v2592 H E => ?_
    have hr9 := Option.some.inj hm
    subst res
    exact hQ _ _ (En.isEx E) (En.out E (En.at E (f := (fR zD v2592 (PyData.list ([(PyData.str ("told" : Str)), PyData.none])))) 0 rfl))
  · refine st_dropE (ee_callX E.td (ea_cons (ev_var (i := 0) rfl (E.rd (r := zD) (v := v_rows) (d := p_rows) 0 rfl)) (ea_cons (ev_var (i := 1) rfl (E.rd (r := zD) (v := v_budgets) (d := p_budgets) 1 rfl)) (ea_cons (ev_var (i := 2) rfl (E.rd (r := zD) (v := v_tree) (d := p_tree) 2 rfl)) ea_nil))) h_d2588) (En.err (e := ⟨k2589, y2590⟩) E fun p2593 H E => ?_)
    by_cases hk2606 : k2589 = (("InvalidBudgets" : Str), ("budgets" : Str))
    · rw [if_pos hk2606] at hm
      subst hk2606
      refine wm_no (of_decide_eq_true (x_3 S)) ?_
      refine wm_yes (of_decide_eq_true (x_4 S)) fun a2594 haa2594 => ?_
      refine ifs_open ?_
      refine En.test E (et_or (et_B (K := K) (ev_isX (i := 3) (er_InvalidBudgets S).is (x_5 S) rfl (E.rd (r := (zX "budgets")) (v := (.ref p2593)) (d := y2590) 0 rfl))) fun hc2595 => (et_not (et_B (K := K) (ev_isX (i := 3) (er_InvalidBudgets S).is (x_6 S) rfl (E.rd (r := (zX "budgets")) (v := (.ref p2593)) (d := y2590) 0 rfl))))) fun H E => ?_
      refine iteB (fun hc2598 => ?_) (fun hc2598 => ?_)
      · rw [if_pos hc2598] at hm
        refine ret_open ?_
        refine En.run E (ev_toDL (ev_lst (r := zD) (xs := [(PyData.str ("odd" : Str)), PyData.none]) E.td (eh_cons (ev_toD ev_str) (eh_cons (ev_toD ev_non) eh_nil)) (Nat.le_of_ble_eq_true rfl))) fun v2596 H E => ?_
        have hr9 := Option.some.inj hm
        subst res
        exact hQ _ _ (En.isEx E) (En.out E (En.at E (f := (fR zD v2596 (PyData.list ([(PyData.str ("odd" : Str)), PyData.none])))) 0 rfl))
      · rw [if_neg (by rw [hc2598]; decide)] at hm
        first | refine nx_ ?_ | skip
        refine ret_open ?_
        refine En.run E (ev_toDL (ev_lst (r := zD) (xs := [(PyData.str ("budgets" : Str)), y2590]) E.td (eh_cons (ev_toD ev_str) (eh_cons (ev_xf (i := 3) rfl (E.rd (r := (zX "budgets")) (v := (.ref p2593)) (d := y2590) 0 rfl)) eh_nil)) (Nat.le_of_ble_eq_true rfl))) fun v2597 H E => ?_
        have hr9 := Option.some.inj hm
        subst res
        exact hQ _ _ (En.isEx E) (En.out E (En.at E (f := (fR zD v2597 (PyData.list ([(PyData.str ("budgets" : Str)), y2590])))) 0 rfl))
    · rw [if_neg hk2606] at hm
      by_cases hk2605 : k2589 = (("InvalidRows" : Str), ("rows" : Str))
      · rw [if_pos hk2605] at hm
        subst hk2605
        refine wm_yes (of_decide_eq_true (x_7 S)) fun a2599 haa2599 => ?_
        refine ifs_open ?_
        refine En.test E (et_or (et_B (K := K) (ev_isX (i := 3) (er_InvalidRows S).is (x_8 S) rfl (E.rd (r := (zX "rows")) (v := (.ref p2593)) (d := y2590) 0 rfl))) fun hc2601 => (et_or (et_B (K := K) (ev_isX (i := 3) (er_InvalidRows S).is (x_9 S) rfl (E.rd (r := (zX "rows")) (v := (.ref p2593)) (d := y2590) 0 rfl))) fun hc2600 => (et_not (et_B (K := K) (ev_isX (i := 3) (er_InvalidRows S).is (x_10 S) rfl (E.rd (r := (zX "rows")) (v := (.ref p2593)) (d := y2590) 0 rfl)))))) fun H E => ?_
        refine iteB (fun hc2604 => ?_) (fun hc2604 => ?_)
        · rw [if_pos hc2604] at hm
          refine ret_open ?_
          refine En.run E (ev_toDL (ev_lst (r := zD) (xs := [(PyData.str ("odd" : Str)), PyData.none]) E.td (eh_cons (ev_toD ev_str) (eh_cons (ev_toD ev_non) eh_nil)) (Nat.le_of_ble_eq_true rfl))) fun v2602 H E => ?_
          have hr9 := Option.some.inj hm
          subst res
          exact hQ _ _ (En.isEx E) (En.out E (En.at E (f := (fR zD v2602 (PyData.list ([(PyData.str ("odd" : Str)), PyData.none])))) 0 rfl))
        · rw [if_neg (by rw [hc2604]; decide)] at hm
          first | refine nx_ ?_ | skip
          refine ret_open ?_
          refine En.run E (ev_toDL (ev_lst (r := zD) (xs := [(PyData.str ("rows" : Str)), y2590]) E.td (eh_cons (ev_toD ev_str) (eh_cons (ev_xf (i := 3) rfl (E.rd (r := (zX "rows")) (v := (.ref p2593)) (d := y2590) 0 rfl)) eh_nil)) (Nat.le_of_ble_eq_true rfl))) fun v2603 H E => ?_
          have hr9 := Option.some.inj hm
          subst res
          exact hQ _ _ (En.isEx E) (En.out E (En.at E (f := (fR zD v2603 (PyData.list ([(PyData.str ("rows" : Str)), y2590])))) 0 rfl))
      · rw [if_neg hk2605] at hm
        cases hm

def m__law_refusals (p_rows : (List (List Bool))) (p_tree : PyData) (s00 : Px) : Option (Bool × Px) :=
((m__law_bad_rows p_rows s00).bind fun (q2607 : PyData × Px) =>
((m__law_bad_budgets ((p_rows).map fun (x2610 : (List Bool)) => (0 : Int)) q2607.2).bind fun (q2611 : PyData × Px) =>
((m__law_copy 16 q2607.1).bind fun (r2613 : PyData) =>
((m__law_copy 16 q2611.1).bind fun (r2615 : PyData) =>
((m__law_refused (Tod.toD (zL zW) p_rows) q2611.1 p_tree).bind fun (r2620 : PyData) =>
((m__law_alike 16 r2620 (PyData.list ([(PyData.str ("budgets" : Str)), r2615]))).bind fun (r2621 : Bool) =>
(if (!r2621) = true then
some (false, q2611.2)
else
((m__law_refused q2607.1 q2611.1 p_tree).bind fun (r2623 : PyData) =>
((m__law_refused q2607.1 (Tod.toD (zL zI) ((p_rows).map fun (x2627 : (List Bool)) => (0 : Int))) p_tree).bind fun (r2628 : PyData) =>
((some ([r2623, r2628] : (List PyData))).bind fun (d2630 : (List PyData)) =>
((m__law_alike 16 (PyData.list d2630) (PyData.list ([(PyData.list ([(PyData.str ("rows" : Str)), r2613])), (PyData.list ([(PyData.str ("rows" : Str)), r2613]))]))).bind fun (r2631 : Bool) =>
(if (!r2631) = true then
some (false, q2611.2)
else
((m__law_alike 16 q2607.1 r2613).bind fun (r2633 : Bool) =>
((if r2633 = true then ((m__law_alike 16 q2611.1 r2615).bind fun (r2634 : Bool) =>
some r2634) else some false).bind fun (b2636 : Bool) =>
some (b2636, q2611.2)))))))))))))))
abbrev sp__law_refusals (K : PySem.W.Frag) : Sp := GSp K (aC zA (aC (zL zW) (aC zD aN))) (fun (a : Addr × (List (List Bool)) × PyData × Unit) (s : Px) => cPx a.1 s) zB (fun (a : Addr × (List (List Bool)) × PyData × Unit) (s : Px) => m__law_refusals a.2.1 a.2.2.1 s)
theorem ok__law_refusals (S : Tx K mg) (G__law_alike : Ok P w K mg base 18 ("_law_alike", none) ["one", "other"] ((sp__law_alike 16) K)) (G__law_bad_budgets : Ok P w K mg base 3 ("_law_bad_budgets", none) ["pool", "budgets"] (sp__law_bad_budgets K)) (G__law_bad_rows : Ok P w K mg base 3 ("_law_bad_rows", none) ["pool", "rows"] (sp__law_bad_rows K)) (G__law_copy : Ok P w K mg base 17 ("_law_copy", none) ["value"] ((sp__law_copy 16) K)) (G__law_refused : Ok P w K mg base 38 ("_law_refused", none) ["rows", "budgets", "tree"] (sp__law_refused K)) : Ok P w K mg base 39 ("_law_refusals", none) ["pool", "rows", "tree"] (sp__law_refusals K) := by
  obtain ⟨fd, D⟩ := d__law_refusals S
  refine mk_ok D sc__law_refusals (D.bindsN fun _ _ _ _ _ _ us hl => match us, hl with | [_, _, _], _ => rfl) (GSp_len len3) (fun cdv A outer s H00 vs Q E hr h => ?_)
  obtain ⟨T00, ⟨p_pool, p_rows, p_tree, _⟩, s00, res, sres, hT, ⟨v_pool, _, rfl, r_pool, v_rows, _, rfl, r_rows, v_tree, _, rfl, r_tree, rfl⟩, hc, hTc, hnd, hm, hQ⟩ := h
  obtain rfl : v_pool = .ref p_pool := r_pool
  refine ⟨_, (pss_cons (ps_set (i := 3) sc__law_refusals.nd rfl (.inl rfl) (pe_callG G__law_bad_rows hr (by omega) (by rfl) (g__law_bad_rows S) (pa_cons (pv 0) (pa_cons (pv 1) pa_nil)))) (pss_cons (ps_set (i := 4) sc__law_refusals.nd rfl (.inl rfl) (pe_callG G__law_bad_budgets hr (by omega) (by rfl) (g__law_bad_budgets S) (pa_cons (pv 0) (pa_cons (pe_lc (own := [("row", 8)]) (by rfl) sc__law_refusals.nd (kp_list (K := K) (pv 1)) (blkOk_by (N := ["pool", "rows", "tree", "bad_rows", "bad_budgets", "kept_rows", "kept_budgets", "told", "row"]) (sc := defScope s__law_refusals) (by decide +kernel)) (fun _ _ _ _ _ => pg_name (i := 8) sc__law_refusals.nd rfl (.inl rfl)) (fun _ _ _ _ _ => pts_nil) (fun _ _ _ _ _ => pe_int)) pa_nil)))) (pss_cons (ps_set (i := 5) sc__law_refusals.nd rfl (.inl rfl) (pe_callG G__law_copy hr (by omega) (by rfl) (g__law_copy S) (pa_cons (pv 3) pa_nil))) (pss_cons (ps_set (i := 6) sc__law_refusals.nd rfl (.inl rfl) (pe_callG G__law_copy hr (by omega) (by rfl) (g__law_copy S) (pa_cons (pv 4) pa_nil))) (pss_cons (ps_if (pt_not (pt_val (pe_callG G__law_alike hr (by omega) (by rfl) (g__law_alike S) (pa_cons (pe_callG G__law_refused hr (by omega) (by rfl) (g__law_refused S) (pa_cons (pe_callTy (kc_list (K := K)) (by rfl) (m_list S) bt_list (pa_cons (pv 1) pa_nil)) (pa_cons (pv 4) (pa_cons (pv 2) pa_nil)))) (pa_cons (pe_lst (pa_cons pe_str (pa_cons (pv 6) pa_nil))) pa_nil))))) (pss_one (ps_ret pe_bl)) pss_nil) (pss_cons (ps_set (i := 7) sc__law_refusals.nd rfl (.inl rfl) (pe_lst (pa_cons (pe_callG G__law_refused hr (by omega) (by rfl) (g__law_refused S) (pa_cons (pv 3) (pa_cons (pv 4) (pa_cons (pv 2) pa_nil)))) (pa_cons (pe_callG G__law_refused hr (by omega) (by rfl) (g__law_refused S) (pa_cons (pv 3) (pa_cons (pe_lc (own := [("row", 8)]) (by rfl) sc__law_refusals.nd (kp_list (K := K) (pv 1)) (blkOk_by (N := ["pool", "rows", "tree", "bad_rows", "bad_budgets", "kept_rows", "kept_budgets", "told", "row"]) (sc := defScope s__law_refusals) (by decide +kernel)) (fun _ _ _ _ _ => pg_name (i := 8) sc__law_refusals.nd rfl (.inl rfl)) (fun _ _ _ _ _ => pts_nil) (fun _ _ _ _ _ => pe_int)) (pa_cons (pv 2) pa_nil)))) pa_nil)))) (pss_cons (ps_if (pt_not (pt_val (pe_callG G__law_alike hr (by omega) (by rfl) (g__law_alike S) (pa_cons (pv 7) (pa_cons (pe_lst (pa_cons (pe_lst (pa_cons pe_str (pa_cons (pv 5) pa_nil))) (pa_cons (pe_lst (pa_cons pe_str (pa_cons (pv 5) pa_nil))) pa_nil))) pa_nil))))) (pss_one (ps_ret pe_bl)) pss_nil) (pss_one (ps_ret (pe_and (pe_callG G__law_alike hr (by omega) (by rfl) (g__law_alike S) (pa_cons (pv 3) (pa_cons (pv 5) pa_nil))) (pe_one (pe_callG G__law_alike hr (by omega) (by rfl) (g__law_alike S) (pa_cons (pv 4) (pa_cons (pv 6) pa_nil)))))))))))))), ?_⟩
  have E : En K ⟨T00, [p_pool], H00⟩ [(fR (zL zW) v_rows p_rows), (fR zD v_tree p_tree)] [(cPx p_pool s00)] T00 H00 := En.start1 (c := (cPx p_pool s00)) hT ⟨r_rows, r_tree, trivial⟩ hc hTc hnd
  replace hm : m__law_refusals p_rows p_tree s00 = some (res, sres) := hm
  unfold m__law_refusals at hm
  refine asg_open ?_
  obtain ⟨q2607, h_q2607, hm⟩ := bnd hm
  refine En.gcall E (ea_cons (ev_var (i := 0) rfl (show zA K _ _ (.ref p_pool) p_pool from rfl)) (ea_cons (ev_var (i := 1) rfl (E.rd (r := (zL zW)) (v := v_rows) (d := p_rows) 0 rfl)) ea_nil)) 0 rfl h_q2607 rfl fun v2608 H E => ?_
  first | refine nx_ ?_ | skip
  refine asg_open ?_
  obtain ⟨q2611, h_q2611, hm⟩ := bnd hm
  refine En.gcall E (ea_cons (ev_var (i := 0) rfl (show zA K _ _ (.ref p_pool) p_pool from rfl)) (ea_cons (ev_lc1 (f := fun (x2610 : (List Bool)) => (0 : Int)) E.td (ei_list (ev_var (i := 1) rfl (E.rd (r := (zL zW)) (v := v_rows) (d := p_rows) 1 rfl))) (fun T2610 H2610 v2610 x2610 L2610 hT2610 hx2610 r2610 Q2610 q2610 => q2610 _ wipe1 ev_int)) ea_nil)) 0 rfl h_q2611 rfl fun v2612 H E => ?_
  first | refine nx_ ?_ | skip
  refine asg_open ?_
  obtain ⟨r2613, h_r2613, hm⟩ := bnd hm
  refine En.run E (ev_callO E.td (ea_cons (ev_var (i := 3) rfl (E.rd (r := zD) (v := v2608) (d := q2607.1) 1 rfl)) ea_nil) h_r2613) fun v2614 H E => ?_
  first | refine nx_ ?_ | skip
  refine asg_open ?_
  obtain ⟨r2615, h_r2615, hm⟩ := bnd hm
  refine En.run E (ev_callO E.td (ea_cons (ev_var (i := 4) rfl (E.rd (r := zD) (v := v2612) (d := q2611.1) 1 rfl)) ea_nil) h_r2615) fun v2616 H E => ?_
  first | refine nx_ ?_ | skip
  refine ifs_open ?_
  obtain ⟨r2620, h_r2620, hm⟩ := bnd hm
  obtain ⟨r2621, h_r2621, hm⟩ := bnd hm
  refine En.test E (et_not (et_B (K := K) (ev_callO E.td (ea_cons (ev_callO E.td (ea_cons (ev_toD (ev_listL E.td (ev_var (i := 1) rfl (E.rd (r := (zL zW)) (v := v_rows) (d := p_rows) 4 rfl)))) (ea_cons (ev_var (i := 4) rfl (E.rd (r := zD) (v := v2612) (d := q2611.1) 2 rfl)) (ea_cons (ev_var (i := 2) rfl (E.rd (r := zD) (v := v_tree) (d := p_tree) 5 rfl)) ea_nil))) h_r2620) (ea_cons (ev_toDL (ev_lst (r := zD) (xs := [(PyData.str ("budgets" : Str)), r2615]) E.td (eh_cons (ev_toD ev_str) (eh_cons (ev_var (i := 6) rfl (E.rd (r := zD) (v := v2616) (d := r2615) 0 rfl)) eh_nil)) (Nat.le_of_ble_eq_true rfl))) ea_nil)) h_r2621))) fun H E => ?_
  refine iteB (fun hc2640 => ?_) (fun hc2640 => ?_)
  · rw [if_pos hc2640] at hm
    refine ret_open ?_
    refine En.run E ev_bl fun v2622 H E => ?_
    have hr9 := Prod.mk.inj (Option.some.inj hm)
    have hr8 := hr9.1
    have hr7 := hr9.2
    subst res
    subst sres
    exact hQ _ _ (En.fr E) (En.outc E (c := (cPx p_pool q2611.2)) 0 rfl) (En.out E (En.at E (f := (fR zB v2622 false)) 0 rfl))
  · rw [if_neg (by rw [hc2640]; decide)] at hm
    first | refine nx_ ?_ | skip
    refine asg_open ?_
    obtain ⟨r2623, h_r2623, hm⟩ := bnd hm
    obtain ⟨r2628, h_r2628, hm⟩ := bnd hm
    obtain ⟨d2630, e_d2630, hm⟩ := bnd hm
    refine En.run E (Ev.to (ev_lst E.td (eh_cons (ev_callO E.td (ea_cons (ev_var (i := 3) rfl (E.rd (r := zD) (v := v2608) (d := q2607.1) 3 rfl)) (ea_cons (ev_var (i := 4) rfl (E.rd (r := zD) (v := v2612) (d := q2611.1) 2 rfl)) (ea_cons (ev_var (i := 2) rfl (E.rd (r := zD) (v := v_tree) (d := p_tree) 5 rfl)) ea_nil))) h_r2623) (eh_cons (ev_callO E.td (ea_cons (ev_var (i := 3) rfl (E.rd (r := zD) (v := v2608) (d := q2607.1) 3 rfl)) (ea_cons (ev_toD (ev_lc1 (f := fun (x2627 : (List Bool)) => (0 : Int)) E.td (ei_list (ev_var (i := 1) rfl (E.rd (r := (zL zW)) (v := v_rows) (d := p_rows) 4 rfl))) (fun T2627 H2627 v2627 x2627 L2627 hT2627 hx2627 r2627 Q2627 q2627 => q2627 _ wipe1 ev_int))) (ea_cons (ev_var (i := 2) rfl (E.rd (r := zD) (v := v_tree) (d := p_tree) 5 rfl)) ea_nil))) h_r2628) eh_nil)) (Nat.le_of_ble_eq_true rfl)) (Option.some.inj e_d2630)) fun v2629 H E => ?_
    first | refine nx_ ?_ | skip
    refine ifs_open ?_
    obtain ⟨r2631, h_r2631, hm⟩ := bnd hm
    refine En.test E (et_not (et_B (K := K) (ev_callO E.td (ea_cons (ev_toDL (ev_var (i := 7) rfl (E.rd (r := (zL zD)) (v := v2629) (d := d2630) 0 rfl))) (ea_cons (ev_toDL (ev_lst (r := zD) (xs := [(PyData.list ([(PyData.str ("rows" : Str)), r2613])), (PyData.list ([(PyData.str ("rows" : Str)), r2613]))]) E.td (eh_cons (ev_toDL (ev_lst (r := zD) (xs := [(PyData.str ("rows" : Str)), r2613]) E.td (eh_cons (ev_toD ev_str) (eh_cons (ev_var (i := 5) rfl (E.rd (r := zD) (v := v2614) (d := r2613) 2 rfl)) eh_nil)) (Nat.le_of_ble_eq_true rfl))) (eh_cons (ev_toDL (ev_lst (r := zD) (xs := [(PyData.str ("rows" : Str)), r2613]) E.td (eh_cons (ev_toD ev_str) (eh_cons (ev_var (i := 5) rfl (E.rd (r := zD) (v := v2614) (d := r2613) 2 rfl)) eh_nil)) (Nat.le_of_ble_eq_true rfl))) eh_nil)) (Nat.le_of_ble_eq_true rfl))) ea_nil)) h_r2631))) fun H E => ?_
    refine iteB (fun hc2639 => ?_) (fun hc2639 => ?_)
    · rw [if_pos hc2639] at hm
      refine ret_open ?_
      refine En.run E ev_bl fun v2632 H E => ?_
      have hr9 := Prod.mk.inj (Option.some.inj hm)
      have hr8 := hr9.1
      have hr7 := hr9.2
      subst res
      subst sres
      exact hQ _ _ (En.fr E) (En.outc E (c := (cPx p_pool q2611.2)) 0 rfl) (En.out E (En.at E (f := (fR zB v2632 false)) 0 rfl))
    · rw [if_neg (by rw [hc2639]; decide)] at hm
      first | refine nx_ ?_ | skip
      refine ret_open ?_
      obtain ⟨r2633, h_r2633, hm⟩ := bnd hm
      obtain ⟨b2636, h_b2636, hm⟩ := bnd hm
      refine En.run E (ev_andO (ev_callO E.td (ea_cons (ev_var (i := 3) rfl (E.rd (r := zD) (v := v2608) (d := q2607.1) 4 rfl)) (ea_cons (ev_var (i := 5) rfl (E.rd (r := zD) (v := v2614) (d := r2613) 2 rfl)) ea_nil)) h_r2633) (fun hc2635 y2637 hy2637 => by
          obtain ⟨r2634, h_r2634, hy2637⟩ := bnd hy2637; cases hy2637; exact (ev_callO E.td (ea_cons (ev_var (i := 4) rfl (E.rd (r := zD) (v := v2612) (d := q2611.1) 3 rfl)) (ea_cons (ev_var (i := 6) rfl (E.rd (r := zD) (v := v2616) (d := r2615) 1 rfl)) ea_nil)) h_r2634)) h_b2636) fun v2638 H E => ?_
      have hr9 := Prod.mk.inj (Option.some.inj hm)
      have hr8 := hr9.1
      have hr7 := hr9.2
      subst res
      subst sres
      exact hQ _ _ (En.fr E) (En.outc E (c := (cPx p_pool q2611.2)) 0 rfl) (En.out E (En.at E (f := (fR zB v2638 b2636)) 0 rfl))

def m__law_scene  : Option Bool :=
((some ([([false, false] : List Bool), ([false, true] : List Bool), ([true, false] : List Bool), ([true, true] : List Bool)] : (List (List Bool)))).bind fun (d2642 : (List (List Bool))) =>
((some (PyData.tuple ([(PyData.int (1 : Int)), (PyData.int (0 : Int)), (PyData.int (1 : Int))]))).bind fun (d2644 : PyData) =>
((some (PyData.tuple ([(PyData.int (1 : Int)), (PyData.int (2 : Int)), (PyData.int (3 : Int))]))).bind fun (d2646 : PyData) =>
((okX (m_judge_point_tree (Tod.toD (zL zW) d2642) (PyData.list ([(PyData.int (1 : Int)), (PyData.int (1 : Int)), (PyData.int (1 : Int)), (PyData.int (1 : Int))])) (PyData.tuple ([(PyData.int (0 : Int)), d2644, d2646])))).bind fun (r2647 : Bool) =>
((okX (m_judge_point_tree (Tod.toD (zL zW) d2642) (PyData.list ([(PyData.int (0 : Int)), (PyData.int (0 : Int)), (PyData.int (0 : Int)), (PyData.int (0 : Int))])) (PyData.tuple ([(PyData.int (1 : Int)), (PyData.int (0 : Int)), (PyData.int (1 : Int))])))).bind fun (r2648 : Bool) =>
((some ([r2647, r2648])).bind fun (d2649 : List Bool) =>
((okX (m_judge_point_tree (PyData.tuple ([(PyData.str (wS ([false, false] : List Bool))), (PyData.str (wS ([false, true] : List Bool))), (PyData.str (wS ([true, false] : List Bool))), (PyData.str (wS ([true, true] : List Bool)))])) (PyData.tuple ([(PyData.int (0 : Int)), (PyData.int (0 : Int)), (PyData.int (0 : Int)), (PyData.int (0 : Int))])) (PyData.tuple ([(PyData.int (0 : Int)), (PyData.int (1 : Int)), d2646])))).bind fun (r2651 : Bool) =>
((grd (d2649.length < 1000000)).bind fun (_ : Unit) =>
((some (d2649 ++ [r2651])).bind fun (d2653 : List Bool) =>
((some ([(PyData.tuple ([(PyData.int (0 : Int)), d2646, d2644])), (PyData.tuple ([(PyData.int (0 : Int)), (PyData.tuple ([(PyData.int (1 : Int)), (PyData.int (1 : Int)), (PyData.int (0 : Int))])), d2646])), (PyData.tuple ([(PyData.int (0 : Int)), d2644, (PyData.tuple ([(PyData.int (1 : Int)), (PyData.int (3 : Int)), (PyData.int (2 : Int))]))])), (PyData.tuple ([(PyData.int (0 : Int)), d2644, (PyData.tuple ([(PyData.int (1 : Int)), (PyData.int (2 : Int)), (PyData.int (2 : Int))]))])), (PyData.tuple ([(PyData.int (0 : Int)), d2644, (PyData.tuple ([(PyData.int (0 : Int)), (PyData.int (2 : Int)), (PyData.int (3 : Int))]))]))] : (List PyData))).bind fun (d2655 : (List PyData)) =>
((grd (d2655.length + ([(PyData.tuple ([(PyData.bool false), d2644, d2646])), (PyData.tuple ([(PyData.int (0 : Int)), (PyData.tuple ([(PyData.bool true), (PyData.int (0 : Int)), (PyData.int (1 : Int))])), d2646])), (PyData.tuple ([(PyData.int (0 : Int)), (PyData.tuple ([(PyData.int (1 : Int)), (PyData.int (0 : Int)), (PyData.bool true)])), d2646])), (PyData.tuple ([(PyData.int (0 : Int)), (PyData.tuple ([(PyData.int (1 : Int)), (PyData.bool false), (PyData.int (1 : Int))])), d2646]))] : (List PyData)).length ≤ 1000000)).bind fun (u2656 : Unit) =>
((some (d2655 ++ ([(PyData.tuple ([(PyData.bool false), d2644, d2646])), (PyData.tuple ([(PyData.int (0 : Int)), (PyData.tuple ([(PyData.bool true), (PyData.int (0 : Int)), (PyData.int (1 : Int))])), d2646])), (PyData.tuple ([(PyData.int (0 : Int)), (PyData.tuple ([(PyData.int (1 : Int)), (PyData.int (0 : Int)), (PyData.bool true)])), d2646])), (PyData.tuple ([(PyData.int (0 : Int)), (PyData.tuple ([(PyData.int (1 : Int)), (PyData.bool false), (PyData.int (1 : Int))])), d2646]))] : (List PyData)))).bind fun (d2658 : (List PyData)) =>
((grd (d2658.length + ([(PyData.tuple ([(PyData.int (1 : Int)), d2644, d2646])), (PyData.tuple ([(PyData.int (0 : Int)), (PyData.int (0 : Int)), d2646])), (PyData.tuple ([(PyData.int (0 : Int)), d2644, (PyData.int (3 : Int))])), (PyData.tuple ([(PyData.int (0 : Int)), d2644, (PyData.list ([(PyData.int (1 : Int)), (PyData.int (2 : Int)), (PyData.int (3 : Int))]))])), (PyData.tuple ([(PyData.int (0 : Int)), d2644, (PyData.tuple ([(PyData.int (2 : Int)), (PyData.int (2 : Int)), (PyData.int (3 : Int))]))])), (PyData.int (0 : Int)), (PyData.tuple ([(PyData.int (1 : Int)), (PyData.int (0 : Int)), (PyData.int (2 : Int))]))] : (List PyData)).length ≤ 1000000)).bind fun (u2659 : Unit) =>
((some (d2658 ++ ([(PyData.tuple ([(PyData.int (1 : Int)), d2644, d2646])), (PyData.tuple ([(PyData.int (0 : Int)), (PyData.int (0 : Int)), d2646])), (PyData.tuple ([(PyData.int (0 : Int)), d2644, (PyData.int (3 : Int))])), (PyData.tuple ([(PyData.int (0 : Int)), d2644, (PyData.list ([(PyData.int (1 : Int)), (PyData.int (2 : Int)), (PyData.int (3 : Int))]))])), (PyData.tuple ([(PyData.int (0 : Int)), d2644, (PyData.tuple ([(PyData.int (2 : Int)), (PyData.int (2 : Int)), (PyData.int (3 : Int))]))])), (PyData.int (0 : Int)), (PyData.tuple ([(PyData.int (1 : Int)), (PyData.int (0 : Int)), (PyData.int (2 : Int))]))] : (List PyData)))).bind fun (d2661 : (List PyData)) =>
((mapO (fun (x2662 : PyData) =>
((okX (m_judge_point_tree (Tod.toD (zL zW) d2642) (PyData.list ([(PyData.int (1 : Int)), (PyData.int (1 : Int)), (PyData.int (1 : Int)), (PyData.int (1 : Int))])) x2662)).bind fun (r2663 : Bool) =>
some r2663)) d2661).bind fun (x2664 : (List Bool)) =>
((grd (d2653.length + x2664.length ≤ 1000000)).bind fun (u2665 : Unit) =>
((some (d2653 ++ x2664)).bind fun (d2667 : List Bool) =>
((forP (fun (s2668 : (List Bool)) (x2672 : Int) =>
((okX (m_judge_point_tree (Tod.toD (zL zW) d2642) (Tod.toD (zL zI) (((rng 0 ((4 : Int)).toNat)).map fun (x2686 : Int) => ((1 : Int) + (b2 (decide (x2686 = x2672)))))) (PyData.tuple ([(PyData.int (0 : Int)), d2644, d2646])))).bind fun (r2687 : Bool) =>
((grd (s2668.length < 1000000)).bind fun (_ : Unit) =>
((some (s2668 ++ [r2687])).bind fun (d2689 : List Bool) =>
some d2689)))) d2667 (rng 0 ((4 : Int)).toNat)).bind fun (s2670 : (List Bool)) =>
((grd ((((d2661).length : Int) + (7 : Int)) ≤ 1000000 ∧ -1000000 ≤ (((d2661).length : Int) + (7 : Int)))).bind fun (u2696 : Unit) =>
((m__law_alike 16 (Tod.toD (zL zB) s2670) (Tod.toD (zL zB) (((rng 0 ((((d2661).length : Int) + (7 : Int))).toNat)).map fun (x2697 : Int) => (decide (x2697 < (3 : Int)))))).bind fun (r2698 : Bool) =>
some r2698))))))))))))))))))))
abbrev sp__law_scene (K : PySem.W.Frag) : Sp := FSp K aN zB (fun (a : Unit) => m__law_scene )
theorem ok__law_scene (S : Tx K mg) (G__law_alike : Ok P w K mg base 18 ("_law_alike", none) ["one", "other"] ((sp__law_alike 16) K)) (G_judge_point_tree : OkX P w K mg base 37 ("judge_point_tree", none) ["rows", "budgets", "tree"] (sp_judge_point_tree K)) (G_judge_point_treeKW : OkXK P w K mg base 37 ("judge_point_tree", none) ["rows", "budgets", "tree"] ["tree", "budgets", "rows"] [2, 1, 0] (sp_judge_point_tree K)) : Ok P w K mg base 38 ("_law_scene", none) [] (sp__law_scene K) := by
  obtain ⟨fd, D⟩ := d__law_scene S
  refine mk_ok D sc__law_scene (D.bindsN fun _ _ _ _ _ _ us hl => match us, hl with | [], _ => rfl) (FSp_len len00) (fun cdv A outer s H00 vs Q E hr h => ?_)
  obtain ⟨T00, _, res, hT, ⟨rfl⟩, hm, hQ⟩ := h
  refine ⟨_, (pss_cons (ps_set (i := 0) sc__law_scene.nd rfl (.inr rfl) (pe_lst (pa_cons pe_str (pa_cons pe_str (pa_cons pe_str (pa_cons pe_str pa_nil)))))) (pss_cons (ps_set (i := 1) sc__law_scene.nd rfl (.inl rfl) (pe_tup (pa_cons pe_int (pa_cons pe_int (pa_cons pe_int pa_nil))))) (pss_cons (ps_set (i := 2) sc__law_scene.nd rfl (.inl rfl) (pe_tup (pa_cons pe_int (pa_cons pe_int (pa_cons pe_int pa_nil))))) (pss_cons (ps_set (i := 3) sc__law_scene.nd rfl (.inl rfl) (pe_lst (pa_cons (px_call (W := WNo) G_judge_point_tree passNo hr (by omega) (by rfl) (g_judge_point_tree S) (pa_cons (pv 0) (pa_cons (pe_lst (pa_cons pe_int (pa_cons pe_int (pa_cons pe_int (pa_cons pe_int pa_nil))))) (pa_cons (pe_tup (pa_cons pe_int (pa_cons (pv 1) (pa_cons (pv 2) pa_nil)))) pa_nil)))) (pa_cons (px_call (W := WNo) G_judge_point_tree passNo hr (by omega) (by rfl) (g_judge_point_tree S) (pa_cons (pv 0) (pa_cons (pe_lst (pa_cons pe_int (pa_cons pe_int (pa_cons pe_int (pa_cons pe_int pa_nil))))) (pa_cons (pe_tup (pa_cons pe_int (pa_cons pe_int (pa_cons pe_int pa_nil)))) pa_nil)))) pa_nil)))) (pss_cons (ps_expr (pe_bm PySem.F.plainAttrs_list PySem.F.slot_list_append PySem.F.type_list_append mt_append (pv 3) (pa_cons (px_callK (E := fun _ _ _ _ => False) G_judge_point_treeKW passNo hr (by omega) (by rfl) (g_judge_point_tree S) (by rfl) (pk_cons (pe_tup (pa_cons pe_int (pa_cons pe_int (pa_cons (pv 2) pa_nil)))) (pk_cons (pe_tup (pa_cons pe_int (pa_cons pe_int (pa_cons pe_int (pa_cons pe_int pa_nil))))) (pk_cons (pe_tup (pa_cons pe_str (pa_cons pe_str (pa_cons pe_str (pa_cons pe_str pa_nil))))) pk_nil)))) pa_nil))) (pss_cons (ps_set (i := 4) sc__law_scene.nd rfl (.inl rfl) (pe_lst (pa_cons (pe_tup (pa_cons pe_int (pa_cons (pv 2) (pa_cons (pv 1) pa_nil)))) (pa_cons (pe_tup (pa_cons pe_int (pa_cons (pe_tup (pa_cons pe_int (pa_cons pe_int (pa_cons pe_int pa_nil)))) (pa_cons (pv 2) pa_nil)))) (pa_cons (pe_tup (pa_cons pe_int (pa_cons (pv 1) (pa_cons (pe_tup (pa_cons pe_int (pa_cons pe_int (pa_cons pe_int pa_nil)))) pa_nil)))) (pa_cons (pe_tup (pa_cons pe_int (pa_cons (pv 1) (pa_cons (pe_tup (pa_cons pe_int (pa_cons pe_int (pa_cons pe_int pa_nil)))) pa_nil)))) (pa_cons (pe_tup (pa_cons pe_int (pa_cons (pv 1) (pa_cons (pe_tup (pa_cons pe_int (pa_cons pe_int (pa_cons pe_int pa_nil)))) pa_nil)))) pa_nil))))))) (pss_cons (ps_set (i := 4) sc__law_scene.nd rfl (.inl rfl) (pe_op (op_catQ (K := K)) (pv 4) (pe_lst (pa_cons (pe_tup (pa_cons pe_bl (pa_cons (pv 1) (pa_cons (pv 2) pa_nil)))) (pa_cons (pe_tup (pa_cons pe_int (pa_cons (pe_tup (pa_cons pe_bl (pa_cons pe_int (pa_cons pe_int pa_nil)))) (pa_cons (pv 2) pa_nil)))) (pa_cons (pe_tup (pa_cons pe_int (pa_cons (pe_tup (pa_cons pe_int (pa_cons pe_int (pa_cons pe_bl pa_nil)))) (pa_cons (pv 2) pa_nil)))) (pa_cons (pe_tup (pa_cons pe_int (pa_cons (pe_tup (pa_cons pe_int (pa_cons pe_bl (pa_cons pe_int pa_nil)))) (pa_cons (pv 2) pa_nil)))) pa_nil))))))) (pss_cons (ps_set (i := 4) sc__law_scene.nd rfl (.inl rfl) (pe_op (op_catQ (K := K)) (pv 4) (pe_lst (pa_cons (pe_tup (pa_cons pe_int (pa_cons (pv 1) (pa_cons (pv 2) pa_nil)))) (pa_cons (pe_tup (pa_cons pe_int (pa_cons pe_int (pa_cons (pv 2) pa_nil)))) (pa_cons (pe_tup (pa_cons pe_int (pa_cons (pv 1) (pa_cons pe_int pa_nil)))) (pa_cons (pe_tup (pa_cons pe_int (pa_cons (pv 1) (pa_cons (pe_lst (pa_cons pe_int (pa_cons pe_int (pa_cons pe_int pa_nil)))) pa_nil)))) (pa_cons (pe_tup (pa_cons pe_int (pa_cons (pv 1) (pa_cons (pe_tup (pa_cons pe_int (pa_cons pe_int (pa_cons pe_int pa_nil)))) pa_nil)))) (pa_cons pe_int (pa_cons (pe_tup (pa_cons pe_int (pa_cons pe_int (pa_cons pe_int pa_nil)))) pa_nil)))))))))) (pss_cons (ps_set (i := 3) sc__law_scene.nd rfl (.inl rfl) (pe_op (op_catQ (K := K)) (pv 3) (pe_lc (own := [("tree", 6)]) (by rfl) sc__law_scene.nd (kp_list (K := K) (pv 4)) (blkOk_by (N := ["rows", "lower", "upper", "told", "bad", "q", "tree", "k"]) (sc := defScope s__law_scene) (by decide +kernel)) (fun _ _ _ _ _ => pg_name (i := 6) sc__law_scene.nd rfl (.inl rfl)) (fun _ _ _ _ _ => pts_nil) (fun _ _ _ _ _ => (px_call (W := WNo) G_judge_point_tree passNo hr (by omega) (by rfl) (g_judge_point_tree S) (pa_cons (pv 0) (pa_cons (pe_lst (pa_cons pe_int (pa_cons pe_int (pa_cons pe_int (pa_cons pe_int pa_nil))))) (pa_cons (pv 6) pa_nil)))))))) (pss_cons (ps_for PassesOwn.never rfl (pi_range1 (by rfl) (m_range S) (pa_cons pe_int pa_nil)) (pg_name (i := 5) sc__law_scene.nd rfl (.inr rfl)) (pss_one (ps_expr (pe_bm PySem.F.plainAttrs_list PySem.F.slot_list_append PySem.F.type_list_append mt_append (pv 3) (pa_cons (px_call (W := WNo) G_judge_point_tree passNo hr (by omega) (by rfl) (g_judge_point_tree S) (pa_cons (pv 0) (pa_cons (pe_lc (own := [("k", 7)]) (by rfl) sc__law_scene.nd (pi_range1 (by rfl) (m_range S) (pa_cons pe_int pa_nil)) (blkOk_by (N := ["rows", "lower", "upper", "told", "bad", "q", "tree", "k"]) (sc := defScope s__law_scene) (by decide +kernel)) (fun _ _ _ _ _ => pg_name (i := 7) sc__law_scene.nd rfl (.inl rfl)) (fun _ _ _ _ _ => pts_nil) (fun _ _ _ _ _ => (pe_op op_add pe_int (pe_callTy call_int1Q (by rfl) (m_int S) bt_int (pa_cons (pe_cmpR op_eq (pv 7) (pv 5) (nomark _)) pa_nil))))) (pa_cons (pe_tup (pa_cons pe_int (pa_cons (pv 1) (pa_cons (pv 2) pa_nil)))) pa_nil)))) pa_nil))))) (pss_one (ps_ret (pe_callG G__law_alike hr (by omega) (by rfl) (g__law_alike S) (pa_cons (pv 3) (pa_cons (pe_lc (own := [("k", 7)]) (by rfl) sc__law_scene.nd (pi_range1 (by rfl) (m_range S) (pa_cons (pe_op op_add (pe_callB (kc_len (K := K)) (by rfl) (m_len S) bt_len (pa_cons (pv 4) pa_nil)) pe_int) pa_nil)) (blkOk_by (N := ["rows", "lower", "upper", "told", "bad", "q", "tree", "k"]) (sc := defScope s__law_scene) (by decide +kernel)) (fun _ _ _ _ _ => pg_name (i := 7) sc__law_scene.nd rfl (.inl rfl)) (fun _ _ _ _ _ => pts_nil) (fun _ _ _ _ _ => (pe_cmpR op_lt (pv 7) pe_int (nomark _)))) pa_nil))))))))))))))), ?_⟩
  have E : En K ⟨T00, [], H00⟩ [] [] T00 H00 := En.start hT trivial
  replace hm : m__law_scene  = some res := hm
  unfold m__law_scene at hm
  refine asg_open ?_
  obtain ⟨d2642, e_d2642, hm⟩ := bnd hm
  refine En.run E (Ev.to (ev_lst E.td (eh_cons (ev_word [false, false] (by decide) (by decide)) (eh_cons (ev_word [false, true] (by decide) (by decide)) (eh_cons (ev_word [true, false] (by decide) (by decide)) (eh_cons (ev_word [true, true] (by decide) (by decide)) eh_nil)))) (Nat.le_of_ble_eq_true rfl)) (Option.some.inj e_d2642)) fun v2641 H E => ?_
  first | refine nx_ ?_ | skip
  refine asg_open ?_
  obtain ⟨d2644, e_d2644, hm⟩ := bnd hm
  refine En.run E (Ev.to (ev_toDU (ev_tupU (r := zD) (xs := [(PyData.int (1 : Int)), (PyData.int (0 : Int)), (PyData.int (1 : Int))]) E.td (eh_cons (ev_toD ev_int) (eh_cons (ev_toD ev_int) (eh_cons (ev_toD ev_int) eh_nil))) (Nat.le_of_ble_eq_true rfl))) (Option.some.inj e_d2644)) fun v2643 H E => ?_
  first | refine nx_ ?_ | skip
  refine asg_open ?_
  obtain ⟨d2646, e_d2646, hm⟩ := bnd hm
  refine En.run E (Ev.to (ev_toDU (ev_tupU (r := zD) (xs := [(PyData.int (1 : Int)), (PyData.int (2 : Int)), (PyData.int (3 : Int))]) E.td (eh_cons (ev_toD ev_int) (eh_cons (ev_toD ev_int) (eh_cons (ev_toD ev_int) eh_nil))) (Nat.le_of_ble_eq_true rfl))) (Option.some.inj e_d2646)) fun v2645 H E => ?_
  first | refine nx_ ?_ | skip
  refine asg_open ?_
  obtain ⟨r2647, h_r2647, hm⟩ := bnd hm
  obtain ⟨r2648, h_r2648, hm⟩ := bnd hm
  obtain ⟨d2649, e_d2649, hm⟩ := bnd hm
  refine En.newL (r := zB) E (EvF.to (ef_lst (xs := [r2647, r2648]) (eh_cons (ev_callX E.td (ea_cons (ev_toD (ev_var (i := 0) rfl (E.rd (r := (zL zW)) (v := v2641) (d := d2642) 2 rfl))) (ea_cons (ev_toDL (ev_lst (r := zD) (xs := [(PyData.int (1 : Int)), (PyData.int (1 : Int)), (PyData.int (1 : Int)), (PyData.int (1 : Int))]) E.td (eh_cons (ev_toD ev_int) (eh_cons (ev_toD ev_int) (eh_cons (ev_toD ev_int) (eh_cons (ev_toD ev_int) eh_nil)))) (Nat.le_of_ble_eq_true rfl))) (ea_cons (ev_toDU (ev_tupU (r := zD) (xs := [(PyData.int (0 : Int)), d2644, d2646]) E.td (eh_cons (ev_toD ev_int) (eh_cons (ev_var (i := 1) rfl (E.rd (r := zD) (v := v2643) (d := d2644) 1 rfl)) (eh_cons (ev_var (i := 2) rfl (E.rd (r := zD) (v := v2645) (d := d2646) 0 rfl)) eh_nil))) (Nat.le_of_ble_eq_true rfl))) ea_nil))) (okX_ok h_r2647)) (eh_cons (ev_callX E.td (ea_cons (ev_toD (ev_var (i := 0) rfl (E.rd (r := (zL zW)) (v := v2641) (d := d2642) 2 rfl))) (ea_cons (ev_toDL (ev_lst (r := zD) (xs := [(PyData.int (0 : Int)), (PyData.int (0 : Int)), (PyData.int (0 : Int)), (PyData.int (0 : Int))]) E.td (eh_cons (ev_toD ev_int) (eh_cons (ev_toD ev_int) (eh_cons (ev_toD ev_int) (eh_cons (ev_toD ev_int) eh_nil)))) (Nat.le_of_ble_eq_true rfl))) (ea_cons (ev_toDU (ev_tupU (r := zD) (xs := [(PyData.int (1 : Int)), (PyData.int (0 : Int)), (PyData.int (1 : Int))]) E.td (eh_cons (ev_toD ev_int) (eh_cons (ev_toD ev_int) (eh_cons (ev_toD ev_int) eh_nil))) (Nat.le_of_ble_eq_true rfl))) ea_nil))) (okX_ok h_r2648)) eh_nil)) (Nat.le_of_ble_eq_true rfl)) (Option.some.inj e_d2649)) fun p2650 H E => ?_
  first | refine nx_ ?_ | skip
  refine drop_open ?_
  refine En.bm (p := p2650) (r := zB) (xs := d2649) E rfl 0 rfl ?_
  refine cons_open ?_
  obtain ⟨r2651, h_r2651, hm⟩ := bnd hm
  refine En.run E (ev_callKX (b := ((PyData.tuple ([(PyData.int (0 : Int)), (PyData.int (1 : Int)), d2646])), (PyData.tuple ([(PyData.int (0 : Int)), (PyData.int (0 : Int)), (PyData.int (0 : Int)), (PyData.int (0 : Int))])), (PyData.tuple ([(PyData.str (wS ([false, false] : List Bool))), (PyData.str (wS ([false, true] : List Bool))), (PyData.str (wS ([true, false] : List Bool))), (PyData.str (wS ([true, true] : List Bool)))])), ())) (a := ((PyData.tuple ([(PyData.str (wS ([false, false] : List Bool))), (PyData.str (wS ([false, true] : List Bool))), (PyData.str (wS ([true, false] : List Bool))), (PyData.str (wS ([true, true] : List Bool)))])), (PyData.tuple ([(PyData.int (0 : Int)), (PyData.int (0 : Int)), (PyData.int (0 : Int)), (PyData.int (0 : Int))])), (PyData.tuple ([(PyData.int (0 : Int)), (PyData.int (1 : Int)), d2646])), ())) E.td (ea_cons (ev_toDU (ev_tupU (r := zD) (xs := [(PyData.int (0 : Int)), (PyData.int (1 : Int)), d2646]) E.td (eh_cons (ev_toD ev_int) (eh_cons (ev_toD ev_int) (eh_cons (ev_var (i := 2) rfl (E.rd (r := zD) (v := v2645) (d := d2646) 1 rfl)) eh_nil))) (Nat.le_of_ble_eq_true rfl))) (ea_cons (ev_toDU (ev_tupU (r := zD) (xs := [(PyData.int (0 : Int)), (PyData.int (0 : Int)), (PyData.int (0 : Int)), (PyData.int (0 : Int))]) E.td (eh_cons (ev_toD ev_int) (eh_cons (ev_toD ev_int) (eh_cons (ev_toD ev_int) (eh_cons (ev_toD ev_int) eh_nil)))) (Nat.le_of_ble_eq_true rfl))) (ea_cons (ev_toDU (ev_tupU (r := zD) (xs := [(PyData.str (wS ([false, false] : List Bool))), (PyData.str (wS ([false, true] : List Bool))), (PyData.str (wS ([true, false] : List Bool))), (PyData.str (wS ([true, true] : List Bool)))]) E.td (eh_cons (ev_toD (ev_word [false, false] (by decide) (by decide))) (eh_cons (ev_toD (ev_word [false, true] (by decide) (by decide))) (eh_cons (ev_toD (ev_word [true, false] (by decide) (by decide))) (eh_cons (ev_toD (ev_word [true, true] (by decide) (by decide))) eh_nil)))) (Nat.le_of_ble_eq_true rfl))) ea_nil))) (fun _ _ _ zs h => by obtain ⟨z0, _, rfl, y0, z1, _, rfl, y1, z2, _, rfl, y2, rfl⟩ := h; exact ⟨rfl, z2, _, rfl, y2, z1, _, rfl, y1, z0, _, rfl, y0, rfl⟩) (okX_ok h_r2651)) fun v2652 H E => ?_
  refine nil_open ?_
  obtain ⟨_, hgd2653, hm⟩ := bnd hm
  obtain ⟨d2653, e_d2653, hm⟩ := bnd hm
  refine En.append (r := zB) (p := p2650) (xs := d2649) E 0 rfl (E.rd (r := zB) (v := v2652) (d := r2651) 0 rfl) (grd_ok hgd2653) fun H E => ?_
  rw [Option.some.inj e_d2653] at E
  first | refine nx_ ?_ | skip
  refine asg_open ?_
  obtain ⟨d2655, e_d2655, hm⟩ := bnd hm
  refine En.run E (Ev.to (ev_lst E.td (eh_cons (ev_toDU (ev_tupU (r := zD) (xs := [(PyData.int (0 : Int)), d2646, d2644]) E.td (eh_cons (ev_toD ev_int) (eh_cons (ev_var (i := 2) rfl (E.rd (r := zD) (v := v2645) (d := d2646) 2 rfl)) (eh_cons (ev_var (i := 1) rfl (E.rd (r := zD) (v := v2643) (d := d2644) 3 rfl)) eh_nil))) (Nat.le_of_ble_eq_true rfl))) (eh_cons (ev_toDU (ev_tupU (r := zD) (xs := [(PyData.int (0 : Int)), (PyData.tuple ([(PyData.int (1 : Int)), (PyData.int (1 : Int)), (PyData.int (0 : Int))])), d2646]) E.td (eh_cons (ev_toD ev_int) (eh_cons (ev_toDU (ev_tupU (r := zD) (xs := [(PyData.int (1 : Int)), (PyData.int (1 : Int)), (PyData.int (0 : Int))]) E.td (eh_cons (ev_toD ev_int) (eh_cons (ev_toD ev_int) (eh_cons (ev_toD ev_int) eh_nil))) (Nat.le_of_ble_eq_true rfl))) (eh_cons (ev_var (i := 2) rfl (E.rd (r := zD) (v := v2645) (d := d2646) 2 rfl)) eh_nil))) (Nat.le_of_ble_eq_true rfl))) (eh_cons (ev_toDU (ev_tupU (r := zD) (xs := [(PyData.int (0 : Int)), d2644, (PyData.tuple ([(PyData.int (1 : Int)), (PyData.int (3 : Int)), (PyData.int (2 : Int))]))]) E.td (eh_cons (ev_toD ev_int) (eh_cons (ev_var (i := 1) rfl (E.rd (r := zD) (v := v2643) (d := d2644) 3 rfl)) (eh_cons (ev_toDU (ev_tupU (r := zD) (xs := [(PyData.int (1 : Int)), (PyData.int (3 : Int)), (PyData.int (2 : Int))]) E.td (eh_cons (ev_toD ev_int) (eh_cons (ev_toD ev_int) (eh_cons (ev_toD ev_int) eh_nil))) (Nat.le_of_ble_eq_true rfl))) eh_nil))) (Nat.le_of_ble_eq_true rfl))) (eh_cons (ev_toDU (ev_tupU (r := zD) (xs := [(PyData.int (0 : Int)), d2644, (PyData.tuple ([(PyData.int (1 : Int)), (PyData.int (2 : Int)), (PyData.int (2 : Int))]))]) E.td (eh_cons (ev_toD ev_int) (eh_cons (ev_var (i := 1) rfl (E.rd (r := zD) (v := v2643) (d := d2644) 3 rfl)) (eh_cons (ev_toDU (ev_tupU (r := zD) (xs := [(PyData.int (1 : Int)), (PyData.int (2 : Int)), (PyData.int (2 : Int))]) E.td (eh_cons (ev_toD ev_int) (eh_cons (ev_toD ev_int) (eh_cons (ev_toD ev_int) eh_nil))) (Nat.le_of_ble_eq_true rfl))) eh_nil))) (Nat.le_of_ble_eq_true rfl))) (eh_cons (ev_toDU (ev_tupU (r := zD) (xs := [(PyData.int (0 : Int)), d2644, (PyData.tuple ([(PyData.int (0 : Int)), (PyData.int (2 : Int)), (PyData.int (3 : Int))]))]) E.td (eh_cons (ev_toD ev_int) (eh_cons (ev_var (i := 1) rfl (E.rd (r := zD) (v := v2643) (d := d2644) 3 rfl)) (eh_cons (ev_toDU (ev_tupU (r := zD) (xs := [(PyData.int (0 : Int)), (PyData.int (2 : Int)), (PyData.int (3 : Int))]) E.td (eh_cons (ev_toD ev_int) (eh_cons (ev_toD ev_int) (eh_cons (ev_toD ev_int) eh_nil))) (Nat.le_of_ble_eq_true rfl))) eh_nil))) (Nat.le_of_ble_eq_true rfl))) eh_nil))))) (Nat.le_of_ble_eq_true rfl)) (Option.some.inj e_d2655)) fun v2654 H E => ?_
  first | refine nx_ ?_ | skip
  refine asg_open ?_
  obtain ⟨u2656, h_u2656, hm⟩ := bnd hm
  obtain ⟨d2658, e_d2658, hm⟩ := bnd hm
  refine En.run E (Ev.to (ev_catL E.td (ev_var (i := 4) rfl (E.rd (r := (zL zD)) (v := v2654) (d := d2655) 0 rfl)) (ev_lst E.td (eh_cons (ev_toDU (ev_tupU (r := zD) (xs := [(PyData.bool false), d2644, d2646]) E.td (eh_cons (ev_toD ev_bl) (eh_cons (ev_var (i := 1) rfl (E.rd (r := zD) (v := v2643) (d := d2644) 4 rfl)) (eh_cons (ev_var (i := 2) rfl (E.rd (r := zD) (v := v2645) (d := d2646) 3 rfl)) eh_nil))) (Nat.le_of_ble_eq_true rfl))) (eh_cons (ev_toDU (ev_tupU (r := zD) (xs := [(PyData.int (0 : Int)), (PyData.tuple ([(PyData.bool true), (PyData.int (0 : Int)), (PyData.int (1 : Int))])), d2646]) E.td (eh_cons (ev_toD ev_int) (eh_cons (ev_toDU (ev_tupU (r := zD) (xs := [(PyData.bool true), (PyData.int (0 : Int)), (PyData.int (1 : Int))]) E.td (eh_cons (ev_toD ev_bl) (eh_cons (ev_toD ev_int) (eh_cons (ev_toD ev_int) eh_nil))) (Nat.le_of_ble_eq_true rfl))) (eh_cons (ev_var (i := 2) rfl (E.rd (r := zD) (v := v2645) (d := d2646) 3 rfl)) eh_nil))) (Nat.le_of_ble_eq_true rfl))) (eh_cons (ev_toDU (ev_tupU (r := zD) (xs := [(PyData.int (0 : Int)), (PyData.tuple ([(PyData.int (1 : Int)), (PyData.int (0 : Int)), (PyData.bool true)])), d2646]) E.td (eh_cons (ev_toD ev_int) (eh_cons (ev_toDU (ev_tupU (r := zD) (xs := [(PyData.int (1 : Int)), (PyData.int (0 : Int)), (PyData.bool true)]) E.td (eh_cons (ev_toD ev_int) (eh_cons (ev_toD ev_int) (eh_cons (ev_toD ev_bl) eh_nil))) (Nat.le_of_ble_eq_true rfl))) (eh_cons (ev_var (i := 2) rfl (E.rd (r := zD) (v := v2645) (d := d2646) 3 rfl)) eh_nil))) (Nat.le_of_ble_eq_true rfl))) (eh_cons (ev_toDU (ev_tupU (r := zD) (xs := [(PyData.int (0 : Int)), (PyData.tuple ([(PyData.int (1 : Int)), (PyData.bool false), (PyData.int (1 : Int))])), d2646]) E.td (eh_cons (ev_toD ev_int) (eh_cons (ev_toDU (ev_tupU (r := zD) (xs := [(PyData.int (1 : Int)), (PyData.bool false), (PyData.int (1 : Int))]) E.td (eh_cons (ev_toD ev_int) (eh_cons (ev_toD ev_bl) (eh_cons (ev_toD ev_int) eh_nil))) (Nat.le_of_ble_eq_true rfl))) (eh_cons (ev_var (i := 2) rfl (E.rd (r := zD) (v := v2645) (d := d2646) 3 rfl)) eh_nil))) (Nat.le_of_ble_eq_true rfl))) eh_nil)))) (Nat.le_of_ble_eq_true rfl)) (grd_ok h_u2656)) (Option.some.inj e_d2658)) fun v2657 H E => ?_
  first | refine nx_ ?_ | skip
  refine asg_open ?_
  obtain ⟨u2659, h_u2659, hm⟩ := bnd hm
  obtain ⟨d2661, e_d2661, hm⟩ := bnd hm
  refine En.run E (Ev.to (ev_catL E.td (ev_var (i := 4) rfl (E.rd (r := (zL zD)) (v := v2657) (d := d2658) 0 rfl)) (ev_lst E.td (eh_cons (ev_toDU (ev_tupU (r := zD) (xs := [(PyData.int (1 : Int)), d2644, d2646]) E.td (eh_cons (ev_toD ev_int) (eh_cons (ev_var (i := 1) rfl (E.rd (r := zD) (v := v2643) (d := d2644) 5 rfl)) (eh_cons (ev_var (i := 2) rfl (E.rd (r := zD) (v := v2645) (d := d2646) 4 rfl)) eh_nil))) (Nat.le_of_ble_eq_true rfl))) (eh_cons (ev_toDU (ev_tupU (r := zD) (xs := [(PyData.int (0 : Int)), (PyData.int (0 : Int)), d2646]) E.td (eh_cons (ev_toD ev_int) (eh_cons (ev_toD ev_int) (eh_cons (ev_var (i := 2) rfl (E.rd (r := zD) (v := v2645) (d := d2646) 4 rfl)) eh_nil))) (Nat.le_of_ble_eq_true rfl))) (eh_cons (ev_toDU (ev_tupU (r := zD) (xs := [(PyData.int (0 : Int)), d2644, (PyData.int (3 : Int))]) E.td (eh_cons (ev_toD ev_int) (eh_cons (ev_var (i := 1) rfl (E.rd (r := zD) (v := v2643) (d := d2644) 5 rfl)) (eh_cons (ev_toD ev_int) eh_nil))) (Nat.le_of_ble_eq_true rfl))) (eh_cons (ev_toDU (ev_tupU (r := zD) (xs := [(PyData.int (0 : Int)), d2644, (PyData.list ([(PyData.int (1 : Int)), (PyData.int (2 : Int)), (PyData.int (3 : Int))]))]) E.td (eh_cons (ev_toD ev_int) (eh_cons (ev_var (i := 1) rfl (E.rd (r := zD) (v := v2643) (d := d2644) 5 rfl)) (eh_cons (ev_toDL (ev_lst (r := zD) (xs := [(PyData.int (1 : Int)), (PyData.int (2 : Int)), (PyData.int (3 : Int))]) E.td (eh_cons (ev_toD ev_int) (eh_cons (ev_toD ev_int) (eh_cons (ev_toD ev_int) eh_nil))) (Nat.le_of_ble_eq_true rfl))) eh_nil))) (Nat.le_of_ble_eq_true rfl))) (eh_cons (ev_toDU (ev_tupU (r := zD) (xs := [(PyData.int (0 : Int)), d2644, (PyData.tuple ([(PyData.int (2 : Int)), (PyData.int (2 : Int)), (PyData.int (3 : Int))]))]) E.td (eh_cons (ev_toD ev_int) (eh_cons (ev_var (i := 1) rfl (E.rd (r := zD) (v := v2643) (d := d2644) 5 rfl)) (eh_cons (ev_toDU (ev_tupU (r := zD) (xs := [(PyData.int (2 : Int)), (PyData.int (2 : Int)), (PyData.int (3 : Int))]) E.td (eh_cons (ev_toD ev_int) (eh_cons (ev_toD ev_int) (eh_cons (ev_toD ev_int) eh_nil))) (Nat.le_of_ble_eq_true rfl))) eh_nil))) (Nat.le_of_ble_eq_true rfl))) (eh_cons (ev_toD ev_int) (eh_cons (ev_toDU (ev_tupU (r := zD) (xs := [(PyData.int (1 : Int)), (PyData.int (0 : Int)), (PyData.int (2 : Int))]) E.td (eh_cons (ev_toD ev_int) (eh_cons (ev_toD ev_int) (eh_cons (ev_toD ev_int) eh_nil))) (Nat.le_of_ble_eq_true rfl))) eh_nil))))))) (Nat.le_of_ble_eq_true rfl)) (grd_ok h_u2659)) (Option.some.inj e_d2661)) fun v2660 H E => ?_
  first | refine nx_ ?_ | skip
  replace E := En.freeze (r := zB) (p := p2650) (xs := d2653) (cs := []) E (by simp [owns])
  refine asg_open ?_
  obtain ⟨x2664, h_x2664, hm⟩ := bnd hm
  obtain ⟨u2665, h_u2665, hm⟩ := bnd hm
  obtain ⟨d2667, e_d2667, hm⟩ := bnd hm
  refine En.newL (r := zB) E (ef_catL (ev_var (i := 3) rfl (E.rd (r := (zL zB)) (v := (.ref p2650)) (d := d2653) 0 rfl)) (ev_lcO1 E.td (ei_list (ev_var (i := 4) rfl (E.rd (r := (zL zD)) (v := v2660) (d := d2661) 1 rfl))) h_x2664 (fun T2662 H2662 v2662 x2662 L2662 hT2662 hx2662 r2662 Q2662 q2662 => q2662 _ wipe1 (fun y2662 hy2662 => by
          obtain ⟨r2663, h_r2663, hy2662⟩ := bnd hy2662; cases hy2662; exact (ev_callX hT2662 (ea_cons (ev_toD (ev_var (i := 0) rfl (L2662.ap (E.rd (r := (zL zW)) (v := v2641) (d := d2642) 8 rfl)))) (ea_cons (ev_toDL (ev_lst (r := zD) (xs := [(PyData.int (1 : Int)), (PyData.int (1 : Int)), (PyData.int (1 : Int)), (PyData.int (1 : Int))]) hT2662 (eh_cons (ev_toD ev_int) (eh_cons (ev_toD ev_int) (eh_cons (ev_toD ev_int) (eh_cons (ev_toD ev_int) eh_nil)))) (Nat.le_of_ble_eq_true rfl))) (ea_cons (ev_var (i := 6) rfl r2662) ea_nil))) (okX_ok h_r2663))))) (grd_ok h_u2665)) fun p2666 H E => ?_
  rw [Option.some.inj e_d2667] at E
  first | refine nx_ ?_ | skip
  obtain ⟨s2670, h_s2670, hm⟩ := bnd hm
  refine En.forP (K := K) (fun (b2671 : Bs) (s2668 : (List Bool)) (T : AS) (σ9 : L2.St) (H9 : Hp) => ∃ (u2681 : Option V), ∃ (u2682 : Option V), ∃ (u2683 : Option V), σ9 = [some v2641, some v2643, some v2645, some (.ref p2666), some v2660, u2681, u2682, u2683] ∧ En K b2671 [(fR (zL zW) v2641 d2642), (fR zD v2643 d2644), (fR zD v2645 d2646), (fR (zL zD) v2660 d2661)] [(cL zB p2666 s2668)] T H9) E (ei_range (ea_cons ev_int ea_nil) (by decide) (by decide)) h_s2670 (fun H E => ⟨_, _, _, rfl, (En.facts (En.pick E [0] (by decide) rfl) ⟨(E.rd (r := (zL zW)) (v := v2641) (d := d2642) 9 rfl), (E.rd (r := zD) (v := v2643) (d := d2644) 8 rfl), (E.rd (r := zD) (v := v2645) (d := d2646) 7 rfl), (E.rd (r := (zL zD)) (v := v2660) (d := d2661) 2 rfl), trivial⟩)⟩) (by rintro _ _ _ _ _ ⟨u2681, u2682, u2683, rfl, E⟩; exact ⟨En.wd E, En.td E⟩) (fun b2671 s2668 x2672 o2669 T _ H1 H v2673 D2674 hx2674 hI2674 ex2674 hr2674 hm hrt2674 hn2674 => ?_) (fun H2 T _ H E2 hI2674 => ?_)
  · obtain ⟨u2681, u2682, u2683, rfl, E⟩ := hI2674
    replace E := En.add (f := (fR zI v2673 x2672)) (En.ex E ex2674) hr2674
    refine gn ?_
    refine drop_open ?_
    refine En.bm (p := p2666) (r := zB) (xs := s2668) E rfl 0 rfl ?_
    refine cons_open ?_
    obtain ⟨r2687, h_r2687, hm⟩ := bnd hm
    refine En.run E (ev_callX E.td (ea_cons (ev_toD (ev_var (i := 0) rfl (E.rd (r := (zL zW)) (v := v2641) (d := d2642) 1 rfl))) (ea_cons (ev_toD (ev_lc1 (f := fun (x2686 : Int) => ((1 : Int) + (b2 (decide (x2686 = x2672))))) E.td (ei_range (ea_cons ev_int ea_nil) (by decide) (by decide)) (fun T2686 H2686 v2686 x2686 L2686 hT2686 hx2686 r2686 Q2686 q2686 => q2686 _ wipe1 (ev_add ev_int (ev_intB (ev_eqI (ev_var (i := 7) rfl r2686) (ev_var (i := 5) rfl (L2686.ap (E.rd (r := zI) (v := v2673) (d := x2672) 0 rfl))))))))) (ea_cons (ev_toDU (ev_tupU (r := zD) (xs := [(PyData.int (0 : Int)), d2644, d2646]) E.td (eh_cons (ev_toD ev_int) (eh_cons (ev_var (i := 1) rfl (E.rd (r := zD) (v := v2643) (d := d2644) 2 rfl)) (eh_cons (ev_var (i := 2) rfl (E.rd (r := zD) (v := v2645) (d := d2646) 3 rfl)) eh_nil))) (Nat.le_of_ble_eq_true rfl))) ea_nil))) (okX_ok h_r2687)) fun v2688 H E => ?_
    refine nil_open ?_
    obtain ⟨_, hgd2689, hm⟩ := bnd hm
    obtain ⟨d2689, e_d2689, hm⟩ := bnd hm
    refine En.append (r := zB) (p := p2666) (xs := s2668) E 0 rfl (E.rd (r := zB) (v := v2688) (d := r2687) 0 rfl) (grd_ok hgd2689) fun H E => ?_
    rw [Option.some.inj e_d2689] at E
    have hj9 := Option.some.inj hm
    subst o2669
    exact (hn2674 _ _ _ ⟨_, _, _, rfl, (En.facts (En.pick E [0] (by decide) rfl) ⟨(E.rd (r := (zL zW)) (v := v2641) (d := d2642) 2 rfl), (E.rd (r := zD) (v := v2643) (d := d2644) 3 rfl), (E.rd (r := zD) (v := v2645) (d := d2646) 4 rfl), (E.rd (r := (zL zD)) (v := v2660) (d := d2661) 5 rfl), trivial⟩)⟩).1
  · obtain ⟨u2681, u2682, u2683, rfl, E⟩ := hI2674
    replace E := En.back E2 E
    first | refine nx_ ?_ | skip
    replace E := En.freeze (r := zB) (p := p2666) (xs := s2670) (cs := []) E (by simp [owns])
    refine ret_open ?_
    obtain ⟨u2696, h_u2696, hm⟩ := bnd hm
    obtain ⟨r2698, h_r2698, hm⟩ := bnd hm
    refine En.run E (ev_callO E.td (ea_cons (ev_toD (ev_var (i := 3) rfl (E.rd (r := (zL zB)) (v := (.ref p2666)) (d := s2670) 0 rfl))) (ea_cons (ev_toD (ev_lc1 (f := fun (x2697 : Int) => (decide (x2697 < (3 : Int)))) E.td (ei_range (ea_cons (ev_add (ev_lenL (ev_var (i := 4) rfl (E.rd (r := (zL zD)) (v := v2660) (d := d2661) 4 rfl))) ev_int) ea_nil) (grd_ok h_u2696).1 (grd_ok h_u2696).2) (fun T2697 H2697 v2697 x2697 L2697 hT2697 hx2697 r2697 Q2697 q2697 => q2697 _ wipe1 (ev_lt (ev_var (i := 7) rfl r2697) ev_int)))) ea_nil)) h_r2698) fun v2699 H E => ?_
    have hr9 := Option.some.inj hm
    subst res
    exact hQ _ _ (En.isEx E) (En.out E (En.at E (f := (fR zB v2699 r2698)) 0 rfl))

end
end EB

set_option Elab.async false
set_option linter.all false
set_option maxRecDepth 100000
set_option maxHeartbeats 4000000

namespace EB
open PySem PySem.Spec PyProof.Rows L2

section
variable {P : Program} {w : World} {K : PySem.W.Frag} {mg : Str → Option Value} {base : Heap}

def m_law (p_script : (List Int)) : Option Bool :=
((some (((p_script).map fun (x66 : Int) => (ab x66)), (0 : Int), (0 : Int), (271828182845904 : Int), (0 : Int))).bind fun (q2700 : Px) =>
((m__law_rows (8 : Int) (6 : Int) q2700).bind fun (q2702 : (List (List Bool)) × Px) =>
((m__law_unlike q2702.1).bind fun (q2704 : (List (List Bool))) =>
((m__law_rows (4 : Int) (3 : Int) q2702.2).bind fun (q2706 : (List (List Bool)) × Px) =>
((m__law_unlike q2706.1).bind fun (q2708 : (List (List Bool))) =>
((m__law_turn q2704 q2706.2).bind fun (q2710 : Bool × Px) =>
(if q2710.1 = true then
((m__law_turn q2708 q2710.2).bind fun (q2712 : Bool × Px) =>
(if q2712.1 = true then
((m__law_turn q2704 q2712.2).bind fun (q2714 : Bool × Px) =>
(if q2714.1 = true then
((grd (((q2704).length : Int) ≤ 1000000 ∧ -1000000 ≤ ((q2704).length : Int))).bind fun (u2718 : Unit) =>
((m__law_grown 16 q2704 (((rng 0 (((q2704).length : Int)).toNat)).map fun (x2719 : Int) => x2719) true q2714.2).bind fun (q2720 : PyData × Px) =>
((m__law_refusals q2704 q2720.1 q2720.2).bind fun (q2722 : Bool × Px) =>
(if q2722.1 = true then
((m__law_refusals q2708 (PyData.int (0 : Int)) q2722.2).bind fun (q2724 : Bool × Px) =>
(if q2724.1 = true then
((m__law_judged q2704 ((q2704).map fun (x2727 : (List Bool)) => (0 : Int)) q2720.1 true q2724.2).bind fun (q2728 : Bool × Px) =>
(if q2728.1 = true then
((m__law_scene ).bind fun (r2730 : Bool) =>
some r2730)
else
some false))
else
some false))
else
some false))))
else
some false))
else
some false))
else
some false)))))))
abbrev sp_law (K : PySem.W.Frag) : Sp := FSp K (aC (zL zI) aN) zB (fun (a : (List Int) × Unit) => m_law a.1)
theorem fn_law (S : Tx K mg) (G__law_grown : Ok P w K mg base 18 ("_law_grown", none) ["pool", "rows", "lot", "root"] ((sp__law_grown 16) K)) (G__law_judged : Ok P w K mg base 38 ("_law_judged", none) ["pool", "rows", "budgets", "tree", "due"] (sp__law_judged K)) (G__law_pool : Ok P w K mg base 1 ("_law_pool", none) ["script"] ((fun K => NewSp K (aC (zL zI) aN) (fun (p : Addr) (s : Px) => cPx p s) (fun p => .ref p) (fun (a : List Int × Unit) => some (((a.1).map fun (x66 : Int) => (ab x66)), (0 : Int), (0 : Int), (271828182845904 : Int), (0 : Int)))) K)) (G__law_refusals : Ok P w K mg base 39 ("_law_refusals", none) ["pool", "rows", "tree"] (sp__law_refusals K)) (G__law_rows : Ok P w K mg base 2 ("_law_rows", none) ["pool", "programs", "points"] (sp__law_rows K)) (G__law_scene : Ok P w K mg base 38 ("_law_scene", none) [] (sp__law_scene K)) (G__law_turn : Ok P w K mg base 39 ("_law_turn", none) ["pool", "rows"] (sp__law_turn K)) (G__law_unlike : Ok P w K mg base 1 ("_law_unlike", none) ["rows"] (sp__law_unlike K)) {fd : FuncData} (D : FunD K "law" "law" (defArgs s_law) (defBody s_law) (defScope s_law) [] [] (He.fAd K ("law", none)) fd) : FnOk P w K mg base CX0 40 (He.fAd K ("law", none)) fd ["script"] (sp_law K) := by
  refine mk_fn D sc_law (FSp_len len1) (fun cdv A outer s H00 vs Q E hr h => ?_)
  obtain ⟨T00, ⟨p_script, _⟩, res, hT, ⟨v_script, _, rfl, r_script, rfl⟩, hm, hQ⟩ := h
  refine ⟨_, (pss_cons (ps_set (i := 1) sc_law.nd rfl (.inl rfl) (pe_callG G__law_pool hr (by omega) (by rfl) (g__law_pool S) (pa_cons (pv 0) pa_nil))) (pss_cons (ps_set (i := 2) sc_law.nd rfl (.inl rfl) (pe_callG G__law_unlike hr (by omega) (by rfl) (g__law_unlike S) (pa_cons (pe_callG G__law_rows hr (by omega) (by rfl) (g__law_rows S) (pa_cons (pv 1) (pa_cons pe_int (pa_cons pe_int pa_nil)))) pa_nil))) (pss_cons (ps_set (i := 3) sc_law.nd rfl (.inl rfl) (pe_callG G__law_unlike hr (by omega) (by rfl) (g__law_unlike S) (pa_cons (pe_callG G__law_rows hr (by omega) (by rfl) (g__law_rows S) (pa_cons (pv 1) (pa_cons pe_int (pa_cons pe_int pa_nil)))) pa_nil))) (pss_cons (ps_if (PW.pt (pw_or (pt_not (pt_val (pe_callG G__law_turn hr (by omega) (by rfl) (g__law_turn S) (pa_cons (pv 1) (pa_cons (pv 2) pa_nil))))) (pw_or (pt_not (pt_val (pe_callG G__law_turn hr (by omega) (by rfl) (g__law_turn S) (pa_cons (pv 1) (pa_cons (pv 3) pa_nil))))) (pw_or1 (pt_not (pt_val (pe_callG G__law_turn hr (by omega) (by rfl) (g__law_turn S) (pa_cons (pv 1) (pa_cons (pv 2) pa_nil))))))))) (pss_one (ps_ret pe_bl)) pss_nil) (pss_cons (ps_set (i := 4) sc_law.nd rfl (.inl rfl) (pe_callG G__law_grown hr (by omega) (by rfl) (g__law_grown S) (pa_cons (pv 1) (pa_cons (pv 2) (pa_cons (pe_lc (own := [("q", 5)]) (by rfl) sc_law.nd (pi_range1 (by rfl) (m_range S) (pa_cons (pe_callB (kc_len (K := K)) (by rfl) (m_len S) bt_len (pa_cons (pv 2) pa_nil)) pa_nil)) (blkOk_by (N := ["script", "pool", "rows", "others", "tree", "q", "row"]) (sc := defScope s_law) (by decide +kernel)) (fun _ _ _ _ _ => pg_name (i := 5) sc_law.nd rfl (.inl rfl)) (fun _ _ _ _ _ => pts_nil) (fun _ _ _ _ _ => (pv 5))) (pa_cons pe_bl pa_nil)))))) (pss_cons (ps_if (PW.pt (pw_or (pt_not (pt_val (pe_callG G__law_refusals hr (by omega) (by rfl) (g__law_refusals S) (pa_cons (pv 1) (pa_cons (pv 2) (pa_cons (pv 4) pa_nil)))))) (pw_or1 (pt_not (pt_val (pe_callG G__law_refusals hr (by omega) (by rfl) (g__law_refusals S) (pa_cons (pv 1) (pa_cons (pv 3) (pa_cons pe_int pa_nil))))))))) (pss_one (ps_ret pe_bl)) pss_nil) (pss_cons (ps_if (pt_not (pt_val (pe_callG G__law_judged hr (by omega) (by rfl) (g__law_judged S) (pa_cons (pv 1) (pa_cons (pv 2) (pa_cons (pe_lc (own := [("row", 6)]) (by rfl) sc_law.nd (kp_list (K := K) (pv 2)) (blkOk_by (N := ["script", "pool", "rows", "others", "tree", "q", "row"]) (sc := defScope s_law) (by decide +kernel)) (fun _ _ _ _ _ => pg_name (i := 6) sc_law.nd rfl (.inl rfl)) (fun _ _ _ _ _ => pts_nil) (fun _ _ _ _ _ => pe_int)) (pa_cons (pv 4) (pa_cons pe_bl pa_nil)))))))) (pss_one (ps_ret pe_bl)) pss_nil) (pss_one (ps_ret (pe_callG0 G__law_scene hr (by omega) (by rfl) (g__law_scene S))))))))))), ?_⟩
  have E : En K ⟨T00, [], H00⟩ [(fR (zL zI) v_script p_script)] [] T00 H00 := En.start hT ⟨r_script, trivial⟩
  replace hm : m_law p_script = some res := hm
  unfold m_law at hm
  refine asg_open ?_
  obtain ⟨q2700, h_q2700, hm⟩ := bnd hm
  refine En.newcall (c := fun (p : Addr) (s : Px) => cPx p s) (rv := fun p => .ref p) (s0 := q2700) E (ea_cons (ev_var (i := 0) rfl (E.rd (r := (zL zI)) (v := v_script) (d := p_script) 0 rfl)) ea_nil) h_q2700 fun p2701 H E => ?_
  first | refine nx_ ?_ | skip
  refine asg_open ?_
  refine call_open ?_
  refine cons_open ?_
  obtain ⟨q2702, h_q2702, hm⟩ := bnd hm
  refine En.gcall E (ea_cons (ev_var (i := 1) rfl (show zA K _ _ (.ref p2701) p2701 from rfl)) (ea_cons ev_int (ea_cons ev_int ea_nil))) 0 rfl h_q2702 rfl fun v2703 H E => ?_
  refine nil_open ?_
  obtain ⟨q2704, h_q2704, hm⟩ := bnd hm
  refine En.callF (a := (q2702.1, ())) E ⟨v2703, _, rfl, (E.rd (r := (zL zW)) (v := v2703) (d := q2702.1) 0 rfl), rfl⟩ h_q2704 fun v2705 H E => ?_
  first | refine nx_ ?_ | skip
  refine asg_open ?_
  refine call_open ?_
  refine cons_open ?_
  obtain ⟨q2706, h_q2706, hm⟩ := bnd hm
  refine En.gcall E (ea_cons (ev_var (i := 1) rfl (show zA K _ _ (.ref p2701) p2701 from rfl)) (ea_cons ev_int (ea_cons ev_int ea_nil))) 0 rfl h_q2706 rfl fun v2707 H E => ?_
  refine nil_open ?_
  obtain ⟨q2708, h_q2708, hm⟩ := bnd hm
  refine En.callF (a := (q2706.1, ())) E ⟨v2707, _, rfl, (E.rd (r := (zL zW)) (v := v2707) (d := q2706.1) 0 rfl), rfl⟩ h_q2708 fun v2709 H E => ?_
  first | refine nx_ ?_ | skip
  refine ifs_open ?_
  refine or_open ?_
  refine not_open ?_
  refine tb_open ?_
  obtain ⟨q2710, h_q2710, hm⟩ := bnd hm
  refine En.gcall E (ea_cons (ev_var (i := 1) rfl (show zA K _ _ (.ref p2701) p2701 from rfl)) (ea_cons (ev_var (i := 2) rfl (E.rd (r := (zL zW)) (v := v2705) (d := q2704) 2 rfl)) ea_nil)) 0 rfl h_q2710 rfl fun v2711 H E => ?_
  refine tb2 (E.rd (r := zB) (v := v2711) (d := q2710.1) 0 rfl) (fun hc2743 => ?_) (fun hc2743 => ?_)
  · rw [if_pos hc2743] at hm
    refine iteF ?_
    refine or_open ?_
    refine not_open ?_
    refine tb_open ?_
    obtain ⟨q2712, h_q2712, hm⟩ := bnd hm
    refine En.gcall E (ea_cons (ev_var (i := 1) rfl (show zA K _ _ (.ref p2701) p2701 from rfl)) (ea_cons (ev_var (i := 3) rfl (E.rd (r := (zL zW)) (v := v2709) (d := q2708) 1 rfl)) ea_nil)) 0 rfl h_q2712 rfl fun v2713 H E => ?_
    refine tb2 (E.rd (r := zB) (v := v2713) (d := q2712.1) 0 rfl) (fun hc2741 => ?_) (fun hc2741 => ?_)
    · rw [if_pos hc2741] at hm
      refine iteF ?_
      refine not_open ?_
      refine tb_open ?_
      obtain ⟨q2714, h_q2714, hm⟩ := bnd hm
      refine En.gcall E (ea_cons (ev_var (i := 1) rfl (show zA K _ _ (.ref p2701) p2701 from rfl)) (ea_cons (ev_var (i := 2) rfl (E.rd (r := (zL zW)) (v := v2705) (d := q2704) 4 rfl)) ea_nil)) 0 rfl h_q2714 rfl fun v2715 H E => ?_
      refine tb2 (E.rd (r := zB) (v := v2715) (d := q2714.1) 0 rfl) (fun hc2739 => ?_) (fun hc2739 => ?_)
      · rw [if_pos hc2739] at hm
        refine iteF ?_
        first | refine nx_ ?_ | skip
        refine asg_open ?_
        obtain ⟨u2718, h_u2718, hm⟩ := bnd hm
        obtain ⟨q2720, h_q2720, hm⟩ := bnd hm
        refine En.gcall E (ea_cons (ev_var (i := 1) rfl (show zA K _ _ (.ref p2701) p2701 from rfl)) (ea_cons (ev_var (i := 2) rfl (E.rd (r := (zL zW)) (v := v2705) (d := q2704) 5 rfl)) (ea_cons (ev_lc1 (f := fun (x2719 : Int) => x2719) E.td (ei_range (ea_cons (ev_lenL (ev_var (i := 2) rfl (E.rd (r := (zL zW)) (v := v2705) (d := q2704) 5 rfl))) ea_nil) (grd_ok h_u2718).1 (grd_ok h_u2718).2) (fun T2719 H2719 v2719 x2719 L2719 hT2719 hx2719 r2719 Q2719 q2719 => q2719 _ wipe1 (ev_var (i := 5) rfl r2719))) (ea_cons ev_bl ea_nil)))) 0 rfl h_q2720 rfl fun v2721 H E => ?_
        first | refine nx_ ?_ | skip
        refine ifs_open ?_
        refine or_open ?_
        refine not_open ?_
        refine tb_open ?_
        obtain ⟨q2722, h_q2722, hm⟩ := bnd hm
        refine En.gcall E (ea_cons (ev_var (i := 1) rfl (show zA K _ _ (.ref p2701) p2701 from rfl)) (ea_cons (ev_var (i := 2) rfl (E.rd (r := (zL zW)) (v := v2705) (d := q2704) 6 rfl)) (ea_cons (ev_var (i := 4) rfl (E.rd (r := zD) (v := v2721) (d := q2720.1) 0 rfl)) ea_nil))) 0 rfl h_q2722 rfl fun v2723 H E => ?_
        refine tb2 (E.rd (r := zB) (v := v2723) (d := q2722.1) 0 rfl) (fun hc2737 => ?_) (fun hc2737 => ?_)
        · rw [if_pos hc2737] at hm
          refine iteF ?_
          refine not_open ?_
          refine tb_open ?_
          obtain ⟨q2724, h_q2724, hm⟩ := bnd hm
          refine En.gcall E (ea_cons (ev_var (i := 1) rfl (show zA K _ _ (.ref p2701) p2701 from rfl)) (ea_cons (ev_var (i := 3) rfl (E.rd (r := (zL zW)) (v := v2709) (d := q2708) 5 rfl)) (ea_cons (ev_toD ev_int) ea_nil))) 0 rfl h_q2724 rfl fun v2725 H E => ?_
          refine tb2 (E.rd (r := zB) (v := v2725) (d := q2724.1) 0 rfl) (fun hc2735 => ?_) (fun hc2735 => ?_)
          · rw [if_pos hc2735] at hm
            refine iteF ?_
            first | refine nx_ ?_ | skip
            refine ifs_open ?_
            refine not_open ?_
            refine tb_open ?_
            obtain ⟨q2728, h_q2728, hm⟩ := bnd hm
            refine En.gcall E (ea_cons (ev_var (i := 1) rfl (show zA K _ _ (.ref p2701) p2701 from rfl)) (ea_cons (ev_var (i := 2) rfl (E.rd (r := (zL zW)) (v := v2705) (d := q2704) 8 rfl)) (ea_cons (ev_lc1 (f := fun (x2727 : (List Bool)) => (0 : Int)) E.td (ei_list (ev_var (i := 2) rfl (E.rd (r := (zL zW)) (v := v2705) (d := q2704) 8 rfl))) (fun T2727 H2727 v2727 x2727 L2727 hT2727 hx2727 r2727 Q2727 q2727 => q2727 _ wipe1 ev_int)) (ea_cons (ev_var (i := 4) rfl (E.rd (r := zD) (v := v2721) (d := q2720.1) 2 rfl)) (ea_cons ev_bl ea_nil))))) 0 rfl h_q2728 rfl fun v2729 H E => ?_
            refine tb2 (E.rd (r := zB) (v := v2729) (d := q2728.1) 0 rfl) (fun hc2733 => ?_) (fun hc2733 => ?_)
            · rw [if_pos hc2733] at hm
              refine iteF ?_
              first | refine nx_ ?_ | skip
              refine ret_open ?_
              obtain ⟨r2730, h_r2730, hm⟩ := bnd hm
              refine En.run E (ev_callO E.td ea_nil h_r2730) fun v2731 H E => ?_
              have hr9 := Option.some.inj hm
              subst res
              exact hQ _ _ (En.isEx E) (En.out E (En.at E (f := (fR zB v2731 r2730)) 0 rfl))
            · rw [if_neg (by rw [hc2733]; decide)] at hm
              refine iteT ?_
              refine ret_open ?_
              refine En.run E ev_bl fun v2732 H E => ?_
              have hr9 := Option.some.inj hm
              subst res
              exact hQ _ _ (En.isEx E) (En.out E (En.at E (f := (fR zB v2732 false)) 0 rfl))
          · rw [if_neg (by rw [hc2735]; decide)] at hm
            refine iteT ?_
            refine ret_open ?_
            refine En.run E ev_bl fun v2734 H E => ?_
            have hr9 := Option.some.inj hm
            subst res
            exact hQ _ _ (En.isEx E) (En.out E (En.at E (f := (fR zB v2734 false)) 0 rfl))
        · rw [if_neg (by rw [hc2737]; decide)] at hm
          refine iteT ?_
          refine iteT ?_
          refine ret_open ?_
          refine En.run E ev_bl fun v2736 H E => ?_
          have hr9 := Option.some.inj hm
          subst res
          exact hQ _ _ (En.isEx E) (En.out E (En.at E (f := (fR zB v2736 false)) 0 rfl))
      · rw [if_neg (by rw [hc2739]; decide)] at hm
        refine iteT ?_
        refine ret_open ?_
        refine En.run E ev_bl fun v2738 H E => ?_
        have hr9 := Option.some.inj hm
        subst res
        exact hQ _ _ (En.isEx E) (En.out E (En.at E (f := (fR zB v2738 false)) 0 rfl))
    · rw [if_neg (by rw [hc2741]; decide)] at hm
      refine iteT ?_
      refine iteT ?_
      refine ret_open ?_
      refine En.run E ev_bl fun v2740 H E => ?_
      have hr9 := Option.some.inj hm
      subst res
      exact hQ _ _ (En.isEx E) (En.out E (En.at E (f := (fR zB v2740 false)) 0 rfl))
  · rw [if_neg (by rw [hc2743]; decide)] at hm
    refine iteT ?_
    refine iteT ?_
    refine ret_open ?_
    refine En.run E ev_bl fun v2742 H E => ?_
    have hr9 := Option.some.inj hm
    subst res
    exact hQ _ _ (En.isEx E) (En.out E (En.at E (f := (fR zB v2742 false)) 0 rfl))

end
end EB

set_option Elab.async false
set_option linter.all false
set_option maxRecDepth 100000
set_option maxHeartbeats 4000000
/-! the plain law of k86: the pool, rows -/
namespace EB
open PySem PySem.Spec PyProof.Rows L2
/-- what a pool keeps -/
def Pk (s : Px) : Prop := 0 ≤ s.2.1
theorem mulV_r {i j : Int} (h1 : -(2 ^ 64) < j) (h2 : j < 2 ^ 64) : CMulV i j := .inl (.inr ⟨h1, h2⟩)
theorem divW {i j : Int} (h1 : 0 < j) (h2 : j < 2 ^ 64) : CDivW i j := ⟨h1, by
  have : j.natAbs < 2 ^ 64 := by omega
  have := (Nat.log2_lt (by omega)).mpr this
  omega⟩
theorem take_ok (many : Int) (h0 : 0 < many) (h1 : many < 2 ^ 64) (s : Px) (hs : Pk s) : Y (m__law_take many s) fun q => (0 ≤ q.1 ∧ q.1 < many) ∧ Pk q.2 := by
  obtain ⟨cells, at_, big, st, cnt⟩ := s
  have hs : 0 ≤ at_ := hs
  have md : ∀ x : Int, 0 ≤ x % many ∧ x % many < many := fun x => ⟨Int.emod_nonneg _ (by omega), Int.emod_lt_of_pos _ h0⟩
  have mz : ∀ x : Int, 0 ≤ x % 1000000000000037 ∧ x % 1000000000000037 < 1000000000000037 := fun x => ⟨Int.emod_nonneg _ (by decide), Int.emod_lt_of_pos _ (by decide)⟩
  unfold m__law_take
  dsimp only
  refine Y.iteD (fun hb => ?_) fun hb => ?_
  · exact Y.grd h0 (Y.bs (Y.grd (divW h0 h1) (Y.bs (Y.ret ⟨md _, hs⟩))))
  · refine Y.bind (P := fun j : Int × Int => 0 ≤ j.2) ?_ fun j hj => ?_
    · refine Y.iteD (fun hc => ?_) fun hc => ?_
      · obtain ⟨x, ex, _⟩ := atI_in hs hc
        exact Y.be ex (Y.bs (Y.ret (show 0 ≤ at_ + 1 by omega)))
      · exact Y.ret hs
    · refine Y.grd (by decide) ?_
      refine Y.iteD (fun hc => ?_) fun hc => ?_
      · exact Y.grd (divW h0 h1) (Y.bs (Y.grd h0 (Y.ret ⟨md _, hj⟩)))
      · refine Y.bs (Y.grd (mulV_r (by decide) (by decide)) (Y.grd (mulV_r (by decide) (by decide)) (Y.bs ?_)))
        generalize hz : (st + j.1 * 314159265359 + (cnt + 1) * 141421356237) % 1000000000000037 = z1
        have z1b : 0 ≤ z1 ∧ z1 < 1000000000000037 := hz ▸ mz _
        refine Y.grd (mulV_r (by omega) (by omega)) (Y.grd (mulV_r (by omega) (by omega)) (Y.bs ?_))
        generalize hz2 : (z1 * z1 + 17 * z1 + 90007) % 1000000000000037 = z2
        have z2b : 0 ≤ z2 ∧ z2 < 1000000000000037 := hz2 ▸ mz _
        refine Y.grd (mulV_r (by omega) (by omega)) (Y.grd (mulV_r (by omega) (by omega)) (Y.bs ?_))
        exact Y.grd (divW (by decide) (by decide)) (Y.grd h0 (Y.ret ⟨md _, hj⟩))
/-- a draw and what follows -/
theorem Y.tk {β : Type} {Q : β → Prop} {many : Int} {s : Px} {f : Int × Px → Option β} (hs : Pk s) (h0 : 0 < many) (h1 : many < 2 ^ 64) (k : ∀ t s', 0 ≤ t → t < many → Pk s' → Y (f (t, s')) Q) : Y ((m__law_take many s).bind f) Q :=
  Y.bind (take_ok many h0 h1 s hs) fun q hq => k q.1 q.2 hq.1.1 hq.1.2 hq.2
theorem bit01 (x : Int) : ∃ b, atI ([false, true] : List Bool) (Builtin.bitAnd x (1 : Int)) = some b := by
  rw [bitAnd_m1]
  rcases (by omega : x % 2 = 0 ∨ x % 2 = 1) with h | h <;> rw [h]
  · exact ⟨false, rfl⟩
  · exact ⟨true, rfl⟩
theorem word_ok (num len : Int) (h0 : 0 ≤ len) (h1 : len ≤ 1000) : Y (m__law_word num len) fun w => (w.length : Int) = len := by
  unfold m__law_word
  refine Y.grd (by omega) ?_
  refine Y.bind (P := fun ys : List (List Bool) => ys.length = (rng 0 len.toNat).length ∧ ∀ y ∈ ys, y.length = 1) ?_ fun ys hy => ?_
  · refine (Y.mapP (g := fun _ (y : List Bool) => y.length = 1) fun x hx => ?_).mono ?_
    · have hb := mem_rng hx
      refine Y.grd (by omega) ?_
      obtain ⟨b, hb⟩ := bit01 (num / 2 ^ (((len - (1 : Int)) - x)).toNat)
      exact Y.be hb (Y.ret rfl)
    · rintro ys ⟨h2, h3⟩
      refine ⟨h2, fun y hy => ?_⟩
      obtain ⟨i, hi, e⟩ := List.mem_iff_getElem.mp hy
      have hi2 : i < (rng 0 len.toNat).length := by omega
      exact h3 i _ y (List.getElem?_eq_getElem hi2) (by rw [List.getElem?_eq_getElem hi, e])
  · have : ∀ l : List (List Bool), (∀ y ∈ l, y.length = 1) → l.flatten.length = l.length := by
      intro l
      induction l with
      | nil => intro _; rfl
      | cons a l ih => intro h; rw [List.flatten_cons, List.length_append, ih fun y hy => h y (List.mem_cons_of_mem _ hy), h a List.mem_cons_self, List.length_cons]; omega
    have e := this ys hy.2
    have e2 := hy.1
    rw [rng_len] at e2
    refine Y.grd (by omega) (Y.ret ?_)
    omega
/-- rows: m programs of n bits -/
structure Rows (rows : List (List Bool)) (n : Nat) : Prop where
  ne : rows ≠ []
  many : rows.length ≤ 100
  len : ∀ w ∈ rows, w.length = n
  sz : n ≤ 100
theorem rows_ok (p l : Int) (hp : 0 < p ∧ p ≤ 20) (hl : 0 < l ∧ l ≤ 20) (s : Px) (hs : Pk s) : Y (m__law_rows p l s) fun q => (∃ n : Nat, Rows q.1 n ∧ (n : Int) ≤ l ∧ (q.1.length : Int) ≤ p) ∧ Pk q.2 := by
  unfold m__law_rows
  refine Y.tk hs hp.1 (by omega) fun t s ht0 ht1 hs => Y.bs ?_
  dsimp only
  refine Y.tk hs hl.1 (by omega) fun t2 s h20 h21 hs => Y.bs ?_
  dsimp only
  refine Y.bind (P := fun j : Int × Px => (0 ≤ j.1 ∧ j.1 ≤ l) ∧ Pk j.2) ?_ fun j hj => ?_
  · refine Y.tk hs (by decide) (by decide) fun t3 s h30 h31 hs => Y.bs ?_
    dsimp only
    refine Y.ite (fun _ => Y.ret ⟨⟨by omega, by omega⟩, hs⟩) fun _ => Y.ret ⟨⟨by omega, by omega⟩, hs⟩
  obtain ⟨len, s⟩ := j
  obtain ⟨⟨hl0, hl1⟩, hs⟩ := hj
  dsimp only at hl0 hl1 hs ⊢
  have hpw : ∀ k : Int, 0 ≤ k → k ≤ 20 → CPow 1 k := fun k h1 h2 => ⟨h1, by omega, by decide⟩
  have pw : ∀ k : Int, 0 ≤ k → k ≤ 20 → 0 < (1 : Int) * 2 ^ k.toNat ∧ (1 : Int) * 2 ^ k.toNat < 2 ^ 64 := fun k h1 h2 => by
    have h3 : k.toNat ≤ 20 := by omega
    have h4 : (2 : Nat) ^ k.toNat ≤ 2 ^ 20 := Nat.pow_le_pow_right (by decide) h3
    have h5 : 0 < (2 : Nat) ^ k.toNat := Nat.pow_pos (by decide)
    have h6 : ((2 : Int) ^ k.toNat) = ((2 ^ k.toNat : Nat) : Int) := by simp
    rw [h6, Int.one_mul]
    constructor <;> omega
  refine Y.tk hs (by decide) (by decide) fun kind s hk0 hk1 hs => ?_
  refine Y.grd (hpw len hl0 (by omega)) ?_
  refine Y.tk hs (pw len hl0 (by omega)).1 (pw len hl0 (by omega)).2 fun first s hf0 hf1 hs => Y.bs (Y.grd (by omega) ?_)
  dsimp only
  have ap : ∀ (xs : List Int) (x : Int) (s : Px) (i : Nat), xs.length = i → i < 100 → Pk s → Y ((grd (xs.length < 1000000)).bind fun (_ : Unit) => (some (xs ++ [x])).bind fun (d : List Int) => some (d, s)) fun q => q.1.length = i + 1 ∧ Pk q.2 := fun xs x s i hx hi hs => Y.grd (by omega) (Y.bs (Y.ret ⟨by simp [hx], hs⟩))
  have fin : ∀ {o : Option (List Int × Px)} {i : Nat}, Y o (fun q => q.1.length = i ∧ Pk q.2) → Y (o.bind fun j => some (j.1, j.2)) (fun q => q.1.length = i ∧ Pk q.2) := fun h => Y.bind h fun v hv => Y.ret hv
  refine Y.bind (P := fun q : List Int × Px => q.1.length = (1 + t).toNat ∧ Pk q.2) ?_ fun q hq => ?_
  · refine Y.forR (fun i (q : List Int × Px) => q.1.length = i ∧ Pk q.2) ⟨rfl, hs⟩ ?_
    rintro i ⟨xs, s⟩ hi ⟨hx, hs⟩
    dsimp only at hx hs ⊢
    have hi1 : i < 100 := by omega
    rw [show (0 : Int) + (i : Int) = (i : Int) by omega]
    refine fin (Y.iteD (fun _ => ?_) fun _ => fin (Y.iteD (fun _ => ?_) fun _ => fin (Y.ite (fun hc => ?_) fun _ => fin (Y.iteD (fun hc => ?_) fun _ => ?_))))
    · have hm := Int.emod_nonneg (i : Int) (show len + 1 ≠ 0 by omega)
      have hm2 := Int.emod_lt_of_pos (i : Int) (show 0 < len + 1 by omega)
      exact Y.grd (by omega) (Y.grd (hpw _ hm (by omega)) (Y.bs (ap _ _ _ _ hx hi1 hs)))
    · exact Y.grd (hpw len hl0 (by omega)) (Y.grd (pw len hl0 (by omega)).1 (Y.bs (ap _ _ _ _ hx hi1 hs)))
    · simp only [Bool.and_eq_true, decide_eq_true_eq] at hc
      refine Y.tk hs hc.2.1 (by omega) fun t s h1 h2 hs => ?_
      dsimp only
      refine Y.at 0 h1 (by omega) ?_
      refine Y.tk hs hc.2.2 (by omega) fun t s h1 h2 hs => ?_
      dsimp only
      exact Y.grd (hpw _ h1 (by omega)) (Y.bs (Y.bs (ap _ _ _ _ hx hi1 hs)))
    · refine Y.tk hs (by decide) (by decide) fun t s _ _ hs => Y.bs ?_
      dsimp only
      refine Y.ite (fun _ => ?_) fun _ => ?_
      · refine Y.tk hs hc (by omega) fun t s h1 h2 hs => ?_
        exact Y.at 0 h1 (by dsimp only; omega) (ap _ _ _ _ hx hi1 hs)
      · refine Y.grd (hpw len hl0 (by omega)) (Y.tk hs (pw len hl0 (by omega)).1 (pw len hl0 (by omega)).2 fun t s h1 h2 hs => ?_)
        exact ap _ _ _ _ hx hi1 hs
    · refine Y.grd (hpw len hl0 (by omega)) (Y.tk hs (pw len hl0 (by omega)).1 (pw len hl0 (by omega)).2 fun t s h1 h2 hs => ?_)
      exact ap _ _ _ _ hx hi1 hs
  · obtain ⟨xs, s⟩ := q
    obtain ⟨hx, hs⟩ := hq
    dsimp only at hx hs ⊢
    refine Y.bind (P := fun ys : List (List Bool) => ys.length = xs.length ∧ ∀ y ∈ ys, y.length = len.toNat) ?_ fun ys hy => ?_
    · refine (Y.mapP (g := fun _ (y : List Bool) => y.length = len.toNat) fun x _ => Y.bind (word_ok x len hl0 (by omega)) fun w hw => Y.ret (by omega)).mono ?_
      rintro ys ⟨h2, h3⟩
      refine ⟨h2, fun y hy => ?_⟩
      obtain ⟨i, hi, e⟩ := List.mem_iff_getElem.mp hy
      have hi2 : i < xs.length := by omega
      exact h3 i _ y (List.getElem?_eq_getElem hi2) (by rw [List.getElem?_eq_getElem hi, e])
    · have hl2 := hy.1
      refine Y.ret ⟨⟨len.toNat, ⟨?_, ?_, hy.2, by omega⟩, by omega, show (ys.length : Int) ≤ p by omega⟩, hs⟩
      · rintro rfl
        simp at hl2
        omega
      · show ys.length ≤ 100
        omega
end EB

set_option Elab.async false
set_option linter.all false
set_option maxRecDepth 100000
set_option maxHeartbeats 4000000
/-! the plain law of k86: rows that part, data, checks -/
namespace EB
open PySem PySem.Spec PyProof.Rows L2
theorem grd_t {c : Prop} [Decidable c] (h : c) {β : Type} (f : Unit → Option β) : (grd c).bind f = f () := by rw [grd_some h]; rfl
def bit (rows : List (List Bool)) (x p : Int) : Bool := (rows.getD x.toNat []).getD p.toNat false
/-- rows with two that differ everywhere -/
structure UR (rows : List (List Bool)) (n : Nat) : Prop extends Rows rows n where
  one : 1 ≤ n
  two : 2 ≤ rows.length
  few : rows.length ≤ 8
  opp : ∀ p : Int, 0 ≤ p → p < n → bit rows 0 p ≠ bit rows ((rows.length : Int) - 1) p
theorem unlike_ok {rows : List (List Bool)} {n : Nat} (g : Rows rows n) (hm : rows.length ≤ 8) : Y (m__law_unlike rows) fun r => ∃ n, UR r n := by
  obtain ⟨w0, rest, rfl⟩ := List.exists_cons_of_ne_nil g.ne
  have h0 := g.len w0 List.mem_cons_self
  have hz := g.sz
  have e0 : atI (w0 :: rest) (0 : Int) = some w0 := atI_nat (j := 0) rfl
  unfold m__law_unlike
  refine Y.be e0 (Y.iteD (fun hc => ?_) fun hc => ?_)
  · refine Y.ret ⟨1, ⟨⟨by simp, by decide, by decide, by decide⟩, by decide, by decide, by decide, fun p h1 h2 => ?_⟩⟩
    obtain rfl : p = 0 := by omega
    decide
  · refine Y.be e0 ?_
    have e1 : mapO (fun (x1464 : (List Bool)) => ((wInt1 x1464).bind fun (x1465 : Int) => ((atI ([true, false] : List Bool) x1465).bind fun (x1466 : Bool) => some ([x1466])))) (w0.map fun b => [b]) = some ((w0.map fun b => [b]).map fun w => [!(w.headD false)]) := Y.mapO fun x hx => by
      obtain ⟨b, _, rfl⟩ := List.mem_map.mp hx
      cases b <;> rfl
    have e2 : ((w0.map fun b => [b]).map fun w => [!(w.headD false)]).flatten = w0.map (!·) := by
      clear e1 h0 hc e0 g hm
      induction w0 with
      | nil => rfl
      | cons a l ih => simp only [List.map_cons, List.flatten_cons, ih, List.headD_cons, List.singleton_append]
    refine Y.be e1 ?_
    rw [e2]
    have l2 : (w0.map (!·)).length = n := by rw [List.length_map, h0]
    refine Y.grd (by omega) (Y.bs ?_)
    have hmx : mx2 (1 : Int) (((w0 :: rest).length : Int) - (1 : Int)) = ((max 1 rest.length : Nat) : Int) := by
      unfold mx2
      rw [List.length_cons]
      split <;> omega
    have hcut : cutA (w0 :: rest) none (some (mx2 (1 : Int) (((w0 :: rest).length : Int) - (1 : Int)))) = (w0 :: rest).take (max 1 rest.length) := by
      rw [hmx]
      exact cutA_upto _ _ (by rw [List.length_cons]; omega)
    rw [hcut]
    have hlt : ((w0 :: rest).take (max 1 rest.length)).length = max 1 rest.length := by rw [List.length_take, List.length_cons]; omega
    have htk : (w0 :: rest).take (max 1 rest.length) = w0 :: rest.take (max 1 rest.length - 1) := by
      obtain ⟨k, hk⟩ : ∃ k, max 1 rest.length = k + 1 := ⟨max 1 rest.length - 1, by omega⟩
      rw [hk, List.take_succ_cons]
      simp
    rw [List.length_cons] at hm
    refine Y.grd (by rw [hlt, List.length_singleton]; omega) (Y.ret ⟨n, ⟨⟨by simp, ?_, fun w hw => ?_, hz⟩, ?_, ?_, ?_, fun p h1 h2 => ?_⟩⟩)
    · rw [List.length_append, hlt, List.length_singleton]; omega
    · rcases List.mem_append.mp hw with h | h
      · exact g.len w (List.mem_of_mem_take h)
      · rw [List.mem_singleton] at h; rw [h, l2]
    · by_cases h : n = 0
      · exact absurd (by rw [h0, h]; rfl) hc
      · omega
    · rw [List.length_append, hlt, List.length_singleton]; omega
    · rw [List.length_append, hlt, List.length_singleton]; omega
    · have hp : p.toNat < w0.length := by omega
      have a : bit ((w0 :: rest).take (max 1 rest.length) ++ [w0.map (!·)]) 0 p = w0.getD p.toNat false := by
        unfold bit
        rw [htk]; rfl
      have b : bit ((w0 :: rest).take (max 1 rest.length) ++ [w0.map (!·)]) ((((w0 :: rest).take (max 1 rest.length) ++ [w0.map (!·)]).length : Int) - 1) p = !(w0.getD p.toNat false) := by
        unfold bit
        have : ((((((w0 :: rest).take (max 1 rest.length) ++ [w0.map (!·)]).length : Int) - 1)).toNat) = ((w0 :: rest).take (max 1 rest.length)).length := by rw [List.length_append, List.length_singleton]; omega
        rw [this]
        simp [List.getD_eq_getElem?_getD, List.getElem?_eq_getElem hp]
      rw [a, b]
      cases w0.getD p.toNat false <;> decide
/-! ### data -/
def sq (t : Bool) (xs : List PyData) : PyData := if t = true then .tuple xs else .list xs
theorem sq_row (t : Bool) (xs : List PyData) : m_is_row (sq t xs) = some true := by cases t <;> rfl
theorem sq_len (t : Bool) (xs : List PyData) : dLen (sq t xs) = some (xs.length : Int) := by cases t <;> rfl
theorem sq_seq (t : Bool) (xs : List PyData) : dSeq (sq t xs) = some xs := by cases t <;> rfl
theorem sq_ix (t : Bool) (xs : List PyData) (i : Int) : dIx (sq t xs) i = atI xs i := by cases t <;> rfl
def fitD : Nat → PyData → Prop
  | 0, _ => False
  | _ + 1, .none => True
  | _ + 1, .bool _ => True
  | _ + 1, .int _ => True
  | _ + 1, .str s => SeqAt.shaped (.str s) = true
  | n + 1, .list xs => xs.length ≤ 1000000 ∧ ∀ x ∈ xs, fitD n x
  | n + 1, .tuple xs => xs.length ≤ 1000000 ∧ ∀ x ∈ xs, fitD n x
  | _ + 1, .dict _ => False
theorem fit_sq {n : Nat} {t : Bool} {xs : List PyData} (h1 : xs.length ≤ 1000000) (h2 : ∀ x ∈ xs, fitD n x) : fitD (n + 1) (sq t xs) := by cases t <;> exact ⟨h1, h2⟩
theorem fit_mono : ∀ {n m : Nat} {d : PyData}, fitD n d → n ≤ m → fitD m d
  | 0, _, _, h, _ => h.elim
  | n + 1, 0, _, _, h => absurd h (by omega)
  | n + 1, m + 1, d, h, hl => by
    have hl : n ≤ m := by omega
    cases d with
    | none => exact trivial
    | bool _ => exact trivial
    | int _ => exact trivial
    | str _ => exact h
    | list xs => exact ⟨h.1, fun x hx => fit_mono (h.2 x hx) hl⟩
    | tuple xs => exact ⟨h.1, fun x hx => fit_mono (h.2 x hx) hl⟩
    | dict _ => exact h.elim
theorem alike_refl : ∀ (n : Nat) (d : PyData), fitD n d → m__law_alike n d d = some true
  | 0, _, h => h.elim
  | n + 1, d, h => by
    have seq : ∀ (t : Bool) (xs : List PyData), (xs.length ≤ 1000000 ∧ ∀ x ∈ xs, fitD n x) → m__law_alike (n + 1) (sq t xs) (sq t xs) = some true := by
      intro t xs ⟨h1, h2⟩
      unfold m__law_alike
      have a1 : dNone (sq t xs) = false := by cases t <;> rfl
      have a2 : isBl (sq t xs) true = false := by cases t <;> rfl
      have a3 : isBl (sq t xs) false = false := by cases t <;> rfl
      have a4 : isD "int" (sq t xs) = false := by cases t <;> rfl
      have a5 : isD "str" (sq t xs) = false := by cases t <;> rfl
      have e : mapO (fun (x1427 : Int) => ((dIx (sq t xs) x1427).bind fun (x1434 : PyData) => ((dIx (sq t xs) x1427).bind fun (x1435 : PyData) => ((m__law_alike n x1434 x1435).bind fun (r1436 : Bool) => some r1436)))) (rng 0 ((xs.length : Int)).toNat) = some ((rng 0 ((xs.length : Int)).toNat).map fun _ => true) := by
        apply Y.mapO
        intro i hi
        have hb := mem_rng hi
        obtain ⟨y, ey, hm, _⟩ := atI_in (xs := xs) (i := i) hb.1 (by omega)
        rw [sq_ix, ey]
        simp only [Option.bind_some]
        rw [alike_refl n _ (h2 _ hm)]
        rfl
      simp only [a1, a2, a3, a4, a5, Bool.false_eq_true, if_false, sq_len, Option.bind_some, decide_true, Bool.not_true, Bool.or_self, if_true]
      rw [grd_t (by omega), e]
      simp
    cases d with
    | none => rfl
    | bool b => cases b <;> rfl
    | int i =>
      unfold m__law_alike
      simp [dNone, isBl, isD, m__law_is_integer, grd, SeqAt.shaped, PyData.canLay0, PyData.depth, PyData.eqv]
    | str s =>
      have hs : SeqAt.shaped (.str s) = true := h
      unfold m__law_alike
      simp [dNone, isBl, isD, grd, hs, dStr, PyData.eqv]
    | list xs => exact seq false xs h
    | tuple xs => exact seq true xs h
    | dict _ => exact h.elim
theorem copy_same : ∀ (n : Nat) (d : PyData), fitD n d → m__law_copy n d = some d
  | 0, _, h => h.elim
  | n + 1, d, h => by
    have e : ∀ xs : List PyData, (∀ x ∈ xs, fitD n x) → mapO (fun (x1449 : PyData) => ((m__law_copy n x1449).bind fun (r1450 : PyData) => some r1450)) xs = some xs := fun xs hx => by
      have := Y.mapO (f := fun (x1449 : PyData) => ((m__law_copy n x1449).bind fun (r1450 : PyData) => some r1450)) (g := id) (xs := xs) fun x h => by rw [copy_same n x (hx x h)]; rfl
      rwa [List.map_id] at this
    unfold m__law_copy
    cases d with
    | list xs =>
      rw [if_pos (by rfl)]
      show (Option.bind (some xs) _) = _
      rw [Option.bind_some, e xs h.2]; rfl
    | tuple xs =>
      rw [if_neg (by simp [isD]), if_pos (by rfl)]
      show (Option.bind (some xs) _) = _
      rw [Option.bind_some, e xs h.2]; rfl
    | none => rfl
    | bool b => rfl
    | int i => rfl
    | str s => rfl
    | dict _ => exact h.elim
/-! ### words, rows -/
theorem wS_list (w : List Bool) : (wS w).cps.toList = w.map sgn := by simp [wS]
/-- is it a word -/
def isW : PyData → Bool
  | .str s => s.cps.toList.all fun c => decide (c ∈ ("01" : Str).cps.toList)
  | _ => false
/-- no text is too long -/
def szD : PyData → Prop
  | .str s => s.length ≤ 1000000
  | _ => True
theorem word_no {d : PyData} (h : isD "str" d = false) : m_is_word d = some false := by
  unfold m_is_word
  rw [h]
  rfl
theorem word_eq {d : PyData} (h : szD d) : m_is_word d = some (isW d) := by
  cases d with
  | str s =>
    unfold m_is_word
    have e : mapO (fun (x12 : Str) => ((inSgn x12 ("01" : Str)).bind fun (x13 : Bool) => some x13)) (s.cps.toList.map fun c => (⟨#[c]⟩ : Str)) = some (s.cps.toList.map fun c => decide (c ∈ ("01" : Str).cps.toList)) := by
      have h2 : ∀ l : List Nat, mapO (fun (x12 : Str) => ((inSgn x12 ("01" : Str)).bind fun (x13 : Bool) => some x13)) (l.map fun c => (⟨#[c]⟩ : Str)) = some (l.map fun c => decide (c ∈ ("01" : Str).cps.toList)) := by
        intro l
        induction l with
        | nil => rfl
        | cons c l ih =>
          have hc : inSgn ⟨#[c]⟩ ("01" : Str) = some (decide (c ∈ ("01" : Str).cps.toList)) := rfl
          simp only [List.map_cons, mapO]
          rw [ih, hc]
          rfl
      exact h2 _
    rw [if_pos (by rfl)]
    simp only [dStr, Option.bind_some]
    rw [grd_t (c := s.length ≤ 1000000) h, e]
    simp [isW, List.all_map, Function.comp_def]
  | _ => exact word_no rfl
theorem isW_word (w : List Bool) : isW (.str (wS w)) = true := by
  show (wS w).cps.toList.all _ = true
  rw [wS_list, List.all_map, List.all_eq_true]
  intro b _
  cases b <;> decide +kernel
/-- rows that are none: something in them is no word -/
theorem rows_word (t : Bool) {xs : List PyData} (h : ∀ x ∈ xs, szD x) (hx : ∃ x ∈ xs, isW x = false) : m_are_rows (sq t xs) = some false := by
  unfold m_are_rows
  have e : mapO (fun (x22 : PyData) => ((m_is_word x22).bind fun (r23 : Bool) => some r23)) xs = some (xs.map isW) := Y.mapO fun x hx => by rw [word_eq (h x hx)]; rfl
  have e2 : ((xs.map isW).all id) = false := by
    obtain ⟨x, hm, hf⟩ := hx
    rw [List.all_eq_false]
    exact ⟨isW x, List.mem_map.mpr ⟨x, hm, rfl⟩, by simp [hf]⟩
  simp only [sq_row, sq_len, sq_seq, Option.bind_some, e, e2, Bool.not_true, Bool.false_eq_true, if_false, Bool.not_false]
  split <;> rfl
/-- rows whose words are of whatever lengths -/
theorem rows_len (t : Bool) {xs : List PyData} {ss : List Str} (e0 : xs = ss.map PyData.str) (h : ∀ s ∈ ss, s.length ≤ 1000000 ∧ isW (.str s) = true) (hne : ss ≠ []) : m_are_rows (sq t xs) = some (ss.all fun s => decide ((s.length : Int) = ((ss.headD default).length : Int))) := by
  subst e0
  unfold m_are_rows
  have e : mapO (fun (x22 : PyData) => ((m_is_word x22).bind fun (r23 : Bool) => some r23)) (ss.map PyData.str) = some ((ss.map PyData.str).map isW) := Y.mapO fun x hx => by
    obtain ⟨s, hs, rfl⟩ := List.mem_map.mp hx
    rw [word_eq (d := .str s) (h s hs).1]; rfl
  have e2 : (((ss.map PyData.str).map isW).all id) = true := by
    rw [List.all_eq_true]
    intro b hb
    obtain ⟨x, hx, rfl⟩ := List.mem_map.mp hb
    obtain ⟨s, hs, rfl⟩ := List.mem_map.mp hx
    exact (h s hs).2
  have l0 : ¬ (((ss.map PyData.str).length : Int) = 0) := by
    rw [List.length_map]
    have := List.length_pos_iff.mpr hne
    omega
  obtain ⟨s0, ss', rfl⟩ := List.exists_cons_of_ne_nil hne
  have i0 : atI ((s0 :: ss').map PyData.str) 0 = some (.str s0) := atI_nat rfl
  have e3 : mapO (fun (x33 : PyData) => ((dLen x33).bind fun (x34 : Int) => ((dIx (sq t ((s0 :: ss').map PyData.str)) (0 : Int)).bind fun (x35 : PyData) => ((dLen x35).bind fun (x36 : Int) => some (decide (x34 = x36)))))) ((s0 :: ss').map PyData.str) = some ((s0 :: ss').map fun s => decide ((s.length : Int) = (s0.length : Int))) := by
    have h0 : dLen (.str s0) = some (s0.length : Int) := if_pos (h s0 List.mem_cons_self).1
    have h2 : ∀ l : List Str, (∀ s ∈ l, s.length ≤ 1000000) → mapO (fun (x33 : PyData) => ((dLen x33).bind fun (x34 : Int) => ((dIx (sq t ((s0 :: ss').map PyData.str)) (0 : Int)).bind fun (x35 : PyData) => ((dLen x35).bind fun (x36 : Int) => some (decide (x34 = x36)))))) (l.map PyData.str) = some (l.map fun s => decide ((s.length : Int) = (s0.length : Int))) := by
      intro l hl
      induction l with
      | nil => rfl
      | cons s l ih =>
        have hs : dLen (.str s) = some (s.length : Int) := if_pos (hl s List.mem_cons_self)
        simp only [List.map_cons] at ih ⊢
        simp only [mapO, hs, sq_ix, Option.bind_some]
        rw [List.map_cons] at i0
        rw [i0]
        simp only [Option.bind_some, h0]
        simp only [sq_ix] at ih
        rw [i0] at ih
        simp only [Option.bind_some, h0] at ih
        rw [ih fun s hs => hl s (List.mem_cons_of_mem _ hs)]
        rfl
    exact h2 _ fun s hs => (h s hs).1
  simp only [sq_row, sq_len, sq_seq, Option.bind_some, e, e2, Bool.not_true, Bool.false_eq_true, if_false, decide_eq_true_eq, l0]
  rw [e3]
  simp [List.all_map, Function.comp_def]
theorem rows_yes (t : Bool) {rows : List (List Bool)} {n : Nat} (g : Rows rows n) : m_are_rows (sq t (rows.map (Tod.toD zW))) = some true := by
  have e : rows.map (Tod.toD zW) = (rows.map wS).map PyData.str := by rw [List.map_map]; rfl
  rw [rows_len t e (fun s hs => by
    obtain ⟨w, hw, rfl⟩ := List.mem_map.mp hs
    exact ⟨by rw [wS_len, g.len w hw]; have := g.sz; omega, isW_word w⟩) (by simpa using g.ne)]
  congr 1
  rw [List.all_eq_true]
  intro s hs
  obtain ⟨w, hw, rfl⟩ := List.mem_map.mp hs
  obtain ⟨w0, r, rfl⟩ := List.exists_cons_of_ne_nil g.ne
  have h0 := g.len w0 List.mem_cons_self
  simp [wS_len, g.len w hw, h0]
/-- a number from 0 -/
def isN : PyData → Bool
  | .int i => decide (0 ≤ i)
  | _ => false
theorem number_eq (d : PyData) : m_is_number d = some (isN d) := by cases d <;> rfl
theorem budgets_eq (t : Bool) (xs : List PyData) : m_are_budgets (sq t xs) = some (xs.all isN) := by
  unfold m_are_budgets
  have e : mapO (fun (x27 : PyData) => ((m_is_number x27).bind fun (r28 : Bool) => some r28)) xs = some (xs.map isN) := Y.mapO fun x _ => by rw [number_eq]; rfl
  simp only [sq_row, sq_seq, Option.bind_some, if_true, e]
  simp [List.all_map, Function.comp_def]
/-! ### fd -/
theorem bitO_sgn (b : Bool) : bitO (sgn b) = some b := by cases b <;> rfl
theorem fd_word {w : List Bool} (h : w.length ≤ 1000) : Fd.fd zW (.str (wS w)) = some w := by
  show (if (wS w).length ≤ 100000 then mapO bitO (wS w).cps.toList else none) = _
  rw [if_pos (by rw [wS_len]; omega), wS_list]
  clear h
  induction w with
  | nil => rfl
  | cons b w ih => simp only [List.map_cons, mapO, bitO_sgn, ih, Option.bind_some]
theorem fd_rows (t : Bool) {rows : List (List Bool)} {n : Nat} (g : Rows rows n) : Fd.fd (zQ zW) (sq t (rows.map (Tod.toD zW))) = some rows := by
  show (dSeq (sq t _)).bind (mapO (Fd.fd zW)) = _
  rw [sq_seq]
  have hz := g.sz
  have h : ∀ l : List (List Bool), (∀ w ∈ l, w.length = n) → mapO (Fd.fd zW) (l.map (Tod.toD zW)) = some l := by
    intro l
    induction l with
    | nil => intro _; rfl
    | cons w l ih =>
      intro hl
      have e : Fd.fd zW (Tod.toD zW w) = some w := fd_word (by rw [hl w List.mem_cons_self]; omega)
      simp only [List.map_cons, mapO, e, ih fun w hw => hl w (List.mem_cons_of_mem _ hw), Option.bind_some]
  exact h rows g.len
theorem fd_ints (t : Bool) (xs : List Int) : Fd.fd (zQ zI) (sq t (xs.map (Tod.toD zI))) = some xs := by
  show (dSeq (sq t _)).bind (mapO (Fd.fd zI)) = _
  rw [sq_seq]
  induction xs with
  | nil => rfl
  | cons x l ih =>
    have ih' : mapO (Fd.fd zI) (l.map (Tod.toD zI)) = some l := ih
    show mapO (Fd.fd zI) ((x :: l).map (Tod.toD zI)) = _
    have e : Fd.fd zI (Tod.toD zI x) = some x := rfl
    simp only [List.map_cons, mapO, e, ih', Option.bind_some]
/-- budgets that are some -/
structure Buds (bud : List Int) (m : Nat) : Prop where
  len : bud.length = m
  nn : ∀ b ∈ bud, 0 ≤ b
theorem check_ok (t u : Bool) {rows : List (List Bool)} {n : Nat} {bud : List Int} (g : Rows rows n) (hb : Buds bud rows.length) : m_check_rows (sq t (rows.map (Tod.toD zW))) (sq u (bud.map (Tod.toD zI))) = some (.ok ()) := by
  have e : (bud.map (Tod.toD zI)).all isN = true := by
    rw [List.all_eq_true]
    intro x hx
    obtain ⟨b, hm, rfl⟩ := List.mem_map.mp hx
    exact decide_eq_true (hb.nn b hm)
  unfold m_check_rows
  simp [rows_yes t g, budgets_eq, e, sq_len, hb.len]
theorem init_ok (t u : Bool) {rows : List (List Bool)} {n : Nat} {bud : List Int} (g : Rows rows n) (hb : Buds bud rows.length) : m_PointGame___init__ (sq t (rows.map (Tod.toD zW))) (sq u (bud.map (Tod.toD zI))) = some (.ok (rows, bud)) := by
  unfold m_PointGame___init__
  rw [check_ok t u g hb]
  simp only [catE, Option.bind_some, fd_rows t g, fd_ints]
theorem judge_ok (t u : Bool) {rows : List (List Bool)} {n : Nat} {bud : List Int} {tree : PyData} {b : Bool} (g : Rows rows n) (hb : Buds bud rows.length) (h : m_tree_holds 32 (rows, bud) tree (rng 0 rows.length) 0 = some b) :
    m_judge_point_tree (sq t (rows.map (Tod.toD zW))) (sq u (bud.map (Tod.toD zI))) tree = some (.ok b) := by
  unfold m_judge_point_tree
  rw [init_ok t u g hb]
  have hm := g.many
  have e : m_PointGame_all_programs (rows, bud) = some (rng 0 rows.length) := by
    unfold m_PointGame_all_programs
    rw [grd_t (by dsimp only; omega)]
    simp
  simp only [catE, Option.bind_some, e, h]
theorem handW (rows : List (List Bool)) (s : Px) (hs : Pk s) : Y (m__law_handedW rows s) fun q => (∃ t, q.1 = sq t (rows.map (Tod.toD zW))) ∧ Pk q.2 := by
  unfold m__law_handedW
  refine Y.tk hs (by decide) (by decide) fun t s _ _ hs => Y.bs (Y.ite (fun _ => Y.ret ⟨⟨true, rfl⟩, hs⟩) fun _ => Y.ret ⟨⟨false, rfl⟩, hs⟩)
theorem handI (xs : List Int) (s : Px) (hs : Pk s) : Y (m__law_handedI xs s) fun q => (∃ t, q.1 = sq t (xs.map (Tod.toD zI))) ∧ Pk q.2 := by
  unfold m__law_handedI
  refine Y.tk hs (by decide) (by decide) fun t s _ _ hs => Y.bs (Y.ite (fun _ => Y.ret ⟨⟨true, rfl⟩, hs⟩) fun _ => Y.ret ⟨⟨false, rfl⟩, hs⟩)
theorem handD (xs : List PyData) (s : Px) (hs : Pk s) : Y (m__law_handedD xs s) fun q => (∃ t, q.1 = sq t xs) ∧ Pk q.2 := by
  unfold m__law_handedD
  refine Y.tk hs (by decide) (by decide) fun t s _ _ hs => Y.bs (Y.ite (fun _ => Y.ret ⟨⟨true, rfl⟩, hs⟩) fun _ => Y.ret ⟨⟨false, rfl⟩, hs⟩)
theorem fit_word (w : List Bool) : fitD 1 (.str (wS w)) := shaped_str (strOk_w w)
theorem fit_rows {rows : List (List Bool)} {n : Nat} (t : Bool) (g : Rows rows n) : fitD 2 (sq t (rows.map (Tod.toD zW))) :=
  fit_sq (by rw [List.length_map]; have := g.many; omega) fun x hx => by
    obtain ⟨w, _, rfl⟩ := List.mem_map.mp hx
    exact fit_word w
theorem fit_ints {xs : List Int} (t : Bool) (h : xs.length ≤ 1000) : fitD 2 (sq t (xs.map (Tod.toD zI))) :=
  fit_sq (by rw [List.length_map]; omega) fun x hx => by
    obtain ⟨w, _, rfl⟩ := List.mem_map.mp hx
    exact trivial
theorem alike_bool (a b : Bool) : m__law_alike 16 (.bool a) (.bool b) = some (decide (a = b)) := by cases a <;> cases b <;> rfl
theorem judged_ok {rows : List (List Bool)} {n : Nat} {bud : List Int} {tree : PyData} {b : Bool} (g : Rows rows n) (hb : Buds bud rows.length) (hf : fitD 16 tree) (h : m_tree_holds 32 (rows, bud) tree (rng 0 rows.length) 0 = some b) (s : Px) (hs : Pk s) :
    Y (m__law_judged rows bud tree b s) fun q => q.1 = true ∧ Pk q.2 := by
  unfold m__law_judged
  refine Y.bind (handW rows s hs) ?_
  rintro ⟨d1, s⟩ ⟨⟨t, rfl⟩, hs⟩
  refine Y.bind (handI bud s hs) ?_
  rintro ⟨d2, s⟩ ⟨⟨u, rfl⟩, hs⟩
  dsimp only at hs ⊢
  have hm := g.many
  have hl := hb.len
  refine Y.be (copy_same 16 tree hf) (Y.be (o := okX _) (v := b) (by rw [judge_ok t u g hb h]; rfl) ?_)
  have a1 : m__law_alike 16 (.list (rows.map (Tod.toD zW))) (Tod.toD (zL zW) rows) = some true := alike_refl 16 _ (fit_mono (fit_rows false g) (by decide))
  have a2 : m__law_alike 16 (.list (bud.map (Tod.toD zI))) (Tod.toD (zL zI) bud) = some true := alike_refl 16 _ (fit_mono (fit_ints false (by omega)) (by decide))
  simp only [sq_seq, Option.bind_some, a1, a2, alike_refl 16 tree hf, Bool.not_true, Bool.false_eq_true, if_false, alike_bool, decide_true]
  exact Y.ret ⟨rfl, hs⟩
end EB

set_option Elab.async false
set_option linter.all false
set_option maxRecDepth 100000
set_option maxHeartbeats 4000000
/-! the plain law of k86: trees -/
namespace EB
open PySem PySem.Spec PyProof.Rows L2
theorem lcO_eq {α β : Type} {p : α → Option Bool} {f : α → Option β} {q : α → Bool} {g : α → β} : ∀ {xs : List α}, (∀ x ∈ xs, p x = some (q x)) → (∀ x ∈ xs, f x = some (g x)) → lcO p f xs = some ((xs.filter q).map g)
  | [], _, _ => rfl
  | x :: xs, h1, h2 => by
    have ih := lcO_eq (xs := xs) (fun y hy => h1 y (List.mem_cons_of_mem _ hy)) fun y hy => h2 y (List.mem_cons_of_mem _ hy)
    unfold lcO
    rw [h1 x List.mem_cons_self, h2 x List.mem_cons_self, ih]
    simp only [Option.bind_some]
    cases hq : q x <;> simp [hq]
theorem list3 {α : Type} {xs : List α} (h : xs.length = 3) : ∃ a b c, xs = [a, b, c] := by
  match xs, h with
  | [a, b, c], _ => exact ⟨a, b, c, rfl⟩
/-- programs of a lot -/
def Lt (m : Nat) (lot : List Int) : Prop := ∀ x ∈ lot, 0 ≤ x ∧ x < (m : Int)
def low (rows : List (List Bool)) (p : Int) (lot : List Int) : List Int := lot.filter fun x => !bit rows x p
def upp (rows : List (List Bool)) (p : Int) (lot : List Int) : List Int := lot.filter fun x => bit rows x p
section
variable {rows : List (List Bool)} {n : Nat} {bud : List Int} {lot : List Int}
theorem Lt.low {m : Nat} {p : Int} (h : Lt m lot) : Lt m (low rows p lot) := fun x hx => h x (List.mem_filter.mp hx).1
theorem Lt.upp {m : Nat} {p : Int} (h : Lt m lot) : Lt m (upp rows p lot) := fun x hx => h x (List.mem_filter.mp hx).1
theorem lt_all (m : Nat) : Lt m (rng 0 m) := fun x hx => by have := mem_rng hx; omega
theorem Y.bit {β : Type} {Q : β → Prop} (g : Rows rows n) {x p : Int} {f : List Bool → Option β} {k : Bool → Option β} (hx : 0 ≤ x ∧ x < (rows.length : Int)) (hp : 0 ≤ p ∧ p < (n : Int)) (e : ∀ w, f w = (atI w p).bind k) (h : Y (k (bit rows x p)) Q) : Y ((atI rows x).bind f) Q := by
  refine Y.at [] hx.1 hx.2 ?_
  rw [e]
  exact Y.at false hp.1 (by rw [g.len _ (getD_memI hx.1 hx.2)]; exact hp.2) h
theorem bit_eq {β : Type} (g : Rows rows n) {x p : Int} (hx : 0 ≤ x ∧ x < (rows.length : Int)) (hp : 0 ≤ p ∧ p < (n : Int)) (k : Bool → Option β) : ((atI rows x).bind fun w => (atI w p).bind k) = k (bit rows x p) := by
  rw [at_get (d0 := []) hx.1 hx.2, Option.bind_some, at_get (d0 := false) hp.1 (by rw [g.len _ (getD_memI hx.1 hx.2)]; exact hp.2)]
  rfl
theorem dec0 (b : Bool) : decide ([b] = ([false] : List Bool)) = !b := by cases b <;> rfl
theorem dec1 (b : Bool) : decide ([b] = ([true] : List Bool)) = b := by cases b <;> rfl
theorem parts_ok (g : Rows rows n) (hl : Lt rows.length lot) {p : Int} (hp : 0 ≤ p ∧ p < (n : Int)) : m_PointGame_parts (rows, bud) lot p = some (low rows p lot, upp rows p lot) := by
  unfold m_PointGame_parts
  dsimp only
  rw [lcO_eq (q := fun x => !bit rows x p) (g := fun x => x) (fun x hx => by rw [bit_eq g (hl x hx) hp, dec0]) (fun x _ => rfl)]
  simp only [Option.bind_some, List.map_id']
  congr 2
  refine List.filter_congr fun x hx => ?_
  have : (x ∈ lot.filter fun x => !bit rows x p) ↔ bit rows x p = false := by simp [List.mem_filter, hx]
  cases hb : bit rows x p <;> simp [hb, hx]
/-- a knot: its point, its parts -/
def knot (n : Nat) : PyData → Option (Int × PyData × PyData)
  | .tuple [.int p, a, b] => if 0 ≤ p ∧ p < (n : Int) then some (p, a, b) else none
  | _ => none
/-- what a tree tells -/
def th (rows : List (List Bool)) (n : Nat) (bud : List Int) : Nat → PyData → List Int → Int → Bool
  | 0, _, _, _ => false
  | f + 1, t, lot, k => match t with
    | .int x => decide (x ∈ lot) && decide (bud.getD x.toNat 0 < k)
    | t => match knot n t with
      | some q => th rows n bud f q.2.1 (low rows q.1 lot) (k + 1) && th rows n bud f q.2.2 (upp rows q.1 lot) (k + 1)
      | none => false
theorem row0 (g : Rows rows n) : ∃ w, atI rows (0 : Int) = some w ∧ w.length = n := by
  obtain ⟨w0, rest, rfl⟩ := List.exists_cons_of_ne_nil g.ne
  exact ⟨w0, atI_nat (j := 0) rfl, g.len w0 List.mem_cons_self⟩
theorem knot_no {t : PyData} (h : ∀ p a b, t = .tuple [.int p, a, b] → ¬ (0 ≤ p ∧ p < (n : Int))) : knot n t = none := by
  unfold knot
  split
  · rw [if_neg (h _ _ _ rfl)]
  · rfl
theorem knot_yes {p : Int} {a b : PyData} (h : 0 ≤ p ∧ p < (n : Int)) : knot n (.tuple [.int p, a, b]) = some (p, a, b) := if_pos h
theorem th_int (f : Nat) (x : Int) (lot : List Int) (k : Int) : th rows n bud (f + 1) (.int x) lot k = (decide (x ∈ lot) && decide (bud.getD x.toNat 0 < k)) := rfl
theorem th_knot (f : Nat) {p : Int} {a b : PyData} (lot : List Int) (k : Int) (hp : 0 ≤ p ∧ p < (n : Int)) : th rows n bud (f + 1) (.tuple [.int p, a, b]) lot k = (th rows n bud f a (low rows p lot) (k + 1) && th rows n bud f b (upp rows p lot) (k + 1)) := by
  show (match knot n (.tuple [.int p, a, b]) with | some q => th rows n bud f q.2.1 (low rows q.1 lot) (k + 1) && th rows n bud f q.2.2 (upp rows q.1 lot) (k + 1) | none => false) = _
  rw [knot_yes hp]
theorem th_no (f : Nat) {t : PyData} (lot : List Int) (k : Int) (hk : knot n t = none) (hx : ∀ x, t ≠ .int x) : th rows n bud (f + 1) t lot k = false := by
  cases t with
  | int x => exact absurd rfl (hx x)
  | tuple xs =>
    show (match knot n (.tuple xs) with | some q => th rows n bud f q.2.1 (low rows q.1 lot) (k + 1) && th rows n bud f q.2.2 (upp rows q.1 lot) (k + 1) | none => false) = _
    rw [hk]
  | _ => rfl
/-- how a piece of data may look -/
theorem look (n : Nat) (t : PyData) : (∃ x, t = .int x) ∨ (∃ p a b, t = .tuple [.int p, a, b] ∧ 0 ≤ p ∧ p < (n : Int)) ∨ (knot n t = none ∧ ∀ x, t ≠ .int x) := by
  cases t with
  | int x => exact .inl ⟨x, rfl⟩
  | tuple xs =>
    refine .inr ?_
    by_cases h : ∃ p a b, PyData.tuple xs = .tuple [.int p, a, b] ∧ 0 ≤ p ∧ p < (n : Int)
    · exact .inl h
    · exact .inr ⟨knot_no fun p a b e h2 => h ⟨p, a, b, e, h2⟩, fun x e => by cases e⟩
  | _ => exact .inr (.inr ⟨rfl, fun x e => by cases e⟩)
theorem is_knot_eq (t : PyData) : m_is_knot t (n : Int) = some (knot n t).isSome := by
  cases t with
  | tuple xs =>
    unfold m_is_knot
    rw [if_pos (by rfl)]
    show ((Option.bind (some (xs.length : Int)) _).bind _) = _
    rw [Option.bind_some]
    by_cases h : xs.length = 3
    · obtain ⟨c, a, b, rfl⟩ := list3 h
      rw [if_pos (by simp)]
      show ((((Option.bind (some c) _)).bind _).bind _) = _
      rw [Option.bind_some]
      cases c with
      | int p =>
        show ((((some (decide (0 ≤ p) && decide (p ≤ (n : Int) - 1))).bind _).bind _).bind _) = _
        by_cases h2 : 0 ≤ p ∧ p < (n : Int)
        · rw [knot_yes h2, decide_eq_true h2.1, decide_eq_true (show p ≤ (n : Int) - 1 by omega)]; rfl
        · rw [knot_no fun p' a' b' e h3 => by cases e; exact h2 h3]
          have : (decide (0 ≤ p) && decide (p ≤ (n : Int) - 1)) = false := by
            by_cases h4 : 0 ≤ p
            · rw [decide_eq_false (show ¬ p ≤ (n : Int) - 1 by omega), Bool.and_false]
            · rw [decide_eq_false h4, Bool.false_and]
          rw [this]; rfl
      | _ => rfl
    · rw [if_neg (by simp; omega), knot_no fun p a b e _ => h (by cases e; rfl)]
      rfl
  | _ => rfl
theorem holds_eq (g : Rows rows n) (hb : Buds bud rows.length) : ∀ (m f : Nat) (t : PyData) (lot : List Int) (k : Int), fitD m t → m ≤ f → Lt rows.length lot → m_tree_holds f (rows, bud) t lot k = some (th rows n bud f t lot k)
  | 0, _, _, _, _, h, _, _ => h.elim
  | m + 1, 0, _, _, _, _, h, _ => absurd h (by omega)
  | m + 1, f + 1, t, lot, k, h, hf, hl => by
    obtain ⟨w0, e0, hw0⟩ := row0 g
    unfold m_tree_holds
    rcases look n t with ⟨x, rfl⟩ | ⟨p, a, b, rfl, hp⟩ | ⟨hk, hx⟩
    · show ((if decide (x ∈ lot) = true then ((Option.bind (some x) _)) else some false).bind _) = some (decide (x ∈ lot) && decide (bud.getD x.toNat 0 < k))
      by_cases hm : x ∈ lot
      · have := hl x hm
        rw [if_pos (decide_eq_true hm), Option.bind_some, at_get (d0 := 0) this.1 (by rw [hb.len]; exact this.2), decide_eq_true hm]
        rfl
      · rw [if_neg (by simp [hm]), decide_eq_false hm]
        rfl
    · have hk := knot_yes (n := n) (a := a) (b := b) hp
      have ha : fitD m a := h.2 a (by simp)
      have hb2 : fitD m b := h.2 b (by simp)
      have i1 := holds_eq g hb m f a (low rows p lot) (k + 1) ha (by omega) hl.low
      have i2 := holds_eq g hb m f b (upp rows p lot) (k + 1) hb2 (by omega) hl.upp
      have hi : m_is_integer (.tuple [.int p, a, b]) = some false := rfl
      have ho : m_is_knot (.tuple [.int p, a, b]) (n : Int) = some true := by rw [is_knot_eq, hk]; rfl
      have e1 : dIx (.tuple [.int p, a, b]) 0 = some (.int p) := rfl
      have e2 : dIx (.tuple [.int p, a, b]) 1 = some a := rfl
      have e3 : dIx (.tuple [.int p, a, b]) 2 = some b := rfl
      simp only [hi, e0, hw0, ho, Option.bind_some, Bool.false_eq_true, if_false, Bool.not_true, e1, e2, e3, dInt, parts_ok g hl hp, i1, i2]
      rw [th_knot f lot k hp]
      cases th rows n bud f a (low rows p lot) (k + 1) <;> rfl
    · have hi : m_is_integer t = some false := by
        cases t with
        | int x => exact absurd rfl (hx x)
        | _ => rfl
      have ho : m_is_knot t (n : Int) = some false := by rw [is_knot_eq, hk]; rfl
      simp only [hi, e0, hw0, ho, Option.bind_some, Bool.false_eq_true, if_false, Bool.not_false, if_true]
      rw [th_no f lot k hk hx]
def enc (w : Int × Bool) : PyData := .list [.int w.1, .str (wS [w.2])]
def lotOf (rows : List (List Bool)) (W : List (Int × Bool)) : List Int := (rng 0 rows.length).filter fun x => W.all fun w => decide (bit rows x w.1 = w.2)
theorem lotOf_low (W : List (Int × Bool)) (p : Int) : lotOf rows (W ++ [(p, false)]) = low rows p (lotOf rows W) := by
  unfold lotOf low
  rw [List.filter_filter]
  refine List.filter_congr fun x _ => ?_
  rw [List.all_append]
  show ((W.all fun w => decide (bit rows x w.1 = w.2)) && (decide (bit rows x p = false) && true)) = _
  generalize (W.all fun w => decide (bit rows x w.1 = w.2)) = c
  generalize bit rows x p = b
  cases c <;> cases b <;> rfl
theorem lotOf_upp (W : List (Int × Bool)) (p : Int) : lotOf rows (W ++ [(p, true)]) = upp rows p (lotOf rows W) := by
  unfold lotOf upp
  rw [List.filter_filter]
  refine List.filter_congr fun x _ => ?_
  rw [List.all_append]
  show ((W.all fun w => decide (bit rows x w.1 = w.2)) && (decide (bit rows x p = true) && true)) = _
  generalize (W.all fun w => decide (bit rows x w.1 = w.2)) = c
  generalize bit rows x p = b
  cases c <;> cases b <;> rfl
theorem lt_lotOf (W : List (Int × Bool)) : Lt rows.length (lotOf rows W) := fun x hx => lt_all _ x (List.mem_filter.mp hx).1
theorem eqv_word (a b : Bool) : PyData.eqv (.str (wS [a])) (.str (wS [b])) = decide (a = b) := by cases a <;> cases b <;> decide +kernel
theorem mem_lotOf {W : List (Int × Bool)} {x : Int} : x ∈ lotOf rows W ↔ (0 ≤ x ∧ x < (rows.length : Int)) ∧ (W.all fun w => decide (bit rows x w.1 = w.2)) = true := by
  unfold lotOf
  rw [List.mem_filter]
  constructor
  · rintro ⟨h1, h2⟩
    exact ⟨lt_all _ x h1, h2⟩
  · rintro ⟨⟨h1, h3⟩, h2⟩
    refine ⟨?_, h2⟩
    have : x = ((0 : Int) + (x.toNat : Int)) := by omega
    exact List.mem_of_getElem? (i := x.toNat) (by rw [rng_get (by omega), ← this])
theorem breaks_eq (g : Rows rows n) (hb : Buds bud rows.length) : ∀ (m f : Nat) (t : PyData) (W : List (Int × Bool)), fitD m t → m ≤ f → W.length + m ≤ 13 → (∀ w ∈ W, 0 ≤ w.1 ∧ w.1 < (n : Int)) →
    m__law_breaks f t rows bud (W.map enc) = some (th rows n bud f t (lotOf rows W) (W.length : Int))
  | 0, _, _, _, h, _, _, _ => h.elim
  | m + 1, 0, _, _, _, h, _, _ => absurd h (by omega)
  | m + 1, f + 1, t, W, h, hf, hl, hW => by
    obtain ⟨w0, e0, hw0⟩ := row0 g
    have hlen : (W.map enc).length = W.length := List.length_map _
    unfold m__law_breaks
    rw [if_neg (by rw [hlen]; simp; omega)]
    rcases look n t with ⟨x, rfl⟩ | ⟨p, a, b, rfl, hp⟩ | ⟨hk, hx⟩
    · rw [if_neg (by simp [isD])]
      have hi : m__law_is_integer (.int x) = some true := rfl
      simp only [hi, Option.bind_some, Bool.not_true, Bool.false_eq_true, if_false, dInt]
      rw [th_int]
      by_cases hr : 0 ≤ x ∧ x < (rows.length : Int)
      · have c1 : decide (x < 0) = false := decide_eq_false (by omega)
        have c2 : decide ((rows.length : Int) ≤ x) = false := decide_eq_false (by omega)
        simp only [c1, c2, Bool.false_eq_true, if_false, Option.bind_some]
        rw [at_get (d0 := 0) hr.1 (by rw [hb.len]; exact hr.2), Option.bind_some, hlen]
        have e : mapO (fun (x2160 : PyData) => ((atI rows x).bind fun (x2162 : (List Bool)) => ((dIx x2160 (0 : Int)).bind fun (x2163 : PyData) => ((dInt x2163).bind fun (x2164 : Int) => ((atI x2162 x2164).bind fun (x2165 : Bool) => ((dIx x2160 (1 : Int)).bind fun (x2166 : PyData) => ((grd (SeqAt.shaped (PyData.str (wS ([x2165]))) = true)).bind fun (u2167 : Unit) => ((grd (SeqAt.shaped x2166 = true)).bind fun (u2168 : Unit) => some (PyData.eqv (PyData.str (wS ([x2165]))) x2166))))))))) (W.map enc) = some (W.map fun w => decide (bit rows x w.1 = w.2)) := by
          clear hlen hl h
          induction W with
          | nil => rfl
          | cons w W ih =>
            have hw := hW w List.mem_cons_self
            simp only [List.map_cons, mapO]
            rw [ih fun w hw => hW w (List.mem_cons_of_mem _ hw)]
            have d0 : dIx (enc w) 0 = some (.int w.1) := rfl
            have d1 : dIx (enc w) 1 = some (.str (wS [w.2])) := rfl
            simp only [d0, d1, Option.bind_some, dInt]
            rw [bit_eq g hr hw]
            rw [grd_t (shaped_str (strOk_w _)), grd_t (shaped_str (strOk_w _)), eqv_word]
            rfl
        simp only [dInt, Option.bind_some] at e ⊢
        rw [e]
        have hmem : decide (x ∈ lotOf rows W) = W.all fun w => decide (bit rows x w.1 = w.2) := by
          cases hq : (W.all fun w => decide (bit rows x w.1 = w.2))
          · exact decide_eq_false fun hm => by have := (mem_lotOf.mp hm).2; rw [hq] at this; cases this
          · exact decide_eq_true (mem_lotOf.mpr ⟨hr, hq⟩)
        rw [hmem]
        cases hd : decide (bud.getD x.toNat 0 < (W.length : Int)) <;> simp [List.all_map, Function.comp_def]
      · have hm : decide (x ∈ lotOf rows W) = false := decide_eq_false fun hm => hr (mem_lotOf.mp hm).1
        rw [hm, Bool.false_and]
        by_cases h3 : x < 0
        · have c1 : decide (x < 0) = true := decide_eq_true h3
          simp [c1]
        · have c1 : decide (x < 0) = false := decide_eq_false h3
          have c2 : decide ((rows.length : Int) ≤ x) = true := decide_eq_true (by omega)
          simp only [c1, c2, Bool.false_eq_true, if_false, Option.bind_some, if_true]
    · have hk := knot_yes (n := n) (a := a) (b := b) hp
      have ha : fitD m a := h.2 a (by simp)
      have hb2 : fitD m b := h.2 b (by simp)
      have hs : ∀ c : Bool, W.map enc ++ [PyData.list [PyData.int p, PyData.str (wS [c])]] = (W ++ [(p, c)]).map enc := fun c => by rw [List.map_append]; rfl
      have hW2 : ∀ c : Bool, ∀ w ∈ W ++ [(p, c)], 0 ≤ w.1 ∧ w.1 < (n : Int) := fun c w hw => by
        rcases List.mem_append.mp hw with h | h
        · exact hW w h
        · rw [List.mem_singleton] at h; subst h; exact hp
      have l2 : ∀ c : Bool, (W ++ [(p, c)]).length = W.length + 1 := fun c => by simp
      have i1 := breaks_eq g hb m f a (W ++ [(p, false)]) ha (by omega) (by rw [l2]; omega) (hW2 _)
      have i2 := breaks_eq g hb m f b (W ++ [(p, true)]) hb2 (by omega) (by rw [l2]; omega) (hW2 _)
      rw [lotOf_low, l2] at i1
      rw [lotOf_upp, l2] at i2
      rw [if_pos (by rfl)]
      have hi : m__law_is_integer (.int p) = some true := rfl
      have e1 : dIx (.tuple [.int p, a, b]) 0 = some (.int p) := rfl
      have e2 : dIx (.tuple [.int p, a, b]) 1 = some a := rfl
      have e3 : dIx (.tuple [.int p, a, b]) 2 = some b := rfl
      have e4 : dLen (.tuple [.int p, a, b]) = some 3 := rfl
      have c1 : decide (p < 0) = false := decide_eq_false (by omega)
      have c2 : decide ((n : Int) ≤ p) = false := decide_eq_false (by omega)
      simp only [e4, e1, e2, e3, hi, e0, hw0, Option.bind_some, Bool.false_eq_true, if_false, Bool.not_true, dInt, decide_true, c1, c2]
      rw [hs, hs]
      rw [grd_t (by rw [hlen]; simp; omega)]
      rw [i1]
      simp only [Option.bind_some]
      rw [grd_t (by rw [hlen]; simp; omega)]
      rw [i2]
      rw [th_knot f _ _ hp]
      rw [show ((W.length : Int) + 1) = ((W.length + 1 : Nat) : Int) by omega]
      cases th rows n bud f a (low rows p (lotOf rows W)) ((W.length + 1 : Nat) : Int) <;> rfl
    · have hth : th rows n bud (f + 1) t (lotOf rows W) (W.length : Int) = false := th_no f _ _ hk hx
      rw [hth]
      cases t with
      | int x => exact absurd rfl (hx x)
      | tuple xs =>
        rw [if_pos (by rfl)]
        have e4 : dLen (.tuple xs) = some (xs.length : Int) := rfl
        simp only [e4, Option.bind_some]
        by_cases h3 : xs.length = 3
        · obtain ⟨c, a, b, rfl⟩ := list3 h3
          have e1 : dIx (.tuple [c, a, b]) 0 = some c := rfl
          have hn3 : (([c, a, b] : List PyData).length : Int) = 3 := rfl
          simp only [hn3, e1, Option.bind_some, decide_true, Bool.not_true, Bool.false_eq_true, if_false]
          cases c with
          | int p =>
            have hi : m__law_is_integer (.int p) = some true := rfl
            have hp : ¬ (0 ≤ p ∧ p < (n : Int)) := fun hp => by rw [knot_yes hp] at hk; cases hk
            simp only [hi, Option.bind_some, Bool.not_true, Bool.false_eq_true, if_false, dInt, e0, hw0]
            by_cases h5 : p < 0
            · have c1 : decide (p < 0) = true := decide_eq_true h5
              simp [c1]
            · have c1 : decide (p < 0) = false := decide_eq_false h5
              have c2 : decide ((n : Int) ≤ p) = true := decide_eq_true (by omega)
              simp only [c1, c2, Bool.false_eq_true, if_false, Option.bind_some, if_true]
          | _ => rfl
        · have c1 : decide ((xs.length : Int) = 3) = false := decide_eq_false (by omega)
          simp [c1]
      | _ => rfl
end
end EB

set_option Elab.async false
set_option linter.all false
set_option maxRecDepth 100000
set_option maxHeartbeats 4000000
/-! the plain law of k86: grown trees, their budgets -/
namespace EB
open PySem PySem.Spec PyProof.Rows L2
theorem Y.mapS {α β S : Type} {f : S → α → Option (β × S)} {P : β → Prop} {I : S → Prop} : ∀ {xs : List α} {s : S}, I s → (∀ x ∈ xs, ∀ s, I s → Y (f s x) fun q => P q.1 ∧ I q.2) → Y (EB.mapS f s xs) fun q => q.1.length = xs.length ∧ (∀ y ∈ q.1, P y) ∧ I q.2
  | [], s, h, _ => ⟨([], s), rfl, rfl, fun y hy => (by cases hy), h⟩
  | x :: xs, s, h, st => by
    obtain ⟨⟨y, s1⟩, e1, p1, i1⟩ := st x List.mem_cons_self s h
    obtain ⟨⟨ys, s2⟩, e2, l2, p2, i2⟩ := Y.mapS (xs := xs) i1 fun z hz => st z (List.mem_cons_of_mem _ hz)
    refine ⟨(y :: ys, s2), ?_, by simp only [List.length_cons]; dsimp only at l2; omega, fun z hz => ?_, i2⟩
    · unfold EB.mapS
      dsimp only at p1 i1 e2
      rw [e1, Option.bind_some, e2]
      rfl
    · rcases List.mem_cons.mp hz with rfl | hz
      · exact p1
      · exact p2 z hz
/-- a tree that is grown: d is how deep it may be -/
inductive GT (rows : List (List Bool)) (n : Nat) : Nat → List Int → PyData → Prop
  | leaf {d : Nat} {lot : List Int} {x : Int} (h : x ∈ lot) : GT rows n d lot (.int x)
  | knot {d : Nat} {lot : List Int} {p : Int} {a b : PyData} (hp : 0 ≤ p ∧ p < (n : Int)) (ha : GT rows n d (low rows p lot) a) (hb : GT rows n d (upp rows p lot) b) : GT rows n (d + 1) lot (.tuple [.int p, a, b])
section
variable {rows : List (List Bool)} {n : Nat} {bud : List Int} {lot : List Int}
theorem GT.fit {d : Nat} {t : PyData} (h : GT rows n d lot t) : fitD (d + 1) t := by
  induction h with
  | leaf _ => exact trivial
  | knot hp _ _ i1 i2 =>
    refine ⟨by simp, fun x hx => ?_⟩
    simp only [List.mem_cons, List.not_mem_nil, or_false] at hx
    rcases hx with rfl | rfl | rfl
    · exact trivial
    · exact i1
    · exact i2
def Both (rows : List (List Bool)) (lot : List Int) (p : Int) : Prop := (∃ x ∈ lot, bit rows x p = false) ∧ ∃ y ∈ lot, bit rows y p = true
theorem low_lt {p : Int} (h : Both rows lot p) : (low rows p lot).length < lot.length := by
  obtain ⟨_, y, hy, e⟩ := h
  exact List.length_filter_lt_length_iff_exists.mpr ⟨y, hy, by simp [e]⟩
theorem upp_lt {p : Int} (h : Both rows lot p) : (upp rows p lot).length < lot.length := by
  obtain ⟨⟨y, hy, e⟩, _⟩ := h
  exact List.length_filter_lt_length_iff_exists.mpr ⟨y, hy, by simp [e]⟩
theorem low_ne {p : Int} (h : Both rows lot p) : low rows p lot ≠ [] := by
  obtain ⟨⟨y, hy, e⟩, _⟩ := h
  exact List.ne_nil_of_mem (List.mem_filter.mpr ⟨hy, by simp [e]⟩)
theorem upp_ne {p : Int} (h : Both rows lot p) : upp rows p lot ≠ [] := by
  obtain ⟨_, y, hy, e⟩ := h
  exact List.ne_nil_of_mem (List.mem_filter.mpr ⟨hy, by simp [e]⟩)
theorem col0 (g : Rows rows n) (hl : Lt rows.length lot) {p : Int} (hp : 0 ≤ p ∧ p < (n : Int)) : mapO (fun (x : Int) => ((atI rows x).bind fun (w : (List Bool)) => ((atI w p).bind fun (b : Bool) => some (decide ([b] = ([false] : List Bool)))))) lot = some (lot.map fun x => !bit rows x p) := Y.mapO fun x hx => by rw [bit_eq g (hl x hx) hp, dec0]
theorem col1 (g : Rows rows n) (hl : Lt rows.length lot) {p : Int} (hp : 0 ≤ p ∧ p < (n : Int)) : mapO (fun (x : Int) => ((atI rows x).bind fun (w : (List Bool)) => ((atI w p).bind fun (b : Bool) => some (decide ([b] = ([true] : List Bool)))))) lot = some (lot.map fun x => bit rows x p) := Y.mapO fun x hx => by rw [bit_eq g (hl x hx) hp, dec1]
theorem lc0 (g : Rows rows n) (hl : Lt rows.length lot) {p : Int} (hp : 0 ≤ p ∧ p < (n : Int)) : lcO (fun (x : Int) => ((atI rows x).bind fun (w : (List Bool)) => ((atI w p).bind fun (b : Bool) => some (decide ([b] = ([false] : List Bool)))))) (fun (x : Int) => some x) lot = some (low rows p lot) := by
  rw [lcO_eq (q := fun x => !bit rows x p) (g := fun x => x) (fun x hx => by rw [bit_eq g (hl x hx) hp, dec0]) (fun x _ => rfl), List.map_id']
  rfl
theorem lc1 (g : Rows rows n) (hl : Lt rows.length lot) {p : Int} (hp : 0 ≤ p ∧ p < (n : Int)) : lcO (fun (x : Int) => ((atI rows x).bind fun (w : (List Bool)) => ((atI w p).bind fun (b : Bool) => some (decide ([b] = ([true] : List Bool)))))) (fun (x : Int) => some x) lot = some (upp rows p lot) := by
  rw [lcO_eq (q := fun x => bit rows x p) (g := fun x => x) (fun x hx => by rw [bit_eq g (hl x hx) hp, dec1]) (fun x _ => rfl), List.map_id']
  rfl
theorem any0 {p : Int} : ((lot.map fun x => !bit rows x p).any id) = true ↔ ∃ x ∈ lot, bit rows x p = false := by simp [List.any_map]
theorem any1 {p : Int} : ((lot.map fun x => bit rows x p).any id) = true ↔ ∃ x ∈ lot, bit rows x p = true := by simp [List.any_map]
theorem grown_ok (g : Rows rows n) : ∀ (f d : Nat) (lot : List Int) (root : Bool) (s : Px), Pk s → Lt rows.length lot → lot ≠ [] → lot.length ≤ f → lot.length ≤ d + 1 → lot.length ≤ 100 → (root = true → ∃ p, (0 ≤ p ∧ p < (n : Int)) ∧ Both rows lot p) →
    Y (m__law_grown f rows lot root s) fun q => GT rows n d lot q.1 ∧ (root = true → ∃ p a b, q.1 = .tuple [.int p, a, b]) ∧ Pk q.2
  | 0, d, lot, root, s, _, _, hne, hf, _, _, _ => absurd (List.length_eq_zero_iff.mp (by omega)) hne
  | f + 1, d, lot, root, s, hs, hl, hne, hf, hd, hcap, hr => by
    obtain ⟨w0, e0, hw0⟩ := row0 g
    have hpos : 0 < lot.length := List.length_pos_iff.mpr hne
    have hz := g.sz
    unfold m__law_grown
    refine Y.bs (Y.be e0 (Y.grd (by omega) ?_))
    rw [hw0]
    refine Y.bind (P := fun pts : List Int => (∀ p ∈ pts, (0 ≤ p ∧ p < (n : Int)) ∧ Both rows lot p) ∧ (∀ j : Int, 0 ≤ j → j < (n : Int) → Both rows lot j → pts ≠ []) ∧ pts.length ≤ n) ?_ fun pts hp => ?_
    · refine (Y.forR (fun i (pts : List Int) => (∀ p ∈ pts, (0 ≤ p ∧ p < (n : Int)) ∧ Both rows lot p) ∧ (∀ j : Int, 0 ≤ j → j < (i : Int) → Both rows lot j → pts ≠ []) ∧ pts.length ≤ i) ⟨fun p hp => (by cases hp), fun j h1 h2 => by omega, by simp⟩ ?_).mono fun v h => by rw [show ((n : Int)).toNat = n by omega] at h; exact h
      intro i pts hi ⟨h1, h2, h3⟩
      rw [show (0 : Int) + (i : Int) = (i : Int) by omega]
      have hip : 0 ≤ (i : Int) ∧ (i : Int) < (n : Int) := by omega
      refine Y.bind (P := fun pts : List Int => (∀ p ∈ pts, (0 ≤ p ∧ p < (n : Int)) ∧ Both rows lot p) ∧ (∀ j : Int, 0 ≤ j → j < ((i + 1 : Nat) : Int) → Both rows lot j → pts ≠ []) ∧ pts.length ≤ i + 1) ?_ fun v h => Y.ret h
      have no : ¬ Both rows lot i → Y (some pts) fun pts : List Int => (∀ p ∈ pts, (0 ≤ p ∧ p < (n : Int)) ∧ Both rows lot p) ∧ (∀ j : Int, 0 ≤ j → j < ((i + 1 : Nat) : Int) → Both rows lot j → pts ≠ []) ∧ pts.length ≤ i + 1 := fun hn => Y.ret ⟨h1, fun j a b hb => by
        by_cases hj : j = (i : Int)
        · subst hj; exact absurd hb hn
        · exact h2 j a (by omega) hb, by omega⟩
      refine Y.be (col0 g hl hip) ?_
      by_cases a0 : ∃ x ∈ lot, bit rows x i = false
      · rw [if_pos (any0.mpr a0)]
        refine Y.assoc (Y.be (col1 g hl hip) (Y.bs ?_))
        by_cases a1 : ∃ x ∈ lot, bit rows x i = true
        · rw [if_pos (any1.mpr a1)]
          refine Y.grd (by omega) (Y.bs (Y.ret ⟨fun p hp => ?_, fun j _ _ _ => by simp, by simp; omega⟩))
          rcases List.mem_append.mp hp with h | h
          · exact h1 p h
          · rw [List.mem_singleton] at h; subst h; exact ⟨hip, a0, a1⟩
        · rw [if_neg (fun h => a1 (any1.mp h))]
          exact no fun h => a1 h.2
      · rw [if_neg (fun h => a0 (any0.mp h))]
        refine Y.bs ?_
        rw [if_neg (by decide)]
        exact no fun h => a0 h.1
    · obtain ⟨h1, h2, h3⟩ := hp
      -- a leaf
      have leaf : ∀ s, Pk s → Y ((m__law_take ((lot).length : Int) s).bind fun (q1947 : Int × Px) => ((atI lot q1947.1).bind fun (x1949 : Int) => some ((PyData.int x1949), q1947.2))) fun q => GT rows n d lot q.1 ∧ Pk q.2 := fun s hs =>
        Y.tk hs (by omega) (by omega) fun t s a b hs => Y.at 0 a b (Y.ret ⟨.leaf (getD_memI a b), hs⟩)
      have kn : ∀ (p : Int), (0 ≤ p ∧ p < (n : Int)) ∧ Both rows lot p → ∀ s, Pk s → Y ((lcO (fun (x1960 : Int) => ((atI rows x1960).bind fun (x1961 : (List Bool)) => ((atI x1961 p).bind fun (x1962 : Bool) => some (decide ([x1962] = ([false] : List Bool)))))) (fun (x1960 : Int) => some x1960) lot).bind fun (x1963 : (List Int)) =>
          ((m__law_grown f rows x1963 false s).bind fun (q1964 : PyData × Px) => ((some (PyData.int p)).bind fun (d1967 : PyData) =>
          ((lcO (fun (x1973 : Int) => ((atI rows x1973).bind fun (x1974 : (List Bool)) => ((atI x1974 p).bind fun (x1975 : Bool) => some (decide ([x1975] = ([true] : List Bool)))))) (fun (x1973 : Int) => some x1973) lot).bind fun (x1976 : (List Int)) =>
          ((m__law_grown f rows x1976 false q1964.2).bind fun (q1977 : PyData × Px) => ((some [d1967, q1964.1, q1977.1]).bind fun (d1979 : List PyData) => some ((PyData.tuple d1979), q1977.2))))))) fun q => GT rows n d lot q.1 ∧ (∃ p a b, q.1 = .tuple [.int p, a, b]) ∧ Pk q.2 := by
        intro p ⟨hp, hb⟩ s hs
        have l1 := low_lt hb
        have l2 := upp_lt hb
        have n1 := List.length_pos_iff.mpr (low_ne hb)
        obtain ⟨d, rfl⟩ : ∃ e, d = e + 1 := ⟨d - 1, by omega⟩
        refine Y.be (lc0 g hl hp) (Y.bind (grown_ok g f d (low rows p lot) false s hs hl.low (low_ne hb) (by omega) (by omega) (by omega) (fun h => by cases h)) ?_)
        rintro ⟨a, s⟩ ⟨ga, _, hs⟩
        refine Y.bs (Y.be (lc1 g hl hp) (Y.bind (grown_ok g f d (upp rows p lot) false s hs hl.upp (upp_ne hb) (by omega) (by omega) (by omega) (fun h => by cases h)) ?_))
        rintro ⟨b, s⟩ ⟨gb, _, hs⟩
        exact Y.bs (Y.ret ⟨.knot hp ga gb, ⟨p, a, b, rfl⟩, hs⟩)
      refine Y.iteD (fun hc => ?_) fun hc => ?_
      · cases root with
        | true =>
          obtain ⟨p, hp, hb⟩ := hr rfl
          exact absurd (List.length_eq_zero_iff.mp (by omega)) (h2 p hp.1 hp.2 hb)
        | false => exact (leaf s hs).mono fun q h => ⟨h.1, (fun h => by cases h), h.2⟩
      · refine Y.ite (fun hroot => ?_) fun hroot => ?_
        · refine Y.tk hs (by omega) (by omega) fun t s a b hs => ?_
          refine Y.at 0 a b ?_
          exact (kn _ (h1 _ (getD_memI a b)) s hs).mono fun q h => ⟨h.1, fun _ => h.2.1, h.2.2⟩
        · refine Y.tk hs (by decide) (by decide) fun t s _ _ hs => Y.bs (Y.ite (fun _ => ?_) fun _ => ?_)
          · exact (leaf s hs).mono fun q h => ⟨h.1, (fun h => absurd h hroot), h.2⟩
          · refine Y.tk hs (by omega) (by omega) fun t s a b hs => ?_
            refine Y.at 0 a b ?_
            exact (kn _ (h1 _ (getD_memI a b)) s hs).mono fun q h => ⟨h.1, fun _ => h.2.1, h.2.2⟩
def encL (q : Int × Int) : PyData := .list [.int q.1, .int q.2]
theorem low_upp (p : Int) (lot : List Int) : (low rows p lot).length + (upp rows p lot).length = lot.length := by
  unfold low upp
  induction lot with
  | nil => rfl
  | cons x l ih => rw [List.filter_cons, List.filter_cons]; cases bit rows x p <;> simp <;> omega
/-- the leaves of a tree, with their knots -/
structure LV (rows : List (List Bool)) (n d : Nat) (lot : List Int) (t : PyData) (k : Int) (L : List (Int × Int)) : Prop where
  mem : ∀ q ∈ L, q.1 ∈ lot ∧ k ≤ q.2 ∧ ((∃ p a b, t = .tuple [.int p, a, b]) → k + 1 ≤ q.2)
  nd : (L.map (·.1)).Nodup
  few : L.length ≤ lot.length
  ne : L ≠ []
  tells : ∀ bud f, d + 1 ≤ f → th rows n bud f t lot k = L.all fun q => decide (bud.getD q.1.toNat 0 < q.2)
theorem leaves_ok {d : Nat} {t : PyData} (h : GT rows n d lot t) : ∀ (f : Nat) (k : Int), d + 1 ≤ f → lot.length ≤ 100 → ∃ L, m__law_leaves f t k = some (L.map encL) ∧ LV rows n d lot t k L := by
  induction h with
  | @leaf d lot x hx =>
    intro f k hf hc
    obtain ⟨f, rfl⟩ : ∃ e, f = e + 1 := ⟨f - 1, by omega⟩
    refine ⟨[(x, k)], rfl, ⟨fun q hq => ?_, by simp, List.length_pos_of_mem hx, by simp, fun bud f hf => ?_⟩⟩
    · rw [List.mem_singleton] at hq; subst hq
      exact ⟨hx, Int.le_refl _, fun ⟨p, a, b, e⟩ => by cases e⟩
    · obtain ⟨f, rfl⟩ : ∃ e, f = e + 1 := ⟨f - 1, by omega⟩
      rw [th_int, decide_eq_true hx]
      simp
  | @knot d lot p a b hp ha hb ia ib =>
    intro f k hf hc
    obtain ⟨f, rfl⟩ : ∃ e, f = e + 1 := ⟨f - 1, by omega⟩
    have hlu := low_upp (rows := rows) p lot
    obtain ⟨L1, e1, v1⟩ := ia f (k + 1) (by omega) (by omega)
    obtain ⟨L2, e2, v2⟩ := ib f (k + 1) (by omega) (by omega)
    have f1 := v1.few
    have f2 := v2.few
    refine ⟨L1 ++ L2, ?_, ⟨fun q hq => ?_, ?_, by rw [List.length_append]; omega, by simp [v1.ne], fun bud f hf => ?_⟩⟩
    · unfold m__law_leaves
      rw [if_pos (by rfl)]
      have d1 : dIx (.tuple [.int p, a, b]) 1 = some a := rfl
      have d2 : dIx (.tuple [.int p, a, b]) 2 = some b := rfl
      simp only [d1, d2, e1, e2, Option.bind_some]
      rw [grd_t (by rw [List.length_map, List.length_map]; omega), List.map_append]
    · rcases List.mem_append.mp hq with h | h
      · obtain ⟨z1, z2, _⟩ := v1.mem q h
        exact ⟨(List.mem_filter.mp z1).1, by omega, fun _ => z2⟩
      · obtain ⟨z1, z2, _⟩ := v2.mem q h
        exact ⟨(List.mem_filter.mp z1).1, by omega, fun _ => z2⟩
    · rw [List.map_append]
      refine List.nodup_append.mpr ⟨v1.nd, v2.nd, fun x hx y hy => ?_⟩
      obtain ⟨q1, h1, rfl⟩ := List.mem_map.mp hx
      obtain ⟨q2, h2, rfl⟩ := List.mem_map.mp hy
      intro e
      have z1 := (List.mem_filter.mp (v1.mem q1 h1).1).2
      have z2 := (List.mem_filter.mp (v2.mem q2 h2).1).2
      rw [← e] at z2
      rw [z2] at z1
      cases z1
    · obtain ⟨f, rfl⟩ : ∃ e, f = e + 1 := ⟨f - 1, by omega⟩
      rw [th_knot f lot k hp, v1.tells bud f (by omega), v2.tells bud f (by omega), List.all_append]
theorem below_ok {d m : Nat} {t : PyData} {L : List (Int × Int)} (hm : rows.length = m) (hc : m ≤ 100) (e : m__law_leaves 16 t 0 = some (L.map encL)) (v : LV rows n d (rng 0 m) t 0 L) (hk : ∃ p a b, t = .tuple [.int p, a, b]) (hj : ∀ q ∈ L, q.2 < 2 ^ 60) (s : Px) (hs : Pk s) :
    Y (m__law_below t (m : Int) s) fun q => Buds q.1 m ∧ (∀ y ∈ L, q.1.getD y.1.toNat 0 < y.2) ∧ Pk q.2 := by
  unfold m__law_below
  refine Y.grd (by omega) ?_
  refine Y.bind (Y.mapS (P := fun b : Int => 0 ≤ b) (I := Pk) hs fun x _ s hs => Y.tk hs (by decide) (by decide) fun t s a b hs => Y.ret ⟨a, hs⟩) ?_
  rintro ⟨xs, s⟩ ⟨hl, hx, hs⟩
  dsimp only at hl hx hs ⊢
  rw [rng_len] at hl
  refine Y.be e ?_
  refine Y.bind (P := fun q : List Int × Px => Buds q.1 m ∧ (∀ y ∈ L, q.1.getD y.1.toNat 0 < y.2) ∧ Pk q.2) ?_ fun q hq => Y.ret hq
  refine (Y.forL (fun i (q : List Int × Px) => Buds q.1 m ∧ (∀ (j : Nat) y, j < i → L[j]? = some y → q.1.getD y.1.toNat 0 < y.2) ∧ Pk q.2) (L.map encL) 0 (xs, s) ⟨⟨show xs.length = m by omega, hx⟩, (fun j y h => by omega), hs⟩ ?_).mono ?_
  · rintro i z ⟨xs, s⟩ hz ⟨hb, hi, hs⟩
    dsimp only at hb hi hs ⊢
    rw [Nat.zero_add] at hi ⊢
    rw [List.getElem?_map] at hz
    obtain ⟨q, hq, rfl⟩ := Option.map_eq_some_iff.mp hz
    obtain ⟨x, j⟩ := q
    have hmem := v.mem _ (List.mem_of_getElem? hq)
    have hx := lt_all m x hmem.1
    have hj1 : 0 + 1 ≤ j := hmem.2.2 hk
    have hj2 : j < 2 ^ 60 := hj _ (List.mem_of_getElem? hq)
    have d1 : dIx (encL (x, j)) 1 = some (.int j) := rfl
    have d0 : dIx (encL (x, j)) 0 = some (.int x) := rfl
    refine Y.bind (P := fun q : Int × Px => (0 ≤ q.1 ∧ q.1 < j) ∧ Pk q.2) ?_ ?_
    · refine Y.tk hs (by decide) (by decide) fun t s _ _ hs => Y.bs (Y.ite (fun _ => ?_) fun _ => Y.ret ⟨⟨Int.le_refl _, by omega⟩, hs⟩)
      refine Y.be d1 (Y.bs ?_)
      exact Y.tk hs (by omega) (by omega) fun t s a b hs => Y.ret ⟨⟨a, b⟩, hs⟩
    · rintro ⟨t, s⟩ ⟨⟨ht0, ht1⟩, hs⟩
      dsimp only at ht0 ht1 hs ⊢
      have hlen := hb.len
      refine Y.be d1 (Y.bs (Y.bs (Y.be d0 (Y.bs (Y.be (setO_ok hx.1 (by omega)) (Y.ret ⟨⟨by rw [List.length_set]; exact hlen, fun b hbm => ?_⟩, fun j' y hj' hy => ?_, hs⟩))))))
      · rcases List.mem_or_eq_of_mem_set hbm with h | h
        · exact hb.nn b h
        · omega
      · by_cases hjj : j' = i
        · subst hjj
          rw [hq] at hy
          cases hy
          dsimp only
          rw [List.getD_eq_getElem?_getD, List.getElem?_set_self (by omega)]
          show j - 1 - t < j
          omega
        · have hne : x ≠ y.1 := by
            have hi1 : i < L.length := (List.getElem?_eq_some_iff.mp hq).1
            have hj1 : j' < L.length := (List.getElem?_eq_some_iff.mp hy).1
            have nd := v.nd
            unfold List.Nodup at nd
            rw [List.pairwise_iff_getElem] at nd
            have := nd j' i (by simpa using hj1) (by simpa using hi1) (by omega)
            rw [List.getElem_map, List.getElem_map] at this
            rw [List.getElem?_eq_getElem hi1] at hq
            rw [List.getElem?_eq_getElem hj1] at hy
            rw [Option.some.inj hq, Option.some.inj hy] at this
            exact fun e => this e.symm
          have hy2 := lt_all m y.1 (v.mem _ (List.mem_of_getElem? hy)).1
          have := hi j' y (by omega) hy
          dsimp only
          rw [List.getD_eq_getElem?_getD, List.getElem?_set_ne (by omega), ← List.getD_eq_getElem?_getD]
          exact this
  · rintro ⟨xs, s⟩ ⟨h1, h2, h3⟩
    refine ⟨h1, fun y hy => ?_, h3⟩
    obtain ⟨i, hi, rfl⟩ := List.mem_iff_getElem.mp hy
    exact h2 i _ (by rw [List.length_map]; omega) (List.getElem?_eq_getElem hi)
end
end EB

set_option Elab.async false
set_option linter.all false
set_option maxRecDepth 100000
set_option maxHeartbeats 4000000
/-! the plain law of k86: spoilt trees -/
namespace EB
open PySem PySem.Spec PyProof.Rows L2
/-- what stands at a path -/
inductive AtP : PyData → List Int → PyData → Prop
  | nil {t : PyData} : AtP t [] t
  | one {c a b s : PyData} {π : List Int} (h : AtP a π s) : AtP (.tuple [c, a, b]) (1 :: π) s
  | two {c a b s : PyData} {π : List Int} (h : AtP b π s) : AtP (.tuple [c, a, b]) (2 :: π) s
section
variable {rows : List (List Bool)} {n : Nat} {lot : List Int}
theorem part_ok {t s : PyData} {π : List Int} (h : AtP t π s) : m__law_part t π = some s := by
  induction h with
  | nil => rfl
  | one _ ih => exact ih
  | two _ ih => exact ih
theorem AtP.gt {t s : PyData} {π : List Int} (h : AtP t π s) : ∀ {lot : List Int} {d : Nat}, GT rows n d lot t → π.length ≤ d ∧ ∃ lot', ((∀ x ∈ lot', x ∈ lot) ∧ lot'.length ≤ lot.length) ∧ GT rows n (d - π.length) lot' s := by
  induction h with
  | nil => exact fun g => ⟨Nat.zero_le _, _, ⟨fun x h => h, Nat.le_refl _⟩, g⟩
  | one _ ih =>
    intro lot d g
    cases g with
    | knot hp ga gb =>
      obtain ⟨h1, l, h2, h3⟩ := ih ga
      refine ⟨by simp only [List.length_cons]; omega, l, ⟨fun x hx => (List.mem_filter.mp (h2.1 x hx)).1, Nat.le_trans h2.2 (List.length_filter_le _ _)⟩, ?_⟩
      rw [List.length_cons, Nat.add_sub_add_right]; exact h3
  | two _ ih =>
    intro lot d g
    cases g with
    | knot hp ga gb =>
      obtain ⟨h1, l, h2, h3⟩ := ih gb
      refine ⟨by simp only [List.length_cons]; omega, l, ⟨fun x hx => (List.mem_filter.mp (h2.1 x hx)).1, Nat.le_trans h2.2 (List.length_filter_le _ _)⟩, ?_⟩
      rw [List.length_cons, Nat.add_sub_add_right]; exact h3
theorem paths_ok {d : Nat} {t : PyData} (h : GT rows n d lot t) : ∀ (f : Nat) (path : List Int), d + 1 ≤ f → path.length + d ≤ 1000 → lot.length ≤ 100 →
    ∃ Ps : List (List Int), m__law_paths f t path = some (Ps.map (path ++ ·)) ∧ (∀ π ∈ Ps, ∃ s, AtP t π s) ∧ (∃ π ∈ Ps, ∃ x, AtP t π (.int x)) ∧ [] ∈ Ps ∧ Ps.length + 1 ≤ 2 * lot.length := by
  induction h with
  | @leaf d lot x hx =>
    intro f path hf _ hc
    obtain ⟨f, rfl⟩ : ∃ e, f = e + 1 := ⟨f - 1, by omega⟩
    refine ⟨[[]], by simp [m__law_paths, isD], fun π hπ => ?_, ⟨[], by simp, x, .nil⟩, by simp, by have := List.length_pos_of_mem hx; simp; omega⟩
    rw [List.mem_singleton] at hπ; subst hπ
    exact ⟨_, .nil⟩
  | @knot d lot p a b hp ha hb ia ib =>
    intro f path hf hl hc
    obtain ⟨f, rfl⟩ : ∃ e, f = e + 1 := ⟨f - 1, by omega⟩
    have hlu := low_upp (rows := rows) p lot
    obtain ⟨P1, e1, h1, hi1, _, c1⟩ := ia f (path ++ [1]) (by omega) (by simp; omega) (by omega)
    obtain ⟨P2, e2, h2, hi2, _, c2⟩ := ib f (path ++ [2]) (by omega) (by simp; omega) (by omega)
    refine ⟨[] :: (P1.map (1 :: ·) ++ P2.map (2 :: ·)), ?_, fun π hπ => ?_, ?_, by simp, ?_⟩
    · unfold m__law_paths
      rw [if_pos (by rfl)]
      have d1 : dIx (.tuple [.int p, a, b]) 1 = some a := rfl
      have d2 : dIx (.tuple [.int p, a, b]) 2 = some b := rfl
      simp only [d1, d2, Option.bind_some]
      rw [grd_t (by simp; omega), e1, Option.bind_some, grd_t (by simp; omega), grd_t (by simp; omega), e2, Option.bind_some, grd_t (by simp; omega)]
      simp [List.map_append, List.map_map, Function.comp_def]
    · rcases List.mem_cons.mp hπ with rfl | h
      · exact ⟨_, .nil⟩
      · rcases List.mem_append.mp h with h | h
        · obtain ⟨π', h', rfl⟩ := List.mem_map.mp h
          obtain ⟨s, hs⟩ := h1 π' h'
          exact ⟨s, .one hs⟩
        · obtain ⟨π', h', rfl⟩ := List.mem_map.mp h
          obtain ⟨s, hs⟩ := h2 π' h'
          exact ⟨s, .two hs⟩
    · obtain ⟨π, h, x, hx⟩ := hi1
      exact ⟨1 :: π, by simp [h], x, .one hx⟩
    · rw [List.length_cons, List.length_append, List.length_map, List.length_map]
      omega
theorem cut1 {α : Type} (x : α) (xs : List α) (h : xs.length < 1000) : cutA (x :: xs) (some (1 : Int)) none = xs := by
  have : HT.sIx (x :: xs).length 0 (some 1) = 1 := by
    unfold HT.sIx
    simp
    try omega
  unfold cutA
  rw [this]
  simp [HT.sIx]
theorem put_ok {t s : PyData} {π : List Int} (h : AtP t π s) : ∀ {lot : List Int} {d : Nat} (f : Nat) (part : PyData), GT rows n d lot t → d ≤ 100 → fitD (d + 2 - π.length) part → π.length + 1 ≤ f → ∃ r, m__law_put f t π part = some r ∧ fitD (d + 2) r := by
  induction h with
  | nil =>
    intro lot d f part _ _ hp hf
    obtain ⟨f, rfl⟩ : ∃ e, f = e + 1 := ⟨f - 1, by simp at hf; omega⟩
    exact ⟨part, rfl, hp⟩
  | @one c a b s π h ih =>
    intro lot d f part g hd hp hf
    obtain ⟨f, rfl⟩ : ∃ e, f = e + 1 := ⟨f - 1, by simp at hf; omega⟩
    cases g with
    | @knot d _ p _ _ hpp ga gb =>
      obtain ⟨hl, _⟩ := h.gt ga
      obtain ⟨r, e, fr⟩ := ih f part ga (by omega) (by rw [List.length_cons] at hp; rw [show d + 2 - π.length = d + 1 + 2 - (π.length + 1) by omega]; exact hp) (by rw [List.length_cons] at hf; omega)
      refine ⟨.tuple [.int p, r, b], ?_, by simp, fun x hx => ?_⟩
      · unfold m__law_put
        have d0 : dIx (.tuple [.int p, a, b]) 0 = some (.int p) := rfl
        have d1 : dIx (.tuple [.int p, a, b]) 1 = some a := rfl
        have d2 : dIx (.tuple [.int p, a, b]) 2 = some b := rfl
        have i0 : atI ((1 : Int) :: π) 0 = some 1 := atI_nat (j := 0) rfl
        rw [if_neg (by simp; omega)]
        simp only [d0, d1, d2, i0, Option.bind_some]
        rw [cut1 _ _ (by omega), e]
        rfl
      · simp only [List.mem_cons, List.not_mem_nil, or_false] at hx
        rcases hx with rfl | rfl | rfl
        · exact trivial
        · exact fr
        · exact fit_mono gb.fit (by omega)
  | @two c a b s π h ih =>
    intro lot d f part g hd hp hf
    obtain ⟨f, rfl⟩ : ∃ e, f = e + 1 := ⟨f - 1, by simp at hf; omega⟩
    cases g with
    | @knot d _ p _ _ hpp ga gb =>
      obtain ⟨hl, _⟩ := h.gt gb
      obtain ⟨r, e, fr⟩ := ih f part gb (by omega) (by rw [List.length_cons] at hp; rw [show d + 2 - π.length = d + 1 + 2 - (π.length + 1) by omega]; exact hp) (by rw [List.length_cons] at hf; omega)
      refine ⟨.tuple [.int p, a, r], ?_, by simp, fun x hx => ?_⟩
      · unfold m__law_put
        have d0 : dIx (.tuple [.int p, a, b]) 0 = some (.int p) := rfl
        have d1 : dIx (.tuple [.int p, a, b]) 1 = some a := rfl
        have d2 : dIx (.tuple [.int p, a, b]) 2 = some b := rfl
        have i0 : atI ((2 : Int) :: π) 0 = some 2 := atI_nat (j := 0) rfl
        rw [if_neg (by simp; omega)]
        simp only [d0, d1, d2, i0, Option.bind_some]
        rw [cut1 _ _ (by omega), e]
        rfl
      · simp only [List.mem_cons, List.not_mem_nil, or_false] at hx
        rcases hx with rfl | rfl | rfl
        · exact trivial
        · exact fit_mono ga.fit (by omega)
        · exact fr
theorem small_str {x : Int} (h0 : 0 ≤ x) (h1 : x < 20) : x.natAbs.log2 < 1920 ∧ SeqAt.shaped (.str (strI x)) = true := by
  have : ∀ k : Fin 20, ((k.val : Int)).natAbs.log2 < 1920 ∧ SeqAt.shaped (.str (strI (k.val : Int))) = true := by decide +kernel
  have := this ⟨x.toNat, by omega⟩
  rwa [show ((x.toNat : Nat) : Int) = x by omega] at this
theorem shaped_int (i : Int) : SeqAt.shaped (.int i) = true := by simp [SeqAt.shaped, PyData.canLay0, PyData.depth]
theorem fit_str {n : Nat} {s : Str} (h : SeqAt.shaped (.str s) = true) : fitD (n + 1) (.str s) := h
theorem fit_w {n : Nat} (w : List Bool) : fitD (n + 1) (.str (wS w)) := shaped_str (strOk_w w)
theorem fit_t1 {n : Nat} {x : PyData} (h : fitD n x) : fitD (n + 1) (.tuple [x]) := ⟨by simp, by simpa using h⟩
theorem fit_l1 {n : Nat} {x : PyData} (h : fitD n x) : fitD (n + 1) (.list [x]) := ⟨by simp, by simpa using h⟩
theorem fit_t3 {n : Nat} {x y z : PyData} (h : fitD n x) (h2 : fitD n y) (h3 : fitD n z) : fitD (n + 1) (.tuple [x, y, z]) := ⟨by simp, fun w hw => by
  simp only [List.mem_cons, List.not_mem_nil, or_false] at hw
  rcases hw with rfl | rfl | rfl <;> assumption⟩
theorem fit_t0 {n : Nat} : fitD (n + 1) (.tuple []) := ⟨by simp, fun w hw => by cases hw⟩
theorem Y.pick {β : Type} {Q : β → Prop} {xs : List PyData} {P : PyData → Prop} {t : Int} {f : PyData → Option β} (h0 : 0 ≤ t) (h1 : t < (xs.length : Int)) (hp : ∀ x ∈ xs, P x) (k : ∀ x, P x → Y (f x) Q) : Y ((atI xs t).bind f) Q := by
  obtain ⟨x, e, hm, _⟩ := atI_in h0 h1
  exact Y.be e (k x (hp x hm))
theorem spoilt_leaf_ok {m : Nat} (g : Rows rows n) (hm : rows.length = m) (hm1 : 0 < m ∧ m ≤ 8) (hn : 0 < n) {x kind : Int} (hx : 0 ≤ x ∧ x < (m : Int)) (s : Px) (hs : Pk s) : Y (m__law_spoilt_leaf rows (.int x) kind s) fun q => fitD 2 q.1 ∧ Pk q.2 := by
  obtain ⟨w0, e0, hw0⟩ := row0 g
  have hz := g.sz
  unfold m__law_spoilt_leaf
  rw [hm]
  refine Y.bs (Y.ite (fun _ => ?_) fun _ => Y.ite (fun _ => ?_) fun _ => ?_)
  · exact Y.tk hs (by omega) (by omega) fun t s a b hs => Y.ret ⟨trivial, hs⟩
  · have hst := small_str hx.1 (show x < 20 by omega)
    refine Y.bs (Y.grd hst.1 (Y.bs (Y.bs (Y.at [] hx.1 (by omega) (Y.bs (Y.bs ?_))))))
    have fin : ∀ j : List PyData, (∀ y ∈ j, fitD 2 y) → j ≠ [] → j.length < 100 → Y ((m__law_take ((j).length : Int) s).bind fun (q2220 : Int × Px) => ((atI j q2220.1).bind fun (x2222 : PyData) => some (x2222, q2220.2))) fun q => fitD 2 q.1 ∧ Pk q.2 := fun j hj hne hl => by
      have := List.length_pos_iff.mpr hne
      exact Y.tk hs (by omega) (by omega) fun t s a b hs => Y.pick a b hj fun y hy => Y.ret ⟨hy, hs⟩
    have base : ∀ y ∈ ([PyData.none, (PyData.str (strI x)), (PyData.tuple ([.int x])), (PyData.list ([.int x])), (PyData.int (-(1 : Int))), (PyData.int (m : Int)), (PyData.int ((m : Int) + x)), (PyData.tuple ([] : List PyData)), (PyData.str (wS (rows.getD x.toNat []))), (PyData.int (x - (m : Int))), (PyData.bool true), (PyData.bool false)] : List PyData), fitD 2 y := by
      simp only [List.forall_mem_cons]
      exact ⟨trivial, fit_str hst.2, fit_t1 trivial, fit_l1 trivial, trivial, trivial, trivial, fit_t0, fit_w _, trivial, trivial, trivial, fun y h => by cases h⟩
    refine Y.bind (P := fun j : List PyData => (∀ y ∈ j, fitD 2 y) ∧ j ≠ [] ∧ j.length < 100) ?_ fun j hj => fin j hj.1 hj.2.1 hj.2.2
    refine Y.bs (Y.iteD (fun _ => ?_) fun _ => Y.ret ⟨base, by simp, by simp⟩)
    have si := shaped_int
    refine Y.grd (si _) (Y.grd (si _) (Y.grd (si _) (Y.grd (si _) (Y.grd (si _) (Y.grd (si _) (Y.grd (by simp) (Y.bs (Y.ret ⟨fun y hy => ?_, by simp, by simp⟩))))))))
    rcases List.mem_append.mp hy with h | h
    · exact base y h
    · simp only [List.mem_cons, List.not_mem_nil, or_false] at h
      rcases h with rfl | rfl | rfl <;> exact trivial
  · refine Y.be e0 ?_
    rw [hw0]
    refine Y.tk hs (by omega) (by omega) fun t s a b hs => ?_
    refine Y.tk hs (by omega) (by omega) fun t2 s a2 b2 hs => Y.bs ?_
    refine Y.tk hs (by decide) (by decide) fun t3 s a3 b3 hs => ?_
    refine Y.pick (P := fitD 2) a3 b3 ?_ fun y hy => Y.ret ⟨hy, hs⟩
    simp only [List.forall_mem_cons]
    exact ⟨fit_t3 trivial trivial trivial, fit_t3 trivial trivial trivial, fit_t3 trivial trivial trivial, fun y h => by cases h⟩
theorem spoilt_knot_ok (g : Rows rows n) (hn : 0 < n ∧ n ≤ 8) {d : Nat} {lot : List Int} {p kind : Int} {a b : PyData} (hg : GT rows n (d + 1) lot (.tuple [.int p, a, b])) (hd : d ≤ 8) (hc : lot.length ≤ 100) (s : Px) (hs : Pk s) : Y (m__law_spoilt_knot rows (.tuple [.int p, a, b]) kind s) fun q => fitD (d + 3) q.1 ∧ Pk q.2 := by
  obtain ⟨w0, e0, hw0⟩ := row0 g
  have hk := hg.fit
  obtain ⟨L, eL, vL⟩ := leaves_ok hg 16 0 (by omega) hc
  cases hg with
  | knot hp ga gb =>
    have fa := ga.fit
    have fb := gb.fit
    have d0 : dIx (.tuple [.int p, a, b]) 0 = some (.int p) := rfl
    have d1 : dIx (.tuple [.int p, a, b]) 1 = some a := rfl
    have d2 : dIx (.tuple [.int p, a, b]) 2 = some b := rfl
    have fp : ∀ k, fitD (k + 1) (.int p) := fun _ => trivial
    have fa2 := fit_mono fa (show d + 1 ≤ d + 2 by omega)
    have fb2 := fit_mono fb (show d + 1 ≤ d + 2 by omega)
    unfold m__law_spoilt_knot
    simp only [d0, d1, d2, eL, e0, hw0, Option.bind_some, dInt]
    refine Y.ite (fun _ => Y.ret ⟨fit_t3 (fp _) fb2 fa2, hs⟩) fun _ => Y.ite (fun _ => Y.ret ⟨?_, hs⟩) fun _ => Y.ite (fun _ => ?_) fun _ => Y.ite (fun _ => ?_) fun _ => Y.ite (fun _ => ?_) fun _ => Y.ite (fun _ => ?_) fun _ => ?_
    · exact ⟨by simp, fun w hw => by
        simp only [List.mem_cons, List.not_mem_nil, or_false] at hw
        rcases hw with rfl | rfl | rfl
        · exact fp _
        · exact fa2
        · exact fb2⟩
    · refine Y.tk hs (by simp) (by simp) fun t s a3 b3 hs => ?_
      refine Y.pick (P := fitD (d + 3)) a3 b3 ?_ fun y hy => Y.ret ⟨hy, hs⟩
      simp only [List.forall_mem_cons]
      refine ⟨fit_t0, fit_t1 (fp _), ⟨by simp, ?_⟩, ⟨by simp, ?_⟩, ⟨by simp, ?_⟩, ⟨by simp, ?_⟩, fun y h => by cases h⟩ <;>
        (simp only [List.forall_mem_cons]; first | exact ⟨fp _, fa2, fun y h => by cases h⟩ | exact ⟨fp _, fa2, fb2, fb2, fun y h => by cases h⟩ | exact ⟨fa2, fb2, fun y h => by cases h⟩ | exact ⟨fp _, fp _, fa2, fb2, fun y h => by cases h⟩)
    · have l1 := List.length_pos_iff.mpr vL.ne
      have l2 := vL.few
      refine Y.tk hs (by rw [List.length_map]; omega) (by rw [List.length_map]; omega) fun t s a3 b3 hs => ?_
      refine Y.pick (P := fun y => ∃ q, y = encL q) a3 b3 (fun y hy => by obtain ⟨q, _, rfl⟩ := List.mem_map.mp hy; exact ⟨q, rfl⟩) ?_
      rintro y ⟨q, rfl⟩
      have e9 : dIx (encL q) 0 = some (.int q.1) := rfl
      exact Y.be e9 (Y.ret ⟨trivial, hs⟩)
    · refine Y.tk hs (by decide) (by decide) fun t s a3 b3 hs => ?_
      obtain ⟨x, ex, hx, _⟩ := atI_in (xs := [(PyData.int p, PyData.tuple [.int p, a, b], b), (PyData.int p, a, PyData.tuple [.int p, a, b])]) a3 b3
      refine Y.be ex (Y.ret ⟨?_, hs⟩)
      simp only [List.mem_cons, List.not_mem_nil, or_false] at hx
      rcases hx with rfl | rfl
      · exact fit_t3 (x := .int p) (y := .tuple [.int p, a, b]) (z := b) (fp _) hk fb2
      · exact fit_t3 (x := .int p) (y := a) (z := .tuple [.int p, a, b]) (fp _) fa2 hk
    · exact Y.tk hs (by omega) (by omega) fun t s a3 b3 hs => Y.ret ⟨fit_t3 (x := .int t) trivial fa2 fb2, hs⟩
    · have hst := small_str hp.1 (show p < 20 by omega)
      refine Y.grd hst.1 ?_
      have base : ∀ y ∈ ([PyData.none, (PyData.int (-(1 : Int))), (PyData.int (n : Int)), (PyData.str (strI p)), (PyData.tuple ([.int p])), (PyData.list ([.int p])), (PyData.tuple ([] : List PyData)), (PyData.int ((n : Int) + p)), (PyData.int (p - (n : Int))), (PyData.str (wS w0)), (PyData.bool true), (PyData.bool false)] : List PyData), fitD 2 y := by
        simp only [List.forall_mem_cons]
        exact ⟨trivial, trivial, trivial, fit_str hst.2, fit_t1 trivial, fit_l1 trivial, fit_t0, trivial, trivial, fit_w _, trivial, trivial, fun y h => by cases h⟩
      refine Y.bind (P := fun j : List PyData => (∀ y ∈ j, fitD 2 y) ∧ j ≠ [] ∧ j.length < 100) ?_ fun j hj => ?_
      · refine Y.iteD (fun _ => ?_) fun _ => Y.ret ⟨base, by simp, by simp⟩
        have si := shaped_int
        refine Y.grd (si _) (Y.grd (si _) (Y.grd (si _) (Y.grd (si _) (Y.grd (si _) (Y.grd (si _) (Y.grd (by simp) (Y.ret ⟨fun y hy => ?_, by simp, by simp⟩)))))))
        rcases List.mem_append.mp hy with h | h
        · exact base y h
        · simp only [List.mem_cons, List.not_mem_nil, or_false] at h
          rcases h with rfl | rfl | rfl <;> exact trivial
      · obtain ⟨hj, hne, hl⟩ := hj
        have := List.length_pos_iff.mpr hne
        refine Y.tk hs (by omega) (by omega) fun t s a b hs => Y.pick a b hj fun y hy => Y.ret ⟨fit_t3 (fit_mono hy (by omega)) fa2 fb2, hs⟩
theorem spoilt_ok {m d : Nat} {t : PyData} (g : Rows rows n) (hm : rows.length = m) (hm1 : 0 < m ∧ m ≤ 8) (hn : 0 < n ∧ n ≤ 8) (hd : d ≤ 8) (hg : GT rows n d (rng 0 m) t) (hk : ∃ p a b, t = .tuple [.int p, a, b]) (s : Px) (hs : Pk s) : Y (m__law_spoilt t rows s) fun q => fitD (d + 2) q.1 ∧ Pk q.2 := by
  have hc : (rng 0 m).length ≤ 100 := by rw [rng_len]; omega
  obtain ⟨Ps, eP, hAt, hLeaf, hNil, hlen⟩ := paths_ok hg 16 [] (by omega) (by simp; omega) hc
  rw [rng_len] at hlen
  unfold m__law_spoilt
  refine Y.tk hs (by decide) (by decide) fun kind s k0 k1 hs => ?_
  dsimp only
  rw [eP]
  simp only [List.nil_append, List.map_id', Option.bind_some]
  have hpart : ∀ π ∈ Ps, ∃ s, AtP t π s ∧ m__law_part t π = some s := fun π h => by
    obtain ⟨s, hs⟩ := hAt π h
    exact ⟨s, hs, part_ok hs⟩
  have elc : lcO (fun (x2350 : (List Int)) => ((m__law_part t x2350).bind fun (r2351 : PyData) => some (decide ((isD "tuple" r2351) = (decide ((2 : Int) < kind)))))) (fun (x2350 : (List Int)) => some x2350) Ps = some (Ps.filter fun π => decide (isD "tuple" ((m__law_part t π).getD .none) = decide ((2 : Int) < kind))) := by
    rw [lcO_eq (q := fun π => decide (isD "tuple" ((m__law_part t π).getD .none) = decide ((2 : Int) < kind))) (g := fun x => x) (fun π hπ => by obtain ⟨s, _, e⟩ := hpart π hπ; rw [e]; rfl) (fun x _ => rfl), List.map_id']
  rw [elc, Option.bind_some]
  generalize hF : (Ps.filter fun π => decide (isD "tuple" ((m__law_part t π).getD .none) = decide ((2 : Int) < kind))) = F
  have hFl : F.length ≤ Ps.length := by rw [← hF]; exact List.length_filter_le _ _
  have hFm : ∀ π ∈ F, ∃ s, AtP t π s ∧ m__law_part t π = some s ∧ isD "tuple" s = decide ((2 : Int) < kind) := fun π h => by
    rw [← hF] at h
    obtain ⟨h1, h2⟩ := List.mem_filter.mp h
    obtain ⟨s, hs, e⟩ := hpart π h1
    rw [e] at h2
    exact ⟨s, hs, e, of_decide_eq_true h2⟩
  have hFne : F ≠ [] := by
    by_cases hk2 : (2 : Int) < kind
    · obtain ⟨p, a, b, rfl⟩ := hk
      refine List.ne_nil_of_mem (a := []) ?_
      rw [← hF]
      refine List.mem_filter.mpr ⟨hNil, ?_⟩
      rw [part_ok .nil, decide_eq_true hk2]
      rfl
    · obtain ⟨π, hπ, x, hx⟩ := hLeaf
      refine List.ne_nil_of_mem (a := π) ?_
      rw [← hF]
      refine List.mem_filter.mpr ⟨hπ, ?_⟩
      rw [part_ok hx, decide_eq_false hk2]
      rfl
  have hpos := List.length_pos_iff.mpr hFne
  refine Y.tk hs (by omega) (by omega) fun ch s c0 c1 hs => ?_
  obtain ⟨π, eπ, hπ, _⟩ := atI_in c0 c1
  refine Y.be eπ ?_
  obtain ⟨part, hat, epart, hkind⟩ := hFm π hπ
  refine Y.be epart ?_
  obtain ⟨hπd, lot', hsub, hgt⟩ := hat.gt hg
  have hput : ∀ q : PyData × Px, fitD (d - π.length + 2) q.1 ∧ Pk q.2 → Y ((m__law_put 16 t π q.1).bind fun (q2365 : PyData) => some (q2365, q.2)) fun q => fitD (d + 2) q.1 ∧ Pk q.2 := fun q hq => by
    obtain ⟨r, er, fr⟩ := put_ok hat 16 q.1 hg (by omega) (by rw [show d + 2 - π.length = d - π.length + 2 by omega]; exact hq.1) (by omega)
    exact Y.be er (Y.ret ⟨fr, hq.2⟩)
  generalize hd' : d - π.length = d' at hgt hput
  refine Y.iteD (fun hc3 => ?_) fun hc3 => ?_
  · have : isD "tuple" part = false := by rw [hkind]; exact decide_eq_false (by omega)
    cases hgt with
    | knot hp ga gb => cases this
    | @leaf _ _ x hx =>
      have hxx := lt_all m x (hsub.1 x hx)
      refine Y.bind (spoilt_leaf_ok g hm hm1 hn.1 (kind := kind) hxx s hs) fun q hq => hput q ⟨fit_mono hq.1 (by omega), hq.2⟩
  · have : isD "tuple" part = true := by rw [hkind]; exact decide_eq_true (by omega)
    have hgt0 := hgt
    cases hgt with
    | leaf hx => cases this
    | @knot e _ p a b hp ga gb =>
      have hl2 := hsub.2
      exact Y.bind (spoilt_knot_ok g hn (kind := kind) hgt0 (by omega) (by omega) s hs) fun q hq => hput q hq
end
end EB

set_option Elab.async false
set_option linter.all false
set_option maxRecDepth 100000
set_option maxHeartbeats 4000000
/-! the plain law of k86: refusals, the scene -/
namespace EB
open PySem PySem.Spec PyProof.Rows L2
theorem scene_ok : m__law_scene = some true := by decide +kernel
section
variable {rows : List (List Bool)} {n : Nat}
def BadR (d : PyData) : Prop := m_are_rows d = some false ∧ fitD 4 d
def menuR : List PyData := [PyData.none, (PyData.bool true), (PyData.int (0 : Int)), (PyData.int (3 : Int)), (PyData.str (wS ([] : List Bool))), (PyData.str (wS ([false] : List Bool))), (PyData.str (wS ([false, true] : List Bool))), (PyData.tuple ([] : List PyData)), (PyData.list ([] : List PyData)), (PyData.tuple ([(PyData.tuple ([] : List PyData))])), (PyData.list ([(PyData.list ([] : List PyData))])), (PyData.tuple ([(PyData.int (0 : Int))])), (PyData.list ([(PyData.int (1 : Int)), (PyData.int (0 : Int))])), (PyData.tuple ([PyData.none])), (PyData.list ([(PyData.bool false)])), (PyData.tuple ([(PyData.tuple ([(PyData.str (wS ([false] : List Bool)))]))])), (PyData.list ([(PyData.str ("2" : Str))]))]
theorem menuR_rows : (menuR.all fun d => decide (m_are_rows d = some false)) = true := by decide +kernel
theorem fit_l0 {n : Nat} : fitD (n + 1) (.list []) := ⟨by simp, fun w hw => by cases hw⟩
theorem fit_l2 {n : Nat} {x y : PyData} (h : fitD n x) (h2 : fitD n y) : fitD (n + 1) (.list [x, y]) := ⟨by simp, fun w hw => by
  simp only [List.mem_cons, List.not_mem_nil, or_false] at hw
  rcases hw with rfl | rfl <;> assumption⟩
theorem menuR_fit : ∀ x ∈ menuR, fitD 4 x := by
  unfold menuR
  simp only [List.forall_mem_cons]
  exact ⟨trivial, trivial, trivial, trivial, fit_w _, fit_w _, fit_w _, fit_t0, fit_l0, fit_t1 fit_t0, fit_l1 fit_l0, fit_t1 trivial, fit_l2 trivial trivial, fit_t1 trivial, fit_l1 trivial, fit_t1 (fit_t1 (fit_w _)), fit_l1 (fit_str (by decide +kernel)), fun y h => by cases h⟩
theorem sign_ok {k : Int} (h0 : 0 ≤ k) (h1 : k < 8) : ∃ c : Nat, ixS ("2 a-O.:x" : Str) k = some ⟨#[c]⟩ ∧ decide (c ∈ ("01" : Str).cps.toList) = false ∧ c < 0x110000 := by
  rcases (by omega : k = 0 ∨ k = 1 ∨ k = 2 ∨ k = 3 ∨ k = 4 ∨ k = 5 ∨ k = 6 ∨ k = 7) with rfl | rfl | rfl | rfl | rfl | rfl | rfl | rfl
  · exact ⟨50, by decide +kernel, by decide +kernel, by decide⟩
  · exact ⟨32, by decide +kernel, by decide +kernel, by decide⟩
  · exact ⟨97, by decide +kernel, by decide +kernel, by decide⟩
  · exact ⟨45, by decide +kernel, by decide +kernel, by decide⟩
  · exact ⟨79, by decide +kernel, by decide +kernel, by decide⟩
  · exact ⟨46, by decide +kernel, by decide +kernel, by decide⟩
  · exact ⟨58, by decide +kernel, by decide +kernel, by decide⟩
  · exact ⟨120, by decide +kernel, by decide +kernel, by decide⟩
theorem one_len (c : Nat) : (⟨#[c]⟩ : Str).length = 1 := rfl
theorem bad_word {w1 w2 : List Bool} {c : Nat} (h : decide (c ∈ ("01" : Str).cps.toList) = false) : isW (.str ((wS w1 ++ (⟨#[c]⟩ : Str)) ++ wS w2)) = false := by
  show (((wS w1).cps ++ #[c] ++ (wS w2).cps).toList.all fun c => decide (c ∈ ("01" : Str).cps.toList)) = false
  rw [List.all_eq_false]
  exact ⟨c, by simp, by rw [h]; decide⟩
/-- an item that is no word -/
def Bit (x : PyData) : Prop := szD x ∧ isW x = false ∧ fitD 3 x
theorem bad_item {i : Int} {x : PyData} {t : Bool} (g : Rows rows n) (h0 : 0 ≤ i) (h1 : i < (rows.length : Int)) (hx : Bit x) : BadR (sq t ((rows.map (Tod.toD zW)).set i.toNat x)) := by
  have hl : i.toNat < rows.length := by omega
  have hm := g.many
  have hz := g.sz
  refine ⟨rows_word t (fun y hy => ?_) ⟨x, ?_, hx.2.1⟩, fit_sq (by rw [List.length_set, List.length_map]; omega) fun y hy => ?_⟩
  · rcases List.mem_or_eq_of_mem_set hy with h | rfl
    · obtain ⟨w, hw, rfl⟩ := List.mem_map.mp h
      show (wS w).length ≤ 1000000
      rw [wS_len, g.len w hw]; omega
    · exact hx.1
  · exact List.mem_of_getElem? (i := i.toNat) (List.getElem?_set_self (by rw [List.length_map]; omega))
  · rcases List.mem_or_eq_of_mem_set hy with h | rfl
    · obtain ⟨w, hw, rfl⟩ := List.mem_map.mp h
      exact fit_w _
    · exact hx.2.2
theorem bad_rows_ok (u : UR rows n) (s : Px) (hs : Pk s) : Y (m__law_bad_rows rows s) fun q => BadR q.1 ∧ Pk q.2 := by
  have g := u.toRows
  have h2 := u.two
  have h8 := u.few
  have hz := g.sz
  obtain ⟨w0, e0, hw0⟩ := row0 g
  unfold m__law_bad_rows
  refine Y.tk hs (by decide) (by decide) fun kind s _ _ hs => ?_
  refine Y.iteD (fun _ => Y.bs ?_) fun _ => ?_
  · refine Y.tk hs (by decide) (by decide) fun t s a b hs => ?_
    refine Y.pick (xs := menuR) (P := BadR) a b (fun x hx => ⟨?_, menuR_fit x hx⟩) fun x hx => Y.ret ⟨hx, hs⟩
    have := menuR_rows
    rw [List.all_eq_true] at this
    exact of_decide_eq_true (this x hx)
  · refine Y.bs (Y.tk hs (by omega) (by omega) fun i s i0 i1 hs => ?_)
    dsimp only
    refine Y.bind (P := fun q : List PyData × Px => (∀ t, BadR (sq t q.1)) ∧ Pk q.2) ?_ ?_
    · refine Y.iteD (fun _ => ?_) fun _ => ?_
      · refine Y.be e0 (Y.bs ?_)
        refine Y.tk hs (by decide) (by decide) fun t s a b hs => ?_
        refine Y.at false a (by simpa using b) (Y.bs ?_)
        generalize ([false, true] : List Bool).getD t.toNat false = bb
        refine Y.grd (by simp [hw0]; omega) (Y.bs ?_)
        have hi : i.toNat ≤ (rows.map (Tod.toD zW)).length := by rw [List.length_map]; omega
        refine Y.be (show insO (rows.map (Tod.toD zW)) i (PyData.str (wS (w0 ++ [bb]))) = some _ from if_pos ⟨i0, by omega, by rw [List.length_map]; omega⟩) (Y.ret ⟨fun t => ?_, hs⟩)
        have es : (rows.map (Tod.toD zW)).take i.toNat ++ [PyData.str (wS (w0 ++ [bb]))] ++ (rows.map (Tod.toD zW)).drop i.toNat = ((rows.take i.toNat ++ [w0 ++ [bb]] ++ rows.drop i.toNat).map wS).map PyData.str := by
          rw [List.map_map, List.map_append, List.map_append, List.map_take, List.map_drop]; rfl
        have hmem : ∀ w ∈ rows.take i.toNat ++ [w0 ++ [bb]] ++ rows.drop i.toNat, w.length = n ∨ w = w0 ++ [bb] := fun w hw => by
          rcases List.mem_append.mp hw with h | h
          · rcases List.mem_append.mp h with h | h
            · exact .inl (g.len w (List.mem_of_mem_take h))
            · rw [List.mem_singleton] at h; exact .inr h
          · exact .inl (g.len w (List.mem_of_mem_drop h))
        have hlen : ∀ w ∈ rows.take i.toNat ++ [w0 ++ [bb]] ++ rows.drop i.toNat, w.length ≤ n + 1 := fun w hw => by
          rcases hmem w hw with h | rfl
          · omega
          · rw [List.length_append, hw0]; simp
        refine ⟨?_, fit_sq (by simp; omega) fun x hx => ?_⟩
        · dsimp only
          rw [rows_len t es (fun s hs => by
            obtain ⟨w, hw, rfl⟩ := List.mem_map.mp hs
            have := hlen w hw
            exact ⟨by rw [wS_len]; omega, isW_word w⟩) (by simp)]
          congr 1
          rw [← Bool.not_eq_true, List.all_eq_true]
          intro hall
          have hlong := hall (wS (w0 ++ [bb])) (List.mem_map.mpr ⟨_, by simp, rfl⟩)
          have hrow : ∃ w, w ∈ rows.take i.toNat ++ [w0 ++ [bb]] ++ rows.drop i.toNat ∧ w.length = n := by
            obtain ⟨w, hw⟩ : ∃ w, w ∈ rows := ⟨_, List.head_mem g.ne⟩
            refine ⟨w, ?_, g.len w hw⟩
            rw [← List.take_append_drop i.toNat rows] at hw
            rcases List.mem_append.mp hw with h | h
            · simp [h]
            · simp [h]
          obtain ⟨w, hw, hwl⟩ := hrow
          have hshort := hall (wS w) (List.mem_map.mpr ⟨w, hw, rfl⟩)
          have a1 := of_decide_eq_true hlong
          have a2 := of_decide_eq_true hshort
          rw [← a2, wS_len, wS_len, List.length_append, hw0, hwl] at a1
          simp at a1
          omega
        · dsimp only at hx
          rw [es] at hx
          obtain ⟨x2, hx2, rfl⟩ := List.mem_map.mp hx
          obtain ⟨w, _, rfl⟩ := List.mem_map.mp hx2
          exact fit_w _
      · refine Y.at [] i0 i1 ?_
        have hrm := getD_memI (d0 := []) i0 i1
        have hrl := g.len _ hrm
        generalize rows.getD i.toNat [] = row at hrl
        have hmx : 0 < mx2 (1 : Int) (row.length : Int) ∧ mx2 (1 : Int) (row.length : Int) < 2 ^ 64 := by
          unfold mx2
          split <;> omega
        refine Y.tk hs hmx.1 hmx.2 fun pl s _ _ hs => Y.bs ?_
        refine Y.tk hs (by decide) (by decide) fun sg s g0 g1 hs => ?_
        obtain ⟨c, ec, hc, hc2⟩ := sign_ok g0 g1
        refine Y.be ec ?_
        have c1 := cutA_len row none (some pl)
        have c2 := cutA_len row (some (pl + 1)) none
        dsimp only
        have l1 : ((wS (cutA row none (some pl))) ++ (⟨#[c]⟩ : Str)).length = (cutA row none (some pl)).length + 1 := by rw [str_len_app, wS_len]; rfl
        refine Y.grd (by rw [wS_len, one_len]; omega) (Y.grd (by rw [l1, wS_len]; omega) (Y.bs ?_))
        refine Y.tk hs (by simp) (by simp) fun m s m0 m1 hs => ?_
        refine Y.pick (P := Bit) m0 m1 ?_ fun x hx => ?_
        · simp only [List.forall_mem_cons]
          refine ⟨⟨trivial, rfl, trivial⟩, ⟨trivial, rfl, trivial⟩, ⟨trivial, rfl, trivial⟩, ⟨trivial, rfl, trivial⟩, ⟨trivial, rfl, fit_l1 (fit_w _)⟩, ⟨trivial, rfl, fit_t1 (fit_w _)⟩, ⟨trivial, rfl, ?_⟩, ⟨?_, bad_word hc, fit_str (shaped_str ?_)⟩, fun y h => by cases h⟩
          · refine ⟨by simp [hrl]; omega, fun x hx => ?_⟩
            obtain ⟨w, _, rfl⟩ := List.mem_map.mp hx
            exact fit_w _
          · show Str.length _ ≤ 1000000
            rw [str_len_app, l1, wS_len]; omega
          · rw [strOk_app, strOk_app, strOk_w, strOk_w, strOk_one hc2]; rfl
        · refine Y.be (setO_ok i0 (by rw [List.length_map]; omega)) (Y.ret ⟨fun t => bad_item g i0 i1 hx, hs⟩)
    · rintro ⟨xs, s⟩ ⟨hb, hs⟩
      refine Y.bind (handD xs s hs) ?_
      rintro ⟨d, s⟩ ⟨⟨t, rfl⟩, hs⟩
      exact Y.ret ⟨hb t, hs⟩
/-- budgets that are none for m programs -/
def BadB (m : Nat) (d : PyData) : Prop := (m_are_budgets d = some false ∨ ∃ l : Nat, m_are_budgets d = some true ∧ dLen d = some (l : Int) ∧ l ≠ m) ∧ fitD 4 d
def menuB : List PyData := [PyData.none, (PyData.bool true), (PyData.bool false), (PyData.int (0 : Int)), (PyData.int (2 : Int)), (PyData.str (wS ([] : List Bool))), (PyData.str (wS ([false] : List Bool))), (PyData.str (wS ([true, true] : List Bool))), (PyData.tuple ([] : List PyData)), (PyData.list ([] : List PyData)), (PyData.tuple ([PyData.none])), (PyData.list ([(PyData.str (wS ([true] : List Bool)))])), (PyData.tuple ([(PyData.bool true)])), (PyData.list ([(PyData.int (-(1 : Int)))])), (PyData.tuple ([(PyData.tuple ([(PyData.int (0 : Int))]))]))]
theorem menuB_ok (m : Nat) (hm : 0 < m) : ∀ x ∈ menuB, BadB m x := by
  unfold menuB
  simp only [List.forall_mem_cons]
  refine ⟨⟨.inl rfl, trivial⟩, ⟨.inl rfl, trivial⟩, ⟨.inl rfl, trivial⟩, ⟨.inl rfl, trivial⟩, ⟨.inl rfl, trivial⟩, ⟨.inl rfl, fit_w _⟩, ⟨.inl rfl, fit_w _⟩, ⟨.inl rfl, fit_w _⟩, ⟨.inr ⟨0, rfl, rfl, by omega⟩, fit_t0⟩, ⟨.inr ⟨0, rfl, rfl, by omega⟩, fit_l0⟩, ⟨.inl rfl, fit_t1 trivial⟩, ⟨.inl rfl, fit_l1 (fit_w _)⟩, ⟨.inl rfl, fit_t1 trivial⟩, ⟨.inl (by decide +kernel), fit_l1 trivial⟩, ⟨.inl rfl, fit_t1 (fit_t1 trivial)⟩, fun y h => by cases h⟩
theorem badb_len {m : Nat} {xs : List PyData} {t : Bool} (h : xs.length ≠ m) (hl : xs.length ≤ 1000) (hf : ∀ x ∈ xs, fitD 3 x) : BadB m (sq t xs) := by
  refine ⟨?_, fit_sq (by omega) hf⟩
  rw [budgets_eq]
  cases hq : xs.all isN
  · exact .inl rfl
  · exact .inr ⟨xs.length, rfl, sq_len t xs, h⟩
theorem badb_item {m : Nat} {xs : List PyData} {t : Bool} {x : PyData} (hx : x ∈ xs) (hn : isN x = false) (hl : xs.length ≤ 1000) (hf : ∀ x ∈ xs, fitD 3 x) : BadB m (sq t xs) := by
  refine ⟨.inl ?_, fit_sq (by omega) hf⟩
  rw [budgets_eq]
  congr 1
  rw [List.all_eq_false]
  exact ⟨x, hx, by rw [hn]; decide⟩
theorem bad_budgets_ok {xs : List Int} {m : Nat} (hl : xs.length = m) (hm : 0 < m ∧ m ≤ 8) (s : Px) (hs : Pk s) : Y (m__law_bad_budgets xs s) fun q => BadB m q.1 ∧ Pk q.2 := by
  unfold m__law_bad_budgets
  refine Y.tk hs (by decide) (by decide) fun kind s _ _ hs => ?_
  refine Y.tk hs (by omega) (by omega) fun i s i0 i1 hs => ?_
  dsimp only at i1 ⊢
  have hfit : ∀ x ∈ xs.map (Tod.toD zI), fitD 3 x := fun x hx => by
    obtain ⟨w, _, rfl⟩ := List.mem_map.mp hx
    exact trivial
  have hlen : (xs.map (Tod.toD zI)).length = m := by rw [List.length_map, hl]
  refine Y.iteD (fun _ => Y.bs ?_) fun _ => Y.bs ?_
  · refine Y.tk hs (by decide) (by decide) fun t s a b hs => ?_
    exact Y.pick (xs := menuB) (P := BadB m) a b (menuB_ok m hm.1) fun x hx => Y.ret ⟨hx, hs⟩
  · generalize xs.map (Tod.toD zI) = ds at hfit hlen
    have fin : ∀ {o : Option (List PyData × Px)}, Y o (fun q => (∀ t, BadB m (sq t q.1)) ∧ Pk q.2) → Y (o.bind fun j => some (j.1, j.2)) (fun q => (∀ t, BadB m (sq t q.1)) ∧ Pk q.2) := fun h => Y.bind h fun v hv => Y.ret hv
    refine Y.bind (P := fun q : List PyData × Px => (∀ t, BadB m (sq t q.1)) ∧ Pk q.2) ?_ ?_
    · refine Y.iteD (fun _ => ?_) fun _ => fin (Y.iteD (fun _ => ?_) fun _ => ?_)
      · refine Y.tk hs (by decide) (by decide) fun t s a b hs => ?_
        refine Y.be (show insO ds i (PyData.int t) = some _ from if_pos ⟨i0, by omega, by omega⟩) (Y.ret ⟨fun u => badb_len (by simp; omega) (by simp; omega) fun x hx => ?_, hs⟩)
        dsimp only at hx
        rcases List.mem_append.mp hx with h | h
        · rcases List.mem_append.mp h with h | h
          · exact hfit x (List.mem_of_mem_take h)
          · rw [List.mem_singleton] at h; subst h; exact trivial
        · exact hfit x (List.mem_of_mem_drop h)
      · have hi : i.toNat < ds.length := by omega
        have e : popAtO ds i = some (ds[i.toNat], ds.eraseIdx i.toNat) := by
          unfold popAtO
          have hsq : seqIndex? i ds.length = some i.toNat := by
            unfold seqIndex?
            simp [i0]
            omega
          rw [if_pos (by omega), hsq]
          simp [List.getElem?_eq_getElem hi]
        refine Y.be e (Y.ret ⟨fun u => badb_len ?_ ?_ fun x hx => hfit x (List.mem_of_mem_eraseIdx hx), hs⟩)
        · dsimp only; rw [List.length_eraseIdx_of_lt hi]; omega
        · dsimp only; rw [List.length_eraseIdx_of_lt hi]; omega
      · refine Y.bs (Y.bs (Y.bs (Y.bs (Y.bs (Y.bs (Y.grd (by decide) ?_))))))
        refine Y.tk hs (by decide) (by decide) fun t s a b hs => ?_
        dsimp only
        refine Y.bs (Y.bs (Y.bs (Y.bs (Y.bs ?_))))
        refine Y.tk hs (by simp) (by simp) fun t2 s a2 b2 hs => ?_
        refine Y.pick (P := fun x => isN x = false ∧ fitD 3 x) a2 b2 ?_ fun x hx => ?_
        · simp only [List.forall_mem_cons]
          refine ⟨⟨rfl, trivial⟩, ⟨rfl, trivial⟩, ⟨rfl, trivial⟩, ⟨rfl, fit_w _⟩, ⟨rfl, fit_w _⟩, ⟨by decide, trivial⟩, ⟨decide_eq_false (by omega), trivial⟩, ⟨rfl, fit_t1 trivial⟩, ⟨rfl, fit_l1 trivial⟩, ⟨rfl, fit_t0⟩, fun y h => by cases h⟩
        · have hi : i.toNat < ds.length := by omega
          refine Y.be (setO_ok i0 (by omega)) (Y.ret ⟨fun u => badb_item (List.mem_of_getElem? (i := i.toNat) (List.getElem?_set_self hi)) hx.1 (by rw [List.length_set]; omega) fun y hy => ?_, hs⟩)
          rcases List.mem_or_eq_of_mem_set hy with h | rfl
          · exact hfit y h
          · exact hx.2
    · rintro ⟨xs, s⟩ ⟨hb, hs⟩
      refine Y.bind (handD xs s hs) ?_
      rintro ⟨d, s⟩ ⟨⟨t, rfl⟩, hs⟩
      exact Y.ret ⟨hb t, hs⟩
theorem refused_rows {d b t : PyData} (h : m_are_rows d = some false) : m__law_refused d b t = some (.list [.str "rows", d]) := by
  have e1 : m_check_rows d b = some (.error ⟨("InvalidRows", "rows"), d⟩) := by unfold m_check_rows; rw [h]; rfl
  have e2 : m_PointGame___init__ d b = some (.error ⟨("InvalidRows", "rows"), d⟩) := by unfold m_PointGame___init__; rw [e1]; rfl
  have e3 : m_judge_point_tree d b t = some (.error ⟨("InvalidRows", "rows"), d⟩) := by unfold m_judge_point_tree; rw [e2]; rfl
  unfold m__law_refused
  rw [e3]
  simp only [catE, Option.bind_some]
  rw [if_neg (by decide +kernel), if_pos True.intro]
  rfl
theorem refused_buds {b t : PyData} {u : Bool} (g : Rows rows n) (h : BadB rows.length b) : m__law_refused (sq u (rows.map (Tod.toD zW))) b t = some (.list [.str "budgets", b]) := by
  have e1 : m_check_rows (sq u (rows.map (Tod.toD zW))) b = some (.error ⟨("InvalidBudgets", "budgets"), b⟩) := by
    unfold m_check_rows
    rw [rows_yes u g]
    rcases h.1 with h | ⟨l, h, h1, h2⟩
    · simp [h]
    · have : ¬ ((l : Int) = (rows.length : Int)) := by omega
      simp [h, h1, sq_len, this]
  have e2 : m_PointGame___init__ (sq u (rows.map (Tod.toD zW))) b = some (.error ⟨("InvalidBudgets", "budgets"), b⟩) := by unfold m_PointGame___init__; rw [e1]; rfl
  have e3 : m_judge_point_tree (sq u (rows.map (Tod.toD zW))) b t = some (.error ⟨("InvalidBudgets", "budgets"), b⟩) := by unfold m_judge_point_tree; rw [e2]; rfl
  unfold m__law_refused
  rw [e3]
  simp only [catE, Option.bind_some]
  rw [if_pos True.intro]
  rfl
theorem refusals_ok (u : UR rows n) (t : PyData) (s : Px) (hs : Pk s) : Y (m__law_refusals rows t s) fun q => q.1 = true ∧ Pk q.2 := by
  have g := u.toRows
  have h2 := u.two
  have h8 := u.few
  unfold m__law_refusals
  refine Y.bind (bad_rows_ok u s hs) ?_
  rintro ⟨br, s⟩ ⟨hr, hs⟩
  refine Y.bind (bad_budgets_ok (m := rows.length) (by simp) (by omega) s hs) ?_
  rintro ⟨bb, s⟩ ⟨hb, hs⟩
  dsimp only at hr hb hs ⊢
  have fr := fit_mono hr.2 (show 4 ≤ 15 by decide)
  have fb := fit_mono hb.2 (show 4 ≤ 15 by decide)
  have fr4 := fit_mono hr.2 (show 4 ≤ 14 by decide)
  refine Y.be (copy_same 16 br (fit_mono fr (by decide))) (Y.be (copy_same 16 bb (fit_mono fb (by decide))) ?_)
  refine Y.be (refused_buds (u := false) g hb) ?_
  have a1 : m__law_alike 16 (.list [.str "budgets", bb]) (.list [.str "budgets", bb]) = some true := alike_refl 16 _ (fit_l2 (fit_str (by decide +kernel)) fb)
  refine Y.be a1 (Y.neg (by decide) ?_)
  refine Y.be (refused_rows hr.1) (Y.be (refused_rows hr.1) (Y.bs ?_))
  have f2 : fitD 15 (.list [.str "rows", br]) := fit_l2 (fit_str (by decide +kernel)) fr4
  have a2 : m__law_alike 16 (.list [.list [.str "rows", br], .list [.str "rows", br]]) (.list [.list [.str "rows", br], .list [.str "rows", br]]) = some true := alike_refl 16 _ (fit_l2 f2 f2)
  refine Y.be a2 (Y.neg (by decide) ?_)
  refine Y.be (alike_refl 16 br (fit_mono fr (by decide))) ?_
  rw [if_pos rfl]
  refine Y.assoc (Y.be (alike_refl 16 bb (fit_mono fb (by decide))) (Y.bs (Y.ret ⟨rfl, hs⟩)))
end
end EB

set_option Elab.async false
set_option linter.all false
set_option maxRecDepth 100000
set_option maxHeartbeats 4000000
/-! the plain law of k86: the end -/
namespace EB
open PySem PySem.Spec PyProof.Rows L2
section
variable {rows : List (List Bool)} {n : Nat}
theorem both0 (u : UR rows n) : Both rows (rng 0 rows.length) 0 := by
  have h2 := u.two
  have h1 := u.one
  have ho := u.opp 0 (Int.le_refl _) (by omega)
  have mem : ∀ x : Int, 0 ≤ x → x < (rows.length : Int) → x ∈ rng 0 rows.length := fun x h0 h1 => by
    have : x = ((0 : Int) + (x.toNat : Int)) := by omega
    exact List.mem_of_getElem? (i := x.toNat) (by rw [rng_get (by omega), ← this])
  have m0 := mem 0 (by omega) (by omega)
  have m1 := mem ((rows.length : Int) - 1) (by omega) (by omega)
  cases hb : bit rows 0 0
  · cases hc : bit rows ((rows.length : Int) - 1) 0
    · rw [hb, hc] at ho; exact absurd rfl ho
    · exact ⟨⟨_, m0, hb⟩, _, m1, hc⟩
  · cases hc : bit rows ((rows.length : Int) - 1) 0
    · exact ⟨⟨_, m1, hc⟩, _, m0, hb⟩
    · rw [hb, hc] at ho; exact absurd rfl ho
/-- judged, what is due -/
theorem judged_th {bud : List Int} {t : PyData} {m : Nat} {b : Bool} (g : Rows rows n) (hb : Buds bud rows.length) (hf : fitD m t) (hm : m ≤ 16) (ht : th rows n bud 32 t (rng 0 rows.length) 0 = b) (s : Px) (hs : Pk s) : Y (m__law_judged rows bud t b s) fun q => q.1 = true ∧ Pk q.2 :=
  judged_ok g hb (fit_mono hf hm) (by rw [holds_eq g hb m 32 t _ 0 hf (by omega) (lt_all _), ht]) s hs
/-- the tree that is grown -/
theorem tree_ok (u : UR rows n) (hn : n ≤ 8) (s : Px) (hs : Pk s) : Y (m__law_grown 16 rows (((rng 0 (((rows).length : Int)).toNat)).map fun (x : Int) => x) true s) fun q => (GT rows n 7 (rng 0 rows.length) q.1 ∧ ∃ p a b, q.1 = .tuple [.int p, a, b]) ∧ Pk q.2 := by
  have h2 := u.two
  have h1 := u.one
  have h8 := u.few
  rw [List.map_id', show ((rows.length : Int)).toNat = rows.length by omega]
  refine (grown_ok u.toRows 16 7 (rng 0 rows.length) true s hs (lt_all _) ?_ (by rw [rng_len]; omega) (by rw [rng_len]; omega) (by rw [rng_len]; omega) fun _ => ⟨0, by omega, both0 u⟩).mono fun q h => ⟨⟨h.1, h.2.1 rfl⟩, h.2.2⟩
  intro e
  have := congrArg List.length e
  rw [rng_len, List.length_nil] at this
  omega
theorem lv_true {d : Nat} {t : PyData} {L : List (Int × Int)} {lot : List Int} {bud : List Int} (v : LV rows n d lot t 0 L) (hd : d ≤ 16) (h : ∀ y ∈ L, bud.getD y.1.toNat 0 < y.2) : th rows n bud 32 t lot 0 = true := by
  rw [v.tells bud 32 (by omega), List.all_eq_true]
  exact fun y hy => decide_eq_true (h y hy)
theorem getD_nn {bud : List Int} (h : ∀ b ∈ bud, 0 ≤ b) (i : Nat) : 0 ≤ bud.getD i 0 := by
  rw [List.getD_eq_getElem?_getD]
  cases e : bud[i]? with
  | none => exact Int.le_refl _
  | some b => exact h b (List.mem_of_getElem? e)
def menuT (t : PyData) : List PyData := [PyData.none, (PyData.bool true), (PyData.bool false), (PyData.int (0 : Int)), (PyData.int (1 : Int)), (PyData.int (-(1 : Int))), (PyData.str (wS ([] : List Bool))), (PyData.str (wS ([false, true] : List Bool))), (PyData.tuple ([] : List PyData)), (PyData.list ([] : List PyData)), (PyData.tuple ([(PyData.int (0 : Int))])), (PyData.tuple ([PyData.none, (PyData.int (0 : Int)), (PyData.int (1 : Int))])), (PyData.list ([(PyData.int (0 : Int)), (PyData.int (0 : Int)), (PyData.int (1 : Int))])), (PyData.tuple ([(PyData.int (0 : Int)), (PyData.int (0 : Int))])), (PyData.tuple ([(PyData.str (wS ([false] : List Bool))), (PyData.int (0 : Int)), (PyData.int (1 : Int))])), (PyData.tuple ([t]))]
theorem fit_l3 {n : Nat} {x y z : PyData} (h : fitD n x) (h2 : fitD n y) (h3 : fitD n z) : fitD (n + 1) (.list [x, y, z]) := ⟨by simp, fun w hw => by
  simp only [List.mem_cons, List.not_mem_nil, or_false] at hw
  rcases hw with rfl | rfl | rfl <;> assumption⟩
theorem fit_t2 {n : Nat} {x y : PyData} (h : fitD n x) (h2 : fitD n y) : fitD (n + 1) (.tuple [x, y]) := ⟨by simp, fun w hw => by
  simp only [List.mem_cons, List.not_mem_nil, or_false] at hw
  rcases hw with rfl | rfl <;> assumption⟩
theorem menuT_ok {bud : List Int} {t : PyData} (hb : ∀ b ∈ bud, 0 ≤ b) (ht : fitD 8 t) (lot : List Int) : ∀ x ∈ menuT t, th rows n bud 32 x lot 0 = false ∧ fitD 9 x := by
  have no : ∀ x : Int, th rows n bud 32 (.int x) lot 0 = false := fun x => by
    have h : decide (bud.getD x.toNat 0 < 0) = false := decide_eq_false (by have := getD_nn hb x.toNat; omega)
    rw [th_int, h, Bool.and_false]
  have kn : ∀ {x : PyData}, knot n x = none → (∀ i, x ≠ .int i) → th rows n bud 32 x lot 0 = false := fun h h2 => th_no 31 lot 0 h h2
  unfold menuT
  simp only [List.forall_mem_cons]
  exact ⟨⟨rfl, trivial⟩, ⟨rfl, trivial⟩, ⟨rfl, trivial⟩, ⟨no _, trivial⟩, ⟨no _, trivial⟩, ⟨no _, trivial⟩, ⟨rfl, fit_w _⟩, ⟨rfl, fit_w _⟩, ⟨kn rfl (fun i e => by cases e), fit_t0⟩, ⟨rfl, fit_l0⟩, ⟨kn rfl (fun i e => by cases e), fit_t1 trivial⟩, ⟨kn rfl (fun i e => by cases e), fit_t3 trivial trivial trivial⟩, ⟨rfl, fit_l3 trivial trivial trivial⟩, ⟨kn rfl (fun i e => by cases e), fit_t2 trivial trivial⟩, ⟨kn rfl (fun i e => by cases e), fit_t3 (fit_w _) trivial trivial⟩, ⟨kn (knot_no fun p a b e => by cases e) (fun i e => by cases e), fit_t1 ht⟩, fun y h => by cases h⟩
theorem lotOf_nil : lotOf rows [] = rng 0 rows.length := by
  unfold lotOf
  exact List.filter_eq_self.mpr fun x _ => rfl
theorem turn_ok (u : UR rows n) (hn : n ≤ 8) (s : Px) (hs : Pk s) : Y (m__law_turn rows s) fun q => q.1 = true ∧ Pk q.2 := by
  have g := u.toRows
  have h2 := u.two
  have h1 := u.one
  have h8 := u.few
  unfold m__law_turn
  refine Y.grd (by omega) ?_
  refine Y.bind (tree_ok u hn s hs) ?_
  rintro ⟨t, s⟩ ⟨⟨hg, hk⟩, hs⟩
  dsimp only at hg hk hs ⊢
  have hfit := hg.fit
  obtain ⟨L, eL, vL⟩ := leaves_ok hg 16 0 (by omega) (by rw [rng_len]; omega)
  -- the knots ahead of a leaf are few
  have hLj : ∀ q ∈ L, q.2 < 2 ^ 60 := by
    have : ∀ (d : Nat) (lot : List Int) (t : PyData), GT rows n d lot t → ∀ (f : Nat) (k : Int) (L : List (Int × Int)), m__law_leaves f t k = some (L.map encL) → ∀ q ∈ L, q.2 ≤ k + d := by
      intro d lot t h
      induction h with
      | @leaf d lot x hx =>
        intro f k L e q hq
        cases f with
        | zero => cases e
        | succ f =>
          have e2 : some [PyData.list [PyData.int x, PyData.int k]] = some (L.map encL) := e
          have e3 := Option.some.inj e2
          cases L with
          | nil => cases hq
          | cons a l =>
            cases l with
            | nil =>
              rw [List.mem_singleton] at hq
              subst hq
              have e4 := (List.cons.inj e3).1
              unfold encL at e4
              injection e4 with e5
              have e6 := (List.cons.inj (List.cons.inj e5).2).1
              injection e6 with e7
              omega
            | cons b l => cases e3
      | @knot d lot p a b hp ha hb ia ib =>
        intro f k L e q hq
        cases f with
        | zero => cases e
        | succ f =>
          unfold m__law_leaves at e
          rw [if_pos (by rfl)] at e
          have d1 : dIx (.tuple [.int p, a, b]) 1 = some a := rfl
          have d2 : dIx (.tuple [.int p, a, b]) 2 = some b := rfl
          simp only [d1, d2, Option.bind_some] at e
          obtain ⟨x1, e1, e⟩ := bnd e
          obtain ⟨x2, e2, e⟩ := bnd e
          obtain ⟨_, _, e⟩ := bnd e
          have e3 := Option.some.inj e
          obtain ⟨L1, L2, rfl, rfl, rfl⟩ : ∃ L1 L2, L = L1 ++ L2 ∧ x1 = L1.map encL ∧ x2 = L2.map encL := by
            obtain ⟨l1, l2, h1, h2, h3⟩ := List.map_eq_append_iff.mp e3.symm
            exact ⟨l1, l2, h1, h2.symm, h3.symm⟩
          rcases List.mem_append.mp hq with h | h
          · have := ia f (k + 1) L1 e1 q h; omega
          · have := ib f (k + 1) L2 e2 q h; omega
    intro q hq
    have := this _ _ _ hg 16 0 L eL q hq
    omega
  refine Y.bind (below_ok (m := rows.length) rfl (by omega) eL vL hk hLj s hs) ?_
  rintro ⟨bud, s⟩ ⟨hb, hbl, hs⟩
  dsimp only at hb hbl hs ⊢
  refine Y.bind (judged_th (b := true) g hb hfit (by decide) (lv_true vL (by decide) hbl) s hs) ?_
  rintro ⟨r, s⟩ ⟨rfl, hs⟩
  dsimp only at hs ⊢
  rw [if_pos rfl]
  refine Y.be eL ?_
  have hL1 := List.length_pos_iff.mpr vL.ne
  have hL2 := vL.few
  rw [rng_len] at hL2
  refine Y.tk hs (by rw [List.length_map]; omega) (by rw [List.length_map]; omega) fun ti s t0 t1 hs => ?_
  rw [List.length_map] at t1
  obtain ⟨q, eq, hq, _⟩ := atI_in (xs := L) t0 t1
  refine Y.be (atI_map eq) (Y.bs ?_)
  obtain ⟨x, j⟩ := q
  have hx := lt_all rows.length x (vL.mem _ hq).1
  have hj : 0 + 1 ≤ j := (vL.mem _ hq).2.2 hk
  have d1 : dIx (encL (x, j)) 1 = some (.int j) := rfl
  have d0 : dIx (encL (x, j)) 0 = some (.int x) := rfl
  have hbl' := hb.len
  refine Y.be d1 (Y.tk hs (by decide) (by decide) fun more s m0 m1 hs => Y.bs (Y.bs (Y.be d0 (Y.bs (Y.be (setO_ok hx.1 (by omega)) ?_)))))
  dsimp only
  have hb2 : Buds (bud.set x.toNat (j + more)) rows.length := ⟨by rw [List.length_set, hbl'], fun b hbm => by
    rcases List.mem_or_eq_of_mem_set hbm with h | h
    · exact hb.nn b h
    · omega⟩
  refine Y.bind (judged_th (b := false) g hb2 hfit (by decide) (by
    rw [vL.tells _ 32 (by decide), List.all_eq_false]
    refine ⟨(x, j), hq, ?_⟩
    dsimp only
    rw [List.getD_eq_getElem?_getD, List.getElem?_set_self (by omega)]
    simp
    omega) s hs) ?_
  rintro ⟨r, s⟩ ⟨rfl, hs⟩
  dsimp only at hs ⊢
  rw [if_pos rfl]
  obtain ⟨p, a, b, rfl⟩ := hk
  have k0 : dIx (.tuple [.int p, a, b]) 0 = some (.int p) := rfl
  have k1 : dIx (.tuple [.int p, a, b]) 1 = some a := rfl
  have k2 : dIx (.tuple [.int p, a, b]) 2 = some b := rfl
  refine Y.be k0 (Y.be k1 (Y.be k2 ?_))
  have fl : fitD 8 (.list [.int p, a, b]) := ⟨by simp, hfit.2⟩
  refine Y.bind (judged_th (b := false) g hb fl (by decide) (th_no 31 _ 0 rfl (fun i e => by cases e)) s hs) ?_
  rintro ⟨r, s⟩ ⟨rfl, hs⟩
  dsimp only at hs ⊢
  rw [if_pos rfl]
  refine Y.bind (Y.forORN (fun _ s => Pk s) hs fun i s _ hs => ?_) ?_
  · refine Y.bind (spoilt_ok g rfl (by omega) (by omega) (by decide) hg ⟨p, a, b, rfl⟩ s hs) ?_
    rintro ⟨sp, s⟩ ⟨hf, hs⟩
    dsimp only at hf hs ⊢
    have hbr := breaks_eq g hb 9 32 sp [] hf (by decide) (by decide) (fun w hw => by cases hw)
    rw [lotOf_nil] at hbr
    refine Y.be hbr ?_
    refine Y.bind (judged_th g hb hf (by decide) rfl s hs) ?_
    rintro ⟨r, s⟩ ⟨rfl, hs⟩
    dsimp only at hs ⊢
    rw [if_pos rfl]
    exact Y.ret ⟨s, rfl, hs⟩
  · rintro o ⟨s, rfl, hs⟩
    show Y (outB (.nx s) _) _
    unfold outB
    dsimp only
    refine Y.bs ?_
    refine Y.tk hs (by simp) (by simp) fun ot s o0 o1 hs => ?_
    refine Y.pick (xs := menuT (.tuple [.int p, a, b])) (P := fun x => th rows n bud 32 x (rng 0 rows.length) 0 = false ∧ fitD 9 x) o0 o1 (menuT_ok hb.nn hfit (rng 0 rows.length)) fun x hx => ?_
    refine Y.bind (judged_th (b := false) g hb hx.2 (by decide) hx.1 s hs) ?_
    rintro ⟨r, s⟩ ⟨rfl, hs⟩
    dsimp only at hs ⊢
    rw [if_pos rfl]
    refine Y.bind (judged_th (b := true) g hb hfit (by decide) (lv_true vL (by decide) hbl) s hs) ?_
    rintro ⟨r, s⟩ ⟨rfl, hs⟩
    exact Y.ret ⟨rfl, hs⟩
end
/-- rows as the law takes them -/
theorem take_rows (p l : Int) (hp : 0 < p ∧ p ≤ 8) (hl : 0 < l ∧ l ≤ 8) (s : Px) (hs : Pk s) {β : Type} {Q : β → Prop} {f : List (List Bool) × Px → Option β}
    (k : ∀ q : List (List Bool) × Px, (∃ n, Rows q.1 n ∧ n ≤ 8) → q.1.length ≤ 8 → Pk q.2 → Y (f q) Q) : Y ((m__law_rows p l s).bind f) Q := by
  refine Y.bind (rows_ok p l (by omega) (by omega) s hs) ?_
  rintro q ⟨⟨n, g, h1, h2⟩, hs⟩
  exact k q ⟨n, g, by omega⟩ (by omega) hs
theorem unlike8 {rows : List (List Bool)} {n : Nat} (g : Rows rows n) (hn : n ≤ 8) (hm : rows.length ≤ 8) : Y (m__law_unlike rows) fun r => ∃ n, UR r n ∧ n ≤ 8 := by
  obtain ⟨r, e, n', u⟩ := unlike_ok g hm
  refine ⟨r, e, n', u, ?_⟩
  -- the last row is as long as the first one is, or one
  by_cases h0 : n = 0
  · subst h0
    obtain ⟨w0, rest, rfl⟩ := List.exists_cons_of_ne_nil g.ne
    have hw := g.len w0 List.mem_cons_self
    have hw' : w0 = [] := List.length_eq_zero_iff.mp hw
    subst hw'
    have e2 : m__law_unlike ([] :: rest) = some [[false], [true], [true]] := by
      have e9 : atI (([] : List Bool) :: rest) (0 : Int) = some [] := atI_nat (j := 0) rfl
      unfold m__law_unlike
      rw [e9]
      rfl
    rw [e2] at e
    cases e
    have := u.len [false] (by simp)
    simp at this
    omega
  · obtain ⟨w0, rest, rfl⟩ := List.exists_cons_of_ne_nil g.ne
    have hw := g.len w0 List.mem_cons_self
    have e0 : atI (w0 :: rest) (0 : Int) = some w0 := atI_nat (j := 0) rfl
    unfold m__law_unlike at e
    rw [e0, Option.bind_some, if_neg (by simp; intro h; rw [h] at hw; simp at hw; omega), Option.bind_some] at e
    obtain ⟨x1, _, e⟩ := bnd e
    obtain ⟨_, _, e⟩ := bnd e
    obtain ⟨x2, ex2, e⟩ := bnd e
    obtain ⟨_, _, e⟩ := bnd e
    have e := Option.some.inj e
    have hmem : w0 ∈ r := by
      rw [← e]
      refine List.mem_append.mpr (.inl ?_)
      have hmx : mx2 (1 : Int) (((w0 :: rest).length : Int) - (1 : Int)) = ((max 1 rest.length : Nat) : Int) := by
        unfold mx2
        rw [List.length_cons]
        split <;> omega
      rw [hmx, cutA_upto _ _ (by rw [List.length_cons]; omega)]
      obtain ⟨k, hk⟩ : ∃ k, max 1 rest.length = k + 1 := ⟨max 1 rest.length - 1, by omega⟩
      rw [hk, List.take_succ_cons]
      exact List.mem_cons_self
    have := u.len w0 hmem
    omega
theorem zeros {rows : List (List Bool)} : Buds (rows.map fun (_ : List Bool) => (0 : Int)) rows.length := ⟨by simp, fun b hb => by
  obtain ⟨_, _, rfl⟩ := List.mem_map.mp hb
  exact Int.le_refl _⟩
theorem getD_zeros (rows : List (List Bool)) (i : Nat) : (rows.map fun (_ : List Bool) => (0 : Int)).getD i 0 = 0 := by
  rw [List.getD_eq_getElem?_getD, List.getElem?_map]
  cases rows[i]? <;> rfl
theorem law_true (ns : List Int) (h : ns.length ≤ 63) : m_law ns = some true := by
  refine Y.eq ?_
  unfold m_law
  refine Y.bs ?_
  have hs : Pk ((ns.map fun (x66 : Int) => (ab x66)), (0 : Int), (0 : Int), (271828182845904 : Int), (0 : Int)) := Int.le_refl _
  refine take_rows 8 6 (by decide) (by decide) _ hs ?_
  rintro ⟨r1, s⟩ ⟨n1, g1, hn1⟩ hm1 hs
  dsimp only at g1 hm1 hs ⊢
  refine Y.bind (unlike8 g1 hn1 hm1) ?_
  rintro rows ⟨n, u, hn⟩
  refine take_rows 4 3 (by decide) (by decide) _ hs ?_
  rintro ⟨r2, s⟩ ⟨n2, g2, hn2⟩ hm2 hs
  dsimp only at g2 hm2 hs ⊢
  refine Y.bind (unlike8 g2 hn2 hm2) ?_
  rintro others ⟨no, uo, hno⟩
  refine Y.bind (turn_ok u hn s hs) ?_
  rintro ⟨b, s⟩ ⟨rfl, hs⟩
  dsimp only at hs ⊢
  rw [if_pos rfl]
  refine Y.bind (turn_ok uo hno s hs) ?_
  rintro ⟨b, s⟩ ⟨rfl, hs⟩
  dsimp only at hs ⊢
  rw [if_pos rfl]
  refine Y.bind (turn_ok u hn s hs) ?_
  rintro ⟨b, s⟩ ⟨rfl, hs⟩
  dsimp only at hs ⊢
  rw [if_pos rfl]
  have h8 := u.few
  refine Y.grd (by omega) ?_
  refine Y.bind (tree_ok u hn s hs) ?_
  rintro ⟨t, s⟩ ⟨⟨hg, hk⟩, hs⟩
  dsimp only at hg hk hs ⊢
  refine Y.bind (refusals_ok u t s hs) ?_
  rintro ⟨b, s⟩ ⟨rfl, hs⟩
  dsimp only at hs ⊢
  rw [if_pos rfl]
  refine Y.bind (refusals_ok uo (.int 0) s hs) ?_
  rintro ⟨b, s⟩ ⟨rfl, hs⟩
  dsimp only at hs ⊢
  rw [if_pos rfl]
  obtain ⟨L, eL, vL⟩ := leaves_ok hg 16 0 (by omega) (by rw [rng_len]; omega)
  refine Y.bind (judged_th (b := true) u.toRows zeros hg.fit (by decide) (lv_true vL (by decide) fun y hy => ?_) s hs) ?_
  · rw [getD_zeros]
    have := (vL.mem y hy).2.2 hk
    omega
  rintro ⟨b, s⟩ ⟨rfl, hs⟩
  dsimp only at hs ⊢
  rw [if_pos rfl]
  exact Y.be scene_ok (Y.ret rfl)
end EB

set_option Elab.async false
set_option linter.all false
set_option maxRecDepth 100000
set_option maxHeartbeats 4000000

namespace EB
open PySem PySem.Spec PyProof.Rows L2

section

abbrev R9 : PySem.W.OpenRow := PySem.W.OpenLaw.row PySem.Challenge.rw_everybudget_k86_judged_point_trees
abbrev hk : PySem.W.Hook := He.hookX 6 fa fn [] [] ex
def ob (s : PySem.W.SharedT) : He.AlX := He.obsX 6 fa fn [] [] ex (HandSHeadRun.getT s)
theorem ob_eq (s : PySem.W.SharedT) : ob s = hk.obs s.abs := He.obsX_eq (HandSHeadRun.getT_eq s)
def loose : List PySem.Str := (["_wall", "BudgetError", "InvalidNumber", "InvalidBudgets", "InvalidRows", "is_integer", "is_number", "is_between", "is_row", "is_word", "are_budgets", "are_rows", "check_rows", "PointGame", "is_knot"] : List PySem.Str) ++ (["tree_holds", "judge_point_tree", "_law_pool", "_law_take", "_law_word", "_law_rows", "_law_is_integer", "_law_alike", "_law_copy", "_law_unlike", "_law_handed", "_law_bad_rows", "_law_bad_budgets", "_law_grown", "_law_leaves"] : List PySem.Str) ++ (["_law_paths", "_law_part", "_law_put", "_law_breaks", "_law_spoilt_leaf", "_law_spoilt_knot", "_law_spoilt", "_law_below", "_law_judged", "_law_turn", "_law_refused", "_law_refusals", "_law_scene"] : List PySem.Str)
theorem run9 (w : World) : HandSHeadRun.RunEq R9 (PySem.W.view R9.prog [48]) hk ob 6000 loose w := by
  intro os
  kernel_rfl
theorem facts {P : Program} {w : World} {K : PySem.W.Frag} {h : Heap} {mg : Str → Option Value} {f : Addr} (X : K.In h) (G : h.Ns mainGlobals mg) (hfa : mg ("law" : Str) = some (.ref f)) (c : He.SaysX fa fn [] [] ex w h K) :
    ∃ fd : FuncData, (∀ (s : Shared) (v : Value), BindsTo s fd ⟨[v], []⟩ [("script", v)]) ∧ ∀ base : Heap, K.In base → base.Ns mainGlobals mg → FnOk P w K mg base CX0 100 f fd ["script"] (spLaw K) := by
  have S := tx_of X G c
  have ef : He.fAd K ("law", none) = f := by
    have h1 := g_law S
    rw [hfa] at h1
    injection h1 with h2
    injection h2 with h3
    exact h3.symm
  obtain ⟨fd, D⟩ := d_law S
  refine ⟨fd, fun s v => D.bindsA (ps := ["script"]) (fun _ _ _ _ _ _ us hl => match us, hl with | [_], _ => rfl) s [v] rfl, fun base hb hG => ?_⟩
  have G_InvalidNumber___init__ := (ok_InvalidNumber___init__ (P := P) (w := w) (base := base) S  : Ok P w K mg base 1 ("InvalidNumber", some "__init__") ["self", "number"] ((fun K => spErr K (He.ga K "InvalidNumber") "number") K))
  have G_InvalidBudgets___init__ := (ok_InvalidBudgets___init__ (P := P) (w := w) (base := base) S  : Ok P w K mg base 1 ("InvalidBudgets", some "__init__") ["self", "budgets"] ((fun K => spErr K (He.ga K "InvalidBudgets") "budgets") K))
  have G_InvalidRows___init__ := (ok_InvalidRows___init__ (P := P) (w := w) (base := base) S  : Ok P w K mg base 1 ("InvalidRows", some "__init__") ["self", "rows"] ((fun K => spErr K (He.ga K "InvalidRows") "rows") K))
  have G_is_integer := (ok_is_integer (P := P) (w := w) (base := base) S  : Ok P w K mg base 1 ("is_integer", none) ["value"] (sp_is_integer K))
  have G_is_number := (ok_is_number (P := P) (w := w) (base := base) S G_is_integer : Ok P w K mg base 2 ("is_number", none) ["value"] (sp_is_number K))
  have G_is_between := (ok_is_between (P := P) (w := w) (base := base) S G_is_integer : Ok P w K mg base 2 ("is_between", none) ["value", "least", "most"] (sp_is_between K))
  have G_is_row := (ok_is_row (P := P) (w := w) (base := base) S  : Ok P w K mg base 1 ("is_row", none) ["value"] (sp_is_row K))
  have G_is_word := (ok_is_word (P := P) (w := w) (base := base) S  : Ok P w K mg base 1 ("is_word", none) ["value"] (sp_is_word K))
  have G_are_budgets := (ok_are_budgets (P := P) (w := w) (base := base) S G_is_number G_is_row : Ok P w K mg base 3 ("are_budgets", none) ["value"] (sp_are_budgets K))
  have G_are_rows := (ok_are_rows (P := P) (w := w) (base := base) S G_is_row G_is_word : Ok P w K mg base 2 ("are_rows", none) ["value"] (sp_are_rows K))
  have G_check_rows := (ok_check_rows (P := P) (w := w) (base := base) S G_InvalidBudgets___init__ G_InvalidRows___init__ G_are_budgets G_are_rows : OkX P w K mg base 4 ("check_rows", none) ["rows", "budgets"] (sp_check_rows K))
  have G__law_pool := (ok__law_pool (P := P) (w := w) (base := base) S  : Ok P w K mg base 1 ("_law_pool", none) ["script"] ((fun K => NewSp K (aC (zL zI) aN) (fun (p : Addr) (s : Px) => cPx p s) (fun p => .ref p) (fun (a : List Int × Unit) => some (((a.1).map fun (x66 : Int) => (ab x66)), (0 : Int), (0 : Int), (271828182845904 : Int), (0 : Int)))) K))
  have G__law_take := (ok__law_take (P := P) (w := w) (base := base) S  : Ok P w K mg base 1 ("_law_take", none) ["pool", "many"] (sp__law_take K))
  have G__law_word := (ok__law_word (P := P) (w := w) (base := base) S  : Ok P w K mg base 1 ("_law_word", none) ["number", "length"] (sp__law_word K))
  have G__law_rows := (ok__law_rows (P := P) (w := w) (base := base) S G__law_take G__law_word : Ok P w K mg base 2 ("_law_rows", none) ["pool", "programs", "points"] (sp__law_rows K))
  have G__law_is_integer := (ok__law_is_integer (P := P) (w := w) (base := base) S  : Ok P w K mg base 1 ("_law_is_integer", none) ["value"] (sp__law_is_integer K))
  have G__law_alike := (ok__law_alike (P := P) (w := w) (base := base) S G__law_is_integer : Ok P w K mg base 18 ("_law_alike", none) ["one", "other"] ((sp__law_alike 16) K))
  have G__law_copy := (ok__law_copy (P := P) (w := w) (base := base) S  : Ok P w K mg base 17 ("_law_copy", none) ["value"] ((sp__law_copy 16) K))
  have G__law_unlike := (ok__law_unlike (P := P) (w := w) (base := base) S  : Ok P w K mg base 1 ("_law_unlike", none) ["rows"] (sp__law_unlike K))
  have G__law_handedW := (ok__law_handedW (P := P) (w := w) (base := base) S G__law_take : Ok P w K mg base 2 ("_law_handed", none) ["pool", "values"] (sp__law_handedW K))
  have G__law_handedI := (ok__law_handedI (P := P) (w := w) (base := base) S G__law_take : Ok P w K mg base 2 ("_law_handed", none) ["pool", "values"] (sp__law_handedI K))
  have G__law_handedD := (ok__law_handedD (P := P) (w := w) (base := base) S G__law_take : Ok P w K mg base 2 ("_law_handed", none) ["pool", "values"] (sp__law_handedD K))
  have G__law_bad_rows := (ok__law_bad_rows (P := P) (w := w) (base := base) S G__law_handedD G__law_take : Ok P w K mg base 3 ("_law_bad_rows", none) ["pool", "rows"] (sp__law_bad_rows K))
  have G__law_bad_budgets := (ok__law_bad_budgets (P := P) (w := w) (base := base) S G__law_handedD G__law_take : Ok P w K mg base 3 ("_law_bad_budgets", none) ["pool", "budgets"] (sp__law_bad_budgets K))
  have G_PointGame___init__ := (ok_PointGame___init__ (P := P) (w := w) (base := base) S G_check_rows : OkX P w K mg base 5 ("PointGame", some "__init__") ["self", "rows", "budgets"] (sp_PointGame___init__ K))
  have G_PointGame_parts := (ok_PointGame_parts (P := P) (w := w) (base := base) S  : Ok P w K mg base 1 ("PointGame", some "parts") ["self", "lot", "point"] (sp_PointGame_parts K))
  have G_PointGame_all_programs := (ok_PointGame_all_programs (P := P) (w := w) (base := base) S  : Ok P w K mg base 1 ("PointGame", some "all_programs") ["self"] (sp_PointGame_all_programs K))
  have G_is_knot := (ok_is_knot (P := P) (w := w) (base := base) S G_is_between : Ok P w K mg base 3 ("is_knot", none) ["tree", "points"] (sp_is_knot K))
  have G_tree_holds := (ok_tree_holds (P := P) (w := w) (base := base) S G_PointGame_parts G_is_integer G_is_knot : Ok P w K mg base 36 ("tree_holds", none) ["game", "tree", "lot", "knots"] ((sp_tree_holds 32) K))
  have G_judge_point_tree := (ok_judge_point_tree (P := P) (w := w) (base := base) S G_PointGame___init__ G_PointGame_all_programs G_tree_holds : OkX P w K mg base 37 ("judge_point_tree", none) ["rows", "budgets", "tree"] (sp_judge_point_tree K))
  have G_judge_point_treeKW := (ok_judge_point_treeKW (P := P) (w := w) (base := base) S G_PointGame___init__ G_PointGame_all_programs G_tree_holds : OkXK P w K mg base 37 ("judge_point_tree", none) ["rows", "budgets", "tree"] ["tree", "budgets", "rows"] [2, 1, 0] (sp_judge_point_tree K))
  have G__law_grown := (ok__law_grown (P := P) (w := w) (base := base) S G__law_take : Ok P w K mg base 18 ("_law_grown", none) ["pool", "rows", "lot", "root"] ((sp__law_grown 16) K))
  have G__law_leaves := (ok__law_leaves (P := P) (w := w) (base := base) S  : Ok P w K mg base 17 ("_law_leaves", none) ["tree", "knots"] ((sp__law_leaves 16) K))
  have G__law_paths := (ok__law_paths (P := P) (w := w) (base := base) S  : Ok P w K mg base 17 ("_law_paths", none) ["tree", "path"] ((sp__law_paths 16) K))
  have G__law_part := (ok__law_part (P := P) (w := w) (base := base) S  : Ok P w K mg base 1 ("_law_part", none) ["tree", "path"] (sp__law_part K))
  have G__law_put := (ok__law_put (P := P) (w := w) (base := base) S  : Ok P w K mg base 17 ("_law_put", none) ["tree", "path", "part"] ((sp__law_put 16) K))
  have G__law_breaks := (ok__law_breaks (P := P) (w := w) (base := base) S G__law_is_integer : Ok P w K mg base 34 ("_law_breaks", none) ["tree", "rows", "budgets", "ways"] ((sp__law_breaks 32) K))
  have G__law_spoilt_leaf := (ok__law_spoilt_leaf (P := P) (w := w) (base := base) S G__law_take : Ok P w K mg base 2 ("_law_spoilt_leaf", none) ["pool", "rows", "leaf", "kind"] (sp__law_spoilt_leaf K))
  have G__law_spoilt_knot := (ok__law_spoilt_knot (P := P) (w := w) (base := base) S G__law_leaves G__law_take : Ok P w K mg base 18 ("_law_spoilt_knot", none) ["pool", "rows", "knot", "kind"] (sp__law_spoilt_knot K))
  have G__law_spoilt := (ok__law_spoilt (P := P) (w := w) (base := base) S G__law_part G__law_paths G__law_put G__law_spoilt_knot G__law_spoilt_leaf G__law_take : Ok P w K mg base 19 ("_law_spoilt", none) ["pool", "tree", "rows"] (sp__law_spoilt K))
  have G__law_below := (ok__law_below (P := P) (w := w) (base := base) S G__law_leaves G__law_take : Ok P w K mg base 18 ("_law_below", none) ["pool", "tree", "many"] (sp__law_below K))
  have G__law_judged := (ok__law_judged (P := P) (w := w) (base := base) S G__law_alike G__law_copy G__law_handedI G__law_handedW G_judge_point_tree : Ok P w K mg base 38 ("_law_judged", none) ["pool", "rows", "budgets", "tree", "due"] (sp__law_judged K))
  have G__law_turn := (ok__law_turn (P := P) (w := w) (base := base) S G__law_below G__law_breaks G__law_grown G__law_judged G__law_leaves G__law_spoilt G__law_take : Ok P w K mg base 39 ("_law_turn", none) ["pool", "rows"] (sp__law_turn K))
  have G__law_refused := (ok__law_refused (P := P) (w := w) (base := base) S G_judge_point_tree : Ok P w K mg base 38 ("_law_refused", none) ["rows", "budgets", "tree"] (sp__law_refused K))
  have G__law_refusals := (ok__law_refusals (P := P) (w := w) (base := base) S G__law_alike G__law_bad_budgets G__law_bad_rows G__law_copy G__law_refused : Ok P w K mg base 39 ("_law_refusals", none) ["pool", "rows", "tree"] (sp__law_refusals K))
  have G__law_scene := (ok__law_scene (P := P) (w := w) (base := base) S G__law_alike G_judge_point_tree G_judge_point_treeKW : Ok P w K mg base 38 ("_law_scene", none) [] (sp__law_scene K))
  rw [← ef]
  exact (((fn_law (P := P) (w := w) (base := base) S G__law_grown G__law_judged G__law_pool G__law_refusals G__law_rows G__law_scene G__law_turn G__law_unlike D).imp (law_imp law_true)).mono (by omega))

end
end EB
open PySem PySem.W PySem.Calls PyProof.Rows
theorem PySem.Challenge.cw_everybudget_k86_judged_point_trees_holds : PySem.Challenge.rw_everybudget_k86_judged_point_trees.Holds := by
  w_on; o_law
  refine HandSHeadRun.head_any (r := OpenLaw.row PySem.Challenge.rw_everybudget_k86_judged_point_trees) (q := view (OpenLaw.row PySem.Challenge.rw_everybudget_k86_judged_point_trees).prog [48]) (H := EB.hk) (ob := EB.ob) (M := 6000) (loose := EB.loose) (d := HandSHeadRun.topDef (OpenLaw.row PySem.Challenge.rw_everybudget_k86_judged_point_trees).prog 48) (kwd := []) EB.ob_eq
    (by kernel_rfl) (fun s => by kernel_rfl) EB.run9 (by kernel_rfl) (by kernel_rfl) (by kernel_rfl) (by rfl) (by first | assumption | decide +kernel) (by decide +kernel) ⟨rfl, rfl, rfl, rfl, rfl, by decide +kernel⟩ ?hw ?hc
  case hw => w_witness2
  case hc =>
    refine L2.walk_ofE (l := PySem.Challenge.rw_everybudget_k86_judged_point_trees) (n := 63) (k := 100) (x := "script") (CX := L2.CX0) rfl (by decide) (by kernel_rfl) ⟨rfl, by decide, by decide⟩ ?F (fun _ _ _ _ z => z)
    intro w mg fa h Y G hmg0
    obtain ⟨K, KX, c⟩ := Y
    have hmg : mg ("law" : PySem.Str) = some (.ref fa) := by
      have e : (HandSHeadRun.topDef (OpenLaw.row PySem.Challenge.rw_everybudget_k86_judged_point_trees).prog 48).name = ("law" : PySem.Str) := by kernel_rfl
      rw [← e]
      exact hmg0
    obtain ⟨fd, hb, hF⟩ := EB.facts (P := (PySem.Challenge.rw_everybudget_k86_judged_point_trees).prog) (w := w) KX G hmg c
    exact ⟨K, fd, EB.spLaw K, KX, hb, fun H a ns hl _ hS => ⟨a, ns, rfl, hS, hl, fun _ => rfl⟩, hF⟩

