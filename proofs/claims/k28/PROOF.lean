import PyProof.Rows.All
import Wide.All
import OpenK.AllK
import Wide.FinOn
import KE.KStateDown
import Lean
import HandS.ForMost
import HandS.ForExc
import HandS.More
import HandS.Conv
import HandS.Defaults
import HandS.IsInst
import HandS.Flow
import HandS.Style
import HandS.StrMore
import HandS.TupMul
import HandS.TupAny
import HandS.Walk
import HandS.Zip
import HandS.Head0
import HandS.Head1
import HandS.Head2
import HandS.HeadEnd
import HandS.HeadHook1
import HandS.HeadHook2
import HandS.HeadHook3
import HandS.HeadHook4
import KE.GoesEnum
import HandS.Flt
import HandS.Steps
import HandS.MakeKw
import HandS.MakeKwOnly
import HandS.Wide
import PySem.Challenge.RW_everybudget_k28_need_with_flips
set_option Elab.async false
set_option linter.all false
set_option maxRecDepth 100000
set_option maxHeartbeats 4000000
/-! EB: typed representations of values, frames, readings that evaluate. -/
namespace EB
open PySem PySem.Spec PyProof.Rows L2

/-! ### sets of addresses, frames -/
abbrev AS := Addr → Prop
def Ex (H H' : Hp) : Prop := ∀ a o, H a = some o → H' a = some o
theorem Ex.refl (H : Hp) : Ex H H := fun _ _ h => h
theorem Ex.trans {H H1 H2 : Hp} (a : Ex H H1) (b : Ex H1 H2) : Ex H H2 := fun x o h => b x o (a x o h)
theorem Ex.new {H : Hp} {p : Addr} {o : HO} (h : H p = none) : Ex H (upd H p o) := fun a u e => by
  rw [upd_ne (ne_of_none e h)]
  exact e
theorem Ex.back {H H' : Hp} {p : Addr} (e : Ex H H') (h : H' p = none) : H p = none := by
  cases h1 : H p with
  | none => rfl
  | some o => rw [e p o h1] at h; cases h
/-- T may have changed; what was tracked is -/
structure Fr (T : AS) (H H' : Hp) : Prop where
  keep : ∀ a o, ¬ T a → H a = some o → H' a = some o
  dom : ∀ a o, H a = some o → ∃ o', H' a = some o'
theorem Fr.refl {T : AS} (H : Hp) : Fr T H H := ⟨fun _ _ _ h => h, fun _ o h => ⟨o, h⟩⟩
theorem Fr.trans {T : AS} {H H1 H2 : Hp} (a : Fr T H H1) (b : Fr T H1 H2) : Fr T H H2 :=
  ⟨fun x o n h => b.keep x o n (a.keep x o n h), fun x o h => let ⟨o1, h1⟩ := a.dom x o h; b.dom x o1 h1⟩
theorem Ex.fr {T : AS} {H H' : Hp} (e : Ex H H') : Fr T H H' := ⟨fun a o _ h => e a o h, fun a o h => ⟨o, e a o h⟩⟩
theorem Fr.mono {S T : AS} {H H' : Hp} (f : Fr S H H') (h : ∀ b, S b → T b) : Fr T H H' := ⟨fun a o n e => f.keep a o (fun z => n (h a z)) e, f.dom⟩
theorem Fr.back {T : AS} {H H' : Hp} {p : Addr} (e : Fr T H H') (h : H' p = none) : H p = none := by
  cases h1 : H p with
  | none => rfl
  | some o => obtain ⟨o', h2⟩ := e.dom p o h1; rw [h2] at h; cases h
theorem Fr.upd {T : AS} {H : Hp} {p : Addr} {o : HO} (h : T p ∨ H p = none) : Fr T H (upd H p o) := by
  refine ⟨fun a u n e => ?_, fun a u e => ?_⟩
  · have ne : a ≠ p := fun z => by
      subst z
      rcases h with h | h
      · exact n h
      · rw [h] at e; cases e
    rw [upd_ne ne]; exact e
  · by_cases z : a = p
    · subst z; exact ⟨o, upd_same⟩
    · rw [upd_ne z]; exact ⟨u, e⟩
theorem Fr.ex {T : AS} {H H' : Hp} (f : Fr T H H') (h : ∀ b, ¬ T b) : Ex H H' := fun a o e => f.keep a o (h a) e
/-- T is tracked -/
def TD (T : AS) (H : Hp) : Prop := ∀ b, T b → ∃ o, H b = some o
theorem TD.fr {S T : AS} {H H' : Hp} (h : TD T H) (f : Fr S H H') : TD T H' := fun b t => let ⟨o, e⟩ := h b t; f.dom b o e
theorem TD.ex {T : AS} {H H' : Hp} (h : TD T H) (e : Ex H H') : TD T H' := fun b t => let ⟨o, q⟩ := h b t; ⟨o, e b o q⟩
theorem TD.new {T : AS} {H : Hp} {p : Addr} (h : TD T H) (n : H p = none) : ¬ T p := fun t => by
  obtain ⟨o, e⟩ := h p t
  rw [n] at e; cases e
def T0 : AS := fun _ => False
theorem td0 {H : Hp} : TD T0 H := fun _ h => h.elim
/-- T and p -/
def Tp (T : AS) (p : Addr) : AS := fun b => T b ∨ b = p
theorem TD.tp {T : AS} {H : Hp} {p : Addr} {o : HO} (h : TD T H) (e : H p = some o) : TD (Tp T p) H := fun b t => by
  rcases t with t | t
  · exact h b t
  · subst t; exact ⟨o, e⟩

/-! ### lists and tuples off T -/
def KLs (K : PySem.W.Frag) (a : Addr) (xs : List V) : Prop := ∃ (o : Obj) (its : Array Value) (n : Nat), K.lookup a = some o ∧ o.cls = .type "list" ∧ o.dict = none ∧ o.data = .seq its n ∧ its.size ≤ sizeLine ∧ Vals xs its.toList
def KTu (K : PySem.W.Frag) (a : Addr) (xs : List V) : Prop := ∃ (o : Obj) (its : Array Value) (n : Nat), K.lookup a = some o ∧ o.cls = .type "tuple" ∧ o.data = .seq its n ∧ its.size ≤ sizeLine ∧ Vals xs its.toList
def SL (K : PySem.W.Frag) (T : AS) (H : Hp) (a : Addr) (xs : List V) : Prop := (¬ T a ∧ Rd H a (.lst xs)) ∨ KLs K a xs
def ST (K : PySem.W.Frag) (T : AS) (H : Hp) (a : Addr) (xs : List V) : Prop := (¬ T a ∧ Rd H a (.tup xs)) ∨ KTu K a xs
section
variable {K : PySem.W.Frag} {T T' : AS} {H H' : Hp} {a p : Addr} {xs : List V}
theorem SL.sq (h : SL K T H a xs) : SqL K H a xs := h.elim (fun z => .inl z.2) .inr
theorem ST.sq (h : ST K T H a xs) : SqT K H a xs := h.elim (fun z => .inl z.2) .inr
theorem Rd.fr {u : HO} (n : ¬ T a) (f : Fr T H H') (h : Rd H a u) : Rd H' a u := h.elim (fun z => .inl (f.keep a _ n z)) fun ⟨o, z⟩ => .inr ⟨o, f.keep a _ n z⟩
theorem SL.fr (f : Fr T H H') (h : SL K T H a xs) : SL K T H' a xs := h.elim (fun z => .inl ⟨z.1, Rd.fr z.1 f z.2⟩) .inr
theorem ST.fr (f : Fr T H H') (h : ST K T H a xs) : ST K T H' a xs := h.elim (fun z => .inl ⟨z.1, Rd.fr z.1 f z.2⟩) .inr
theorem SL.sub (f : ∀ b, T' b → T b) (h : SL K T H a xs) : SL K T' H a xs := h.elim (fun z => .inl ⟨fun t => z.1 (f a t), z.2⟩) .inr
theorem ST.sub (f : ∀ b, T' b → T b) (h : ST K T H a xs) : ST K T' H a xs := h.elim (fun z => .inl ⟨fun t => z.1 (f a t), z.2⟩) .inr
theorem Rd.ne {u : HO} (n : H p = none) (h : Rd H a u) : a ≠ p := fun z => by
  subst z
  rcases h with h | ⟨o, h⟩ <;> (rw [n] at h; cases h)
theorem SL.lift (n : H p = none) (h : SL K T H a xs) : SL K (Tp T p) H a xs := h.elim (fun z => .inl ⟨fun t => t.elim z.1 (Rd.ne n z.2), z.2⟩) .inr
theorem ST.lift (n : H p = none) (h : ST K T H a xs) : ST K (Tp T p) H a xs := h.elim (fun z => .inl ⟨fun t => t.elim z.1 (Rd.ne n z.2), z.2⟩) .inr
theorem SL.new (n : ¬ T p) (e : H p = some (.lst xs)) : SL K T H p xs := .inl ⟨n, .inl e⟩
theorem ST.new (n : ¬ T p) (e : H p = some (.tup xs)) : ST K T H p xs := .inl ⟨n, .inl e⟩
end

/-! ### representations -/
abbrev Rp (α : Type) := PySem.W.Frag → AS → Hp → V → α → Prop
/-- steps of the heap -/
structure Wd (T : AS) (H : Hp) (T' : AS) (H' : Hp) : Prop where
  fr : Fr T H H'
  nw : ∀ b, T' b → T b ∨ H b = none
section
variable {T T' T'' : AS} {H H' H'' : Hp}
theorem Wd.refl : Wd T H T H := ⟨Fr.refl H, fun _ h => .inl h⟩
theorem Wd.trans (a : Wd T H T' H') (c : Wd T' H' T'' H'') : Wd T H T'' H'' where
  fr := ⟨fun x o n h => c.fr.keep x o (fun t => (a.nw x t).elim n fun z => by rw [z] at h; cases h) (a.fr.keep x o n h), fun x o h => let ⟨o1, h1⟩ := a.fr.dom x o h; c.fr.dom x o1 h1⟩
  nw := fun x t => (c.nw x t).elim (a.nw x) fun z => .inr (a.fr.back z)
theorem Wd.ex (e : Ex H H') : Wd T H T H' := ⟨e.fr, fun _ h => .inl h⟩
theorem Wd.of (f : Fr T H H') : Wd T H T H' := ⟨f, fun _ h => .inl h⟩
theorem Wd.sub (h : ∀ b, T' b → T b) : Wd T H T' H := ⟨Fr.refl H, fun b t => .inl (h b t)⟩
theorem Wd.new {p : Addr} {o : HO} (h : H p = none) : Wd T H (Tp T p) (upd H p o) := ⟨(Ex.new h).fr, fun b t => t.elim .inl fun z => .inr (z ▸ h)⟩
theorem Wd.lift {p : Addr} (h : H p = none) : Wd T H (Tp T p) H := ⟨Fr.refl H, fun b t => t.elim .inl fun z => .inr (z ▸ h)⟩
end
section
variable {K : PySem.W.Frag} {T T' : AS} {H H' : Hp} {a : Addr} {xs : List V} {u : HO}
theorem Rd.wd (w : Wd T H T' H') (n : ¬ T a) (h : Rd H a u) : ¬ T' a ∧ Rd H' a u :=
  ⟨fun t => (w.nw a t).elim n fun z => by rcases h with h | ⟨o, h⟩ <;> (rw [z] at h; cases h), Rd.fr n w.fr h⟩
theorem SL.wd (w : Wd T H T' H') (h : SL K T H a xs) : SL K T' H' a xs := h.elim (fun z => .inl (Rd.wd w z.1 z.2)) .inr
theorem ST.wd (w : Wd T H T' H') (h : ST K T H a xs) : ST K T' H' a xs := h.elim (fun z => .inl (Rd.wd w z.1 z.2)) .inr
end
class Mo {α : Type} (r : Rp α) : Prop where
  wd : ∀ {K T H T' H' v a}, Wd T H T' H' → r K T H v a → r K T' H' v a
theorem Mo.fr {α : Type} {r : Rp α} [Mo r] {K T H H' v a} (f : Fr T H H') (h : r K T H v a) : r K T H' v a := Mo.wd (Wd.of f) h
theorem Mo.sub {α : Type} {r : Rp α} [Mo r] {K T T' H v a} (f : ∀ b, T' b → T b) (h : r K T H v a) : r K T' H v a := Mo.wd (Wd.sub f) h
theorem Mo.lift {α : Type} {r : Rp α} [Mo r] {K T H v a p} (f : H p = none) (h : r K T H v a) : r K (Tp T p) H v a := Mo.wd (Wd.lift f) h
def zI : Rp Int := fun _ _ _ v i => v = .int i
def zB : Rp Bool := fun _ _ _ v b => v = .bl b
def zS : Rp Str := fun _ _ _ v s => v = .str s
def zN : Rp Unit := fun _ _ _ v _ => v = .non
/-- a word of bits, as a text -/
def sgn (b : Bool) : Nat := if b then 49 else 48
def wS (w : List Bool) : Str := ⟨(w.map sgn).toArray⟩
def zW : Rp (List Bool) := fun _ _ _ v w => v = .str (wS w) ∧ w.length ≤ 100000
abbrev All2 {α β : Type} (F : α → β → Prop) : List α → List β → Prop := Paired F
def zL {α : Type} (r : Rp α) : Rp (List α) := fun K T H v xs => ∃ a vs, v = .ref a ∧ SL K T H a vs ∧ All2 (r K T H) vs xs
def zU {α : Type} (r : Rp α) : Rp (List α) := fun K T H v xs => ∃ a vs, v = .ref a ∧ ST K T H a vs ∧ All2 (r K T H) vs xs
def zP {α β : Type} (r : Rp α) (s : Rp β) : Rp (α × β) := fun K T H v p => ∃ a x y, v = .ref a ∧ ST K T H a [x, y] ∧ r K T H x p.1 ∧ s K T H y p.2
def zP3 {α β γ : Type} (r : Rp α) (s : Rp β) (t : Rp γ) : Rp (α × β × γ) := fun K T H v p => ∃ a x y z, v = .ref a ∧ ST K T H a [x, y, z] ∧ r K T H x p.1 ∧ s K T H y p.2.1 ∧ t K T H z p.2.2
def zO {α : Type} (r : Rp α) : Rp (Option α) := fun K T H v o => (v = .non ∧ o = none) ∨ ∃ x, o = some x ∧ r K T H v x
section
theorem all2_imp {α β : Type} {F G : α → β → Prop} (h : ∀ a b, F a b → G a b) : ∀ {xs : List α} {ys : List β}, All2 F xs ys → All2 G xs ys
  | _, _, .nil => .nil
  | _, _, .cons r t => .cons (h _ _ r) (all2_imp h t)
theorem all2_len {α β : Type} {F : α → β → Prop} : ∀ {xs : List α} {ys : List β}, All2 F xs ys → xs.length = ys.length
  | _, _, .nil => rfl
  | _, _, .cons _ t => by simp [all2_len t]
theorem all2_get {α β : Type} {F : α → β → Prop} : ∀ {xs : List α} {ys : List β} {i : Nat} {y : β}, All2 F xs ys → ys[i]? = some y → ∃ x, xs[i]? = some x ∧ F x y
  | _, _, _, _, .nil, e => by simp at e
  | _, _, 0, _, .cons r _, e => by simp at e; subst e; exact ⟨_, rfl, r⟩
  | _, _, i + 1, y, .cons _ t, e => by
    obtain ⟨u, h1, h2⟩ := all2_get (i := i) (y := y) t (by simpa using e)
    exact ⟨u, by simpa using h1, h2⟩
theorem all2_getL {α β : Type} {F : α → β → Prop} : ∀ {xs : List α} {ys : List β} {i : Nat} {x : α}, All2 F xs ys → xs[i]? = some x → ∃ y, ys[i]? = some y ∧ F x y
  | _, _, _, _, .nil, e => by simp at e
  | _, _, 0, _, .cons r _, e => by simp at e; subst e; exact ⟨_, rfl, r⟩
  | _, _, i + 1, y, .cons _ t, e => by
    obtain ⟨u, h1, h2⟩ := all2_getL (i := i) (x := y) t (by simpa using e)
    exact ⟨u, by simpa using h1, h2⟩
theorem all2_app {α β : Type} {F : α → β → Prop} : ∀ {xs us : List α} {ys ws : List β}, All2 F xs ys → All2 F us ws → All2 F (xs ++ us) (ys ++ ws)
  | _, _, _, _, .nil, s => s
  | _, _, _, _, .cons r t, s => .cons r (all2_app t s)
theorem all2_map {α β γ : Type} {F : α → β → Prop} (f : γ → α) (g : γ → β) (h : ∀ c, F (f c) (g c)) : ∀ l : List γ, All2 F (l.map f) (l.map g)
  | [] => .nil
  | c :: r => .cons (h c) (all2_map f g h r)
theorem all2_take {α β : Type} {F : α → β → Prop} : ∀ {xs : List α} {ys : List β} (n : Nat), All2 F xs ys → All2 F (xs.take n) (ys.take n)
  | _, _, 0, _ => .nil
  | _, _, _ + 1, .nil => .nil
  | _, _, n + 1, .cons r t => .cons r (all2_take n t)
theorem all2_drop {α β : Type} {F : α → β → Prop} : ∀ {xs : List α} {ys : List β} (n : Nat), All2 F xs ys → All2 F (xs.drop n) (ys.drop n)
  | _, _, 0, r => r
  | _, _, _ + 1, .nil => .nil
  | _, _, n + 1, .cons _ t => all2_drop n t
theorem all2_set {α β : Type} {F : α → β → Prop} {x : α} {y : β} (r : F x y) : ∀ {xs : List α} {ys : List β} (i : Nat), All2 F xs ys → All2 F (xs.set i x) (ys.set i y)
  | _, _, _, .nil => .nil
  | _, _, 0, .cons _ t => .cons r t
  | _, _, i + 1, .cons q t => .cons q (all2_set r i t)
theorem all2_int {vs : List V} {ns : List Int} {K T H} (h : All2 (zI K T H) vs ns) : vs = ns.map V.int := by
  induction h with
  | nil => rfl
  | cons r _ ih => cases r; rw [ih]; rfl
theorem all2_ints {ns : List Int} {K T H} : All2 (zI K T H) (ns.map V.int) ns := by
  have := all2_map (F := zI K T H) V.int id (fun _ => rfl) ns
  simpa using this
theorem all2_bl {vs : List V} {ns : List Bool} {K T H} (h : All2 (zB K T H) vs ns) : vs = ns.map V.bl := by
  induction h with
  | nil => rfl
  | cons r _ ih => cases r; rw [ih]; rfl
theorem all2_str {vs : List V} {ns : List Str} {K T H} (h : All2 (zS K T H) vs ns) : vs = ns.map V.str := by
  induction h with
  | nil => rfl
  | cons r _ ih => cases r; rw [ih]; rfl
theorem all2_word {vs : List V} {ns : List (List Bool)} {K T H} (h : All2 (zW K T H) vs ns) : vs = (ns.map wS).map V.str := by
  induction h with
  | nil => rfl
  | cons r _ ih => obtain ⟨r, _⟩ := r; cases r; rw [ih]; rfl
instance : Mo zI := ⟨fun _ h => h⟩
instance : Mo zB := ⟨fun _ h => h⟩
instance : Mo zS := ⟨fun _ h => h⟩
instance : Mo zN := ⟨fun _ h => h⟩
instance : Mo zW := ⟨fun _ h => h⟩
variable {α β γ : Type} {r : Rp α} {s : Rp β} {t : Rp γ}
instance [Mo r] : Mo (zL r) := ⟨fun w ⟨a, vs, e, h, q⟩ => ⟨a, vs, e, h.wd w, all2_imp (fun _ _ z => Mo.wd w z) q⟩⟩
instance [Mo r] : Mo (zU r) := ⟨fun w ⟨a, vs, e, h, q⟩ => ⟨a, vs, e, h.wd w, all2_imp (fun _ _ z => Mo.wd w z) q⟩⟩
instance [Mo r] [Mo s] : Mo (zP r s) := ⟨fun w ⟨a, x, y, e, h, q, q'⟩ => ⟨a, x, y, e, h.wd w, Mo.wd w q, Mo.wd w q'⟩⟩
instance [Mo r] [Mo s] [Mo t] : Mo (zP3 r s t) := ⟨fun w ⟨a, x, y, z, e, h, q, q', q2⟩ => ⟨a, x, y, z, e, h.wd w, Mo.wd w q, Mo.wd w q', Mo.wd w q2⟩⟩
instance [Mo r] : Mo (zO r) := ⟨fun w h => h.elim .inl fun ⟨x, e, q⟩ => .inr ⟨x, e, Mo.wd w q⟩⟩
end
theorem wS_app (a b : List Bool) : wS (a ++ b) = wS a ++ wS b := by
  apply TL.ext_tl
  rw [TL.tl_append]
  simp [wS, TL.tl]
theorem wS_len (w : List Bool) : (wS w).length = w.length := by simp [wS, Str.length]
theorem sgn_inj {a b : Bool} (h : sgn a = sgn b) : a = b := by cases a <;> cases b <;> simp [sgn] at h <;> rfl
theorem map_sgn_inj : ∀ {a b : List Bool}, a.map sgn = b.map sgn → a = b
  | [], [], _ => rfl
  | [], _ :: _, h => by simp at h
  | _ :: _, [], h => by simp at h
  | x :: xs, y :: ys, h => by
    simp only [List.map_cons, List.cons.injEq] at h
    rw [sgn_inj h.1, map_sgn_inj h.2]
theorem wS_inj {a b : List Bool} (h : wS a = wS b) : a = b := by
  have : (wS a).cps.toList = (wS b).cps.toList := by rw [h]
  exact map_sgn_inj (by simpa [wS] using this)
theorem wS_eq (a b : List Bool) : decide (V.str (wS a) = V.str (wS b)) = decide (a = b) := by
  by_cases h : a = b
  · subst h; simp
  · rw [decide_eq_false h, decide_eq_false]
    intro e; exact h (wS_inj (V.str.inj e))
theorem wS_nil : wS [] = Str.empty := rfl
end EB

set_option Elab.async false
set_option linter.all false
set_option maxRecDepth 100000
set_option maxHeartbeats 4000000
/-! EB: readings. -/
namespace EB
open PySem PySem.Spec PyProof.Rows L2

/-! ### transport of what is known -/
def Tr (K : PySem.W.Frag) (T : AS) (H : Hp) (T' : AS) (H' : Hp) : Prop := ∀ (α : Type) (r : Rp α), Mo r → ∀ v d, r K T H v d → r K T' H' v d
section
variable {K : PySem.W.Frag} {T T' T2 : AS} {H H' H2 : Hp}
theorem Tr.ap (t : Tr K T H T' H') {α : Type} {r : Rp α} [m : Mo r] {v : V} {d : α} (h : r K T H v d) : r K T' H' v d := t α r m v d h
theorem Tr.refl : Tr K T H T H := fun _ _ _ _ _ h => h
theorem Tr.trans (a : Tr K T H T' H') (b : Tr K T' H' T2 H2) : Tr K T H T2 H2 := fun α r m v d h => b α r m v d (a α r m v d h)
theorem Tr.fr (f : Fr T H H') : Tr K T H T H' := fun _ _ m _ _ h => m.wd (Wd.of f) h
theorem Tr.ex (f : Ex H H') : Tr K T H T H' := fun _ _ m _ _ h => m.wd (Wd.ex f) h
theorem Tr.sub (f : ∀ b, T' b → T b) : Tr K T H T' H := fun _ _ m _ _ h => m.wd (Wd.sub f) h
theorem Tr.wd (w : Wd T H T' H') : Tr K T H T' H' := fun _ _ m _ _ h => m.wd w h
theorem Tr.lift {p : Addr} (n : H p = none) : Tr K T H (Tp T p) H := fun _ _ m _ _ h => m.wd (Wd.lift n) h
end

/-! ### what evaluates to what -/
abbrev Rpl (α : Type) := PySem.W.Frag → AS → Hp → List V → α → Prop
class MoL {α : Type} (r : Rpl α) : Prop where
  wd : ∀ {K T H T' H' v a}, Wd T H T' H' → r K T H v a → r K T' H' v a
theorem MoL.fr {α : Type} {r : Rpl α} [MoL r] {K T H H' v a} (f : Fr T H H') (h : r K T H v a) : r K T H' v a := MoL.wd (Wd.of f) h
theorem MoL.sub {α : Type} {r : Rpl α} [MoL r] {K T T' H v a} (f : ∀ b, T' b → T b) (h : r K T H v a) : r K T' H v a := MoL.wd (Wd.sub f) h
theorem MoL.lift {α : Type} {r : Rpl α} [MoL r] {K T H v a p} (f : H p = none) (h : r K T H v a) : r K (Tp T p) H v a := MoL.wd (Wd.lift f) h
def aN : Rpl Unit := fun _ _ _ vs _ => vs = []
def aC {α β : Type} (r : Rp α) (s : Rpl β) : Rpl (α × β) := fun K T H vs p => ∃ v ws, vs = v :: ws ∧ r K T H v p.1 ∧ s K T H ws p.2
instance : MoL aN := ⟨fun _ h => h⟩
instance {α β : Type} {r : Rp α} {s : Rpl β} [Mo r] [MoL s] : MoL (aC r s) := ⟨fun w ⟨v, ws, e, h, q⟩ => ⟨v, ws, e, Mo.wd w h, MoL.wd w q⟩⟩
/-- homogeneous -/
def aH {α : Type} (r : Rp α) : Rpl (List α) := fun K T H vs xs => All2 (r K T H) vs xs
instance {α : Type} {r : Rp α} [Mo r] : MoL (aH r) := ⟨fun w h => all2_imp (fun _ _ z => Mo.wd w z) h⟩

def Ev (K : PySem.W.Frag) (T : AS) {α : Type} (te : TE) (σ : L2.St) (H : Hp) (r : Rp α) (d : α) : Prop :=
  ∀ H1, Fr T H H1 → ∀ Q : VK, (∀ v H2, Ex H1 H2 → r K T H2 v d → Q v H2) → te σ H1 Q
def EvA (K : PySem.W.Frag) (T : AS) {α : Type} (ta : TA) (σ : L2.St) (H : Hp) (r : Rpl α) (d : α) : Prop :=
  ∀ H1, Fr T H H1 → ∀ Q : List V → Hp → Prop, (∀ vs H2, Ex H1 H2 → r K T H2 vs d → Q vs H2) → ta σ H1 Q
def EvT (T : AS) (tt : TT) (σ : L2.St) (H : Hp) (b : Bool) : Prop :=
  ∀ H1, Fr T H H1 → ∀ Q : Bool → Hp → Prop, (∀ H2, Ex H1 H2 → Q b H2) → tt σ H1 Q
def EvO (T : AS) (to : TO) (σ : L2.St) (H : Hp) (o : Option Int) : Prop :=
  ∀ H1, Fr T H H1 → ∀ Q : Option Int → Hp → Prop, (∀ H2, Ex H1 H2 → Q o H2) → to σ H1 Q
section
variable {K : PySem.W.Frag} {T : AS} {σ : L2.St} {H : Hp} {α β γ : Type} {r : Rp α} {s : Rp β} {ta tb te : TE} {t u : TT}
theorem Ev.to {d d' : α} (h : Ev K T te σ H r d) (e : d = d') : Ev K T te σ H r d' := e ▸ h
theorem EvT.to {d d' : Bool} (h : EvT T t σ H d) (e : d = d') : EvT T t σ H d' := e ▸ h
theorem Ev.fr {d : α} {H' : Hp} (f : Fr T H H') (h : Ev K T te σ H r d) : Ev K T te σ H' r d := fun H1 a => h H1 (f.trans a)
theorem EvT.fr {b : Bool} {H' : Hp} (f : Fr T H H') (h : EvT T t σ H b) : EvT T t σ H' b := fun H1 a => h H1 (f.trans a)
theorem ev_var [Mo r] {i : Nat} {v : V} {d : α} (e : σ[i]? = some (some v)) (h : r K T H v d) : Ev K T (tVar i) σ H r d := fun H1 f _ q => ⟨v, e, q v H1 (Ex.refl H1) (Mo.fr f h)⟩
theorem ev_int {i : Int} : Ev K T (tC (.int i)) σ H zI i := fun H1 _ _ q => q _ H1 (Ex.refl H1) rfl
theorem ev_bl {i : Bool} : Ev K T (tC (.bl i)) σ H zB i := fun H1 _ _ q => q _ H1 (Ex.refl H1) rfl
theorem ev_str {i : Str} : Ev K T (tC (.str i)) σ H zS i := fun H1 _ _ q => q _ H1 (Ex.refl H1) rfl
theorem ev_non : Ev K T (tC .non) σ H zN () := fun H1 _ _ q => q _ H1 (Ex.refl H1) rfl
theorem ev_nonO : Ev K T (tC .non) σ H (zO r) none := fun H1 _ _ q => q _ H1 (Ex.refl H1) (.inl ⟨rfl, rfl⟩)
/-- a written word -/
theorem ev_word {i : Str} (w : List Bool) (e : i = wS w) (hl : w.length ≤ 100000) : Ev K T (tC (.str i)) σ H zW w := fun H1 _ _ q => q _ H1 (Ex.refl H1) ⟨by rw [e], hl⟩
theorem ev_some {d : α} (h : Ev K T te σ H r d) : Ev K T te σ H (zO r) (some d) := fun H1 f Q q => h H1 f Q fun v H2 e x => q v H2 e (.inr ⟨d, rfl, x⟩)
/-- two-place operations -/
theorem ev_op {a : α} {b : β} {c : γ} {s' : Rp γ} {R : R2} [Mo r] (ha : Ev K T ta σ H r a) (hb : Ev K T tb σ H s b) (hr : ∀ x y H1 (Q : VK), Fr T H H1 → r K T H1 x a → s K T H1 y b → (∀ v H2, Ex H1 H2 → s' K T H2 v c → Q v H2) → R x y H1 Q) : Ev K T (tOp R ta tb) σ H s' c :=
  fun H1 f Q q => ha H1 f _ fun x H2 e2 r2 => hb H2 (f.trans e2.fr) _ fun y H3 e3 r3 => hr x y H3 Q ((f.trans e2.fr).trans e3.fr) (Mo.fr e3.fr r2) r3 fun v H4 e4 r4 => q v H4 ((e2.trans e3).trans e4) r4
theorem ev_I0 {g : Int → Int → V} {i j : Int} {c : γ} {s' : Rp γ} (hg : ∀ H1, s' K T H1 (g i j) c) (ha : Ev K T ta σ H zI i) (hb : Ev K T tb σ H zI j) : Ev K T (tOp (rI0 g) ta tb) σ H s' c :=
  ev_op ha hb fun x y H1 Q _ h1 h2 q => ⟨i, j, h1, h2, q _ H1 (Ex.refl H1) (hg H1)⟩
theorem ev_IC {C : Int → Int → Prop} {g : Int → Int → V} {i j : Int} {c : γ} {s' : Rp γ} (hg : ∀ H1, s' K T H1 (g i j) c) (ha : Ev K T ta σ H zI i) (hb : Ev K T tb σ H zI j) (hc : C i j) : Ev K T (tOp (rI C g) ta tb) σ H s' c :=
  ev_op ha hb fun x y H1 Q _ h1 h2 q => ⟨i, j, h1, h2, hc, q _ H1 (Ex.refl H1) (hg H1)⟩
theorem ev_add {i j : Int} (ha : Ev K T ta σ H zI i) (hb : Ev K T tb σ H zI j) : Ev K T (tOp (rI0 fun i j => .int (i + j)) ta tb) σ H zI (i + j) := ev_I0 (fun _ => rfl) ha hb
theorem ev_sub {i j : Int} (ha : Ev K T ta σ H zI i) (hb : Ev K T tb σ H zI j) : Ev K T (tOp (rI0 fun i j => .int (i - j)) ta tb) σ H zI (i - j) := ev_I0 (fun _ => rfl) ha hb
theorem ev_lt {i j : Int} (ha : Ev K T ta σ H zI i) (hb : Ev K T tb σ H zI j) : Ev K T (tOp (rI0 fun i j => .bl (decide (i < j))) ta tb) σ H zB (decide (i < j)) := ev_I0 (fun _ => rfl) ha hb
theorem ev_le {i j : Int} (ha : Ev K T ta σ H zI i) (hb : Ev K T tb σ H zI j) : Ev K T (tOp (rI0 fun i j => .bl (decide (i ≤ j))) ta tb) σ H zB (decide (i ≤ j)) := ev_I0 (fun _ => rfl) ha hb
theorem ev_gt {i j : Int} (ha : Ev K T ta σ H zI i) (hb : Ev K T tb σ H zI j) : Ev K T (tOp (rI0 fun i j => .bl (decide (j < i))) ta tb) σ H zB (decide (j < i)) := ev_I0 (fun _ => rfl) ha hb
theorem ev_ge {i j : Int} (ha : Ev K T ta σ H zI i) (hb : Ev K T tb σ H zI j) : Ev K T (tOp (rI0 fun i j => .bl (decide (j ≤ i))) ta tb) σ H zB (decide (j ≤ i)) := ev_I0 (fun _ => rfl) ha hb
theorem ev_mul {i j : Int} (ha : Ev K T ta σ H zI i) (hb : Ev K T tb σ H zI j) (hc : CMul i j) : Ev K T (tOp (rI CMul fun i j => .int (i * j)) ta tb) σ H zI (i * j) := ev_IC (fun _ => rfl) ha hb hc
theorem ev_mod {i j : Int} (ha : Ev K T ta σ H zI i) (hb : Ev K T tb σ H zI j) (hc : 0 < j) : Ev K T (tOp (rI (fun _ j => 0 < j) fun i j => .int (i % j)) ta tb) σ H zI (i % j) := ev_IC (fun _ => rfl) ha hb hc
theorem ev_fdiv {i j : Int} (ha : Ev K T ta σ H zI i) (hb : Ev K T tb σ H zI j) (hc : CDiv i j) : Ev K T (tOp (rI CDiv fun i j => .int (i / j)) ta tb) σ H zI (i / j) := ev_IC (fun _ => rfl) ha hb hc
theorem ev_pow {i j : Int} (ha : Ev K T ta σ H zI i) (hb : Ev K T tb σ H zI j) (hc : CPow i j) : Ev K T (tOp (rI CPow fun i j => .int (i ^ j.toNat)) ta tb) σ H zI (i ^ j.toNat) := ev_IC (fun _ => rfl) ha hb hc
theorem ev_shl {i j : Int} (ha : Ev K T ta σ H zI i) (hb : Ev K T tb σ H zI j) (hc : CPow i j) : Ev K T (tOp (rI CPow fun i j => .int (i * 2 ^ j.toNat)) ta tb) σ H zI (i * 2 ^ j.toNat) := ev_IC (fun _ => rfl) ha hb hc
theorem ev_neg {i : Int} (ha : Ev K T ta σ H zI i) : Ev K T (tUn (rU fun i => .int (-i)) ta) σ H zI (-i) := fun H1 f Q q => ha H1 f _ fun x H2 e h => ⟨i, h, q _ H2 e rfl⟩
/-- equality of scalars -/
theorem ev_eqI {i j : Int} (ha : Ev K T ta σ H zI i) (hb : Ev K T tb σ H zI j) : Ev K T (tOp rEq ta tb) σ H zB (decide (i = j)) :=
  ev_op ha hb fun x y H1 Q _ h1 h2 q => by cases h1; cases h2; exact ⟨rfl, q _ H1 (Ex.refl H1) (show V.bl (decide (V.int i = V.int j)) = .bl (decide (i = j)) by simp)⟩
theorem ev_neI {i j : Int} (ha : Ev K T ta σ H zI i) (hb : Ev K T tb σ H zI j) : Ev K T (tOp rNe ta tb) σ H zB (!decide (i = j)) :=
  ev_op ha hb fun x y H1 Q _ h1 h2 q => by cases h1; cases h2; exact ⟨rfl, q _ H1 (Ex.refl H1) (show V.bl (!decide (V.int i = V.int j)) = .bl (!decide (i = j)) by simp)⟩
theorem ev_eqS {i j : Str} (ha : Ev K T ta σ H zS i) (hb : Ev K T tb σ H zS j) : Ev K T (tOp rEq ta tb) σ H zB (decide (i = j)) :=
  ev_op ha hb fun x y H1 Q _ h1 h2 q => by cases h1; cases h2; exact ⟨rfl, q _ H1 (Ex.refl H1) (show V.bl (decide (V.str i = V.str j)) = .bl (decide (i = j)) by simp)⟩
theorem ev_eqW {i j : List Bool} (ha : Ev K T ta σ H zW i) (hb : Ev K T tb σ H zW j) : Ev K T (tOp rEq ta tb) σ H zB (decide (i = j)) :=
  ev_op ha hb fun x y H1 Q _ h1 h2 q => by obtain ⟨h1, _⟩ := h1; obtain ⟨h2, _⟩ := h2; cases h1; cases h2; exact ⟨rfl, q _ H1 (Ex.refl H1) (show V.bl (decide (V.str (wS i) = V.str (wS j))) = .bl (decide (i = j)) by rw [wS_eq])⟩
theorem ev_neW {i j : List Bool} (ha : Ev K T ta σ H zW i) (hb : Ev K T tb σ H zW j) : Ev K T (tOp rNe ta tb) σ H zB (!decide (i = j)) :=
  ev_op ha hb fun x y H1 Q _ h1 h2 q => by obtain ⟨h1, _⟩ := h1; obtain ⟨h2, _⟩ := h2; cases h1; cases h2; exact ⟨rfl, q _ H1 (Ex.refl H1) (show V.bl (!decide (V.str (wS i) = V.str (wS j))) = .bl (!decide (i = j)) by rw [wS_eq])⟩
/-- text + text -/
def rCatS : R2 := fun x y H Q => ∃ i j, x = .str i ∧ y = .str j ∧ i.length + j.length ≤ sizeLine ∧ Q (.str (i ++ j)) H
theorem op_addS {X : Cx} : OpR X (binaryOp .Add) rCatS := op_add_str
theorem ev_catW {i j : List Bool} (ha : Ev K T ta σ H zW i) (hb : Ev K T tb σ H zW j) (hl : i.length + j.length ≤ 100000) : Ev K T (tOp rCatS ta tb) σ H zW (i ++ j) :=
  ev_op ha hb fun x y H1 Q _ h1 h2 q => by
    obtain ⟨h1, _⟩ := h1; obtain ⟨h2, _⟩ := h2
    refine ⟨_, _, h1, h2, ?_, q _ H1 (Ex.refl H1) ⟨by rw [wS_app], by simpa using hl⟩⟩
    rw [wS_len, wS_len, sizeLine_eq]; omega
/-- tests -/
theorem et_test {b : Bool} (h : Ev K T te σ H zB b) : EvT T (tTest te) σ H b := fun H1 f _ q => h H1 f _ fun v H2 e2 r2 => ⟨b, r2, q H2 e2⟩
theorem et_B {b : Bool} (h : Ev K T te σ H zB b) : EvT T (tB te) σ H b := fun H1 f _ q => h H1 f _ fun v H2 e2 r2 => ⟨b, r2, q H2 e2⟩
theorem et_yes : EvT T tYes σ H true := fun H1 _ _ q => q H1 (Ex.refl H1)
theorem et_and {a b : Bool} (h1 : EvT T t σ H a) (h2 : a = true → EvT T u σ H b) : EvT T (tAnd t u) σ H (a && b) := fun H1 f Q q => h1 H1 f _ fun H2 e2 => by
  cases a with
  | true => exact h2 rfl H2 (f.trans e2.fr) Q fun H3 e3 => q H3 (e2.trans e3)
  | false => exact q H2 e2
theorem et_or {a b : Bool} (h1 : EvT T t σ H a) (h2 : a = false → EvT T u σ H b) : EvT T (tOr t u) σ H (a || b) := fun H1 f Q q => h1 H1 f _ fun H2 e2 => by
  cases a with
  | true => exact q H2 e2
  | false => exact h2 rfl H2 (f.trans e2.fr) Q fun H3 e3 => q H3 (e2.trans e3)
theorem et_not {a : Bool} (h1 : EvT T t σ H a) : EvT T (tNot t) σ H (!a) := fun H1 f _ q => h1 H1 f _ fun H2 e2 => q H2 e2
theorem ev_andV {a b : Bool} (h1 : Ev K T ta σ H zB a) (h2 : a = true → Ev K T tb σ H zB b) : Ev K T (tAndV ta tb) σ H zB (a && b) := fun H1 f Q q => h1 H1 f _ fun v H2 e2 r2 => ⟨a, r2, by
  cases a with
  | true => exact h2 rfl H2 (f.trans e2.fr) Q fun v H3 e3 r3 => q v H3 (e2.trans e3) r3
  | false => exact q _ H2 e2 rfl⟩
theorem ev_orV {a b : Bool} (h1 : Ev K T ta σ H zB a) (h2 : a = false → Ev K T tb σ H zB b) : Ev K T (tOrV ta tb) σ H zB (a || b) := fun H1 f Q q => h1 H1 f _ fun v H2 e2 r2 => ⟨a, r2, by
  cases a with
  | true => exact q _ H2 e2 rfl
  | false => exact h2 rfl H2 (f.trans e2.fr) Q fun v H3 e3 r3 => q v H3 (e2.trans e3) r3⟩
theorem ev_notV {a : Bool} (h1 : Ev K T ta σ H zB a) : Ev K T (tNotV ta) σ H zB (!a) := fun H1 f _ q => h1 H1 f _ fun v H2 e2 r2 => ⟨a, r2, q _ H2 e2 rfl⟩
theorem ev_if {b : Bool} {d : α} (h : EvT T t σ H b) (h1 : b = true → Ev K T ta σ H r d) (h2 : b = false → Ev K T tb σ H r d) : Ev K T (tIf t ta tb) σ H r d := fun H1 f Q q => h H1 f _ fun H2 e2 => by
  cases b with
  | true => exact h1 rfl H2 (f.trans e2.fr) Q fun v H3 e3 r3 => q v H3 (e2.trans e3) r3
  | false => exact h2 rfl H2 (f.trans e2.fr) Q fun v H3 e3 r3 => q v H3 (e2.trans e3) r3
theorem ev_ite {b : Bool} {d d' : α} (h : EvT T t σ H b) (h1 : b = true → Ev K T ta σ H r d) (h2 : b = false → Ev K T tb σ H r d') : Ev K T (tIf t ta tb) σ H r (if b = true then d else d') := by
  cases b with
  | true => exact ev_if h (fun _ => by simpa using h1 rfl) (fun z => by cases z)
  | false => exact ev_if h (fun z => by cases z) (fun _ => by simpa using h2 rfl)
/-- arguments -/
theorem ea_nil : EvA K T tNil σ H aN () := fun H1 _ _ q => q [] H1 (Ex.refl H1) rfl
theorem ea_cons [Mo r] {tr : TA} {ra : Rpl β} {a : α} {b : β} (h : Ev K T ta σ H r a) (hr : EvA K T tr σ H ra b) : EvA K T (tCons ta tr) σ H (aC r ra) (a, b) := fun H1 f _ q =>
  h H1 f _ fun x H2 e2 r2 => hr H2 (f.trans e2.fr) _ fun vs H3 e3 r3 => q _ H3 (e2.trans e3) ⟨x, vs, rfl, Mo.fr e3.fr r2, r3⟩
theorem eh_nil : EvA K T tNil σ H (aH r) [] := fun H1 _ _ q => q [] H1 (Ex.refl H1) .nil
theorem eh_cons [Mo r] {tr : TA} {a : α} {b : List α} (h : Ev K T ta σ H r a) (hr : EvA K T tr σ H (aH r) b) : EvA K T (tCons ta tr) σ H (aH r) (a :: b) := fun H1 f _ q =>
  h H1 f _ fun x H2 e2 r2 => hr H2 (f.trans e2.fr) _ fun vs H3 e3 r3 => q _ H3 (e2.trans e3) (.cons (Mo.fr e3.fr r2) r3)
/-- displays -/
theorem ev_lst [Mo r] {tr : TA} {xs : List α} (hT : TD T H) (h : EvA K T tr σ H (aH r) xs) (hl : xs.length ≤ 1000) : Ev K T (tLst tr) σ H (zL r) xs := fun H1 f Q q => h H1 f _ fun vs H2 e2 r2 =>
  ⟨by rw [all2_len r2, sizeLine_eq]; omega, fun p hp => q _ _ (e2.trans (Ex.new hp)) ⟨p, vs, rfl, .new (((hT.fr f).ex e2).new hp) upd_same, all2_imp (fun _ _ z => Mo.fr (Ex.new hp).fr z) r2⟩⟩
theorem ev_tupU [Mo r] {tr : TA} {xs : List α} (hT : TD T H) (h : EvA K T tr σ H (aH r) xs) (hl : xs.length ≤ 1000) : Ev K T (tTup tr) σ H (zU r) xs := fun H1 f Q q => h H1 f _ fun vs H2 e2 r2 =>
  ⟨by rw [all2_len r2, sizeLine_eq]; omega, fun p hp => q _ _ (e2.trans (Ex.new hp)) ⟨p, vs, rfl, .new (((hT.fr f).ex e2).new hp) upd_same, all2_imp (fun _ _ z => Mo.fr (Ex.new hp).fr z) r2⟩⟩
theorem ev_tup2 [Mo r] [Mo s] {tr : TA} {a : α} {b : β} (hT : TD T H) (h : EvA K T tr σ H (aC r (aC s aN)) (a, b, ())) : Ev K T (tTup tr) σ H (zP r s) (a, b) := fun H1 f Q q => h H1 f _ fun vs H2 e2 r2 => by
  obtain ⟨x, _, rfl, r2, y, _, rfl, r3, rfl⟩ := r2
  exact ⟨by show 2 ≤ sizeLine; rw [sizeLine_eq]; omega, fun p hp => q _ _ (e2.trans (Ex.new hp)) ⟨p, x, y, rfl, .new (((hT.fr f).ex e2).new hp) upd_same, Mo.fr (Ex.new hp).fr r2, Mo.fr (Ex.new hp).fr r3⟩⟩
theorem ev_tup3 {s' : Rp γ} [Mo r] [Mo s] [Mo s'] {tr : TA} {a : α} {b : β} {c : γ} (hT : TD T H) (h : EvA K T tr σ H (aC r (aC s (aC s' aN))) (a, b, c, ())) : Ev K T (tTup tr) σ H (zP3 r s s') (a, b, c) := fun H1 f Q q => h H1 f _ fun vs H2 e2 r2 => by
  obtain ⟨x, _, rfl, r2, y, _, rfl, r3, z, _, rfl, r4, rfl⟩ := r2
  exact ⟨by show 3 ≤ sizeLine; rw [sizeLine_eq]; omega, fun p hp => q _ _ (e2.trans (Ex.new hp)) ⟨p, x, y, z, rfl, .new (((hT.fr f).ex e2).new hp) upd_same, Mo.fr (Ex.new hp).fr r2, Mo.fr (Ex.new hp).fr r3, Mo.fr (Ex.new hp).fr r4⟩⟩
/-- items -/
theorem atI_pos {x : α} {xs : List α} {i : Int} (h0 : 0 ≤ i) (h : xs[i.toNat]? = some x) : atI xs i = some x := by
  obtain ⟨n, rfl⟩ := Int.eq_ofNat_of_zero_le h0
  exact atI_nat h
theorem all2_at {F : V → α → Prop} {vs : List V} {xs : List α} (h : All2 F vs xs) {i : Int} {d : α} (e : atI xs i = some d) : ∃ v, atI vs i = some v ∧ F v d := by
  unfold atI at e ⊢
  rw [all2_len h]
  cases q : ixN xs.length i with
  | none => rw [q] at e; cases e
  | some j => rw [q] at e; exact all2_get h e
theorem ev_ixL [Mo r] {xs : List α} {i : Int} {d : α} (ha : Ev K T ta σ H (zL r) xs) (hb : Ev K T tb σ H zI i) (hi : atI xs i = some d) : Ev K T (tOp (rIxL K) ta tb) σ H r d :=
  ev_op ha hb fun x y H1 Q _ h1 h2 q => by
    obtain ⟨a, vs, rfl, hs, h⟩ := h1
    obtain ⟨v, hv, hr⟩ := all2_at h hi
    exact ⟨a, vs, i, v, rfl, h2, hs.sq, hv, q v H1 (Ex.refl H1) hr⟩
theorem ev_ixU [Mo r] {xs : List α} {i : Int} {d : α} (ha : Ev K T ta σ H (zU r) xs) (hb : Ev K T tb σ H zI i) (hi : atI xs i = some d) : Ev K T (tOp (rIxT K) ta tb) σ H r d :=
  ev_op ha hb fun x y H1 Q _ h1 h2 q => by
    obtain ⟨a, vs, rfl, hs, h⟩ := h1
    obtain ⟨v, hv, hr⟩ := all2_at h hi
    exact ⟨a, vs, i, v, rfl, h2, hs.sq, hv, q v H1 (Ex.refl H1) hr⟩
theorem ev_ixP0 [Mo r] [Mo s] {p : α × β} (ha : Ev K T ta σ H (zP r s) p) (hb : Ev K T tb σ H zI 0) : Ev K T (tOp (rIxT K) ta tb) σ H r p.1 :=
  ev_op ha hb fun x y H1 Q _ h1 h2 q => by
    obtain ⟨a, u, v, rfl, hs, h, h'⟩ := h1
    exact ⟨a, _, 0, u, rfl, h2, hs.sq, rfl, q u H1 (Ex.refl H1) h⟩
theorem ev_ixP1 [Mo r] [Mo s] {p : α × β} (ha : Ev K T ta σ H (zP r s) p) (hb : Ev K T tb σ H zI 1) : Ev K T (tOp (rIxT K) ta tb) σ H s p.2 :=
  ev_op ha hb fun x y H1 Q _ h1 h2 q => by
    obtain ⟨a, u, v, rfl, hs, h, h'⟩ := h1
    exact ⟨a, _, 1, v, rfl, h2, hs.sq, rfl, q v H1 (Ex.refl H1) h'⟩
theorem atI_map {f : α → β} {xs : List α} {i : Int} {d : α} (h : atI xs i = some d) : atI (xs.map f) i = some (f d) := by
  unfold atI at h ⊢
  rw [List.length_map]
  cases q : ixN xs.length i with
  | none => rw [q] at h; cases h
  | some j =>
    rw [q] at h
    have h' : xs[j]? = some d := h
    show (xs.map f)[j]? = some (f d)
    rw [List.getElem?_map, h']; rfl
theorem ev_ixW {w : List Bool} {i : Int} {d : Bool} (ha : Ev K T ta σ H zW w) (hb : Ev K T tb σ H zI i) (hi : atI w i = some d) : Ev K T (tOp rIxS ta tb) σ H zW [d] :=
  ev_op ha hb fun x y H1 Q _ h1 h2 q => by
    obtain ⟨h1, hl⟩ := h1
    refine ⟨wS w, i, sgn d, h1, h2, by rw [wS_len, sizeLine_eq]; omega, ?_, q _ H1 (Ex.refl H1) ⟨rfl, by simp⟩⟩
    exact atI_map (f := sgn) hi
/-- len -/
def rLenQ (K : PySem.W.Frag) : List V → Hp → VK → Prop := fun xs H Q => ∃ p ys, xs = [.ref p] ∧ (SqL K H p ys ∨ SqT K H p ys) ∧ Q (.int ys.length) H
theorem call_lenQ {X : Cx} : CallR X (.builtin "len") (rLenQ X.K) := call_len_seq
def rLenStr : List V → Hp → VK → Prop := fun xs H Q => ∃ z, xs = [.str z] ∧ z.length ≤ sizeLine ∧ Q (.int z.length) H
theorem call_lenS {X : Cx} : CallR X (.builtin "len") rLenStr := call_len_str
theorem ev_c1 {a : α} {c : γ} {s' : Rp γ} {R : List V → Hp → VK → Prop} (h : Ev K T ta σ H r a) (hr : ∀ x H1 (Q : VK), Fr T H H1 → r K T H1 x a → (∀ v H2, Ex H1 H2 → s' K T H2 v c → Q v H2) → R [x] H1 Q) : Ev K T (tCB R (tCons ta tNil)) σ H s' c :=
  fun H1 f Q q => h H1 f _ fun x H2 e2 r2 => hr x H2 Q (f.trans e2.fr) r2 fun v H3 e3 r3 => q v H3 (e2.trans e3) r3
theorem ev_c2 {a : α} {b : β} {c : γ} {s' : Rp γ} [Mo r] {R : List V → Hp → VK → Prop} (h : Ev K T ta σ H r a) (h' : Ev K T tb σ H s b) (hr : ∀ x y H1 (Q : VK), Fr T H H1 → r K T H1 x a → s K T H1 y b → (∀ v H2, Ex H1 H2 → s' K T H2 v c → Q v H2) → R [x, y] H1 Q) : Ev K T (tCB R (tCons ta (tCons tb tNil))) σ H s' c :=
  fun H1 f Q q => h H1 f _ fun x H2 e2 r2 => h' H2 (f.trans e2.fr) _ fun y H3 e3 r3 => hr x y H3 Q ((f.trans e2.fr).trans e3.fr) (Mo.fr e3.fr r2) r3 fun v H4 e4 r4 => q v H4 ((e2.trans e3).trans e4) r4
theorem ev_lenL {xs : List α} (h : Ev K T ta σ H (zL r) xs) : Ev K T (tCB (rLenQ K) (tCons ta tNil)) σ H zI (xs.length : Int) :=
  ev_c1 h fun x H1 Q _ ⟨a, vs, e, hs, h2⟩ q => ⟨a, vs, by rw [e], .inl hs.sq, q _ H1 (Ex.refl H1) (by rw [all2_len h2]; rfl)⟩
theorem ev_lenU {xs : List α} (h : Ev K T ta σ H (zU r) xs) : Ev K T (tCB (rLenQ K) (tCons ta tNil)) σ H zI (xs.length : Int) :=
  ev_c1 h fun x H1 Q _ ⟨a, vs, e, hs, h2⟩ q => ⟨a, vs, by rw [e], .inr hs.sq, q _ H1 (Ex.refl H1) (by rw [all2_len h2]; rfl)⟩
theorem ev_lenW {w : List Bool} (h : Ev K T ta σ H zW w) : Ev K T (tCB rLenStr (tCons ta tNil)) σ H zI (w.length : Int) :=
  ev_c1 h fun x H1 Q _ ⟨e, hl⟩ q => ⟨wS w, by rw [e], by rw [wS_len, sizeLine_eq]; omega, q _ H1 (Ex.refl H1) (by rw [wS_len]; rfl)⟩
/-- list(..), tuple(..) -/
def rListQ (K : PySem.W.Frag) : List V → Hp → VK → Prop := fun xs H Q => ∃ p ys, xs = [.ref p] ∧ (SqL K H p ys ∨ SqT K H p ys) ∧ ∀ l, H l = none → Q (.ref l) (upd H l (.lst ys))
theorem call_listQ {X : Cx} : CallR X (.type "list") (rListQ X.K) := call_list_of
def rTupleQ (K : PySem.W.Frag) : List V → Hp → VK → Prop := fun xs H Q => ∃ p ys, xs = [.ref p] ∧ ((SqL K H p ys ∧ ∀ l, H l = none → Q (.ref l) (upd H l (.tup ys))) ∨ (SqT K H p ys ∧ Q (.ref p) H))
theorem call_tupleQ {X : Cx} : CallR X (.type "tuple") (rTupleQ X.K) := call_tuple_of
theorem ev_listL [Mo r] {xs : List α} (hT : TD T H) (h : Ev K T ta σ H (zL r) xs) : Ev K T (tCB (rListQ K) (tCons ta tNil)) σ H (zL r) xs :=
  ev_c1 h fun x H1 Q f ⟨a, vs, e, hs, h2⟩ q => ⟨a, vs, by rw [e], .inl hs.sq, fun l hl => q _ _ (Ex.new hl) ⟨l, vs, rfl, .new ((hT.fr f).new hl) upd_same, all2_imp (fun _ _ z => Mo.fr (Ex.new hl).fr z) h2⟩⟩
theorem ev_listU [Mo r] {xs : List α} (hT : TD T H) (h : Ev K T ta σ H (zU r) xs) : Ev K T (tCB (rListQ K) (tCons ta tNil)) σ H (zL r) xs :=
  ev_c1 h fun x H1 Q f ⟨a, vs, e, hs, h2⟩ q => ⟨a, vs, by rw [e], .inr hs.sq, fun l hl => q _ _ (Ex.new hl) ⟨l, vs, rfl, .new ((hT.fr f).new hl) upd_same, all2_imp (fun _ _ z => Mo.fr (Ex.new hl).fr z) h2⟩⟩
theorem ev_tupL [Mo r] {xs : List α} (hT : TD T H) (h : Ev K T ta σ H (zL r) xs) : Ev K T (tCB (rTupleQ K) (tCons ta tNil)) σ H (zU r) xs :=
  ev_c1 h fun x H1 Q f ⟨a, vs, e, hs, h2⟩ q => ⟨a, vs, by rw [e], .inl ⟨hs.sq, fun l hl => q _ _ (Ex.new hl) ⟨l, vs, rfl, .new ((hT.fr f).new hl) upd_same, all2_imp (fun _ _ z => Mo.fr (Ex.new hl).fr z) h2⟩⟩⟩
theorem ev_tupUU [Mo r] {xs : List α} (h : Ev K T ta σ H (zU r) xs) : Ev K T (tCB (rTupleQ K) (tCons ta tNil)) σ H (zU r) xs :=
  ev_c1 h fun x H1 Q f ⟨a, vs, e, hs, h2⟩ q => ⟨a, vs, by rw [e], .inr ⟨hs.sq, q _ H1 (Ex.refl H1) ⟨a, vs, rfl, hs, h2⟩⟩⟩
/-- max, min of two -/
def rMax2 : List V → Hp → VK → Prop := fun xs H Q => ∃ i j, xs = [.int i, .int j] ∧ Q (.int (if j > i then j else i)) H
def rMin2 : List V → Hp → VK → Prop := fun xs H Q => ∃ i j, xs = [.int i, .int j] ∧ Q (.int (if j < i then j else i)) H
/-- max, min, sum, all, any of a list -/
theorem ev_sum {xs : List Int} (h : Ev K T ta σ H (zL zI) xs) : Ev K T (tCB (rSum K) (tCons ta tNil)) σ H zI xs.sum :=
  ev_c1 h fun x H1 Q _ ⟨a, vs, e, hs, h2⟩ q => ⟨a, xs, by rw [e], by rw [← all2_int h2]; exact hs.sq, q _ H1 (Ex.refl H1) rfl⟩
def mxL (xs : List Int) : Int := xs.foldl (fun a b => if a < b then b else a) (xs.headD 0)
def mnL (xs : List Int) : Int := xs.foldl (fun a b => if b < a then b else a) (xs.headD 0)
theorem foldmax_ge : ∀ (xs : List Int) (a : Int), a ≤ xs.foldl (fun a b => if a < b then b else a) a ∧ (∀ y ∈ xs, y ≤ xs.foldl (fun a b => if a < b then b else a) a) ∧ (xs.foldl (fun a b => if a < b then b else a) a = a ∨ xs.foldl (fun a b => if a < b then b else a) a ∈ xs)
  | [], a => by simp
  | x :: xs, a => by
    obtain ⟨h1, h2, h3⟩ := foldmax_ge xs (if a < x then x else a)
    simp only [List.foldl_cons]
    have ha : a ≤ (if a < x then x else a) ∧ x ≤ (if a < x then x else a) := by split <;> omega
    refine ⟨Int.le_trans ha.1 h1, fun y hy => ?_, ?_⟩
    · rcases List.mem_cons.mp hy with rfl | hy
      · exact Int.le_trans ha.2 h1
      · exact h2 y hy
    · rcases h3 with h3 | h3
      · rw [h3]; split
        · exact .inr List.mem_cons_self
        · exact .inl rfl
      · exact .inr (List.mem_cons_of_mem _ h3)
theorem foldmin_le : ∀ (xs : List Int) (a : Int), xs.foldl (fun a b => if b < a then b else a) a ≤ a ∧ (∀ y ∈ xs, xs.foldl (fun a b => if b < a then b else a) a ≤ y) ∧ (xs.foldl (fun a b => if b < a then b else a) a = a ∨ xs.foldl (fun a b => if b < a then b else a) a ∈ xs)
  | [], a => by simp
  | x :: xs, a => by
    obtain ⟨h1, h2, h3⟩ := foldmin_le xs (if x < a then x else a)
    simp only [List.foldl_cons]
    have ha : (if x < a then x else a) ≤ a ∧ (if x < a then x else a) ≤ x := by split <;> omega
    refine ⟨Int.le_trans h1 ha.1, fun y hy => ?_, ?_⟩
    · rcases List.mem_cons.mp hy with rfl | hy
      · exact Int.le_trans h1 ha.2
      · exact h2 y hy
    · rcases h3 with h3 | h3
      · rw [h3]; split
        · exact .inr List.mem_cons_self
        · exact .inl rfl
      · exact .inr (List.mem_cons_of_mem _ h3)
theorem mxL_spec {xs : List Int} (h : xs ≠ []) : mxL xs ∈ xs ∧ ∀ y ∈ xs, y ≤ mxL xs := by
  cases xs with
  | nil => exact absurd rfl h
  | cons x xs =>
    unfold mxL
    obtain ⟨h1, h2, h3⟩ := foldmax_ge (x :: xs) x
    refine ⟨?_, h2⟩
    rcases h3 with h3 | h3
    · show List.foldl _ x (x :: xs) ∈ _
      rw [h3]; exact List.mem_cons_self
    · exact h3
theorem mnL_spec {xs : List Int} (h : xs ≠ []) : mnL xs ∈ xs ∧ ∀ y ∈ xs, mnL xs ≤ y := by
  cases xs with
  | nil => exact absurd rfl h
  | cons x xs =>
    unfold mnL
    obtain ⟨h1, h2, h3⟩ := foldmin_le (x :: xs) x
    refine ⟨?_, h2⟩
    rcases h3 with h3 | h3
    · show List.foldl _ x (x :: xs) ∈ _
      rw [h3]; exact List.mem_cons_self
    · exact h3
theorem ev_max {xs : List Int} (h : Ev K T ta σ H (zL zI) xs) (hn : xs ≠ []) : Ev K T (tCB (rMax K) (tCons ta tNil)) σ H zI (mxL xs) :=
  ev_c1 h fun x H1 Q _ ⟨a, vs, e, hs, h2⟩ q => ⟨a, xs, by rw [e], by rw [← all2_int h2]; exact hs.sq, List.length_pos_iff.mpr hn, fun m hm hy => q _ H1 (Ex.refl H1) (by
    obtain ⟨h3, h4⟩ := mxL_spec hn
    have e1 := hy _ h3
    have e2 := h4 _ hm
    show V.int m = V.int (mxL xs)
    rw [show m = mxL xs by omega])⟩
theorem ev_min {xs : List Int} (h : Ev K T ta σ H (zL zI) xs) (hn : xs ≠ []) : Ev K T (tCB (rMin K) (tCons ta tNil)) σ H zI (mnL xs) :=
  ev_c1 h fun x H1 Q _ ⟨a, vs, e, hs, h2⟩ q => ⟨a, xs, by rw [e], by rw [← all2_int h2]; exact hs.sq, List.length_pos_iff.mpr hn, fun m hm hy => q _ H1 (Ex.refl H1) (by
    obtain ⟨h3, h4⟩ := mnL_spec hn
    have e1 := hy _ h3
    have e2 := h4 _ hm
    show V.int m = V.int (mnL xs)
    rw [show m = mnL xs by omega])⟩
/-- slices -/
theorem eo_none : EvO T tNoPart σ H none := fun H1 _ _ q => q H1 (Ex.refl H1)
theorem eo_some {i : Int} (h : Ev K T te σ H zI i) : EvO T (tPart te) σ H (some i) := fun H1 f _ q => h H1 f _ fun v H2 e2 r2 => ⟨i, r2, q H2 e2⟩
/-- a slice by its bounds as lists have it -/
def cutA (xs : List α) (lo hi : Option Int) : List α := (xs.drop (HT.sIx xs.length 0 lo)).take (HT.sIx xs.length xs.length hi - HT.sIx xs.length 0 lo)
theorem ev_slL [Mo r] {xs : List α} {tl th : TO} {lo hi : Option Int} (hT : TD T H) (h : Ev K T te σ H (zL r) xs) (h1 : EvO T tl σ H lo) (h2 : EvO T th σ H hi) : Ev K T (tSl (rSlL K) te tl th) σ H (zL r) (cutA xs lo hi) := fun H1 f Q q =>
  h H1 f _ fun v H2 e2 r2 => h1 H2 (f.trans e2.fr) _ fun H3 e3 => h2 H3 ((f.trans e2.fr).trans e3.fr) _ fun H4 e4 => by
    obtain ⟨a, vs, rfl, hs, hh⟩ := r2
    have e24 := e3.trans e4
    refine ⟨a, vs, rfl, (hs.fr e24.fr).sq, fun p hp => q _ _ ((e2.trans e24).trans (Ex.new hp)) ⟨p, _, rfl, .new (((hT.fr f).ex (e2.trans e24)).new hp) upd_same, ?_⟩⟩
    have hh' : All2 (r K T (upd H4 p (.lst (cutV vs lo hi)))) vs xs := all2_imp (fun _ _ z => Mo.fr (e24.trans (Ex.new hp)).fr z) hh
    unfold cutA
    rw [← all2_len hh']
    exact all2_take _ (all2_drop _ hh')
/-- calls -/
def PSp (K : PySem.W.Frag) {α β : Type} (ra : Rpl α) (pre : α → Prop) (r : Rp β) (f : α → β) : Sp := fun vs H Q _ => ∃ (T : AS) (a : α), TD T H ∧ ra K T H vs a ∧ pre a ∧ ∀ v H', Ex H H' → r K T H' v (f a) → Q v H'
theorem ev_call {ra : Rpl β} {pre : β → Prop} {f : β → α} {b : β} {tr : TA} {E : XK} (hT : TD T H) (h : EvA K T tr σ H ra b) (hp : pre b) : Ev K T (tCall (PSp K ra pre r f) [] E tr) σ H r (f b) := fun H1 g Q q =>
  h H1 g _ fun vs H2 e2 r2 => by
    show PSp K ra pre r f (vs ++ []) H2 Q E
    rw [List.append_nil]
    exact ⟨T, b, (hT.fr g).ex e2, r2, hp, fun v H3 e3 r3 => q v H3 (e2.trans e3) r3⟩
end
/-! ### statements -/
section
variable {K : PySem.W.Frag} {T : AS} {σ : L2.St} {H : Hp} {α β γ : Type} {r : Rp α} {te : TE} {c : TT} {t u : TS} {D : Ends} {i : Nat} {d : α} {b : Bool}
theorem st_asg (h : Ev K T te σ H r d) (k : ∀ v H2, Ex H H2 → r K T H2 v d → D.nx (σ.set i (some v)) H2) : tAsg te (gName i) D σ H := h H (Fr.refl H) _ k
theorem st_ret (h : Ev K T te σ H r d) (k : ∀ v H2, Ex H H2 → r K T H2 v d → D.rt v H2) : tRet te D σ H := h H (Fr.refl H) _ k
theorem st_drop (h : Ev K T te σ H r d) (k : ∀ H2, Ex H H2 → D.nx σ H2) : tDrop te D σ H := h H (Fr.refl H) _ fun _ H2 e _ => k H2 e
theorem st_if (h : EvT T c σ H b) (k1 : b = true → ∀ H2, Ex H H2 → t D σ H2) (k2 : b = false → ∀ H2, Ex H H2 → u D σ H2) : tIfS c t u D σ H := h H (Fr.refl H) _ fun H2 e => by
  cases b with
  | true => exact k1 rfl H2 e
  | false => exact k2 rfl H2 e
end
end EB

set_option Elab.async false
set_option linter.all false
set_option maxRecDepth 100000
set_option maxHeartbeats 4000000
/-! EB: what is walked; comprehensions. -/
namespace EB
open PySem PySem.Spec PyProof.Rows L2

/-! ### a list, a tuple that is walked, with its size -/
def iListB (K : PySem.W.Frag) (tl : TE) : TI := fun σ H R => tl σ H fun x H1 => ∃ a xs, x = .ref a ∧ SqL K H1 a xs ∧ (xs.length ≤ sizeLine → R (Itl K a) H1)
def iTupB (K : PySem.W.Frag) (tl : TE) : TI := fun σ H R => tl σ H fun x H1 => ∃ a xs, x = .ref a ∧ SqT K H1 a xs ∧ (xs.length ≤ sizeLine → R (Itt K a) H1)
section
variable {X : Cx} {tg : Expr}
theorem pi_listB {l : Expr} {tl : TE} (hl : PE X l tl) : PI X tg l (iListB X.K tl) := by
  refine ⟨fun pins s σ H R I h => ?_⟩
  refine thn (hl.run pins s σ H _ I h) fun v s1 ⟨x, H1, I1, r1, q1⟩ => ?_
  obtain ⟨a, xs, e, hq, q⟩ := q1
  subst e
  cases r1
  obtain ⟨its, rv, p, hz⟩ := I1.list hq
  refine wpAny_pyIter_list p.isList ?_
  refine ⟨s1.heap.objs.size, [s1.heap.objs.size], _, _, H1, rfl, I1.kept (t' := s1.toks) fun b o e => Heap.get?_push_of_some _ e, turn_list a _, ⟨_, Heap.get?_push_size _ rfl, rfl, rfl⟩, fun b hb => ?_, q hz⟩
  have e : b = s1.heap.objs.size := by simpa using hb
  subst e
  exact I1.fpOk (Nat.le_refl _) (I1.hok.fresh (Nat.le_refl _))
theorem pi_tupB {l : Expr} {tl : TE} (hl : PE X l tl) : PI X tg l (iTupB X.K tl) := by
  refine ⟨fun pins s σ H R I h => ?_⟩
  refine thn (hl.run pins s σ H _ I h) fun v s1 ⟨x, H1, I1, r1, q1⟩ => ?_
  obtain ⟨a, xs, e, hq, q⟩ := q1
  subst e
  cases r1
  obtain ⟨its, rv, p, hz⟩ := I1.tuple hq
  refine wpAny_pyIter_tuple (show s1.heap.IsTuple a its.toArray from p) ?_
  refine ⟨s1.heap.objs.size, [s1.heap.objs.size], _, _, H1, rfl, I1.kept (t' := s1.toks) fun b o e => Heap.get?_push_of_some _ e, turn_tuple a _, ⟨_, Heap.get?_push_size _ rfl, rfl, rfl⟩, fun b hb => ?_, q hz⟩
  have e : b = s1.heap.objs.size := by simpa using hb
  subst e
  exact I1.fpOk (Nat.le_refl _) (I1.hok.fresh (Nat.le_refl _))
end

/-! ### typed walks -/
/-- J walks the items xs, read by r, as long as all of H2 stands; an item's object may be new -/
structure Wk (K : PySem.W.Frag) (T : AS) (H2 : Hp) {α : Type} (r : Rp α) (xs : List α) (J : It) : Prop where
  ex : ∃ (n : Nat) (G : Hp → Prop) (Y : Nat → Hp → V → Hp → Prop), n = xs.length ∧ Walk J n G Y ∧ (∀ H', Fr T H2 H' → G H') ∧
    ∀ i H' v H'', i < n → Fr T H2 H' → Y i H' v H'' → Ex H' H'' ∧ ∃ x, xs[i]? = some x ∧ ∀ T', TD T' H' → Tr K T H2 T' H' → r K T' H'' v x
  size : xs.length ≤ sizeLine
/-- an iterable evaluates to a walk -/
def EvI (K : PySem.W.Frag) (T : AS) {α : Type} (wi : TI) (σ : L2.St) (H : Hp) (r : Rp α) (xs : List α) : Prop :=
  ∀ H1, Fr T H H1 → ∀ R : It → Hp → Prop, (∀ J H2, Ex H1 H2 → Wk K T H2 r xs J → R J H2) → wi σ H1 R
section
variable {K : PySem.W.Frag} {T : AS} {σ : L2.St} {H : Hp} {α β γ : Type} {r : Rp α} {s : Rp β} {ta tb te tl : TE} {t u : TT}
theorem ei_list [Mo r] {xs : List α} (h : Ev K T tl σ H (zL r) xs) : EvI K T (iListB K tl) σ H r xs := fun H1 f R q => h H1 f _ fun v H2 e2 r2 => by
  obtain ⟨a, vs, rfl, hs, hv⟩ := r2
  have hl := all2_len hv
  refine ⟨a, vs, rfl, hs.sq, fun hz => q _ H2 e2 ⟨⟨_, _, _, hl, walk_list (xs := vs), fun H' e => (hs.fr e).sq, fun i H' v H'' hi e y => ?_⟩, hl ▸ hz⟩⟩
  obtain ⟨rfl, y⟩ := y
  obtain ⟨x, hx, hr⟩ := all2_getL hv y
  exact ⟨Ex.refl _, x, hx, fun T' _ tr => tr.ap hr⟩
theorem ei_tup [Mo r] {xs : List α} (h : Ev K T tl σ H (zU r) xs) : EvI K T (iTupB K tl) σ H r xs := fun H1 f R q => h H1 f _ fun v H2 e2 r2 => by
  obtain ⟨a, vs, rfl, hs, hv⟩ := r2
  have hl := all2_len hv
  refine ⟨a, vs, rfl, hs.sq, fun hz => q _ H2 e2 ⟨⟨_, _, _, hl, walk_tup (xs := vs), fun H' e => (hs.fr e).sq, fun i H' v H'' hi e y => ?_⟩, hl ▸ hz⟩⟩
  obtain ⟨rfl, y⟩ := y
  obtain ⟨x, hx, hr⟩ := all2_getL hv y
  exact ⟨Ex.refl _, x, hx, fun T' _ tr => tr.ap hr⟩
/-- the numbers lo, lo + 1, .. -/
def rng (lo : Int) (n : Nat) : List Int := (List.range n).map fun (i : Nat) => lo + (i : Int)
theorem rng_len {lo : Int} {n : Nat} : (rng lo n).length = n := by simp [rng]
theorem rng_get {lo : Int} {n i : Nat} (h : i < n) : (rng lo n)[i]? = some (lo + (i : Int)) := by
  unfold rng
  rw [List.getElem?_map, List.getElem?_range h]; rfl
theorem wk_range {H2 : Hp} {lo : Int} {n : Nat} (hn : n ≤ 1000000) : Wk K T H2 zI (rng lo n) (Itr lo n) :=
  ⟨⟨n, _, _, rng_len.symm, walk_range, fun _ _ => trivial, fun i H' v H'' hi _ y => by
    obtain ⟨rfl, rfl⟩ := y
    exact ⟨Ex.refl _, _, rng_get hi, fun _ _ _ => rfl⟩⟩, by rw [rng_len, sizeLine_eq]; omega⟩
theorem ei_range {tl : TA} {j : Int} (h : EvA K T tl σ H (aC zI aN) (j, ())) (hn : j ≤ 1000000) (h0 : -1000000 ≤ j) : EvI K T (iRng1 tl) σ H zI (rng 0 j.toNat) := fun H1 f R q => h H1 f _ fun v H2 e2 r2 => by
  obtain ⟨x, _, rfl, r2, rfl⟩ := r2
  exact ⟨j, by rw [show x = .int j from r2], by omega, by omega, q _ H2 e2 (wk_range (by omega))⟩
theorem ei_range2 {tl : TA} {i j : Int} (h : EvA K T tl σ H (aC zI (aC zI aN)) (i, j, ())) (hn : j ≤ 1000000) (h0 : -1000000 ≤ j) (hi : i ≤ 1000000) (hi0 : 0 ≤ i) : EvI K T (iRng2 tl) σ H zI (rng i (j - i).toNat) := fun H1 f R q => h H1 f _ fun v H2 e2 r2 => by
  obtain ⟨x, _, rfl, r2, y, _, rfl, r3, rfl⟩ := r2
  exact ⟨i, j, by rw [show x = .int i from r2, show y = .int j from r3], by omega, q _ H2 e2 (wk_range (by omega))⟩
/-- a word, sign by sign -/
theorem ei_word {w : List Bool} (h : Ev K T te σ H zW w) : EvI K T (iStr te) σ H zW (w.map fun b => [b]) := fun H1 f R q => h H1 f _ fun v H2 e2 r2 => by
  obtain ⟨r2, hl⟩ := r2
  have ez : (wS w).cps.size = w.length := by simp [wS]
  refine ⟨_, r2, q _ H2 e2 ⟨⟨_, _, _, by rw [List.length_map]; exact ez, walk_str, fun _ _ => trivial, fun i H' v H'' hi _ y => ?_⟩, by rw [List.length_map, sizeLine_eq]; omega⟩⟩
  · obtain ⟨rfl, c, hc, rfl⟩ := y
    rw [ez] at hi
    refine ⟨Ex.refl _, [w[i]], by rw [List.getElem?_map, List.getElem?_eq_getElem hi]; rfl, fun _ _ _ => ⟨?_, by simp⟩⟩
    have : (wS w).cps[i]? = some (sgn w[i]) := by simp [wS, List.getElem?_eq_getElem hi]
    rw [this] at hc
    cases hc
    rfl

/-! ### comprehensions -/
theorem wipe1 {i : Nat} {v : Option V} : wipe ((wipe σ [i]).set i v) [i] = wipe σ [i] := by
  simp [wipe]
theorem take_succ_filter {xs : List α} {p : α → Bool} {f : α → β} {i : Nat} {x : α} (h : xs[i]? = some x) : ((xs.take (i + 1)).filter p).map f = ((xs.take i).filter p).map f ++ (if p x = true then [f x] else []) := by
  rw [List.take_add_one, h]
  simp only [Option.toList_some, List.filter_append, List.map_append]
  congr 1
  by_cases hp : p x = true
  · simp [hp]
  · simp [hp]
theorem ev_lc [Mo r] [Mo s] {wi : TI} {g : TG} {tt : TT} {vs : List Nat} {xs : List α} {p : α → Bool} {f : α → β} (hT : TD T H) (h : EvI K T wi σ H r xs)
    (hs : ∀ (T' : AS) (H' : Hp) (v : V) (x : α), Tr K T H T' H' → TD T' H' → x ∈ xs → r K T' H' v x → ∀ Q : L2.St → Hp → Prop, (∀ σ2, wipe σ2 vs = wipe σ vs → EvT T' tt σ2 H' (p x) → (p x = true → Ev K T' te σ2 H' s (f x)) → Q σ2 H') → g v (wipe σ vs) H' Q) :
    Ev K T (tLc wi g tt te vs) σ H (zL s) ((xs.filter p).map f) := fun H1 fr Q q => h H1 fr _ fun J H2 e2 w => by
  intro D hD
  obtain ⟨⟨n, G, Y, hn, wk, hG, hY⟩, hz⟩ := w
  have hT2 : TD T H2 := (hT.fr fr).ex e2
  have nD : ¬ T D := hT2.new hD
  refine lc_it wk (fun i H' => Ex H2 H' ∧ ∃ acc, H' D = some (.lst acc) ∧ All2 (s K (Tp T D) H') acc (((xs.take i).filter p).map f)) ⟨Ex.new hD, [], upd_same, by simp; exact .nil⟩ (fun i H' _ ⟨e, _⟩ => hG H' e.fr) ?_ ?_
  · intro i v H' H'' hi ⟨e, acc, hacc, hall⟩ y
    obtain ⟨eY, x, hx, hr⟩ := hY i H' v H'' hi e.fr y
    have tr2 : Tr K T H2 (Tp T D) H' := (Tr.lift hD).trans (Tr.ex e)
    have hTD : TD (Tp T D) H' := (hT2.ex e).tp hacc
    have tr : Tr K T H (Tp T D) H'' := ((Tr.fr (fr.trans e2.fr)).trans tr2).trans (Tr.ex eY)
    refine hs (Tp T D) H'' v x tr (hTD.ex eY) (List.mem_of_getElem? hx) (hr _ hTD tr2) _ fun σ2 hw ht he => ⟨hw, ?_⟩
    refine ht H'' (Fr.refl _) _ fun H3 e3 => ?_
    have hlen : acc.length ≤ i := by
      rw [all2_len hall, List.length_map]
      exact Nat.le_trans (List.length_filter_le _ _) (by rw [List.length_take]; omega)
    cases hp : p x with
    | false =>
      simp only [Bool.false_eq_true, if_false]
      refine ⟨(e.trans eY).trans e3, acc, e3 _ _ (eY _ _ hacc), ?_⟩
      rw [take_succ_filter hx, hp]
      simp only [Bool.false_eq_true, if_false, List.append_nil]
      exact all2_imp (fun _ _ z => Mo.fr (eY.trans e3).fr z) hall
    | true =>
      simp only [if_true]
      refine he hp H3 e3.fr _ fun yv H4 e4 r4 => ⟨acc, e4 _ _ (e3 _ _ (eY _ _ hacc)), by omega, ?_⟩
      have fD : Fr (Tp T D) H4 (upd H4 D (.lst (acc ++ [yv]))) := Fr.upd (.inl (.inr rfl))
      refine ⟨fun b o hb => ?_, acc ++ [yv], upd_same, ?_⟩
      · rw [upd_ne (ne_of_none hb hD)]
        exact e4 _ _ (e3 _ _ (eY _ _ (e b o hb)))
      · rw [take_succ_filter hx, hp]
        simp only [if_true]
        refine all2_app (all2_imp (fun _ _ z => Mo.fr fD (Mo.fr ((eY.trans e3).trans e4).fr z)) hall) (.cons (Mo.fr fD r4) .nil)
  · rintro H' ⟨e, acc, hacc, hall⟩
    rw [hn, List.take_length] at hall
    exact q _ H' (e2.trans e) ⟨D, acc, rfl, .new nD hacc, all2_imp (fun _ _ z => Mo.sub (fun b hb => .inl hb) z) hall⟩
/-- no test -/
theorem ev_lc1 [Mo r] [Mo s] {wi : TI} {g : TG} {vs : List Nat} {xs : List α} {f : α → β} (hT : TD T H) (h : EvI K T wi σ H r xs)
    (hs : ∀ (T' : AS) (H' : Hp) (v : V) (x : α), Tr K T H T' H' → TD T' H' → x ∈ xs → r K T' H' v x → ∀ Q : L2.St → Hp → Prop, (∀ σ2, wipe σ2 vs = wipe σ vs → Ev K T' te σ2 H' s (f x) → Q σ2 H') → g v (wipe σ vs) H' Q) :
    Ev K T (tLc wi g tYes te vs) σ H (zL s) (xs.map f) := by
  have h1 := ev_lc (K := K) (te := te) (g := g) (tt := tYes) (vs := vs) (s := s) (p := fun _ => true) (f := f) hT h fun T' H' v x tr hT' hx hr Q q => hs T' H' v x tr hT' hx hr Q fun σ2 hw he => q σ2 hw et_yes fun _ => he
  rw [show xs.filter (fun _ => true) = xs from List.filter_eq_self.mpr (fun _ _ => rfl)] at h1
  exact h1
/-- all, any of a list of answers -/
theorem ev_all {xs : List Bool} (h : Ev K T ta σ H (zL zB) xs) : Ev K T (tCB (rAll K) (tCons ta tNil)) σ H zB (xs.all id) :=
  ev_c1 h fun x H1 Q _ ⟨a, vs, e, hs, h2⟩ q => ⟨a, xs, by rw [e], by rw [← all2_bl h2]; exact hs.sq, q _ H1 (Ex.refl H1) rfl⟩
theorem ev_any {xs : List Bool} (h : Ev K T ta σ H (zL zB) xs) : Ev K T (tCB (rAny K) (tCons ta tNil)) σ H zB (xs.any id) :=
  ev_c1 h fun x H1 Q _ ⟨a, vs, e, hs, h2⟩ q => ⟨a, xs, by rw [e], by rw [← all2_bl h2]; exact hs.sq, q _ H1 (Ex.refl H1) rfl⟩
/-! ### a list or a tuple -/
def zQ {α : Type} (r : Rp α) : Rp (List α) := fun K T H v xs => zL r K T H v xs ∨ zU r K T H v xs
instance [Mo r] : Mo (zQ r) := ⟨fun w h => h.elim (fun z => .inl (Mo.wd w z)) (fun z => .inr (Mo.wd w z))⟩
theorem ev_QL {xs : List α} (h : Ev K T te σ H (zL r) xs) : Ev K T te σ H (zQ r) xs := fun H1 f Q q => h H1 f Q fun v H2 e r2 => q v H2 e (.inl r2)
theorem ev_QU {xs : List α} (h : Ev K T te σ H (zU r) xs) : Ev K T te σ H (zQ r) xs := fun H1 f Q q => h H1 f Q fun v H2 e r2 => q v H2 e (.inr r2)
def iSeqB (K : PySem.W.Frag) (tl : TE) : TI := fun σ H R => tl σ H fun x H1 => ∃ a xs, x = .ref a ∧ ((SqL K H1 a xs ∧ (xs.length ≤ sizeLine → R (Itl K a) H1)) ∨ (SqT K H1 a xs ∧ (xs.length ≤ sizeLine → R (Itt K a) H1)))
theorem pi_seqB {X : Cx} {tg l : Expr} {tl : TE} (hl : PE X l tl) : PI X tg l (iSeqB X.K tl) := by
  refine ⟨fun pins s σ H R I h => ?_⟩
  refine thn (hl.run pins s σ H _ I h) fun v s1 ⟨x, H1, I1, r1, q1⟩ => ?_
  obtain ⟨a, xs, e, hq⟩ := q1
  subst e
  cases r1
  rcases hq with ⟨hq, q⟩ | ⟨hq, q⟩
  · obtain ⟨its, rv, p, hz⟩ := I1.list hq
    refine wpAny_pyIter_list p.isList ?_
    refine ⟨s1.heap.objs.size, [s1.heap.objs.size], _, _, H1, rfl, I1.kept (t' := s1.toks) fun b o e => Heap.get?_push_of_some _ e, turn_list a _, ⟨_, Heap.get?_push_size _ rfl, rfl, rfl⟩, fun b hb => ?_, q hz⟩
    have e : b = s1.heap.objs.size := by simpa using hb
    subst e
    exact I1.fpOk (Nat.le_refl _) (I1.hok.fresh (Nat.le_refl _))
  · obtain ⟨its, rv, p, hz⟩ := I1.tuple hq
    refine wpAny_pyIter_tuple (show s1.heap.IsTuple a its.toArray from p) ?_
    refine ⟨s1.heap.objs.size, [s1.heap.objs.size], _, _, H1, rfl, I1.kept (t' := s1.toks) fun b o e => Heap.get?_push_of_some _ e, turn_tuple a _, ⟨_, Heap.get?_push_size _ rfl, rfl, rfl⟩, fun b hb => ?_, q hz⟩
    have e : b = s1.heap.objs.size := by simpa using hb
    subst e
    exact I1.fpOk (Nat.le_refl _) (I1.hok.fresh (Nat.le_refl _))
theorem ei_seq [Mo r] {xs : List α} (h : Ev K T tl σ H (zQ r) xs) : EvI K T (iSeqB K tl) σ H r xs := fun H1 f R q => h H1 f _ fun v H2 e2 r2 => by
  rcases r2 with ⟨a, vs, rfl, hs, hv⟩ | ⟨a, vs, rfl, hs, hv⟩
  · have hl := all2_len hv
    refine ⟨a, vs, rfl, .inl ⟨hs.sq, fun hz => q _ H2 e2 ⟨⟨_, _, _, hl, walk_list (xs := vs), fun H' e => (hs.fr e).sq, fun i H' v H'' hi e y => ?_⟩, hl ▸ hz⟩⟩⟩
    obtain ⟨rfl, y⟩ := y
    obtain ⟨x, hx, hr⟩ := all2_getL hv y
    exact ⟨Ex.refl _, x, hx, fun T' _ tr => tr.ap hr⟩
  · have hl := all2_len hv
    refine ⟨a, vs, rfl, .inr ⟨hs.sq, fun hz => q _ H2 e2 ⟨⟨_, _, _, hl, walk_tup (xs := vs), fun H' e => (hs.fr e).sq, fun i H' v H'' hi e y => ?_⟩, hl ▸ hz⟩⟩⟩
    obtain ⟨rfl, y⟩ := y
    obtain ⟨x, hx, hr⟩ := all2_getL hv y
    exact ⟨Ex.refl _, x, hx, fun T' _ tr => tr.ap hr⟩
theorem ev_lenQ {xs : List α} (h : Ev K T ta σ H (zQ r) xs) : Ev K T (tCB (rLenQ K) (tCons ta tNil)) σ H zI (xs.length : Int) :=
  ev_c1 h fun x H1 Q _ h2 q => by
    rcases h2 with ⟨a, vs, e, hs, h2⟩ | ⟨a, vs, e, hs, h2⟩
    · exact ⟨a, vs, by rw [e], .inl hs.sq, q _ H1 (Ex.refl H1) (by rw [all2_len h2]; rfl)⟩
    · exact ⟨a, vs, by rw [e], .inr hs.sq, q _ H1 (Ex.refl H1) (by rw [all2_len h2]; rfl)⟩
theorem ev_tupQ [Mo r] {xs : List α} (hT : TD T H) (h : Ev K T ta σ H (zQ r) xs) : Ev K T (tCB (rTupleQ K) (tCons ta tNil)) σ H (zU r) xs :=
  ev_c1 h fun x H1 Q f h2 q => by
    rcases h2 with ⟨a, vs, e, hs, h2⟩ | ⟨a, vs, e, hs, h2⟩
    · exact ⟨a, vs, by rw [e], .inl ⟨hs.sq, fun l hl => q _ _ (Ex.new hl) ⟨l, vs, rfl, .new ((hT.fr f).new hl) upd_same, all2_imp (fun _ _ z => Mo.fr (Ex.new hl).fr z) h2⟩⟩⟩
    · exact ⟨a, vs, by rw [e], .inr ⟨hs.sq, q _ H1 (Ex.refl H1) ⟨a, vs, rfl, hs, h2⟩⟩⟩
theorem ev_listQ [Mo r] {xs : List α} (hT : TD T H) (h : Ev K T ta σ H (zQ r) xs) : Ev K T (tCB (rListQ K) (tCons ta tNil)) σ H (zL r) xs :=
  ev_c1 h fun x H1 Q f h2 q => by
    rcases h2 with ⟨a, vs, e, hs, h2⟩ | ⟨a, vs, e, hs, h2⟩
    · exact ⟨a, vs, by rw [e], .inl hs.sq, fun l hl => q _ _ (Ex.new hl) ⟨l, vs, rfl, .new ((hT.fr f).new hl) upd_same, all2_imp (fun _ _ z => Mo.fr (Ex.new hl).fr z) h2⟩⟩
    · exact ⟨a, vs, by rw [e], .inr hs.sq, fun l hl => q _ _ (Ex.new hl) ⟨l, vs, rfl, .new ((hT.fr f).new hl) upd_same, all2_imp (fun _ _ z => Mo.fr (Ex.new hl).fr z) h2⟩⟩
theorem ev_ixQ [Mo r] {xs : List α} {i : Int} {d : α} (ha : Ev K T ta σ H (zQ r) xs) (hb : Ev K T tb σ H zI i) (hi : atI xs i = some d) : Ev K T (tOp (rIx K) ta tb) σ H r d :=
  ev_op ha hb fun x y H1 Q _ h1 h2 q => by
    rcases h1 with ⟨a, vs, rfl, hs, h⟩ | ⟨a, vs, rfl, hs, h⟩
    · obtain ⟨v, hv, hr⟩ := all2_at h hi
      exact .inl ⟨a, vs, i, v, rfl, h2, hs.sq, hv, q v H1 (Ex.refl H1) hr⟩
    · obtain ⟨v, hv, hr⟩ := all2_at h hi
      exact .inr (.inl ⟨a, vs, i, v, rfl, h2, hs.sq, hv, q v H1 (Ex.refl H1) hr⟩)
end
end EB

set_option Elab.async false
set_option linter.all false
set_option maxRecDepth 100000
set_option maxHeartbeats 4000000
/-! EB: defs, methods, objects; more built-ins. -/
namespace EB
open PySem PySem.Spec PyProof.Rows L2

/-! ### a def that keeps its promise, with how it is called -/
structure Ok (P : Program) (w : World) (K : PySem.W.Frag) (mg : Str → Option Value) (base : Heap) (k : Nat) (x : Str × Option Str) (ps : List Str) (sp : Sp) : Prop where
  ex : ∃ fd, FnOk P w K mg base CX0 k (He.fAd K x) fd ps sp ∧ Binds K fd ps [] ∧ PySem.W.keepIn K (.ref (He.fAd K x)) = true
section
variable {P : Program} {w : World} {K : PySem.W.Frag} {mg : Str → Option Value} {base : Heap} {k : Nat} {x : Str × Option Str} {ps : List Str} {sp : Sp}
theorem Ok.mono {j : Nat} (F : Ok P w K mg base k x ps sp) (h : k ≤ j) : Ok P w K mg base j x ps sp := let ⟨fd, f, b, kp⟩ := F.ex; ⟨fd, f.mono h, b, kp⟩
theorem Ok.imp {sp' : Sp} (F : Ok P w K mg base k x ps sp) (h : ∀ vs H Q E, sp' vs H Q E → sp vs H Q E) : Ok P w K mg base k x ps sp' := let ⟨fd, f, b, kp⟩ := F.ex; ⟨fd, f.imp h, b, kp⟩
end
section
variable {X : Cx} {k j : Nat} {x : Str} {ps : List Str} {sp : Sp} {p pos apos : Pos} {e o : Expr} {es : List Expr} {t : TA} {ta : TE}
theorem pe_callG (F : Ok X.prog X.w X.K X.mg X.base k (x, none) ps sp) (hr : Room j X.A) (hk : k ≤ j) (hg : Gl X x) (hm : X.mg x = some (.ref (He.ga X.K x))) (ha : PA X (e :: es) t) (hdb : (x == ("__debug__" : Str)) = false := by decide)
    (he : starEach (e :: es) X.env = (false, eval e X.env) :: starEach es X.env := by rfl) (hpl : (backTo pos (starEach es X.env)).any (·.1) = false := by rfl) : PE X (.Call (.Name x p) (e :: es) [] pos) (tCall sp [] E0 t) := by
  obtain ⟨fd, f, b, kp⟩ := F.ex
  exact pe_call f (hr.mono hk) hg hm kp b .nil pass0 ha hdb he hpl
theorem pe_callG0 (F : Ok X.prog X.w X.K X.mg X.base k (x, none) ps sp) (hr : Room j X.A) (hk : k ≤ j) (hg : Gl X x) (hm : X.mg x = some (.ref (He.ga X.K x))) (hdb : (x == ("__debug__" : Str)) = false := by decide) : PE X (.Call (.Name x p) [] [] pos) (tCall sp [] E0 tNil) := by
  obtain ⟨fd, f, b, kp⟩ := F.ex
  exact pe_call0 f (hr.mono hk) hg hm kp b .nil pass0 hdb
theorem pe_methG {pl : Sem Bool} {Cn m : Str} (he : PE X o ta) (c : Cls X.K (He.ga X.K Cn)) (hm : Meth X.K (He.ga X.K Cn) m (He.ma X.K (He.ga X.K Cn) m)) (F : Ok X.prog X.w X.K X.mg X.base k (Cn, some m) ps sp) (hr : Room j X.A) (hk : k ≤ j) (ha : PA X (e :: es) t)
    (hst : starEach (e :: es) X.env = (false, eval e X.env) :: starEach es X.env := by rfl) (hpl : (backTo pos (starEach es X.env)).any (·.1) = false := by rfl)
    (ht : eval (.Call (.Attribute o m apos) (e :: es) [] pos) X.env = (do
      let ov ← eval o X.env
      standAt apos.atName
      let (f, first) ← holding [ov] (getMethod ov m pl)
      callWith pos f first (backTo pos (starEach (e :: es) X.env)) (backToKw pos (keywordEach [] X.env))) := by rfl) :
    PE X (.Call (.Attribute o m apos) (e :: es) [] pos) (tMeth (He.ga X.K Cn) m sp [] E0 ta t) := by
  obtain ⟨fd, f, b, kp⟩ := F.ex
  exact pe_meth he c hm f (hr.mono hk) b .nil pass0 ha hst hpl ht
theorem pe_methG0 {pl : Sem Bool} {Cn m : Str} (he : PE X o ta) (c : Cls X.K (He.ga X.K Cn)) (hm : Meth X.K (He.ga X.K Cn) m (He.ma X.K (He.ga X.K Cn) m)) (F : Ok X.prog X.w X.K X.mg X.base k (Cn, some m) ps sp) (hr : Room j X.A) (hk : k ≤ j)
    (ht : eval (.Call (.Attribute o m apos) [] [] pos) X.env = (do
      let ov ← eval o X.env
      standAt apos.atName
      let (f, first) ← holding [ov] (getMethod ov m pl)
      callWith pos f first (backTo pos (starEach [] X.env)) (backToKw pos (keywordEach [] X.env))) := by rfl) :
    PE X (.Call (.Attribute o m apos) [] [] pos) (tMeth (He.ga X.K Cn) m sp [] E0 ta tNil) := by
  obtain ⟨fd, f, b, kp⟩ := F.ex
  exact pe_meth0 he c hm f (hr.mono hk) b .nil pass0 ht
end
/-- a def's proof: where it stands, its scope, its body -/
theorem mk_ok {P : Program} {w : World} {K : PySem.W.Frag} {mg : Str → Option Value} {base : Heap} {k : Nat} {at_ : Str × Option Str} {x qual : Str} {params : Arguments} {body : List Stmt} {scope : Scope} {kws : List (Str × V)} {N ps : List Str} {sp : Sp} {fd : FuncData}
    (F : FunD K x qual params body scope [] kws (He.fAd K at_) fd) (S : FnScope N ps scope) (hb : Binds K fd ps []) (len : ∀ vs H Q E, sp vs H Q E → vs.length = ps.length)
    (hbody : ∀ (cdv : Value) (A : Around) (outer : List Env) (s : Shared) (H : Hp) (vs : List V) (Q : VK) (E : XK), Room k (A.deeper (envOfC qual scope s.heap.objs.size (He.fAd K at_) cdv)) → sp vs H Q E →
      ∃ t, PSs (cxOf CX0 P w K mg base N qual scope (He.fAd K at_) cdv A outer s H E).nox body t ∧ t { nx := fun _ H' => Q .non H', rt := Q } (start N vs) H) : Ok P w K mg base (k + 1) at_ ps sp :=
  ⟨fd, F.ok S len fun cdv A outer s H vs Q E hr h => let ⟨t, h1, h2⟩ := hbody cdv A outer s H vs Q E hr h; ⟨t, h1.nox, h2⟩, hb, F.kp⟩
theorem PSp_len {K : PySem.W.Frag} {α β : Type} {ra : Rpl α} {pre : α → Prop} {r : Rp β} {f : α → β} {n : Nat} (h : ∀ K T H vs a, ra K T H vs a → vs.length = n) : ∀ vs H Q E, PSp K ra pre r f vs H Q E → vs.length = n := fun vs H Q E ⟨T, a, _, hr, _⟩ => h K T H vs a hr
theorem len0 {K T H vs a} (h : aN K T H vs a) : vs.length = 0 := by rw [show vs = [] from h]; rfl
theorem lenS {α β : Type} {r : Rp α} {s : Rpl β} {n : Nat} (h : ∀ K T H vs a, s K T H vs a → vs.length = n) : ∀ K T H vs a, aC r s K T H vs a → vs.length = n + 1 := fun K T H vs a ⟨v, ws, e, _, q⟩ => by rw [e, List.length_cons, h K T H ws a.2 q]
theorem len1 {α : Type} {r : Rp α} : ∀ K T H vs a, aC r aN K T H vs a → vs.length = 1 := lenS fun _ _ _ _ _ h => len0 h
theorem len2 {α β : Type} {r : Rp α} {s : Rp β} : ∀ K T H vs a, aC r (aC s aN) K T H vs a → vs.length = 2 := lenS len1
theorem len3 {α β γ : Type} {r : Rp α} {s : Rp β} {t : Rp γ} : ∀ K T H vs a, aC r (aC s (aC t aN)) K T H vs a → vs.length = 3 := lenS len2
theorem len4 {α β γ δ : Type} {r : Rp α} {s : Rp β} {t : Rp γ} {u : Rp δ} : ∀ K T H vs a, aC r (aC s (aC t (aC u aN))) K T H vs a → vs.length = 4 := lenS len3
theorem len5 {α β γ δ ε : Type} {r : Rp α} {s : Rp β} {t : Rp γ} {u : Rp δ} {q : Rp ε} : ∀ K T H vs a, aC r (aC s (aC t (aC u (aC q aN)))) K T H vs a → vs.length = 5 := lenS len4

/-! ### objects -/
def zA : Rp Addr := fun _ _ _ v a => v = .ref a
instance : Mo zA := ⟨fun _ h => h⟩
def zOb (Cn : Str) (fs : List Str) {α : Type} (ra : Rpl α) : Rp α := fun K T H v a => ∃ p dx vs, v = .ref p ∧ ¬ T p ∧ H p = some (.ins (He.ga K Cn) dx (fs.zip vs)) ∧ ra K T H vs a
instance {Cn : Str} {fs : List Str} {α : Type} {ra : Rpl α} [MoL ra] : Mo (zOb Cn fs ra) := ⟨fun w ⟨p, dx, vs, e, n, h, q⟩ =>
  ⟨p, dx, vs, e, fun t => (w.nw p t).elim n fun z => (by rw [h] at z; cases z), w.fr.keep p _ n h, MoL.wd w q⟩⟩
theorem lookup_zip_none {m : Str} : ∀ {fs : List Str} {vs : List V}, m ∉ fs → (fs.zip vs).lookup m = none
  | [], _, _ => rfl
  | _ :: _, [], _ => rfl
  | f :: fs, v :: vs, h => by
    have hf : (m == f) = false := by
      apply beq_eq_false_iff_ne.mpr
      intro z; exact h (z ▸ List.mem_cons_self)
    rw [List.zip_cons_cons, List.lookup_cons, hf]
    exact lookup_zip_none fun z => h (List.mem_cons_of_mem _ z)
section
variable {K : PySem.W.Frag} {T : AS} {σ : L2.St} {H : Hp} {α β γ : Type} {r : Rp α} {s : Rp β} {ta tb te tl : TE} {t u : TT} {Cn : Str} {fs : List Str}
/-- an attribute, by its place i: g says where it stands among what the object holds -/
theorem ev_fld {ra : Rpl β} {b : β} {f : Str} {a : α} (c : Cls K (He.ga K Cn)) (n : NoAttr K (He.ga K Cn) f) (h : Ev K T ta σ H (zOb Cn fs ra) b) (g : ∀ H1 vs, ra K T H1 vs b → ∃ v, (fs.zip vs).lookup f = some v ∧ r K T H1 v a) : Ev K T (tFld K ta f) σ H r a := fun H1 e Q q =>
  h H1 e _ fun v H2 e2 ⟨p, dx, vs, ev, ht, hp, hr⟩ => by
    obtain ⟨v', hl, hr'⟩ := g H2 vs hr
    exact ⟨p, _, dx, _, v', ev, hp, c, n, hl, q v' H2 e2 hr'⟩
/-- a method that changes nothing -/
theorem ev_meth {ra : Rpl β} {b : β} {rb : Rpl γ} {d : γ} {pre : β × γ → Prop} {f : β × γ → α} {tr : TA} {E : XK} {m : Str} [MoL ra] (hT : TD T H) (hm : m ∉ fs) (h : Ev K T ta σ H (zOb Cn fs ra) b) (h2 : EvA K T tr σ H rb d) (hp : pre (b, d)) :
    Ev K T (tMeth (He.ga K Cn) m (PSp K (aC (zOb Cn fs ra) rb) pre r f) [] E ta tr) σ H r (f (b, d)) := fun H1 g Q q => h H1 g _ fun v H2 e2 r2 => by
  obtain ⟨p, dx, vs, ev, ht, hh, hr⟩ := r2
  refine ⟨p, dx, _, ev, hh, lookup_zip_none hm, ?_⟩
  refine h2 H2 (g.trans e2.fr) _ fun ws H3 e3 r3 => ?_
  show PSp K (aC (zOb Cn fs ra) rb) pre r f (v :: (ws ++ [])) H3 Q E
  rw [List.append_nil]
  exact ⟨T, (b, d), (hT.fr g).ex (e2.trans e3), ⟨v, ws, rfl, ⟨p, dx, vs, ev, ht, e3 _ _ hh, MoL.fr e3.fr hr⟩, r3⟩, hp, fun v' H4 e4 r4 => q v' H4 ((e2.trans e3).trans e4) r4⟩

/-! ### pairs as targets -/
theorem g2_tup {i j : Nat} {p : α × β} {v : V} {H' : Hp} {σ' : L2.St} {Q : L2.St → Hp → Prop} (h : zP r s K T H' v p) (q : ∀ x, r K T H' x p.1 → ∀ y, s K T H' y p.2 → Q ((σ'.set i (some x)).set j (some y)) H') : gTup K 2 (gCons (gName i) (gCons (gName j) gNil)) v σ' H' Q := by
  obtain ⟨a, x, y, e, hs, h1, h2⟩ := h
  exact ⟨a, [x, y], e, hs.sq, rfl, x, [y], rfl, y, [], rfl, rfl, q x h1 y h2⟩
theorem g3_tup {s' : Rp γ} {i j k : Nat} {p : α × β × γ} {v : V} {H' : Hp} {σ' : L2.St} {Q : L2.St → Hp → Prop} (h : zP3 r s s' K T H' v p) (q : ∀ x, r K T H' x p.1 → ∀ y, s K T H' y p.2.1 → ∀ z, s' K T H' z p.2.2 → Q (((σ'.set i (some x)).set j (some y)).set k (some z)) H') :
    gTup K 3 (gCons (gName i) (gCons (gName j) (gCons (gName k) gNil))) v σ' H' Q := by
  obtain ⟨a, x, y, z, e, hs, h1, h2, h3⟩ := h
  exact ⟨a, [x, y, z], e, hs.sq, rfl, x, [y, z], rfl, y, [z], rfl, z, [], rfl, rfl, q x h1 y h2 z h3⟩

/-! ### ints from things -/
def b2 (b : Bool) : Int := if b then 1 else 0
def rInt1 : List V → Hp → VK → Prop := fun xs H Q => (∃ i, xs = [.int i] ∧ Q (.int i) H) ∨ ∃ k, xs = [.bl k] ∧ Q (.int (if k then 1 else 0)) H
theorem call_int1Q {X : Cx} : CallR X (.type "int") rInt1 := call_int1
theorem ev_intI {i : Int} (h : Ev K T ta σ H zI i) : Ev K T (tCB rInt1 (tCons ta tNil)) σ H zI i := ev_c1 h fun x H1 Q _ e q => .inl ⟨i, by rw [show x = .int i from e], q _ H1 (Ex.refl H1) rfl⟩
theorem ev_intB {i : Bool} (h : Ev K T ta σ H zB i) : Ev K T (tCB rInt1 (tCons ta tNil)) σ H zI (b2 i) := ev_c1 h fun x H1 Q _ e q => .inr ⟨i, by rw [show x = .bl i from e], q _ H1 (Ex.refl H1) rfl⟩
def rIntS : List V → Hp → VK → Prop := fun xs H Q => ∃ a n, xs = [.str a] ∧ PySem.intText? a = some n ∧ a.length ≤ 640 ∧ Q (.int n) H
theorem call_intS {X : Cx} : CallR X (.type "int") rIntS := call_int_str
def wInt (w : List Bool) : Int := match w with
  | [b] => b2 b
  | _ => 0
theorem int_sgn (b : Bool) : PySem.intText? (wS [b]) = some (b2 b) := by cases b <;> decide +kernel
theorem ev_intW {w : List Bool} (h : Ev K T ta σ H zW w) (hl : w.length = 1) : Ev K T (tCB rIntS (tCons ta tNil)) σ H zI (wInt w) := ev_c1 h fun x H1 Q _ ⟨e, _⟩ q => by
  match w, hl with
  | [b], _ => exact ⟨wS [b], b2 b, by rw [e], int_sgn b, by rw [wS_len]; simp, q _ H1 (Ex.refl H1) rfl⟩
def rAbs : List V → Hp → VK → Prop := fun xs H Q => ∃ i, xs = [.int i] ∧ Q (.int (if i < 0 then -i else i)) H
theorem call_absQ {X : Cx} : CallR X (.builtin "abs") rAbs := call_abs
def ab (i : Int) : Int := if i < 0 then -i else i
theorem ev_abs {i : Int} (h : Ev K T ta σ H zI i) : Ev K T (tCB rAbs (tCons ta tNil)) σ H zI (ab i) := ev_c1 h fun x H1 Q _ e q => ⟨i, by rw [show x = .int i from e], q _ H1 (Ex.refl H1) rfl⟩
def mx2 (i j : Int) : Int := if j > i then j else i
def mn2 (i j : Int) : Int := if j < i then j else i
def rMx2 : List V → Hp → VK → Prop := fun xs H Q => ∃ i j, xs = [.int i, .int j] ∧ Q (.int (if j > i then j else i)) H
def rMn2 : List V → Hp → VK → Prop := fun xs H Q => ∃ i j, xs = [.int i, .int j] ∧ Q (.int (if j < i then j else i)) H
theorem call_max2Q {X : Cx} (hc : X.calm = true := by rfl) : CallR X (.builtin "max") rMx2 := call_max2 hc
theorem call_min2Q {X : Cx} (hc : X.calm = true := by rfl) : CallR X (.builtin "min") rMn2 := call_min2 hc
theorem ev_max2 {i j : Int} (h : Ev K T ta σ H zI i) (h' : Ev K T tb σ H zI j) : Ev K T (tCB rMx2 (tCons ta (tCons tb tNil))) σ H zI (mx2 i j) := ev_c2 h h' fun x y H1 Q _ e e' q => ⟨i, j, by rw [show x = .int i from e, show y = .int j from e'], q _ H1 (Ex.refl H1) rfl⟩
theorem ev_min2 {i j : Int} (h : Ev K T ta σ H zI i) (h' : Ev K T tb σ H zI j) : Ev K T (tCB rMn2 (tCons ta (tCons tb tNil))) σ H zI (mn2 i j) := ev_c2 h h' fun x y H1 Q _ e e' q => ⟨i, j, by rw [show x = .int i from e, show y = .int j from e'], q _ H1 (Ex.refl H1) rfl⟩
theorem at_get {xs : List α} {i : Int} {d0 : α} (h0 : 0 ≤ i) (h : i < (xs.length : Int)) : atI xs i = some (xs.getD i.toNat d0) := by
  apply atI_pos h0
  have : i.toNat < xs.length := by omega
  rw [List.getD_eq_getElem?_getD, List.getElem?_eq_getElem this]; rfl
/-! ### slices of words, join -/
theorem cut_map {f : α → β} (xs : List α) (lo hi : Option Int) : cutA (xs.map f) lo hi = (cutA xs lo hi).map f := by
  unfold cutA
  rw [List.length_map, ← List.map_drop, ← List.map_take]
theorem cutA_len (xs : List α) (lo hi : Option Int) : (cutA xs lo hi).length ≤ xs.length := by
  unfold cutA
  rw [List.length_take, List.length_drop]
  omega
theorem ev_slW {w : List Bool} {tl th : TO} {lo hi : Option Int} (h : Ev K T te σ H zW w) (h1 : EvO T tl σ H lo) (h2 : EvO T th σ H hi) : Ev K T (tSl rSlS te tl th) σ H zW (cutA w lo hi) := fun H1 f Q q =>
  h H1 f _ fun v H2 e2 r2 => h1 H2 (f.trans e2.fr) _ fun H3 e3 => h2 H3 ((f.trans e2.fr).trans e3.fr) _ fun H4 e4 => by
    obtain ⟨rfl, hl⟩ := r2
    refine ⟨wS w, rfl, by rw [wS_len, sizeLine_eq]; omega, q _ _ ((e2.trans e3).trans e4) ⟨?_, Nat.le_trans (cutA_len _ _ _) hl⟩⟩
    congr 1
    unfold cutS
    rw [wS_len]
    have : (wS w).cps.toList = w.map sgn := by simp [wS]
    rw [this]
    have := cut_map (f := sgn) w lo hi
    unfold cutA at this
    rw [List.length_map] at this
    rw [this]
    rfl
def rJoin (K : PySem.W.Frag) : V → List V → Hp → VK → Prop := fun x xs H Q => ∃ a p, ∃ ys : List Str, x = .str a ∧ xs = [.ref p] ∧ (SqL K H p (ys.map V.str) ∨ SqT K H p (ys.map V.str)) ∧
      (ys.map (·.length)).sum + ys.length * a.length ≤ 16777216 ∧ Q (.str (Txt.join a ys)) H
theorem pe_joinQ {X : Cx} {o e : Expr} {to te : TE} {apos pos : Pos} (ho : PE X o to) (he : PE X e te) (hs : starEach [e] X.env = [(false, eval e X.env)] := by rfl) (hbase : attributeBase o "join" X.env (eval o X.env) = eval o X.env := by rfl) (hline : (apos.endLine == pos.line) = true := by rfl) :
    PE X (.Call (.Attribute o "join" apos) [e] [] pos) (tM1 (rJoin X.K) to te) := pe_join ho he hs hbase hline
theorem joinL_nil : ∀ l : List (List Nat), TL.joinL [] l = l.flatten
  | [] => rfl
  | [p] => by simp [TL.joinL]
  | p :: q :: r => by
    have ih := joinL_nil (q :: r)
    show p ++ ([] ++ TL.joinL [] (q :: r)) = _
    rw [ih]; simp
theorem join_words (ws : List (List Bool)) : Txt.join (wS []) (ws.map wS) = wS ws.flatten := by
  rw [TL.join_eq]
  apply TL.ext_tl
  rw [TL.tl_join]
  have : TL.tl (wS []) = [] := rfl
  rw [this, joinL_nil]
  simp only [List.map_map, TL.tl, wS]
  simp only [List.map_flatten]
  congr 1
theorem ev_joinW {ws : List (List Bool)} (ha : Ev K T ta σ H zW []) (hb : Ev K T tb σ H (zL zW) ws) (hl : ws.flatten.length ≤ 100000) : Ev K T (tM1 (rJoin K) ta tb) σ H zW ws.flatten := fun H1 f Q q => ha H1 f _ fun v H2 e2 r2 => by
  obtain ⟨rfl, _⟩ := r2
  refine ⟨⟨_, rfl⟩, hb H2 (f.trans e2.fr) _ fun y H3 e3 r3 => ?_⟩
  obtain ⟨p, vs, rfl, hs, hall⟩ := r3
  have e := all2_word hall
  refine ⟨wS [], p, ws.map wS, rfl, rfl, .inl (by rw [← e]; exact hs.sq), ?_, ?_⟩
  · have e1 : ((ws.map wS).map (·.length)).sum = ws.flatten.length := by
      rw [List.length_flatten, List.map_map]
      congr 1
      apply List.map_congr_left
      intro w _; exact wS_len w
    rw [e1, wS_len]; simp; simp at hl; omega
  · rw [join_words]
    exact q _ _ (e2.trans e3) ⟨rfl, hl⟩
/-! ### truth -/
/-- an expression by its truth -/
def tTruK (K : PySem.W.Frag) (ta : TE) : TT := fun σ H Q => ta σ H fun x H' => ∃ k, TruV K x H' k ∧ Q k H'
theorem et_truL {xs : List α} (h : Ev K T ta σ H (zL r) xs) : EvT T (tTruK K ta) σ H (!xs.isEmpty) := fun H1 f Q q => h H1 f _ fun v H2 e2 r2 => by
  obtain ⟨a, vs, rfl, hs, hall⟩ := r2
  refine ⟨_, .inl ⟨vs, hs.sq, ?_⟩, q H2 e2⟩
  have := all2_len hall
  cases vs <;> cases xs <;> simp at this <;> rfl
end
end EB

set_option Elab.async false
set_option linter.all false
set_option maxRecDepth 100000
set_option maxHeartbeats 4000000
/-! EB: isinstance, signs in a text, the built-ins' places. -/
namespace EB
open PySem PySem.Spec PyProof.Rows L2
theorem bt_abs : bootBuiltins "abs" = some (.builtin "abs") := by decide +kernel
theorem bt_all : bootBuiltins "all" = some (.builtin "all") := by decide +kernel
theorem bt_any : bootBuiltins "any" = some (.builtin "any") := by decide +kernel
theorem bt_len : bootBuiltins "len" = some (.builtin "len") := by decide +kernel
theorem bt_max : bootBuiltins "max" = some (.builtin "max") := by decide +kernel
theorem bt_min : bootBuiltins "min" = some (.builtin "min") := by decide +kernel
theorem bt_sum : bootBuiltins "sum" = some (.builtin "sum") := by decide +kernel
theorem bt_sorted : bootBuiltins "sorted" = some (.builtin "sorted") := by decide +kernel
theorem bt_isinstance : bootBuiltins "isinstance" = some (.builtin "isinstance") := by decide +kernel
theorem bt_int : bootBuiltins "int" = some (.type "int") := by decide +kernel
theorem bt_bool : bootBuiltins "bool" = some (.type "bool") := by decide +kernel
theorem bt_str : bootBuiltins "str" = some (.type "str") := by decide +kernel
theorem bt_list : bootBuiltins "list" = some (.type "list") := by decide +kernel
theorem bt_tuple : bootBuiltins "tuple" = some (.type "tuple") := by decide +kernel
theorem bt_dict : bootBuiltins "dict" = some (.type "dict") := by decide +kernel
theorem bt_set : bootBuiltins "set" = some (.type "set") := by decide +kernel

/-- a representation's type -/
class Tyd {α : Type} (r : Rp α) (n : outParam String) : Prop where
  ty : ∀ {K T H v a}, r K T H v a → TyX K H v (.type n)
instance : Tyd zI "int" := ⟨fun h => by rw [h]; exact .base (.int _)⟩
instance : Tyd zB "bool" := ⟨fun h => by rw [h]; exact .base (.bl _)⟩
instance : Tyd zS "str" := ⟨fun h => by rw [h]; exact .base (.str _)⟩
instance : Tyd zW "str" := ⟨fun h => by rw [h.1]; exact .base (.str _)⟩
instance : Tyd zN "NoneType" := ⟨fun h => by rw [h]; exact .base .non⟩
instance {α : Type} {r : Rp α} : Tyd (zL r) "list" := ⟨fun ⟨a, vs, e, h, _⟩ => by
  rw [e]
  rcases h with ⟨_, h | ⟨o, h⟩⟩ | ⟨o, its, n, h1, h2, _⟩
  · exact .base (.lst h)
  · exact .base (.frz h)
  · exact .kList h1 h2⟩
instance {α : Type} {r : Rp α} : Tyd (zU r) "tuple" := ⟨fun ⟨a, vs, e, h, _⟩ => by
  rw [e]
  rcases h with ⟨_, h | ⟨o, h⟩⟩ | ⟨o, its, n, h1, h2, _⟩
  · exact .base (.tup h)
  · exact .fTuple h
  · exact .kTuple h1 h2⟩
instance {α β : Type} {r : Rp α} {s : Rp β} : Tyd (zP r s) "tuple" := ⟨fun ⟨a, x, y, e, h, _⟩ => by
  rw [e]
  rcases h with ⟨_, h | ⟨o, h⟩⟩ | ⟨o, its, n, h1, h2, _⟩
  · exact .base (.tup h)
  · exact .fTuple h
  · exact .kTuple h1 h2⟩
section
variable {X : Cx} {K : PySem.W.Frag} {T : AS} {σ : L2.St} {H : Hp} {α β γ : Type} {r : Rp α} {s : Rp β} {ta tb te tl : TE}
/-- a built-in class as a value -/
theorem pe_cls {x : Str} {n : String} {pos : Pos} (hg : Gl X x) (hm : X.mg x = none) (hv : bootBuiltins x = some (.type n)) (hn : x ≠ "__name__" := by decide) (hd : (x == ("__debug__" : Str)) = false := by decide) : PE X (.Name x pos) (tC (.ty n)) := pe_bltn (v := .ty n) hg hm hv rfl hn hd
theorem ev_isi {n n' : String} [Tyd r n'] {a : α} {b : Bool} (h : Ev K T ta σ H r a) (hk : kitB n' n = some b := by decide +kernel) : Ev K T (tCB (rIsi K) (tCons ta (tCons (tC (.ty n)) tNil))) σ H zB b := fun H1 f Q q =>
  h H1 f _ fun v H2 e2 r2 => ⟨v, .ty n, _, _, b, rfl, .ty n, Tyd.ty r2, kit_ty hk, q _ H2 e2 rfl⟩
theorem isi2_at {n1 n2 n' : String} {v : V} {H2 : Hp} {b1 b2 : Bool} {Q : VK} (t : TyX K H2 v (.type n')) (hk : kitB n' n1 = some b1) (hk2 : kitB n' n2 = some b2) (q : ∀ H3, Ex H2 H3 → Q (.bl (b1 || b2)) H3) :
    2 ≤ sizeLine ∧ ∀ p, H2 p = none → rIsiT K [v, .ref p] (upd H2 p (.tup [.ty n1, .ty n2])) Q :=
  ⟨by rw [sizeLine_eq]; omega, fun p hp => ⟨v, p, [.ty n1, .ty n2], .type n', [.type n1, .type n2], b1 || b2, rfl, upd_same, .cons (.ty _) (.cons (.ty _) .nil), by
    cases t with
    | base t => cases t with
      | non => exact .base .non
      | bl => exact .base (.bl _)
      | int => exact .base (.int _)
      | str => exact .base (.str _)
      | flt => exact .base (.flt _)
      | lst e => exact .base (.lst (by rw [upd_ne (ne_of_none e hp)]; exact e))
      | frz e => exact .base (.frz (by rw [upd_ne (ne_of_none e hp)]; exact e))
      | tup e => exact .base (.tup (by rw [upd_ne (ne_of_none e hp)]; exact e))
      | dK e => exact .base (.dK (by rw [upd_ne (ne_of_none e hp)]; exact e))
      | dT e => exact .base (.dT (by rw [upd_ne (ne_of_none e hp)]; exact e))
    | byt => exact .byt _
    | set e => exact .set (by rw [upd_ne (ne_of_none e hp)]; exact e)
    | kList e c => exact .kList e c
    | kTuple e c => exact .kTuple e c
    | kDict e c => exact .kDict e c
    | fTuple e => exact .fTuple (by rw [upd_ne (ne_of_none e hp)]; exact e)
    | fDict e => exact .fDict (by rw [upd_ne (ne_of_none e hp)]; exact e), kitAny_cons (kit_ty hk) (fun z => by
      subst z
      exact kitAny_cons (kit_ty hk2) (fun z => by subst z; exact kitAny_nil) (fun z => by subst z; rfl)) (fun z => by subst z; rfl), q _ (Ex.new hp)⟩⟩
theorem ev_isi2 {n1 n2 n' : String} [Tyd r n'] {a : α} {b1 b2 : Bool} (h : Ev K T ta σ H r a) (hk : kitB n' n1 = some b1 := by decide +kernel) (hk2 : kitB n' n2 = some b2 := by decide +kernel) :
    Ev K T (tCB (rIsiT K) (tCons ta (tCons (tTup (tCons (tC (.ty n1)) (tCons (tC (.ty n2)) tNil))) tNil))) σ H zB (b1 || b2) := fun H1 f Q q =>
  h H1 f _ fun v H2 e2 r2 => isi2_at (Tyd.ty r2) hk hk2 fun H3 e3 => q _ H3 (e2.trans e3) rfl
/-- a list or a tuple is one -/
theorem ev_isiQ {xs : List α} (h : Ev K T ta σ H (zQ r) xs) : Ev K T (tCB (rIsiT K) (tCons ta (tCons (tTup (tCons (tC (.ty "tuple")) (tCons (tC (.ty "list")) tNil))) tNil))) σ H zB true := fun H1 f Q q =>
  h H1 f _ fun v H2 e2 r2 => by
    rcases r2 with r2 | r2
    · exact isi2_at (b1 := false) (b2 := true) (Tyd.ty r2) (by decide +kernel) (by decide +kernel) fun H3 e3 => q _ H3 (e2.trans e3) rfl
    · exact isi2_at (b1 := true) (b2 := false) (Tyd.ty r2) (by decide +kernel) (by decide +kernel) fun H3 e3 => q _ H3 (e2.trans e3) rfl
/-- one sign in "01" -/
def rInSg : R2 := fun x y H Q => ∃ (c : Nat) (z : Str), x = .str ⟨#[c]⟩ ∧ y = .str z ∧ Q (.bl (decide (c ∈ z.cps.toList))) H
theorem op_inSg : OpR X (compareOp .In) rInSg := op_in_sign
theorem len_sign {w : List Bool} {x : List Bool} (h : x ∈ w.map fun b => [b]) : x.length = 1 := by
  obtain ⟨b, _, rfl⟩ := List.mem_map.mp h
  rfl
theorem ev_in01 {w : List Bool} (h : Ev K T ta σ H zW w) (hl : w.length = 1) : Ev K T (tOp rInSg ta (tC (.str ("01" : Str)))) σ H zB true := fun H1 f Q q => h H1 f _ fun v H2 e2 ⟨r2, _⟩ => by
  match w, hl with
  | [b], _ =>
    subst r2
    refine ⟨sgn b, ("01" : Str), rfl, rfl, ?_⟩
    have : decide (sgn b ∈ ("01" : Str).cps.toList) = true := by cases b <;> decide +kernel
    rw [this]
    exact q _ H2 e2 rfl
end
end EB

set_option Elab.async false
set_option linter.all false
set_option maxRecDepth 100000
set_option maxHeartbeats 4000000
/-! EB: the rules whose readings name the written part, told by it. -/
namespace EB
open PySem PySem.Spec PyProof.Rows L2
section
variable {X : Cx} {K : PySem.W.Frag} {tg l e o i : Expr} {pos : Pos} {tl te : TE} {es : List Expr}
theorem kx_list (hK : X.K = K := by rfl) : IxR X (rIxL K) := hK ▸ ix_list
theorem kx_tup (hK : X.K = K := by rfl) : IxR X (rIxT K) := hK ▸ ix_tup
theorem kx_seq (hK : X.K = K := by rfl) : IxR X (rIx K) := hK ▸ ix_seq
theorem kc_len (hK : X.K = K := by rfl) : CallR X (.builtin "len") (rLenQ K) := hK ▸ call_lenQ
theorem kc_list (hK : X.K = K := by rfl) : CallR X (.type "list") (rListQ K) := hK ▸ call_listQ
theorem kc_tuple (hK : X.K = K := by rfl) : CallR X (.type "tuple") (rTupleQ K) := hK ▸ call_tupleQ
theorem ks_list (hK : X.K = K := by rfl) : SlR X (rSlL K) := hK ▸ sl_list
theorem kp_list (hl : PE X l tl) (hK : X.K = K := by rfl) : PI X tg l (iListB K tl) := hK ▸ pi_listB hl
theorem kp_tup (hl : PE X l tl) (hK : X.K = K := by rfl) : PI X tg l (iTupB K tl) := hK ▸ pi_tupB hl
theorem kp_seq (hl : PE X l tl) (hK : X.K = K := by rfl) : PI X tg l (iSeqB K tl) := hK ▸ pi_seqB hl
theorem kr_all (hc : X.calm = true) (hK : X.K = K := by rfl) : CallR X (.builtin "all") (rAll K) := hK ▸ cr_all hc
theorem kr_any (hc : X.calm = true) (hK : X.K = K := by rfl) : CallR X (.builtin "any") (rAny K) := hK ▸ cr_any hc
theorem kr_sum (hc : X.calm = true) (hK : X.K = K := by rfl) : CallR X (.builtin "sum") (rSum K) := hK ▸ cr_sum hc
theorem kr_max (hc : X.calm = true) (hK : X.K = K := by rfl) : CallR X (.builtin "max") (rMax K) := hK ▸ cr_max hc
theorem kr_min (hc : X.calm = true) (hK : X.K = K := by rfl) : CallR X (.builtin "min") (rMin K) := hK ▸ cr_min hc
theorem kc_isi (hK : X.K = K := by rfl) : CallR X (.builtin "isinstance") (rIsi K) := hK ▸ call_isi
theorem kc_isiT (hK : X.K = K := by rfl) : CallR X (.builtin "isinstance") (rIsiT K) := hK ▸ call_isiT
theorem ke_fld {f : Str} (he : PE X e te) (hb : attributeBase e f X.env (eval e X.env) = eval e X.env := by rfl) (hK : X.K = K := by rfl) : PE X (.Attribute e f pos) (tFld K te f) := hK ▸ pe_fld he hb
theorem kg_tup {k n : Nat} {t : TGs} (hc : X.calm = true) (h : PGs X es t) (hn : (assignEach es X.env).length = n := by rfl) (hst : (assignEach es X.env).findIdx? (·.1) = none := by rfl) (hK : X.K = K := by rfl) : PG X (.Tuple es k pos) (gTup K n t) := hK ▸ pg_tup hc h hn hst
theorem kt_truth (ha : PE X e te) (he : ∀ whole, isTrue e X.env whole = (do let v ← whole; standAt e.pos; holding [v] (truthy v)) := by intro _; rfl) (hK : X.K = K := by rfl) : PT X e (tTruK K te) := hK ▸ pt_truth ha he
theorem ke_join {to : TE} {apos : Pos} (ho : PE X o to) (he : PE X e te) (hs : starEach [e] X.env = [(false, eval e X.env)] := by rfl) (hbase : attributeBase o "join" X.env (eval o X.env) = eval o X.env := by rfl) (hline : (apos.endLine == pos.line) = true := by rfl) (hK : X.K = K := by rfl) :
    PE X (.Call (.Attribute o "join" apos) [e] [] pos) (tM1 (rJoin K) to te) := hK ▸ pe_joinQ ho he hs hbase hline
end
section
variable {P : Program} {w : World} {K : PySem.W.Frag} {mg : Str → Option Value} {base : Heap} {X : Cx} {k j : Nat} {x : Str} {ps : List Str} {sp : Sp} {p pos apos : Pos} {e o : Expr} {es : List Expr} {t : TA} {ta : TE}
theorem ke_meth {pl : Sem Bool} {Cn m : Str} (he : PE X o ta) (c : Cls K (He.ga K Cn)) (hm : Meth K (He.ga K Cn) m (He.ma K (He.ga K Cn) m)) (F : Ok X.prog X.w K X.mg X.base k (Cn, some m) ps sp) (hr : Room j X.A) (hk : k ≤ j) (ha : PA X (e :: es) t)
    (hst : starEach (e :: es) X.env = (false, eval e X.env) :: starEach es X.env := by rfl) (hpl : (backTo pos (starEach es X.env)).any (·.1) = false := by rfl)
    (ht : eval (.Call (.Attribute o m apos) (e :: es) [] pos) X.env = (do
      let ov ← eval o X.env
      standAt apos.atName
      let (f, first) ← holding [ov] (getMethod ov m pl)
      callWith pos f first (backTo pos (starEach (e :: es) X.env)) (backToKw pos (keywordEach [] X.env))) := by rfl) (hK : X.K = K := by rfl) :
    PE X (.Call (.Attribute o m apos) (e :: es) [] pos) (tMeth (He.ga K Cn) m sp [] E0 ta t) := by
  subst hK
  exact pe_methG he c hm F hr hk ha hst hpl ht
theorem ke_meth0 {pl : Sem Bool} {Cn m : Str} (he : PE X o ta) (c : Cls K (He.ga K Cn)) (hm : Meth K (He.ga K Cn) m (He.ma K (He.ga K Cn) m)) (F : Ok X.prog X.w K X.mg X.base k (Cn, some m) ps sp) (hr : Room j X.A) (hk : k ≤ j)
    (ht : eval (.Call (.Attribute o m apos) [] [] pos) X.env = (do
      let ov ← eval o X.env
      standAt apos.atName
      let (f, first) ← holding [ov] (getMethod ov m pl)
      callWith pos f first (backTo pos (starEach [] X.env)) (backToKw pos (keywordEach [] X.env))) := by rfl) (hK : X.K = K := by rfl) :
    PE X (.Call (.Attribute o m apos) [] [] pos) (tMeth (He.ga K Cn) m sp [] E0 ta tNil) := by
  subst hK
  exact pe_methG0 he c hm F hr hk ht
end
end EB

set_option Elab.async false
set_option linter.all false
set_option maxRecDepth 100000
set_option maxHeartbeats 4000000
/-! EB: loops as statements, lists that are being made. -/
namespace EB
open PySem PySem.Spec PyProof.Rows L2

/-! ### a loop's run on data -/
inductive Out (ρ σ : Type) where
  | ret (r : ρ) | nx (s : σ) | brk (s : σ)
def runL {α ρ σ : Type} (step : σ → α → Out ρ σ) : σ → List α → Out ρ σ
  | s, [] => .nx s
  | s, x :: xs => match step s x with
    | .nx s' => runL step s' xs
    | o => o
section
variable {α ρ σ : Type} {step : σ → α → Out ρ σ}
theorem runL_app : ∀ {xs : List α} {s s' : σ} {x : α}, runL step s xs = .nx s' → runL step s (xs ++ [x]) = step s' x
  | [], s, s', x, h => by
    cases h
    show (match step s x with | .nx s' => runL step s' [] | o => o) = step s x
    cases step s x <;> rfl
  | y :: ys, s, s', x, h => by
    have h' : (match step s y with | .nx s' => runL step s' ys | o => o) = .nx s' := h
    show (match step s y with | .nx s' => runL step s' (ys ++ [x]) | o => o) = step s' x
    cases e : step s y with
    | nx s2 => rw [e] at h'; exact runL_app h'
    | ret r => rw [e] at h'; cases h'
    | brk r => rw [e] at h'; cases h'
theorem runL_take {xs : List α} {s s' : σ} {x : α} {i : Nat} (h : runL step s (xs.take i) = .nx s') (hx : xs[i]? = some x) : runL step s (xs.take (i + 1)) = step s' x := by
  rw [List.take_add_one, hx]
  exact runL_app h
theorem runL_stop : ∀ {xs ys : List α} {s : σ} {o : Out ρ σ}, runL step s xs = o → (∀ s', o ≠ .nx s') → runL step s (xs ++ ys) = o
  | [], ys, s, o, h, n => absurd h.symm (n s)
  | y :: ys, zs, s, o, h, n => by
    have h' : (match step s y with | .nx s' => runL step s' ys | o => o) = o := h
    show (match step s y with | .nx s' => runL step s' (ys ++ zs) | o => o) = o
    cases e : step s y with
    | nx s2 => rw [e] at h'; exact runL_stop h' n
    | ret r => rw [e] at h'; exact h'
    | brk r => rw [e] at h'; exact h'
theorem runL_ret {xs : List α} {s s' : σ} {x : α} {i : Nat} {o : Out ρ σ} (h : runL step s (xs.take i) = .nx s') (hx : xs[i]? = some x) (hs : step s' x = o) (n : ∀ s', o ≠ .nx s') : runL step s xs = o := by
  have h1 := runL_stop (ys := xs.drop (i + 1)) ((runL_take h hx).trans hs) n
  rwa [List.take_append_drop] at h1
end

/-! ### frames of what was made here -/
theorem Fr.exOf {S : AS} {H H' : Hp} (f : Fr S H H') (n : ∀ b, S b → H b = none) : Ex H H' := fun a o e => f.keep a o (fun z => by rw [n a z] at e; cases e) e
theorem Fr.tp {S : AS} {H H' : Hp} {p : Addr} (f : Fr S H H') : Fr (Tp S p) H H' := f.mono fun _ h => .inl h
theorem hS_tp {S : AS} {H H' : Hp} {p : Addr} (hS : ∀ b, S b → H b = none) (f : Fr S H H') (n : H' p = none) : ∀ b, Tp S p b → H b = none := fun b h => h.elim (hS b) fun z => by subst z; exact f.back n
/-- a list of ours, being made -/
structure HM {α : Type} (r : Rp α) (K : PySem.W.Frag) (T : AS) (H : Hp) (p : Addr) (xs : List α) : Prop where
  mem : T p
  ex : ∃ vs, H p = some (.lst vs) ∧ All2 (r K T H) vs xs
section
variable {K : PySem.W.Frag} {T T' S : AS} {σ : L2.St} {H H' : Hp} {α β γ : Type} {r : Rp α} {te : TE} {D : Ends} {i : Nat} {p : Addr} {xs : List α} {d : α}
theorem HM.ex' [Mo r] (h : HM r K T H p xs) (e : Ex H H') : HM r K T H' p xs := let ⟨vs, h1, h2⟩ := h.ex; ⟨h.mem, vs, e _ _ h1, all2_imp (fun _ _ z => Mo.fr e.fr z) h2⟩
theorem HM.fr [Mo r] (h : HM r K T H p xs) (f : Fr S H H') (n : ¬ S p) (hST : ∀ b, S b → T b) : HM r K T H' p xs := let ⟨vs, h1, h2⟩ := h.ex; ⟨h.mem, vs, f.keep _ _ n h1, all2_imp (fun _ _ z => Mo.fr (f.mono hST) z) h2⟩
theorem HM.lift [Mo r] {q : Addr} (h : HM r K T H p xs) (n : H q = none) : HM r K (Tp T q) H p xs := let ⟨vs, h1, h2⟩ := h.ex; ⟨.inl h.mem, vs, h1, all2_imp (fun _ _ z => Mo.lift n z) h2⟩
/-- it is done -/
theorem HM.done [Mo r] (h : HM r K T H p xs) (hs : ∀ b, T' b → T b) (n : ¬ T' p) : zL r K T' H (.ref p) xs := let ⟨vs, h1, h2⟩ := h.ex; ⟨p, vs, rfl, .new n h1, all2_imp (fun _ _ z => Mo.sub hs z) h2⟩
theorem HM.sub [Mo r] (h : HM r K T H p xs) (hs : ∀ b, T' b → T b) (m : T' p) : HM r K T' H p xs := let ⟨vs, h1, h2⟩ := h.ex; ⟨m, vs, h1, all2_imp (fun _ _ z => Mo.sub hs z) h2⟩
theorem HM.app [Mo r] {v : V} (h : HM r K T H p xs) (hv : r K T H v d) : ∃ vs, H p = some (.lst vs) ∧ vs.length = xs.length ∧ HM r K T (upd H p (.lst (vs ++ [v]))) p (xs ++ [d]) ∧ Fr T H (upd H p (.lst (vs ++ [v]))) := by
  obtain ⟨vs, h1, h2⟩ := h.ex
  have f : Fr T H (upd H p (.lst (vs ++ [v]))) := Fr.upd (.inl h.mem)
  exact ⟨vs, h1, all2_len h2, ⟨h.mem, _, upd_same, all2_app (all2_imp (fun _ _ z => Mo.fr f z) h2) (.cons (Mo.fr f hv) .nil)⟩, f⟩
/-- x = [..], a list that is to be changed -/
theorem st_mlist [Mo r] {ta : TA} (h : EvA K T ta σ H (aH r) xs) (hl : xs.length ≤ 1000) (k : ∀ p H1 H2 v, H2 = upd H1 p v → Ex H H1 → H1 p = none → Fr (Tp S p) H1 H2 → HM r K (Tp T p) H2 p xs → D.nx (σ.set i (some (.ref p))) H2) : tAsg (tLst ta) (gName i) D σ H :=
  h H (Fr.refl H) _ fun vs H1 e1 r1 => ⟨by rw [all2_len r1, sizeLine_eq]; omega, fun p hp => k p H1 _ _ rfl e1 hp (Fr.upd (.inl (.inr rfl))) ⟨.inr rfl, vs, upd_same, all2_imp (fun _ _ z => Mo.fr (Ex.new hp).fr (Mo.lift hp z)) r1⟩⟩
/-- x.append(e) -/
theorem st_append [Mo r] (hv : σ[i]? = some (some (.ref p))) (m : HM r K T H p xs) (h : Ev K T te σ H r d) (hl : xs.length ≤ 1000000) (k : ∀ H1 H2 v, H2 = upd H1 p v → Ex H H1 → Fr (Tp S p) H1 H2 → Fr T H1 H2 → HM r K T H2 p (xs ++ [d]) → D.nx σ H2) : tDrop (tBM K "list" rAppend (tVar i) (tCons te tNil)) D σ H := by
  obtain ⟨vs, h1, h2⟩ := m.ex
  refine ⟨.ref p, hv, .inl ⟨rfl, vs, .inl (.inl h1)⟩, ?_⟩
  refine h H (Fr.refl H) _ fun v H1 e1 r1 => ?_
  obtain ⟨vs', h1', hl', m', f'⟩ := (m.ex' e1).app r1
  exact ⟨p, vs', v, rfl, rfl, h1', by rw [hl', sizeLine_eq]; omega, k H1 _ _ rfl e1 (Fr.upd (.inl (.inr rfl))) f' m'⟩
/-- reading such a list -/
theorem evM_ix {ta tb : TE} {j : Int} [Mo r] (hv : ∀ H', Fr T H H' → HM r K T H' p xs → Ev K T ta σ H zA p) : True := trivial
/-- for -/
theorem st_for [Mo r] {wi : TI} {g : TG} {tb : TS} (hT : TD T H) (h : EvI K T wi σ H r xs)
    (k : ∀ H2, Ex H H2 → ∃ Pv : Nat → L2.St → Hp → Prop, Pv 0 σ H2 ∧ (∀ i σ' H', i ≤ xs.length → Pv i σ' H' → Fr T H2 H') ∧
      (∀ i x σ' H' v H'', xs[i]? = some x → Pv i σ' H' → Ex H' H'' → r K T H'' v x → g v σ' H'' fun σ3 H3 => tb { D with nx := Pv (i + 1), ct := Pv (i + 1), bk := D.nx } σ3 H3) ∧
      (∀ σ' H', Pv xs.length σ' H' → D.nx σ' H')) : tFor wi g tb D σ H :=
  h H (Fr.refl H) _ fun J H2 e2 w => by
    obtain ⟨⟨n, G, Y, hn, wk, hG, hY⟩, hz⟩ := w
    subst hn
    obtain ⟨Pv, h0, hF, hs, hd⟩ := k H2 e2
    refine for_it wk Pv h0 (fun i σ' H' hi q => hG H' (hF i σ' H' hi q)) (fun i v σ' H' H'' hi q y => ?_) hd
    have f := hF i σ' H' (by omega) q
    obtain ⟨eY, x, hx, hr⟩ := hY i H' v H'' hi f y
    exact hs i x σ' H' v H'' hx q eY (hr T ((hT.ex e2).fr f) (Tr.fr f))
end
end EB

set_option Elab.async false
set_option linter.all false
set_option maxRecDepth 100000
set_option maxHeartbeats 4000000
/-! EB: enumerate and zip of lists, tuples, texts in any mix. -/
namespace EB
open PySem PySem.Spec PyProof.Rows L2

set_option maxHeartbeats 4000000 in
/-- enumerate's making over anything that begins -/
theorem meets_enum1 {v : Value} {o : Obj} {Hb : Heap → Prop} (B : Begins v o Hb) :
    Meets (Builtin.«enumerate.__new__» ⟨[.type "enumerate", v], []⟩) (fun _ R s => Hb s.heap ∧
      R (.ok (.ret (.ref (s.heap.push o).objs.size))) { s with heap := (s.heap.push o).push { cls := .type "enumerate", data := .fields #[.none, .bool false, .ref s.heap.objs.size, rawInt 0, .none, .none] } }) :=
  .of_wp fun prog w A R s h => by
    obtain ⟨hp, g, d, tk, os⟩ := s; obtain ⟨h1, h⟩ := h
    have hsub := sub_enumerate
    have q1 : ∀ {A' : Around} {E : Value → Shared → Prop} {Q : Value → Shared → Prop}, Q (.ref hp.objs.size) ⟨hp.push o, g, d, tk, os⟩ → wpAny (model prog w) A' (pyIter v) Q E ⟨hp, g, d, tk, os⟩ :=
      fun q => B.iter prog w _ _ ⟨hp, g, d, tk, os⟩ _ h1 q
    wp_walk using q1
    refine wpAny_stack_any fun st => wpAny_pure ?_
    split
    · rename_i c _ _ _ _ _
      cases (c == Value.type "enumerate") <;> (wp_walk using q1; exact ⟨_, rfl, h⟩)
    · wp_walk using q1
      exact ⟨_, rfl, h⟩
theorem enum_begins1 {prog : Program} {w : World} {A : Around} {E : Value → Shared → Prop} {s : Shared} {v : Value} {o : Obj} {Hb : Heap → Prop} {Q : Value → Shared → Prop} (B : Begins v o Hb) (h1 : Hb s.heap)
    (h : ∀ h', IsEnum h' (s.heap.objs.size + 1) s.heap.objs.size 0 .none → h'.get? s.heap.objs.size = some o → h'.objs.size = s.heap.objs.size + 2 → (∀ b o, s.heap.get? b = some o → h'.get? b = some o) → Q (.ref (s.heap.objs.size + 1)) { s with heap := h' }) :
    wpAny (model prog w) A (call (.type "enumerate") [v]) Q E s := by
  refine callType_new F.called_enumerate (by decide) (F.typeCall_enumerate_1 _) (F.newCall_enumerate_1 _) (fun obj => F.args_object_init_2 obj _) F.entry_enumerate_new (meets_enum1 B) ⟨h1, ?_⟩
  have hz : (s.heap.push o).objs.size = s.heap.objs.size + 1 := Heap.size_push ..
  show _ ∧ _
  rw [hz]
  have he := Heap.get?_push_size (s.heap.push o) (o := { cls := .type "enumerate", data := .fields #[.none, .bool false, .ref s.heap.objs.size, rawInt 0, .none, .none] }) rfl
  rw [hz] at he
  exact ⟨⟨_, he, rfl⟩, h _ he (Heap.get?_push_of_some _ (Heap.get?_push_size _ B.free)) (by rw [Heap.size_push, hz]) fun b o x => Heap.get?_push_of_some _ (Heap.get?_push_of_some _ x)⟩

inductive Src where
  | l (a : Addr) | t (a : Addr) | s (x : Str) (tk : Tok)
def Src.fp : Src → Addr → List Addr
  | .l a, it => [it, a]
  | .t a, it => [it, a]
  | .s _ _, it => [it]
def Src.rd (K : PySem.W.Frag) (H : Hp) : Src → List V → Prop
  | .l a, xs => SqL K H a xs
  | .t a, xs => SqT K H a xs
  | .s x _, xs => xs = x.cps.toList.map fun c => V.str ⟨#[c]⟩
def Src.at_ : Src → Addr → Nat → Heap → Prop
  | .l a, it, i, h => h.IsListIter it a i
  | .t a, it, i, h => h.IsTupleIter it a i
  | .s x tk, it, i, h => h.IsStrIter it (strIterType x) x tk i
def Src.val : Src → Value
  | .l a => .ref a
  | .t a => .ref a
  | .s x tk => .str x tk
/-- the source is none of these -/
def Src.off : Src → List Addr → Prop
  | .l a, fs => a ∉ fs
  | .t a, fs => a ∉ fs
  | .s _ _, _ => True
theorem Src.off.fp {S : Src} {fs : List Addr} {it b : Addr} (h : S.off fs) (hb : b ∈ fs) (hne : b ≠ it) : b ∉ S.fp it := by
  cases S with
  | l a =>
    intro q
    have e : b = it ∨ b = a := by simpa [Src.fp] using q
    rcases e with e | e
    · exact hne e
    · subst e; exact h hb
  | t a =>
    intro q
    have e : b = it ∨ b = a := by simpa [Src.fp] using q
    rcases e with e | e
    · exact hne e
    · subst e; exact h hb
  | s x t =>
    intro q
    have e : b = it := by simpa [Src.fp] using q
    exact hne e
theorem Src.mem_fp {S : Src} {it : Addr} : it ∈ S.fp it := by cases S <;> simp [Src.fp]
theorem Src.at_obj {S : Src} {it : Addr} {i : Nat} {h : Heap} (q : S.at_ it i h) : ∃ o, h.get? it = some o ∧ ∀ v, o.data ≠ .cell v := by
  cases S with
  | l a => obtain ⟨o, ho, hc, hd⟩ := q; exact ⟨o, ho, fun v q => by rw [hd] at q; cases q⟩
  | t a => obtain ⟨o, ho, hc, hd⟩ := q; exact ⟨o, ho, fun v q => by rw [hd] at q; cases q⟩
  | s x t => obtain ⟨o, ho, hc, hd⟩ := q; exact ⟨o, ho, fun v q => by rw [hd] at q; cases q⟩
theorem Src.at_keep {S : Src} {it : Addr} {i : Nat} {h h' : Heap} (q : S.at_ it i h) (k : ∀ o, h.get? it = some o → h'.get? it = some o) : S.at_ it i h' := by
  cases S with
  | l a => obtain ⟨o, ho, z⟩ := q; exact ⟨o, k o ho, z⟩
  | t a => obtain ⟨o, ho, z⟩ := q; exact ⟨o, k o ho, z⟩
  | s x t => obtain ⟨o, ho, z⟩ := q; exact ⟨o, k o ho, z⟩
section
variable {X : Cx} {pins : List (Addr × Obj)} {σ : L2.St} {H : Hp} {s : Shared}
theorem Src.inj {S : Src} (I : Inv X pins σ H s) {xs ys : List V} (h : S.rd X.K H xs) (h' : S.rd X.K H ys) : xs = ys := by
  cases S with
  | l a => exact I.list_inj h h'
  | t a => exact I.tuple_inj h h'
  | s x t => exact h.trans h'.symm
theorem Src.draws {S : Src} (I : Inv X pins σ H s) {xs : List V} (h : S.rd X.K H xs) (hc : X.A.in1.handled = none) {it : Addr} {i : Nat} (hat : S.at_ it i s.heap) (ho : S.off [it]) :
    ∃ (P : Nat → Value → Prop) (St : Nat → Heap → Prop), Draws X.prog X.w X.A.in1 it (S.fp it) xs.length P St ∧ St i s.heap ∧ (∀ j v, P j v → ∃ x, xs[j]? = some x ∧ RelV x v) ∧ ∀ j h', St j h' → S.at_ it j h' := by
  cases S with
  | l a =>
    obtain ⟨its, rv, p, _⟩ := I.list h
    have e : its.toArray.size = xs.length := by simp [rv.length]
    refine ⟨_, _, e ▸ Draws.list hc it a (fun z => ho (by simp [z])) its.toArray, ⟨hat, p.isList⟩, fun j v q => ?_, fun j h' q => q.1⟩
    have q' : its[j]? = some v := by simpa using q
    exact all2_getR rv q'
  | t a =>
    obtain ⟨its, rv, p, _⟩ := I.tuple h
    have e : its.toArray.size = xs.length := by simp [rv.length]
    refine ⟨_, _, e ▸ Draws.tuple hc it a (fun z => ho (by simp [z])) its.toArray, ⟨hat, p⟩, fun j v q => ?_, fun j h' q => q.1⟩
    have q' : its[j]? = some v := by simpa using q
    exact all2_getR rv q'
  | s x t =>
    have h' : xs = x.cps.toList.map fun c => V.str ⟨#[c]⟩ := h
    subst h'
    have e : x.cps.size = (x.cps.toList.map fun c => V.str ⟨#[c]⟩).length := by simp
    refine ⟨_, _, e ▸ Draws.text hc it x t, hat, fun j v q => ?_, fun j h' q => q⟩
    obtain ⟨c, u, h1, rfl⟩ := q
    exact ⟨.str ⟨#[c]⟩, by simp [h1], u, rfl⟩
where
  all2_getR {xs : List V} {us : List Value} (r : Vals xs us) {j : Nat} {v : Value} (h : us[j]? = some v) : ∃ x, xs[j]? = some x ∧ RelV x v := by
    induction r generalizing j with
    | nil => simp at h
    | cons q t ih => cases j with
      | zero => simp at h; subst h; exact ⟨_, rfl, q⟩
      | succ j => obtain ⟨x, h1, h2⟩ := ih (by simpa using h); exact ⟨x, by simpa using h1, h2⟩
end
/-- enumerate(..) -/
def Ie (K : PySem.W.Frag) (S : Src) : It :=
  ⟨fun i H => ∃ (xs : List V) (x : V), S.rd K H xs ∧ xs[i]? = some x, fun i H v H' => ∃ T x, v = .ref T ∧ H T = none ∧ H' = upd H T (.tup [.int (i : Nat), x]) ∧ ∀ xs, S.rd K H xs → xs[i]? = some x, fun i H => ∃ xs : List V, S.rd K H xs ∧ xs.length = i⟩
theorem turn_en {P : Program} {w : World} {K : PySem.W.Frag} {elts : List Expr} {kk : Nat} {tpos : Pos} (S : Src) (e it : Addr) (hoff : S.off [e, it]) :
    Turn P w K (.Tuple elts kk tpos) (Ie K S) [e, it] e (fun i h => (∃ old, IsEnum h e it ((i : Nat) : Int) old) ∧ S.at_ it i h ∧ e ≠ it) where
  mem := by simp
  obj := fun i h st b hb => by
    obtain ⟨⟨old, he⟩, hit, _⟩ := st
    have e' : b = e ∨ b = it := by simpa using hb
    rcases e' with z | z
    · rw [z]; exact ⟨_, he, fun v q => nomatch q⟩
    · rw [z]; exact Src.at_obj hit
  keep := fun i h h' st k => let ⟨⟨old, he⟩, hi, hne⟩ := st; ⟨⟨old, k e (by simp) _ he⟩, Src.at_keep hi fun o q => k it (by simp) o q, hne⟩
  item := by
    intro X hP hw hK hc i pins s σ H E I hf st hg
    subst hP hw hK
    obtain ⟨⟨old, he⟩, hit, hne⟩ := st
    obtain ⟨xs, x, hq, hx⟩ := hg
    have ho1 : S.off [it] := by cases S <;> simp_all [Src.off]
    obtain ⟨Pv, St, D, hst, hPv, hAt⟩ := Src.draws I hq (I.ok.hd hc) hit ho1
    have hel : e < s.heap.objs.size := Heap.lt_size he
    have hil : it < s.heap.objs.size := by obtain ⟨_, q, _⟩ := Src.at_obj hit; exact Heap.lt_size q
    have hlt : i < xs.length := (List.getElem?_eq_some_iff.mp hx).1
    have hef : e ∉ S.fp it := hoff.fp (by simp) hne
    refine wpAny_pyNext_enum_itemC D he hst hlt hne hef fun u h' tk hPu ho hs' hT hsz hk => ?_
    obtain ⟨x', hx', ru⟩ := hPv i u hPu
    rw [hx] at hx'; cases hx'
    refine ⟨_, rfl, wpAny_letOwnedTupleGo_enum (s := { s with heap := h', toks := tk + 1 }) ho fun h'' he' sb => ?_⟩
    have hT2 : h''.get? s.heap.objs.size = some { cls := .type "tuple", data := .seq #[.int i tk, u] } := (sb.2 _ (Nat.ne_of_gt hel)).trans hT
    have new : ObjOk X.prog X.w (upd H s.heap.objs.size (.tup [.int (i : Nat), x])) h'' s.heap.objs.size (.tup [.int (i : Nat), x]) :=
      ⟨by show 2 ≤ sizeLine; decide, [.int i tk, u], .cons ⟨_, rfl⟩ (.cons ru .nil), ⟨_, hT2, rfl, _, rfl⟩⟩
    have I1 : Inv X pins σ (upd H s.heap.objs.size (.tup [.int (i : Nat), x])) { s with heap := h'', toks := tk + 1 } :=
      I.turnedNew (ch := [e, it]) (fun b ob hb q => (sb.2 b (fun z => hb (by simp [z]))).trans (hk b ob (fun z => hb (by simp [z])) (fun z => hb (by simp [z])) q)) hf (Nat.le_refl _) new
    refine ⟨.ref s.heap.objs.size, _, I1, rfl, ⟨_, x, rfl, I.hok.fresh (Nat.le_refl _), rfl, fun ys hy => by rw [Src.inj I hy hq]; exact hx⟩, ⟨⟨u, ?_⟩, Src.at_keep (hAt _ _ hs') fun o q => (sb.2 it (Ne.symm hne)).trans q, hne⟩, fun b hb => ?_⟩
    · have e1 : ((i + 1 : Nat) : Int) = (i : Int) + 1 := by omega
      rw [e1]; exact he'
    · have hb' : b < s.heap.objs.size := by
        have e' : b = e ∨ b = it := by simpa using hb
        rcases e' with z | z
        · rw [z]; exact hel
        · rw [z]; exact hil
      rw [upd_ne (Nat.ne_of_lt hb')]
      exact (hf b hb).1
  done := by
    intro X hP hw hK hc i pins s σ H E I hf st hg
    subst hP hw hK
    obtain ⟨⟨old, he⟩, hit, hne⟩ := st
    obtain ⟨xs, hq, hx⟩ := hg
    subst hx
    have ho1 : S.off [it] := by cases S <;> simp_all [Src.off]
    obtain ⟨Pv, St, D, hst, hPv, hAt⟩ := Src.draws I hq (I.ok.hd hc) hit ho1
    obtain ⟨f0, f1, f2, f3, f4, f5⟩ := hf it (by simp)
    exact wpAny_pyNext_enum_endD D he hst fun h' eb => ⟨rfl, I.turned (t' := s.toks) (fun b o hb q => eb b o hb q) f0 f1 f3 f4 f5⟩
  self := fun A i s Q E st h => let ⟨⟨_, he⟩, _⟩ := st; wpAny_pyIter_enum he h
/-- zip(.., ..) -/
def Iz (K : PySem.W.Frag) (S1 S2 : Src) : It :=
  ⟨fun i H => ∃ (xs ys : List V) (x y : V), S1.rd K H xs ∧ S2.rd K H ys ∧ xs[i]? = some x ∧ ys[i]? = some y,
    fun i H v H' => ∃ T x y, v = .ref T ∧ H T = none ∧ H' = upd H T (.tup [x, y]) ∧ (∀ xs, S1.rd K H xs → xs[i]? = some x) ∧ ∀ ys, S2.rd K H ys → ys[i]? = some y,
    fun i H => ∃ xs ys : List V, S1.rd K H xs ∧ S2.rd K H ys ∧ i = min xs.length ys.length⟩
theorem turn_zi {P : Program} {w : World} {K : PySem.W.Frag} {elts : List Expr} {kk : Nat} {tpos : Pos} (S1 S2 : Src) (z TI TO i1 i2 : Addr) (D : ZipSep2 z TI TO i1 i2 (S1.fp i1) (S2.fp i2)) (h1 : S1.off [i1]) (h2 : S2.off [i2]) :
    Turn P w K (.Tuple elts kk tpos) (Iz K S1 S2) [z, TI, TO, i1, i2] z (fun i h => IsZip h z TI TO .none ∧ IsTupOf2 h TI (.ref i1) (.ref i2) ∧ (∃ x y, IsTupOf2 h TO x y) ∧ S1.at_ i1 i h ∧ S2.at_ i2 i h) where
  mem := by simp
  obj := fun i h st c hc => by
    obtain ⟨hz, hTI, ⟨x, y, hTO⟩, e1, e2⟩ := st
    have e' : c = z ∨ c = TI ∨ c = TO ∨ c = i1 ∨ c = i2 := by simpa using hc
    rcases e' with q | q | q | q | q
    · rw [q]; exact ⟨_, hz, fun v q => nomatch q⟩
    · rw [q]; exact ⟨_, hTI, fun v q => nomatch q⟩
    · rw [q]; exact ⟨_, hTO, fun v q => nomatch q⟩
    · rw [q]; exact Src.at_obj e1
    · rw [q]; exact Src.at_obj e2
  keep := fun i h h' st k => by
    obtain ⟨hz, hTI, ⟨x, y, hTO⟩, h1, h2⟩ := st
    exact ⟨k z (by simp) _ hz, k TI (by simp) _ hTI, ⟨x, y, k TO (by simp) _ hTO⟩, Src.at_keep h1 fun o q => k i1 (by simp) o q, Src.at_keep h2 fun o q => k i2 (by simp) o q⟩
  item := by
    intro X hP hw hK hc i pins s σ H E I hf st hg
    subst hP hw hK
    obtain ⟨hz, hTI, ⟨x0, y0, hTO⟩, a1, a2⟩ := st
    obtain ⟨xs, ys, x, y, hqx, hqy, hx, hy⟩ := hg
    obtain ⟨P1, St1, D1, hst1, hP1, hA1⟩ := Src.draws I hqx (I.ok.hd hc) a1 h1
    obtain ⟨P2, St2, D2, hst2, hP2, hA2⟩ := Src.draws I hqy (I.ok.hd hc) a2 h2
    have hzl : z < s.heap.objs.size := Heap.lt_size hz
    refine wpAny_pyNext_zipD2_item D D1 D2 hz hTI hTO hst1 hst2 (List.getElem?_eq_some_iff.mp hx).1 (List.getElem?_eq_some_iff.mp hy).1 fun u u2 h' tk p1 p2 z' TO' s1' s2' hT hsz hk => ?_
    obtain ⟨x', hx', ru⟩ := hP1 i u p1
    obtain ⟨y', hy', ru2⟩ := hP2 i u2 p2
    rw [hx] at hx'; cases hx'
    rw [hy] at hy'; cases hy'
    refine ⟨_, rfl, wpAny_letOwnedTupleGo_zip (s := { s with heap := h', toks := tk }) z' fun h'' z'' sb => ?_⟩
    have hT2 : h''.get? s.heap.objs.size = some { cls := .type "tuple", data := .seq #[u, u2] } := (sb.2 _ (Nat.ne_of_gt hzl)).trans hT
    have new : ObjOk X.prog X.w (upd H s.heap.objs.size (.tup [x, y])) h'' s.heap.objs.size (.tup [x, y]) :=
      ⟨by show 2 ≤ sizeLine; decide, [u, u2], .cons ru (.cons ru2 .nil), ⟨_, hT2, rfl, _, rfl⟩⟩
    have I1 : Inv X pins σ (upd H s.heap.objs.size (.tup [x, y])) { s with heap := h'', toks := tk } :=
      I.turnedNew (t' := tk) (ch := [z, TI, TO, i1, i2]) (fun c o hb q => (sb.2 c (fun q' => hb (by simp [q']))).trans (hk c o (fun q' => hb (by simp [q'])) (fun q' => hb (by simp [q'])) (fun q' => hb (by simp [q'])) (fun q' => hb (by simp [q'])) q)) hf (Nat.le_refl _) new
    refine ⟨.ref s.heap.objs.size, _, I1, rfl, ⟨_, x, y, rfl, I.hok.fresh (Nat.le_refl _), rfl, fun l hl => by rw [Src.inj I hl hqx]; exact hx, fun l hl => by rw [Src.inj I hl hqy]; exact hy⟩, ⟨z'', ?_, ⟨u, u2, ?_⟩, ?_, ?_⟩, fun c hcm => ?_⟩
    · exact (sb.2 _ D.TIz).trans (hk _ _ D.TIz D.TITO D.TIi1 D.TIi2 hTI)
    · exact (sb.2 _ D.TOz).trans TO'
    · exact Src.at_keep (hA1 _ _ s1') fun o q => (sb.2 _ D.zi1.symm).trans q
    · exact Src.at_keep (hA2 _ _ s2') fun o q => (sb.2 _ D.zi2.symm).trans q
    · have hlt : c < s.heap.objs.size := by
        have e' : c = z ∨ c = TI ∨ c = TO ∨ c = i1 ∨ c = i2 := by simpa using hcm
        rcases e' with q | q | q | q | q
        · rw [q]; exact hzl
        · rw [q]; exact Heap.lt_size hTI
        · rw [q]; exact Heap.lt_size hTO
        · rw [q]; obtain ⟨_, e1, _⟩ := Src.at_obj a1; exact Heap.lt_size e1
        · rw [q]; obtain ⟨_, e2, _⟩ := Src.at_obj a2; exact Heap.lt_size e2
      rw [upd_ne (Nat.ne_of_lt hlt)]
      exact (hf c hcm).1
  done := by
    intro X hP hw hK hc i pins s σ H E I hf st hg
    subst hP hw hK
    obtain ⟨hz, hTI, ⟨x0, y0, hTO⟩, a1, a2⟩ := st
    obtain ⟨xs, ys, hqx, hqy, hend⟩ := hg
    obtain ⟨P1, St1, D1, hst1, hP1, hA1⟩ := Src.draws I hqx (I.ok.hd hc) a1 h1
    obtain ⟨P2, St2, D2, hst2, hP2, hA2⟩ := Src.draws I hqy (I.ok.hd hc) a2 h2
    exact wpAny_pyNext_zipD2_end D D1 D2 hz hTI hTO hst1 hst2 (by omega) (by omega) (by omega) fun h' tk hk => ⟨rfl, I.turnedL (t' := tk) (ch := [z, TI, TO, i1, i2]) (fun c o hb q =>
      hk c o (fun q' => hb (by simp [q'])) (fun q' => hb (by simp [q'])) (fun q' => hb (by simp [q'])) (fun q' => hb (by simp [q'])) q) hf⟩
  self := fun A i s Q E st h => wpAny_pyIter_zip st.1 h
/-! ### as iterables -/
def SrcFor (K : PySem.W.Frag) (H : Hp) (v : V) (xs : List V) (φ : Src → Prop) : Prop :=
  (∃ a, v = .ref a ∧ SqL K H a xs ∧ (xs.length ≤ sizeLine → φ (.l a))) ∨ (∃ a, v = .ref a ∧ SqT K H a xs ∧ (xs.length ≤ sizeLine → φ (.t a))) ∨ ∃ x, v = .str x ∧ (xs = x.cps.toList.map fun c => V.str ⟨#[c]⟩) ∧ ∀ tk, φ (.s x tk)
def Src.below : Src → Nat → Prop
  | .l a, n => a < n
  | .t a, n => a < n
  | .s _ _, _ => True
theorem Src.below.off {S : Src} {n : Nat} {fs : List Addr} (h : S.below n) (hf : ∀ b ∈ fs, n ≤ b) : S.off fs := by
  cases S with
  | l a => exact fun z => absurd h (Nat.not_lt.mpr (hf a z))
  | t a => exact fun z => absurd h (Nat.not_lt.mpr (hf a z))
  | s _ _ => trivial
theorem Src.below.fp {S : Src} {n : Nat} {it : Addr} (h : S.below n) : ∃ fp, S.fp it = it :: fp ∧ ∀ b ∈ fp, b < n := by
  cases S with
  | l a => exact ⟨[a], rfl, fun b hb => by have e : b = a := by simpa using hb
                                           subst e; exact h⟩
  | t a => exact ⟨[a], rfl, fun b hb => by have e : b = a := by simpa using hb
                                           subst e; exact h⟩
  | s _ _ => exact ⟨[], rfl, fun b hb => by cases hb⟩
section
variable {X : Cx} {pins : List (Addr × Obj)} {σ : L2.St} {H : Hp} {s : Shared}
theorem src_start {v : V} {u : Value} {xs : List V} {φ : Src → Prop} (I : Inv X pins σ H s) (r : RelV v u) (h : SrcFor X.K H v xs φ) :
    ∃ (S : Src) (o : Obj) (Hb : Heap → Prop), φ S ∧ S.rd X.K H xs ∧ S.below s.heap.objs.size ∧ Begins u o Hb ∧ Hb s.heap ∧ ∀ it h', h'.get? it = some o → S.at_ it 0 h' := by
  rcases h with ⟨a, rfl, hq, q⟩ | ⟨a, rfl, hq, q⟩ | ⟨x, rfl, hq, q⟩
  · cases r
    obtain ⟨its, rv, p, hz⟩ := I.list hq
    exact ⟨.l a, _, _, q hz, hq, p.lt, begins_list a its.toArray, p.isList, fun it h' e => ⟨_, e, rfl, rfl⟩⟩
  · cases r
    obtain ⟨its, rv, p, hz⟩ := I.tuple hq
    exact ⟨.t a, _, _, q hz, hq, p.lt, begins_tuple a its.toArray, p, fun it h' e => ⟨_, e, rfl, rfl⟩⟩
  · obtain ⟨t, rfl⟩ := r
    exact ⟨.s x t, _, _, q t, hq, trivial, begins_text x t, trivial, fun it h' e => ⟨_, e, rfl, rfl⟩⟩
end
def iEn (K : PySem.W.Frag) (ta : TA) : TI := fun σ H R => ta σ H fun vs H1 => ∃ v xs, vs = [v] ∧ SrcFor K H1 v xs fun S => R (Ie K S) H1
def iZn (K : PySem.W.Frag) (ta : TA) : TI := fun σ H R => ta σ H fun vs H1 => ∃ v1 v2 xs ys, vs = [v1, v2] ∧ SrcFor K H1 v1 xs fun S1 => SrcFor K H1 v2 ys fun S2 => R (Iz K S1 S2) H1
section
variable {X : Cx} {K : PySem.W.Frag}
theorem boot_zero {n : Nat} : ((0 : Nat) : Int) = 0 := rfl
theorem pi_en {e : Expr} {ta : TA} {p pos tpos : Pos} {elts : List Expr} {kk : Nat} (hg : Gl X "enumerate") (hm : X.mg "enumerate" = none) (ha : PA X [e] ta) (hs : starEach [e] X.env = [(false, eval e X.env)] := by rfl) (hK : X.K = K := by rfl) :
    PI X (.Tuple elts kk tpos) (.Call (.Name "enumerate" p) [e] [] pos) (iEn K ta) := by
  subst hK
  refine ⟨fun pins s σ H R I h => ?_⟩
  refine Call_ (ld_blt I hg hm boot_enumerate (PyProof.Rows.callWith_type1 (thn (ha.run pos pins s σ H _ I h) fun us s1 ⟨vs, H1, I1, r1, q1⟩ => ?_) hs rfl))
  obtain ⟨v, xs, ex, q1⟩ := q1
  subst ex
  cases r1 with
  | cons r rr =>
    cases rr
    obtain ⟨S, o, Hb, q, hrd, hbl, B, hHb, hat⟩ := src_start I1 r q1
    refine enum_begins1 B hHb fun h' he hit hsz hk => wpAny_pyIter_enum he ?_
    have I2 : Inv X pins σ H1 { s1 with heap := h' } := I1.kept (t' := s1.toks) hk
    have hoff : S.off [s1.heap.objs.size + 1, s1.heap.objs.size] := hbl.off fun b hb => by
      have e' : b = s1.heap.objs.size + 1 ∨ b = s1.heap.objs.size := by simpa using hb
      rcases e' with z | z
      · rw [z]; exact Nat.le_add_right _ _
      · rw [z]; exact Nat.le_refl _
    refine ⟨s1.heap.objs.size + 1, [s1.heap.objs.size + 1, s1.heap.objs.size], _, _, H1, rfl, I2, turn_en S (s1.heap.objs.size + 1) s1.heap.objs.size hoff, ⟨⟨.none, he⟩, hat _ _ hit, Nat.succ_ne_self _⟩, fun b hb => ?_, q⟩
    have e' : b = s1.heap.objs.size + 1 ∨ b = s1.heap.objs.size := by simpa using hb
    have hle : s1.heap.objs.size ≤ b := by
      rcases e' with z | z
      · rw [z]; exact Nat.le_add_right _ _
      · rw [z]; exact Nat.le_refl _
    exact I1.fpOk hle (I1.hok.fresh hle)
theorem pi_zn {e e2 : Expr} {ta : TA} {p pos tpos : Pos} {elts : List Expr} {kk : Nat} (hg : Gl X "zip") (hm : X.mg "zip" = none) (ha : PA X [e, e2] ta)
    (hs : starEach [e, e2] X.env = (false, eval e X.env) :: starEach [e2] X.env := by rfl) (hpl : (backTo pos (starEach [e2] X.env)).any (·.1) = false := by rfl) (hK : X.K = K := by rfl) :
    PI X (.Tuple elts kk tpos) (.Call (.Name "zip" p) [e, e2] [] pos) (iZn K ta) := by
  subst hK
  refine ⟨fun pins s σ H R I h => ?_⟩
  refine Call_ (ld_blt I hg hm PyProof.Rows.boot_zip (PyProof.Rows.callWith_type1 (thn (ha.run pos pins s σ H _ I h) fun us s1 ⟨vs, H1, I1, r1, q1⟩ => ?_) hs hpl))
  obtain ⟨v1, v2, xs, ys, ex, q1⟩ := q1
  subst ex
  cases r1 with
  | cons r rr =>
    cases rr with
    | cons r' rr =>
      cases rr
      obtain ⟨S1, o1, Hb1, q1, hrd1, hbl1, B1, hHb1, hat1⟩ := src_start I1 r q1
      obtain ⟨S2, o2, Hb2, q2, hrd2, hbl2, B2, hHb2, hat2⟩ := src_start I1 r' q1
      refine zip_begins2 B1 B2 hHb1 hHb2 fun h' hz hTI hTO g1 g2 hsz hk => wpAny_pyIter_zip hz ?_
      have I2 : Inv X pins σ H1 { s1 with heap := h' } := I1.kept (t' := s1.toks) hk
      obtain ⟨f1, e1, b1⟩ := hbl1.fp (it := s1.heap.objs.size)
      obtain ⟨f2, e2, b2⟩ := hbl2.fp (it := s1.heap.objs.size + 1)
      have D : ZipSep2 (s1.heap.objs.size + 4) (s1.heap.objs.size + 2) (s1.heap.objs.size + 3) s1.heap.objs.size (s1.heap.objs.size + 1) (S1.fp s1.heap.objs.size) (S2.fp (s1.heap.objs.size + 1)) := by
        rw [e1, e2]
        exact zip_sep2 b1 b2
      have o1' : S1.off [s1.heap.objs.size] := hbl1.off fun b hb => by
        have e' : b = s1.heap.objs.size := by simpa using hb
        rw [e']; exact Nat.le_refl _
      have o2' : S2.off [s1.heap.objs.size + 1] := hbl2.off fun b hb => by
        have e' : b = s1.heap.objs.size + 1 := by simpa using hb
        rw [e']; exact Nat.le_add_right _ _
      refine ⟨s1.heap.objs.size + 4, [s1.heap.objs.size + 4, s1.heap.objs.size + 2, s1.heap.objs.size + 3, s1.heap.objs.size, s1.heap.objs.size + 1], _, _, H1, rfl, I2, turn_zi S1 S2 _ _ _ _ _ D o1' o2', ⟨hz, hTI, ⟨_, _, hTO⟩, hat1 _ _ g1, hat2 _ _ g2⟩, fun c hcm => ?_, q2⟩
      have e' : c = s1.heap.objs.size + 4 ∨ c = s1.heap.objs.size + 2 ∨ c = s1.heap.objs.size + 3 ∨ c = s1.heap.objs.size ∨ c = s1.heap.objs.size + 1 := by simpa using hcm
      have hle : s1.heap.objs.size ≤ c := by
        rcases e' with z | z | z | z | z
        · rw [z]; exact Nat.le_add_right _ _
        · rw [z]; exact Nat.le_add_right _ _
        · rw [z]; exact Nat.le_add_right _ _
        · rw [z]; exact Nat.le_refl _
        · rw [z]; exact Nat.le_add_right _ _
      exact I1.fpOk hle (I1.hok.fresh hle)
end
end EB

set_option Elab.async false
set_option linter.all false
set_option maxRecDepth 100000
set_option maxHeartbeats 4000000
/-! EB: enumerate and zip, typed. -/
namespace EB
open PySem PySem.Spec PyProof.Rows L2
def enL {α : Type} (xs : List α) : List (Int × α) := (rng 0 xs.length).zip xs
theorem enL_len {α : Type} {xs : List α} : (enL xs).length = xs.length := by simp [enL, rng_len]
theorem enL_get {α : Type} {xs : List α} {i : Nat} {x : α} (h : xs[i]? = some x) : (enL xs)[i]? = some ((i : Int), x) := by
  have hi := (List.getElem?_eq_some_iff.mp h).1
  unfold enL
  rw [List.getElem?_zip_eq_some]
  refine ⟨?_, h⟩
  rw [rng_get hi]; simp
theorem mem_enL {α : Type} {xs : List α} {p : Int × α} (h : p ∈ enL xs) : 0 ≤ p.1 ∧ p.1 < (xs.length : Int) ∧ xs[p.1.toNat]? = some p.2 := by
  obtain ⟨i, hi⟩ := List.mem_iff_getElem?.mp h
  have hl := (List.getElem?_eq_some_iff.mp hi).1
  rw [enL_len] at hl
  have e := enL_get (List.getElem?_eq_getElem hl)
  rw [hi] at e
  cases e
  exact ⟨Int.natCast_nonneg _, by simpa using hl, by simp [List.getElem?_eq_getElem hl]⟩
/-- what may be gone through by places -/
class Sq {β : Type} {α : outParam Type} (q : Rp β) (s : outParam (Rp α)) (f : outParam (β → List α)) : Prop where
  mo : Mo s
  sq : ∀ {K T H v b}, q K T H v b → ∃ vs, All2 (s K T H) vs (f b) ∧ ((∃ a, v = .ref a ∧ SL K T H a vs) ∨ (∃ a, v = .ref a ∧ ST K T H a vs) ∨ ∃ x, v = .str x ∧ (vs = x.cps.toList.map fun c => V.str ⟨#[c]⟩) ∧ vs.length ≤ 100000)
instance {α : Type} {r : Rp α} [m : Mo r] : Sq (zL r) r (fun xs => xs) := ⟨m, fun ⟨a, vs, e, h, q⟩ => ⟨vs, q, .inl ⟨a, e, h⟩⟩⟩
instance {α : Type} {r : Rp α} [m : Mo r] : Sq (zU r) r (fun xs => xs) := ⟨m, fun ⟨a, vs, e, h, q⟩ => ⟨vs, q, .inr (.inl ⟨a, e, h⟩)⟩⟩
instance {α : Type} {r : Rp α} [m : Mo r] : Sq (zQ r) r (fun xs => xs) := ⟨m, fun h => h.elim (fun ⟨a, vs, e, h, q⟩ => ⟨vs, q, .inl ⟨a, e, h⟩⟩) fun ⟨a, vs, e, h, q⟩ => ⟨vs, q, .inr (.inl ⟨a, e, h⟩)⟩⟩
instance : Sq zW zW (fun w => w.map fun b => [b]) := ⟨inferInstance, fun {K T H v b} ⟨e, hl⟩ => ⟨(wS b).cps.toList.map fun c => V.str ⟨#[c]⟩, by
  have : (wS b).cps.toList = b.map sgn := by simp [wS]
  rw [this, List.map_map]
  exact all2_map _ _ (fun c => ⟨rfl, by simp⟩) b, .inr (.inr ⟨wS b, e, rfl, by simp [wS]; omega⟩)⟩⟩
section
variable {K : PySem.W.Frag} {T : AS} {σ : L2.St} {H : Hp} {α β γ δ : Type} {q : Rp β} {s : Rp α} {f : β → List α} {q' : Rp δ} {s' : Rp γ} {f' : δ → List γ} {te te' : TE}
theorem src_of {v : V} {vs : List V} {φ : Src → Prop} (h : (∃ a, v = .ref a ∧ SL K T H a vs) ∨ (∃ a, v = .ref a ∧ ST K T H a vs) ∨ ∃ x, v = .str x ∧ (vs = x.cps.toList.map fun c => V.str ⟨#[c]⟩) ∧ vs.length ≤ 100000)
    (k : ∀ S, vs.length ≤ sizeLine → (∀ H', Fr T H H' → S.rd K H' vs) → φ S) : SrcFor K H v vs φ := by
  rcases h with ⟨a, e, h⟩ | ⟨a, e, h⟩ | ⟨x, e, e2, hl⟩
  · exact .inl ⟨a, e, h.sq, fun hz => k _ hz fun H' fr => (h.fr fr).sq⟩
  · exact .inr (.inl ⟨a, e, h.sq, fun hz => k _ hz fun H' fr => (h.fr fr).sq⟩)
  · exact .inr (.inr ⟨x, e, e2, fun tk => k _ (by rw [sizeLine_eq]; omega) fun H' _ => e2⟩)
theorem pair_new {r : Rp α} {r' : Rp γ} [Mo r] [Mo r'] {H' : Hp} {p : Addr} {x y : V} {a : α} {c : γ} {T' : AS} (hp : H' p = none) (hT : TD T' H') (h1 : r K T' H' x a) (h2 : r' K T' H' y c) : zP r r' K T' (upd H' p (.tup [x, y])) (.ref p) (a, c) :=
  ⟨p, x, y, rfl, .new (hT.new hp) upd_same, Mo.fr (Ex.new hp).fr h1, Mo.fr (Ex.new hp).fr h2⟩
theorem ei_en [m : Sq q s f] {b : β} (h : Ev K T te σ H q b) : EvI K T (iEn K (tCons te tNil)) σ H (zP zI s) (enL (f b)) := fun H1 fr R k => h H1 fr _ fun v H2 e2 r2 => by
  have := m.mo
  obtain ⟨vs, ha, hs⟩ := m.sq r2
  refine ⟨v, vs, rfl, src_of hs fun S hz hrd => k _ H2 e2 ⟨⟨vs.length, fun H => S.rd K H vs, YPair (fun i => some (.int (i : Nat))) (fun i => vs[i]?), by rw [enL_len, all2_len ha], ?_, hrd, ?_⟩, ?_⟩⟩
  · refine ⟨fun i H hi g => ⟨vs, vs[i], g, by simp [hi]⟩, fun H g => ⟨vs, g, rfl⟩, fun i H v H' hi g y => ?_⟩
    obtain ⟨t, x, h1, h2, h3, h4⟩ := y
    exact ⟨t, _, x, h1, h2, h3, rfl, h4 vs g⟩
  · intro i H' v H'' hi fr' ⟨p, x, y, e1, hp, e2, hx, hy⟩
    subst e1 e2
    cases hx
    obtain ⟨d, hd, hr⟩ := all2_getL ha hy
    exact ⟨Ex.new hp, _, enL_get hd, fun T' hT' tr => pair_new hp hT' rfl (tr.ap hr)⟩
  · rw [enL_len, ← all2_len ha]; exact hz
theorem ei_zn [m : Sq q s f] [m' : Sq q' s' f'] [Mo q] {b : β} {d : δ} (h : Ev K T te σ H q b) (h' : Ev K T te' σ H q' d) : EvI K T (iZn K (tCons te (tCons te' tNil))) σ H (zP s s') ((f b).zip (f' d)) := fun H1 fr R k => h H1 fr _ fun v H2 e2 r2 => h' H2 (fr.trans e2.fr) _ fun v' H3 e3 r3 => by
  have := m.mo
  have := m'.mo
  have r2' : q K T H3 v b := Mo.fr e3.fr r2
  obtain ⟨vs, ha, hs⟩ := m.sq r2'
  obtain ⟨ws, hb, hs'⟩ := m'.sq r3
  refine ⟨v, v', vs, ws, rfl, src_of hs fun S1 hz hrd => src_of hs' fun S2 hz' hrd' => ?_⟩
  refine k _ H3 (e2.trans e3) ⟨⟨min vs.length ws.length, fun H => S1.rd K H vs ∧ S2.rd K H ws, YPair (fun i => vs[i]?) (fun i => ws[i]?), by rw [List.length_zip, all2_len ha, all2_len hb], ?_, fun H' fr' => ⟨hrd H' fr', hrd' H' fr'⟩, ?_⟩, ?_⟩
  · refine ⟨fun i H hi g => ⟨vs, ws, vs[i]'(by omega), ws[i]'(by omega), g.1, g.2, by rw [List.getElem?_eq_getElem], by rw [List.getElem?_eq_getElem]⟩, fun H g => ⟨vs, ws, g.1, g.2, rfl⟩, fun i H v H' hi g y => ?_⟩
    obtain ⟨t, x, y, h1, h2, h3, h4, h5⟩ := y
    exact ⟨t, x, y, h1, h2, h3, h4 vs g.1, h5 ws g.2⟩
  · intro i H' v H'' hi fr' ⟨p, x, y, e1, hp, e2, hx, hy⟩
    subst e1 e2
    obtain ⟨a, h1, hr1⟩ := all2_getL ha hx
    obtain ⟨c, h2, hr2⟩ := all2_getL hb hy
    exact ⟨Ex.new hp, (a, c), List.getElem?_zip_eq_some.mpr ⟨h1, h2⟩, fun T' hT' tr => pair_new hp hT' (tr.ap hr1) (tr.ap hr2)⟩
  · rw [List.length_zip, ← all2_len ha, ← all2_len hb]; omega
end
end EB

set_option Elab.async false
set_option linter.all false
set_option maxRecDepth 100000
set_option maxHeartbeats 4000000
/-! EB: more statements. -/
namespace EB
open PySem PySem.Spec PyProof.Rows L2
theorem foldl_take {α β : Type} {f : β → α → β} {s : β} {xs : List α} {i : Nat} {x : α} (h : xs[i]? = some x) : (xs.take (i + 1)).foldl f s = f ((xs.take i).foldl f s) x := by
  rw [List.take_add_one, h]
  simp
section
variable {K : PySem.W.Frag} {T T' S : AS} {σ : L2.St} {H H' : Hp} {α β γ : Type} {r : Rp α} {s : Rp β} {te ta tb : TE} {D : Ends} {i j : Nat} {p : Addr} {xs : List α} {d : α} {v : V} {Q : L2.St → Hp → Prop}
theorem gn (h : Q (σ.set i (some v)) H) : gName i v σ H Q := h
/-- x += e of ints -/
theorem st_augI {a b : Int} (hv : σ[i]? = some (some v)) (h : zI K T H v a) (he : Ev K T te σ H zI b) (k : ∀ w H2, Ex H H2 → zI K T H2 w (a + b) → D.nx (σ.set i (some w)) H2) : tAug i te (ipI fun i j => i + j) D σ H :=
  ⟨v, hv, he H (Fr.refl H) _ fun y H1 e1 r1 => ⟨a, b, h, r1, k _ H1 e1 rfl⟩⟩
theorem st_augS {a b : Int} (hv : σ[i]? = some (some v)) (h : zI K T H v a) (he : Ev K T te σ H zI b) (k : ∀ w H2, Ex H H2 → zI K T H2 w (a - b) → D.nx (σ.set i (some w)) H2) : tAug i te (ipI fun i j => i - j) D σ H :=
  ⟨v, hv, he H (Fr.refl H) _ fun y H1 e1 r1 => ⟨a, b, h, r1, k _ H1 e1 rfl⟩⟩
/-- a, b = e (a pair) -/
theorem st_asgP {q : α × β} (h : Ev K T te σ H (zP r s) q) (k : ∀ x y H2, Ex H H2 → r K T H2 x q.1 → s K T H2 y q.2 → D.nx ((σ.set i (some x)).set j (some y)) H2) : tAsg te (gTup K 2 (gCons (gName i) (gCons (gName j) gNil))) D σ H :=
  h H (Fr.refl H) _ fun v H1 e1 r1 => g2_tup r1 fun x rx y ry => k x y H1 e1 rx ry
/-- a, b = e1, e2 -/
theorem st_par [Mo r] {a : α} {b : β} (ha : Ev K T ta σ H r a) (hb : Ev K T tb σ H s b) (k : ∀ x y H2, Ex H H2 → r K T H2 x a → s K T H2 y b → D.nx ((σ.set i (some x)).set j (some y)) H2) : tPar i j (tCons ta (tCons tb tNil)) D σ H :=
  ha H (Fr.refl H) _ fun x H1 e1 r1 => hb H1 e1.fr _ fun y H2 e2 r2 => ⟨x, y, rfl, k x y H2 (e1.trans e2) (Mo.fr e2.fr r1) r2⟩
/-- xs[i] = e, a list of ours -/
theorem HM.set [Mo r] {j : Nat} (h : HM r K T H p xs) (hv : r K T H v d) : ∃ vs, H p = some (.lst vs) ∧ vs.length = xs.length ∧ HM r K T (upd H p (.lst (vs.set j v))) p (xs.set j d) ∧ Fr T H (upd H p (.lst (vs.set j v))) := by
  obtain ⟨vs, h1, h2⟩ := h.ex
  have f : Fr T H (upd H p (.lst (vs.set j v))) := Fr.upd (.inl h.mem)
  exact ⟨vs, h1, all2_len h2, ⟨h.mem, _, upd_same, all2_set (Mo.fr f hv) j (all2_imp (fun _ _ z => Mo.fr f z) h2)⟩, f⟩
theorem st_setM [Mo r] {ti : TE} {n : Int} (hv : σ[i]? = some (some (.ref p))) (m : HM r K T H p xs) (h : Ev K T te σ H r d) (hi : Ev K T ti σ H zI n) (h0 : 0 ≤ n) (hn : n < xs.length)
    (k : ∀ H1 H2 v, H2 = upd H1 p v → Ex H H1 → Fr (Tp S p) H1 H2 → Fr T H1 H2 → HM r K T H2 p (xs.set n.toNat d) → D.nx σ H2) : tAsg te (gSub (tVar i) ti rSetL) D σ H := by
  refine h H (Fr.refl H) _ fun v H1 e1 r1 => ?_
  refine ⟨.ref p, hv, ?_⟩
  refine hi H1 e1.fr _ fun iv H2 e2 r2 => ?_
  obtain ⟨vs', h1', hl', m', f'⟩ := (m.ex' (e1.trans e2)).set (j := n.toNat) (Mo.fr e2.fr r1)
  refine ⟨p, vs', n, n.toNat, rfl, r2, h1', ?_, k H2 _ _ rfl (e1.trans e2) (Fr.upd (.inl (.inr rfl))) f' m'⟩
  unfold ixN
  rw [if_pos h0, if_pos (by rw [hl']; exact hn)]
end
/-- x += text -/
def rAugS : TIp := fun x y H Q => ∃ i j, x = .str i ∧ y = .str j ∧ i.length + j.length ≤ sizeLine ∧ Q (.str (i ++ j)) H
end EB
namespace EB
open PySem PySem.Spec PyProof.Rows L2
/-! ### bookkeeping for lists that are being made -/
theorem Fr.drop {S : AS} {H H' : Hp} {p : Addr} (f : Fr (Tp S p) H H') (n : H p = none) : Fr S H H' :=
  ⟨fun a o h e => f.keep a o (fun z => z.elim h fun q => by subst q; rw [n] at e; cases e) e, f.dom⟩
theorem TD.of_mem {T : AS} {H H' : Hp} {p : Addr} {S : AS} (h : TD T H) (f : Fr S H H') (e : ∃ o, H' p = some o) : TD (Tp T p) H' := fun b t => by
  rcases t with t | t
  · exact h.fr f b t
  · subst t; exact e
theorem HM.dom {α : Type} {r : Rp α} {K : PySem.W.Frag} {T : AS} {H : Hp} {p : Addr} {xs : List α} (m : HM r K T H p xs) : ∃ o, H p = some o := let ⟨vs, h, _⟩ := m.ex; ⟨_, h⟩
theorem HM.ne {α : Type} {r : Rp α} {K : PySem.W.Frag} {T : AS} {H : Hp} {p q : Addr} {xs : List α} (m : HM r K T H p xs) (n : H q = none) : p ≠ q := fun z => by
  obtain ⟨vs, h, _⟩ := m.ex
  subst z; rw [n] at h; cases h
theorem TD.sub {T T' : AS} {H : Hp} (h : TD T H) (f : ∀ b, T' b → T b) : TD T' H := fun b t => h b (f b t)
section
variable {K : PySem.W.Frag} {T S : AS} {σ : L2.St} {H H' : Hp} {α β γ : Type} {r : Rp α} {D : Ends} {xs : List α}
/-- for, with a break -/
theorem st_forB [Mo r] {wi : TI} {g : TG} {tb : TS} (hT : TD T H) (h : EvI K T wi σ H r xs)
    (k : ∀ H2, Ex H H2 → ∃ (Pv : Nat → L2.St → Hp → Prop) (Pe : L2.St → Hp → Prop), Pv 0 σ H2 ∧ (∀ i σ' H', i ≤ xs.length → Pv i σ' H' → Fr T H2 H') ∧
      ((∀ σ' H', Pe σ' H' → D.nx σ' H') → ∀ i x σ' H' v H'', xs[i]? = some x → Pv i σ' H' → Ex H' H'' → r K T H'' v x → g v σ' H'' fun σ3 H3 => tb { D with nx := Pv (i + 1), ct := Pv (i + 1), bk := D.nx } σ3 H3) ∧
      (∀ σ' H', Pv xs.length σ' H' → Pe σ' H') ∧ (∀ σ' H', Pe σ' H' → D.nx σ' H')) : tFor wi g tb D σ H :=
  st_for hT h fun H2 e => let ⟨Pv, Pe, h0, hF, hs, hd, he⟩ := k H2 e; ⟨Pv, h0, hF, hs he, fun σ' H' q => he σ' H' (hd σ' H' q)⟩
end
end EB
namespace EB
open PySem PySem.Spec PyProof.Rows L2
theorem Ex.thenFr {S : AS} {H0 H1 H2 : Hp} (a : Ex H0 H1) (f : Fr S H1 H2) (n : ∀ b, S b → H0 b = none) : Ex H0 H2 := fun x o e => f.keep x o (fun z => by rw [n x z] at e; cases e) (a x o e)
theorem Fr.thenFr {S S' : AS} {H0 H1 H2 : Hp} (a : Fr S' H0 H1) (f : Fr S H1 H2) (n : ∀ b, S b → S' b ∨ H0 b = none) : Fr S' H0 H2 :=
  ⟨fun x o h e => f.keep x o (fun z => (n x z).elim h fun q => by rw [q] at e; cases e) (a.keep x o h e), fun x o e => let ⟨o1, e1⟩ := a.dom x o e; f.dom x o1 e1⟩
end EB
namespace EB
open PySem PySem.Spec PyProof.Rows L2
theorem ktu_of {K : PySem.W.Frag} {x : Str} {vs : List He.Dv} (h : He.tupB K x vs = true) : KTu K (He.ga K x) (vs.map (He.Dv.v K)) := by
  rcases He.tupB_ok h (fun _ => none) with z | z
  · rcases z with z | ⟨_, z⟩ <;> cases z
  · exact z
theorem kls_of {K : PySem.W.Frag} {x : Str} {vs : List He.Dv} (h : He.lstB K x vs = true) : KLs K (He.ga K x) (vs.map (He.Dv.v K)) := by
  rcases He.lstB_ok h (fun _ => none) with z | z
  · rcases z with z | ⟨_, z⟩ <;> cases z
  · exact z
theorem ev_kU {K : PySem.W.Frag} {T : AS} {σ : L2.St} {H : Hp} {α : Type} {r : Rp α} {x : Str} {vs : List He.Dv} {xs : List α} (h : He.tupB K x vs = true) (a : ∀ H, All2 (r K T H) (vs.map (He.Dv.v K)) xs) : Ev K T (tC (.ref (He.ga K x))) σ H (zU r) xs :=
  fun H1 _ _ q => q _ H1 (Ex.refl H1) ⟨_, _, rfl, .inr (ktu_of h), a H1⟩
theorem ev_kL {K : PySem.W.Frag} {T : AS} {σ : L2.St} {H : Hp} {α : Type} {r : Rp α} {x : Str} {vs : List He.Dv} {xs : List α} (h : He.lstB K x vs = true) (a : ∀ H, All2 (r K T H) (vs.map (He.Dv.v K)) xs) : Ev K T (tC (.ref (He.ga K x))) σ H (zL r) xs :=
  fun H1 _ _ q => q _ H1 (Ex.refl H1) ⟨_, _, rfl, .inr (kls_of h), a H1⟩
end EB

set_option Elab.async false
set_option linter.all false
set_option maxRecDepth 100000
set_option maxHeartbeats 4000000
/-! EB: expressions that change a resource (a tape, a table of what is known) and give one of many values. -/
namespace EB
open PySem PySem.Spec PyProof.Rows L2
/-- W: the cells that change; I n: what holds of them, n draws being left -/
structure Re (W : AS) (I : Nat → Hp → Prop) : Prop where
  st : ∀ n H H', (∀ b, W b → H' b = H b) → I n H → I n H'
  dom : ∀ n H b, I n H → W b → ∃ o, H b = some o
  less : ∀ n m H, I (n + m) H → I n H
theorem Re.ex {W : AS} {I : Nat → Hp → Prop} (R : Re W I) {n : Nat} {H H' : Hp} (h : I n H) (e : Ex H H') : I n H' := R.st n H H' (fun b w => by
  obtain ⟨o, ho⟩ := R.dom n H b h w
  rw [ho, e b o ho]) h
theorem Re.fr {W S : AS} {I : Nat → Hp → Prop} (R : Re W I) {n : Nat} {H H' : Hp} (h : I n H) (f : Fr S H H') (d : ∀ b, W b → ¬ S b) : I n H' := R.st n H H' (fun b w => by
  obtain ⟨o, ho⟩ := R.dom n H b h w
  rw [ho, f.keep b o (d b w) ho]) h
def EvN (K : PySem.W.Frag) (T W : AS) (I : Nat → Hp → Prop) (c : Nat) {α : Type} (te : TE) (σ : L2.St) (H : Hp) (r : Rp α) (φ : α → Prop) : Prop :=
  ∀ n H1, Fr T H H1 → I (n + c) H1 → ∀ Q : VK, (∀ v H2 d, Fr W H1 H2 → I n H2 → r K T H2 v d → φ d → Q v H2) → te σ H1 Q
def EvNA (K : PySem.W.Frag) (T W : AS) (I : Nat → Hp → Prop) (c : Nat) {α : Type} (ta : TA) (σ : L2.St) (H : Hp) (r : Rpl α) (φ : α → Prop) : Prop :=
  ∀ n H1, Fr T H H1 → I (n + c) H1 → ∀ Q : List V → Hp → Prop, (∀ vs H2 d, Fr W H1 H2 → I n H2 → r K T H2 vs d → φ d → Q vs H2) → ta σ H1 Q
section
variable {K : PySem.W.Frag} {T W : AS} {I : Nat → Hp → Prop} {σ : L2.St} {H : Hp} {α β γ : Type} {r : Rp α} {s : Rp β} {ta tb te : TE} {c c' : Nat} {φ : α → Prop} {ψ : β → Prop}
theorem en_of {d : α} (R : Re W I) (h : Ev K T te σ H r d) : EvN K T W I 0 te σ H r (fun x => x = d) := fun n H1 f i Q q => h H1 f Q fun v H2 e r2 => q v H2 d e.fr (R.ex i e) r2 rfl
theorem EvN.to {φ' : α → Prop} (h : EvN K T W I c te σ H r φ) (k : ∀ d, φ d → φ' d) : EvN K T W I c te σ H r φ' := fun n H1 f i Q q => h n H1 f i Q fun v H2 d fr i' r2 p => q v H2 d fr i' r2 (k d p)
theorem EvN.more (R : Re W I) (h : EvN K T W I c te σ H r φ) (k : c ≤ c') : EvN K T W I c' te σ H r φ := fun n H1 f i Q q => h n H1 f (R.less _ (c' - c) _ (by rw [show n + c + (c' - c) = n + c' by omega]; exact i)) Q q
theorem EvN.cast (h : EvN K T W I c te σ H r φ) (k : c = c') : EvN K T W I c' te σ H r φ := k ▸ h
/-- two-place operations -/
theorem en_op {R2' : R2} {s' : Rp γ} {χ : γ → Prop} [Mo r] (hW : ∀ b, W b → T b) (R : Re W I) (ha : EvN K T W I c ta σ H r φ) (hb : EvN K T W I c' tb σ H s ψ)
    (hr : ∀ a b x y H1 (Q : VK), φ a → ψ b → Fr T H H1 → r K T H1 x a → s K T H1 y b → (∀ v H2 d, Ex H1 H2 → s' K T H2 v d → χ d → Q v H2) → R2' x y H1 Q) : EvN K T W I (c + c') (tOp R2' ta tb) σ H s' χ :=
  fun n H1 f i Q q => ha (n + c') H1 f (by rw [show n + c' + c = n + (c + c') by omega]; exact i) _ fun x H2 a f2 i2 r2 p2 => hb n H2 (f.trans (f2.mono hW)) i2 _ fun y H3 b f3 i3 r3 p3 =>
    hr a b x y H3 Q p2 p3 ((f.trans (f2.mono hW)).trans (f3.mono hW)) (Mo.fr (f3.mono hW) r2) r3 fun v H4 d e4 r4 p4 => q v H4 d ((f2.trans f3).trans e4.fr) (R.ex i3 e4) r4 p4
theorem en_I0 {g : Int → Int → Int} {φ ψ : Int → Prop} (hW : ∀ b, W b → T b) (R : Re W I) (ha : EvN K T W I c ta σ H zI φ) (hb : EvN K T W I c' tb σ H zI ψ) : EvN K T W I (c + c') (tOp (rI0 fun i j => .int (g i j)) ta tb) σ H zI (fun d => ∃ a b, φ a ∧ ψ b ∧ d = g a b) :=
  en_op hW R ha hb fun a b x y H1 Q pa pb _ ra rb q => ⟨a, b, ra, rb, q _ H1 _ (Ex.refl H1) rfl ⟨a, b, pa, pb, rfl⟩⟩
theorem en_cmp {g : Int → Int → Bool} {φ ψ : Int → Prop} (hW : ∀ b, W b → T b) (R : Re W I) (ha : EvN K T W I c ta σ H zI φ) (hb : EvN K T W I c' tb σ H zI ψ) : EvN K T W I (c + c') (tOp (rI0 fun i j => .bl (g i j)) ta tb) σ H zB (fun d => ∃ a b, φ a ∧ ψ b ∧ d = g a b) :=
  en_op hW R ha hb fun a b x y H1 Q pa pb _ ra rb q => ⟨a, b, ra, rb, q _ H1 _ (Ex.refl H1) rfl ⟨a, b, pa, pb, rfl⟩⟩
theorem en_eqI {φ ψ : Int → Prop} (hW : ∀ b, W b → T b) (R : Re W I) (ha : EvN K T W I c ta σ H zI φ) (hb : EvN K T W I c' tb σ H zI ψ) : EvN K T W I (c + c') (tOp rEq ta tb) σ H zB (fun d => ∃ a b, φ a ∧ ψ b ∧ d = decide (a = b)) :=
  en_op hW R ha hb fun a b x y H1 Q pa pb _ ra rb q => by cases ra; cases rb; exact ⟨rfl, q _ H1 _ (Ex.refl H1) (show V.bl (decide (V.int a = V.int b)) = .bl (decide (a = b)) by simp) ⟨a, b, pa, pb, rfl⟩⟩
/-- an item -/
theorem en_ixL [Mo r] {χ : List α → Prop} {ψ : Int → Prop} {θ : α → Prop} (hW : ∀ b, W b → T b) (R : Re W I) (ha : EvN K T W I c ta σ H (zL r) χ) (hb : EvN K T W I c' tb σ H zI ψ) (hi : ∀ xs i, χ xs → ψ i → ∃ d, atI xs i = some d ∧ θ d) : EvN K T W I (c + c') (tOp (rIxL K) ta tb) σ H r θ :=
  en_op hW R ha hb fun xs i x y H1 Q pa pb _ h1 h2 q => by
    obtain ⟨a, vs, rfl, hs, h⟩ := h1
    obtain ⟨d, hd, hθ⟩ := hi xs i pa pb
    obtain ⟨v, hv, hr⟩ := all2_at h hd
    exact ⟨a, vs, i, v, rfl, h2, hs.sq, hv, q v H1 d (Ex.refl H1) hr hθ⟩
theorem en_ixU [Mo r] {χ : List α → Prop} {ψ : Int → Prop} {θ : α → Prop} (hW : ∀ b, W b → T b) (R : Re W I) (ha : EvN K T W I c ta σ H (zU r) χ) (hb : EvN K T W I c' tb σ H zI ψ) (hi : ∀ xs i, χ xs → ψ i → ∃ d, atI xs i = some d ∧ θ d) : EvN K T W I (c + c') (tOp (rIxT K) ta tb) σ H r θ :=
  en_op hW R ha hb fun xs i x y H1 Q pa pb _ h1 h2 q => by
    obtain ⟨a, vs, rfl, hs, h⟩ := h1
    obtain ⟨d, hd, hθ⟩ := hi xs i pa pb
    obtain ⟨v, hv, hr⟩ := all2_at h hd
    exact ⟨a, vs, i, v, rfl, h2, hs.sq, hv, q v H1 d (Ex.refl H1) hr hθ⟩
theorem en_ixW {χ : List Bool → Prop} {ψ : Int → Prop} {θ : List Bool → Prop} (hW : ∀ b, W b → T b) (R : Re W I) (ha : EvN K T W I c ta σ H zW χ) (hb : EvN K T W I c' tb σ H zI ψ) (hi : ∀ xs i, χ xs → ψ i → ∃ d, atI xs i = some d ∧ θ [d]) : EvN K T W I (c + c') (tOp rIxS ta tb) σ H zW θ :=
  en_op hW R ha hb fun w i x y H1 Q pa pb _ h1 h2 q => by
    obtain ⟨h1, hl⟩ := h1
    obtain ⟨d, hd, hθ⟩ := hi w i pa pb
    exact ⟨wS w, i, sgn d, h1, h2, by rw [wS_len, sizeLine_eq]; omega, atI_map (f := sgn) hd, q _ H1 _ (Ex.refl H1) ⟨rfl, by simp⟩ hθ⟩
/-- + of words -/
theorem en_catW {φ ψ : List Bool → Prop} (hW : ∀ b, W b → T b) (R : Re W I) (ha : EvN K T W I c ta σ H zW φ) (hb : EvN K T W I c' tb σ H zW ψ) (hl : ∀ a b, φ a → ψ b → a.length + b.length ≤ 100000) : EvN K T W I (c + c') (tOp rCatS ta tb) σ H zW (fun d => ∃ a b, φ a ∧ ψ b ∧ d = a ++ b) :=
  en_op hW R ha hb fun a b x y H1 Q pa pb _ h1 h2 q => by
    obtain ⟨h1, _⟩ := h1; obtain ⟨h2, _⟩ := h2
    have hl' := hl a b pa pb
    refine ⟨_, _, h1, h2, ?_, q _ H1 _ (Ex.refl H1) ⟨by rw [wS_app], by simpa using hl'⟩ ⟨a, b, pa, pb, rfl⟩⟩
    rw [wS_len, wS_len, sizeLine_eq]; omega
/-- a test -/
theorem en_test {Q : Bool → Hp → Prop} {φ : Bool → Prop} (h : EvN K T W I c te σ H zB φ) {n : Nat} (i : I (n + c) H) (k : ∀ H2 b, Fr W H H2 → I n H2 → φ b → Q b H2) : tTest te σ H Q :=
  h n H (Fr.refl H) i _ fun v H2 b f i2 r2 p => ⟨b, r2, k H2 b f i2 p⟩
/-- arguments -/
theorem na_of {ra : Rpl α} {a : α} {t : TA} (R : Re W I) (h : EvA K T t σ H ra a) : EvNA K T W I 0 t σ H ra (fun x => x = a) := fun n H1 f i Q q => h H1 f Q fun v H2 e r2 => q v H2 a e.fr (R.ex i e) r2 rfl
theorem na_cons [Mo r] {tr : TA} {ra : Rpl β} (hW : ∀ b, W b → T b) (h : EvN K T W I c ta σ H r φ) (hr : EvNA K T W I c' tr σ H ra ψ) : EvNA K T W I (c + c') (tCons ta tr) σ H (aC r ra) (fun p => φ p.1 ∧ ψ p.2) := fun n H1 f i Q q =>
  h (n + c') H1 f (by rw [show n + c' + c = n + (c + c') by omega]; exact i) _ fun x H2 a f2 i2 r2 p2 => hr n H2 (f.trans (f2.mono hW)) i2 _ fun vs H3 b f3 i3 r3 p3 => q _ H3 (a, b) (f2.trans f3) i3 ⟨x, vs, rfl, Mo.fr (f3.mono hW) r2, r3⟩ ⟨p2, p3⟩
/-- a call that changes the resource of its argument -/
def NSp (K : PySem.W.Frag) {α β : Type} (ra : Rpl α) (W : α → AS) (I : α → Nat → Hp → Prop) (c : α → Nat) (pre : α → Prop) (r : Rp β) (φ : α → β → Prop) : Sp := fun vs H Q _ =>
  ∃ (T : AS) (a : α) (n : Nat), TD T H ∧ (∀ b, W a b → T b) ∧ ra K T H vs a ∧ pre a ∧ I a (n + c a) H ∧ ∀ v H' d, Fr (W a) H H' → I a n H' → r K T H' v d → φ a d → Q v H'
theorem en_call {ra : Rpl β} {W : β → AS} {I : β → Nat → Hp → Prop} {cc : β → Nat} {pre : β → Prop} {φ : β → α → Prop} {b : β} {tr : TA} {E : XK} (R : Re (W b) (I b)) (hT : TD T H) (hW : ∀ x, W b x → T x) (h : EvA K T tr σ H ra b) (hp : pre b) :
    EvN K T (W b) (I b) (cc b) (tCall (NSp K ra W I cc pre r φ) [] E tr) σ H r (φ b) := fun n H1 g i Q q =>
  h H1 g _ fun vs H2 e2 r2 => by
    show NSp K ra W I cc pre r φ (vs ++ []) H2 Q E
    rw [List.append_nil]
    exact ⟨T, b, n, (hT.fr g).ex e2, hW, r2, hp, R.ex i e2, fun v H3 d f3 i3 r3 p3 => q v H3 d (e2.fr.trans f3) i3 r3 p3⟩
/-- a method that does so -/
theorem en_meth {Cn : Str} {fs : List Str} {ra : Rpl β} {b : β} {rb : Rpl γ} {d : γ} {W : β × γ → AS} {I : β × γ → Nat → Hp → Prop} {cc : β × γ → Nat} {pre : β × γ → Prop} {φ : β × γ → α → Prop} {tr : TA} {E : XK} {m : Str} [MoL ra] (R : Re (W (b, d)) (I (b, d))) (hT : TD T H) (hW : ∀ x, W (b, d) x → T x) (hm : m ∉ fs)
    (h : Ev K T ta σ H (zOb Cn fs ra) b) (h2 : EvA K T tr σ H rb d) (hp : pre (b, d)) :
    EvN K T (W (b, d)) (I (b, d)) (cc (b, d)) (tMeth (He.ga K Cn) m (NSp K (aC (zOb Cn fs ra) rb) W I cc pre r φ) [] E ta tr) σ H r (φ (b, d)) := fun n H1 g i Q q => h H1 g _ fun v H2 e2 r2 => by
  obtain ⟨p, dx, vs, ev, ht, hh, hr⟩ := r2
  refine ⟨p, dx, _, ev, hh, lookup_zip_none hm, ?_⟩
  refine h2 H2 (g.trans e2.fr) _ fun ws H3 e3 r3 => ?_
  show NSp K (aC (zOb Cn fs ra) rb) W I cc pre r φ (v :: (ws ++ [])) H3 Q E
  rw [List.append_nil]
  exact ⟨T, (b, d), n, (hT.fr g).ex (e2.trans e3), hW, ⟨v, ws, rfl, ⟨p, dx, vs, ev, ht, e3 _ _ hh, MoL.fr e3.fr hr⟩, r3⟩, hp, R.ex i (e2.trans e3), fun v' H4 d' f4 i4 r4 p4 => q v' H4 d' ((e2.trans e3).fr.trans f4) i4 r4 p4⟩
theorem tYes_if {σ : L2.St} {H : Hp} {A B : Hp → Prop} (h : A H) : tYes σ H (fun b H3 => if b = true then A H3 else B H3) := by
  show (if true = true then A H else B H)
  rw [if_pos rfl]; exact h
/-- a comprehension whose element changes the resource, c for each item -/
theorem en_lc [Mo r] [Mo s] {wi : TI} {g : TG} {vs : List Nat} {xs : List α} {φ : α → β → Prop} (R : Re W I) (hT : TD T H) (hW : ∀ b, W b → T b) (h : EvI K T wi σ H r xs)
    (hs : ∀ (T' : AS) (H' : Hp) (v : V) (x : α), Tr K T H T' H' → TD T' H' → (∀ b, W b → T' b) → x ∈ xs → r K T' H' v x → ∀ Q : L2.St → Hp → Prop, (∀ σ2, wipe σ2 vs = wipe σ vs → EvN K T' W I c te σ2 H' s (φ x) → Q σ2 H') → g v (wipe σ vs) H' Q) :
    EvN K T W I (xs.length * c) (tLc wi g tYes te vs) σ H (zL s) (fun ys => All2 (fun y x => φ x y) ys xs) := fun n H1 fr i1 Q q => h H1 fr _ fun J H2 e2 w => by
  intro D hD
  obtain ⟨⟨m, G, Y, hn, wk, hG, hY⟩, hz⟩ := w
  subst hn
  have i2 := R.ex i1 e2
  have hT2 : TD T H2 := (hT.fr fr).ex e2
  have nD : ¬ T D := hT2.new hD
  have nW : ¬ W D := fun z => nD (hW D z)
  refine lc_it wk (fun i H' => Fr W H2 H' ∧ I (n + (xs.length - i) * c) H' ∧ ∃ acc ys, H' D = some (.lst acc) ∧ All2 (s K (Tp T D) H') acc ys ∧ All2 (fun y x => φ x y) ys (xs.take i)) ⟨(Ex.new hD).fr, R.ex i2 (Ex.new hD), [], [], upd_same, .nil, by simp; exact .nil⟩ (fun i H' _ ⟨e, _⟩ => hG H' (e.mono hW)) ?_ ?_
  · intro i v H' H'' hi ⟨e, hI, acc, ys, hacc, hall, hφ⟩ y
    obtain ⟨eY, x, hx, hr⟩ := hY i H' v H'' hi (e.mono hW) y
    have tr2 : Tr K T H2 (Tp T D) H' := (Tr.lift hD).trans (Tr.fr (e.mono fun b hb => .inl (hW b hb)))
    have hTD : TD (Tp T D) H' := (hT2.fr e).tp hacc
    have tr : Tr K T H (Tp T D) H'' := ((Tr.fr (fr.trans e2.fr)).trans tr2).trans (Tr.ex eY)
    refine hs (Tp T D) H'' v x tr (hTD.ex eY) (fun b hb => .inl (hW b hb)) (List.mem_of_getElem? hx) (hr _ hTD tr2) _ fun σ2 hw he => ⟨hw, ?_⟩
    have hlen : acc.length ≤ i := by
      have h1 := all2_len hall
      have h2 := all2_len hφ
      rw [List.length_take] at h2
      omega
    refine tYes_if ?_
    refine he (n + (xs.length - (i + 1)) * c) H'' (Fr.refl _) ?_ _ fun yv H4 d f4 i4 r4 p4 => ⟨acc, f4.keep _ _ nW (eY _ _ hacc), by omega, ?_⟩
    · have e1 : xs.length - i = (xs.length - (i + 1)) + 1 := by omega
      have e2 : n + (xs.length - (i + 1)) * c + c = n + (xs.length - i) * c := by rw [e1, Nat.succ_mul]; omega
      rw [e2]; exact R.ex hI eY
    · have fD : Fr (Tp T D) H4 (upd H4 D (.lst (acc ++ [yv]))) := Fr.upd (.inl (.inr rfl))
      have f4' : Fr (Tp T D) H'' H4 := f4.mono fun b hb => .inl (hW b hb)
      refine ⟨⟨fun b o nb hb => ?_, fun b o hb => ?_⟩, R.st _ H4 _ (fun b wb => upd_ne (fun z => nW (z ▸ wb))) i4, acc ++ [yv], ys ++ [d], upd_same, ?_, ?_⟩
      · rw [upd_ne (ne_of_none hb hD)]
        exact f4.keep _ _ nb (eY _ _ (e.keep b o nb hb))
      · obtain ⟨o1, h1⟩ := e.dom b o hb
        obtain ⟨o2, h2⟩ := f4.dom b o1 (eY _ _ h1)
        exact ⟨o2, by rw [upd_ne (ne_of_none hb hD)]; exact h2⟩
      · exact all2_app (all2_imp (fun _ _ z => Mo.fr fD (Mo.fr f4' (Mo.fr eY.fr z))) hall) (.cons (Mo.fr fD r4) .nil)
      · rw [List.take_add_one, hx]
        exact all2_app hφ (.cons p4 .nil)
  · rintro H' ⟨e, hI, acc, ys, hacc, hall, hφ⟩
    rw [List.take_length] at hφ
    rw [Nat.sub_self, Nat.zero_mul] at hI
    exact q _ H' ys (e2.fr.trans e) hI ⟨D, acc, rfl, .new nD hacc, all2_imp (fun _ _ z => Mo.sub (fun b hb => .inl hb) z) hall⟩ hφ
/-- ''.join of such -/
theorem en_joinW {χ : List (List Bool) → Prop} {tj : TE} (R : Re W I) (ha : Ev K T tj σ H zW []) (hb : EvN K T W I c tb σ H (zL zW) χ) (hl : ∀ ws, χ ws → ws.flatten.length ≤ 100000) : EvN K T W I c (tM1 (rJoin K) tj tb) σ H zW (fun d => ∃ ws, χ ws ∧ d = ws.flatten) := fun n H1 f i Q q => ha H1 f _ fun v H2 e2 r2 => by
  obtain ⟨rfl, _⟩ := r2
  refine ⟨⟨_, rfl⟩, hb n H2 (f.trans e2.fr) (R.ex i e2) _ fun y H3 ws f3 i3 r3 p3 => ?_⟩
  have h9 := ev_joinW (K := K) (T := T) (σ := [some (.str (wS [])), some y]) (H := H3) (ta := tVar 0) (tb := tVar 1) (ws := ws) (ev_var rfl ⟨rfl, by simp⟩) (ev_var rfl r3) (hl ws p3) H3 (Fr.refl _) Q fun v H4 e4 r4 => q v H4 _ ((e2.fr.trans f3).trans e4.fr) (R.ex i3 e4) r4 ⟨ws, p3, rfl⟩
  obtain ⟨_, z1, _, _, z2, h9⟩ := h9
  cases z1; cases z2
  exact h9
end
/-! ### statements -/
section
variable {K : PySem.W.Frag} {T W : AS} {I : Nat → Hp → Prop} {σ : L2.St} {H : Hp} {α β : Type} {r : Rp α} {te : TE} {D : Ends} {i c n : Nat} {φ : α → Prop} {t u : TS}
theorem sn_asg (h : EvN K T W I c te σ H r φ) (hi : I (n + c) H) (k : ∀ v H2 d, Fr W H H2 → I n H2 → r K T H2 v d → φ d → D.nx (σ.set i (some v)) H2) : tAsg te (gName i) D σ H := h n H (Fr.refl H) hi _ k
theorem sn_ret (h : EvN K T W I c te σ H r φ) (hi : I (n + c) H) (k : ∀ v H2 d, Fr W H H2 → I n H2 → r K T H2 v d → φ d → D.rt v H2) : tRet te D σ H := h n H (Fr.refl H) hi _ k
theorem sn_drop (h : EvN K T W I c te σ H r φ) (hi : I (n + c) H) (k : ∀ v H2 d, Fr W H H2 → I n H2 → r K T H2 v d → φ d → D.nx σ H2) : tDrop te D σ H := h n H (Fr.refl H) hi _ k
theorem sn_if {φ : Bool → Prop} (h : EvN K T W I c te σ H zB φ) (hi : I (n + c) H) (k : ∀ H2 b, Fr W H H2 → I n H2 → φ b → if b = true then t D σ H2 else u D σ H2) : tIfS (tTest te) t u D σ H := en_test h hi k
end
end EB

set_option Elab.async false
set_option linter.all false
set_option maxRecDepth 100000
set_option maxHeartbeats 4000000
/-! EB: readings are opened step by step; effects. -/
namespace EB
open PySem PySem.Spec PyProof.Rows L2
section
variable {K : PySem.W.Frag} {T S : AS} {σ : L2.St} {H : Hp} {α β γ : Type} {r : Rp α} {s : Rp β} {te ta tb : TE} {tr : TA} {tt tu : TT} {t u : TS} {D : Ends} {i j : Nat} {p : Addr} {xs : List α} {d : α} {v w x : V} {Q : VK} {Qb : Bool → Hp → Prop} {F : List V → Hp → Prop} {R : R2} {R1 : V → Hp → VK → Prop} {RL : List V → Hp → VK → Prop} {sp : Sp} {dvs : List V} {E : XK} {A B : Prop}
theorem x_run (h : Ev K T te σ H r d) (k : ∀ v H2, Ex H H2 → r K T H2 v d → Q v H2) : te σ H Q := h H (Fr.refl H) Q k
theorem t_run {b : Bool} (h : EvT T tt σ H b) (k : ∀ H2, Ex H H2 → Qb b H2) : tt σ H Qb := h H (Fr.refl H) Qb k
theorem x_to {Q' : VK} (h : te σ H Q') (e : Q' = Q) : te σ H Q := e ▸ h
theorem asg_open (h : te σ H fun v H1 => D.nx (σ.set i (some v)) H1) : tAsg te (gName i) D σ H := h
theorem asgt_open {g : TG} (h : te σ H fun v H1 => g v σ H1 D.nx) : tAsg te g D σ H := h
theorem ret_open (h : te σ H D.rt) : tRet te D σ H := h
theorem drop_open (h : te σ H fun _ H1 => D.nx σ H1) : tDrop te D σ H := h
theorem ifs_open (h : tt σ H fun b H1 => if b = true then t D σ H1 else u D σ H1) : tIfS tt t u D σ H := h
theorem nx_ {a : L2.St → Hp → Prop} {b : V → Hp → Prop} {c e : L2.St → Hp → Prop} (h : a σ H) : (Ends.mk a b c e).nx σ H := h
theorem op_open (h : ta σ H fun x H1 => tb σ H1 fun y H2 => R x y H2 Q) : tOp R ta tb σ H Q := h
theorem un_open (h : ta σ H fun x H1 => R1 x H1 Q) : tUn R1 ta σ H Q := h
theorem cb_open (h : tr σ H fun vs H1 => RL vs H1 Q) : tCB RL tr σ H Q := h
theorem lst_open (h : tr σ H fun xs H1 => xs.length ≤ sizeLine ∧ ∀ p, H1 p = none → Q (.ref p) (upd H1 p (.lst xs))) : tLst tr σ H Q := h
theorem tup_open (h : tr σ H fun xs H1 => xs.length ≤ sizeLine ∧ ∀ p, H1 p = none → Q (.ref p) (upd H1 p (.tup xs))) : tTup tr σ H Q := h
theorem call_open (h : tr σ H fun vs H1 => sp (vs ++ dvs) H1 Q E) : tCall sp dvs E tr σ H Q := h
theorem cons_open (h : ta σ H fun x H1 => tr σ H1 fun xs H2 => F (x :: xs) H2) : tCons ta tr σ H F := h
theorem nil_open (h : F [] H) : tNil σ H F := h
theorem test_open (h : ta σ H fun x H1 => ∃ k, x = .bl k ∧ Qb k H1) : tTest ta σ H Qb := h
theorem tB_open (h : ta σ H fun x H1 => ∃ k, x = .bl k ∧ Qb k H1) : tB ta σ H Qb := h
theorem not_open (h : tt σ H fun c H1 => Qb (!c) H1) : tNot tt σ H Qb := h
theorem and_open (h : tt σ H fun c H1 => if c = true then tu σ H1 Qb else Qb false H1) : tAnd tt tu σ H Qb := h
theorem or_open (h : tt σ H fun c H1 => if c = true then Qb true H1 else tu σ H1 Qb) : tOr tt tu σ H Qb := h
theorem andv_open (h : ta σ H fun x H1 => ∃ c, x = .bl c ∧ if c = true then tb σ H1 Q else Q (.bl false) H1) : tAndV ta tb σ H Q := h
theorem orv_open (h : ta σ H fun x H1 => ∃ c, x = .bl c ∧ if c = true then Q (.bl true) H1 else tb σ H1 Q) : tOrV ta tb σ H Q := h
theorem ifx_open (h : tt σ H fun c H1 => if c = true then ta σ H1 Q else tb σ H1 Q) : tIf tt ta tb σ H Q := h
theorem notv_open (h : ta σ H fun x H1 => ∃ c, x = .bl c ∧ Q (.bl (!c)) H1) : tNotV ta σ H Q := h
theorem iteB {b : Bool} (h1 : b = true → A) (h2 : b = false → B) : if b = true then A else B := by
  cases b with
  | true => rw [if_pos rfl]; exact h1 rfl
  | false => rw [if_neg (by decide)]; exact h2 rfl
theorem ite1 (h : A) : if true = true then A else B := by rw [if_pos rfl]; exact h
theorem ite0 (h : B) : if false = true then A else B := by rw [if_neg (by decide)]; exact h
theorem of_op (h : tOp R (tVar 0) (tVar 1) [some v, some w] H Q) : R v w H Q := by obtain ⟨_, z1, _, z2, h⟩ := h; cases z1; cases z2; exact h
theorem of_un (h : tUn R1 (tVar 0) [some v] H Q) : R1 v H Q := by obtain ⟨_, z1, h⟩ := h; cases z1; exact h
theorem of_cb1 (h : tCB RL (tCons (tVar 0) tNil) [some v] H Q) : RL [v] H Q := by obtain ⟨_, z1, h⟩ := h; cases z1; exact h
theorem of_cb2 (h : tCB RL (tCons (tVar 0) (tCons (tVar 1) tNil)) [some v, some w] H Q) : RL [v, w] H Q := by obtain ⟨_, z1, _, z2, h⟩ := h; cases z1; cases z2; exact h
theorem of_l1 (h : tLst (tCons (tVar 0) tNil) [some v] H Q) : [v].length ≤ sizeLine ∧ ∀ p, H p = none → Q (.ref p) (upd H p (.lst [v])) := by obtain ⟨_, z1, h⟩ := h; cases z1; exact h
theorem of_l2 (h : tLst (tCons (tVar 0) (tCons (tVar 1) tNil)) [some v, some w] H Q) : [v, w].length ≤ sizeLine ∧ ∀ p, H p = none → Q (.ref p) (upd H p (.lst [v, w])) := by obtain ⟨_, z1, _, z2, h⟩ := h; cases z1; cases z2; exact h
theorem of_l3 (h : tLst (tCons (tVar 0) (tCons (tVar 1) (tCons (tVar 2) tNil))) [some v, some w, some x] H Q) : [v, w, x].length ≤ sizeLine ∧ ∀ p, H p = none → Q (.ref p) (upd H p (.lst [v, w, x])) := by obtain ⟨_, z1, _, z2, _, z3, h⟩ := h; cases z1; cases z2; cases z3; exact h
theorem of_t2 (h : tTup (tCons (tVar 0) (tCons (tVar 1) tNil)) [some v, some w] H Q) : [v, w].length ≤ sizeLine ∧ ∀ p, H p = none → Q (.ref p) (upd H p (.tup [v, w])) := by obtain ⟨_, z1, _, z2, h⟩ := h; cases z1; cases z2; exact h
/-! ### calls, the arguments being read -/
theorem call_v {ra : Rpl β} {pre : β → Prop} {f : β → α} {b : β} {vs : List V} (hT : TD T H) (hr : ra K T H vs b) (hp : pre b) (k : ∀ v H', Ex H H' → r K T H' v (f b) → Q v H') : PSp K ra pre r f (vs ++ []) H Q E := by
  rw [List.append_nil]; exact ⟨T, b, hT, hr, hp, k⟩
theorem callm_v {ra : Rpl β} {pre : β → Prop} {f : β → α} {b : β} {vs : List V} (hT : TD T H) (hr : ra K T H (v :: vs) b) (hp : pre b) (k : ∀ v H', Ex H H' → r K T H' v (f b) → Q v H') : PSp K ra pre r f (v :: (vs ++ [])) H Q E := by
  rw [List.append_nil]; exact ⟨T, b, hT, hr, hp, k⟩
theorem ncall_v {ra : Rpl β} {W : β → AS} {I : β → Nat → Hp → Prop} {cc : β → Nat} {pre : β → Prop} {φ : β → α → Prop} {b : β} {vs : List V} {n : Nat} (hT : TD T H) (hW : ∀ x, W b x → T x) (hr : ra K T H vs b) (hp : pre b) (hI : I b (n + cc b) H) (k : ∀ v H' d, Fr (W b) H H' → I b n H' → r K T H' v d → φ b d → Q v H') :
    NSp K ra W I cc pre r φ (vs ++ []) H Q E := by
  rw [List.append_nil]; exact ⟨T, b, n, hT, hW, hr, hp, hI, k⟩
theorem ncallm_v {ra : Rpl β} {W : β → AS} {I : β → Nat → Hp → Prop} {cc : β → Nat} {pre : β → Prop} {φ : β → α → Prop} {b : β} {vs : List V} {n : Nat} (hT : TD T H) (hW : ∀ x, W b x → T x) (hr : ra K T H (v :: vs) b) (hp : pre b) (hI : I b (n + cc b) H) (k : ∀ v H' d, Fr (W b) H H' → I b n H' → r K T H' v d → φ b d → Q v H') :
    NSp K ra W I cc pre r φ (v :: (vs ++ [])) H Q E := by
  rw [List.append_nil]; exact ⟨T, b, n, hT, hW, hr, hp, hI, k⟩
theorem meth_open {C : Addr} {m : Str} (h : ta σ H fun x H1 => ∃ a dx fs, x = .ref a ∧ H1 a = some (.ins C dx fs) ∧ fs.lookup m = none ∧ tr σ H1 fun vs H2 => sp (x :: (vs ++ dvs)) H2 Q E) : tMeth C m sp dvs E ta tr σ H Q := h
theorem meth_v {Cn : Str} {fs : List Str} {ra : Rpl β} {b : β} {m : Str} (h : zOb Cn fs ra K T H v b) (hm : m ∉ fs) (k : tr σ H fun vs H2 => sp (v :: (vs ++ dvs)) H2 Q E) :
    ∃ a dx gs, v = .ref a ∧ H a = some (.ins (He.ga K Cn) dx gs) ∧ gs.lookup m = none ∧ tr σ H fun vs H2 => sp (v :: (vs ++ dvs)) H2 Q E := by
  obtain ⟨p, dx, vs, ev, ht, hh, hr⟩ := h
  exact ⟨p, dx, _, ev, hh, lookup_zip_none hm, k⟩
/-! ### stores -/
theorem append_open (hv : σ[i]? = some (some (.ref p))) (m : HM r K T H p xs) (h : te σ H fun v H1 => rAppend (.ref p) [v] H1 fun _ H2 => D.nx σ H2) : tDrop (tBM K "list" rAppend (tVar i) (tCons te tNil)) D σ H := by
  obtain ⟨vs, h1, h2⟩ := m.ex
  exact ⟨.ref p, hv, .inl ⟨rfl, vs, .inl (.inl h1)⟩, h⟩
theorem append_v [Mo r] (m : HM r K T H p xs) (hd : r K T H v d) (hl : xs.length ≤ 1000000) (k : ∀ H2 v', H2 = upd H p v' → Fr (Tp S p) H H2 → Fr T H H2 → HM r K T H2 p (xs ++ [d]) → Q .non H2) : rAppend (.ref p) [v] H Q := by
  obtain ⟨vs', h1', hl', m', f'⟩ := m.app hd
  exact ⟨p, vs', v, rfl, rfl, h1', by rw [hl', sizeLine_eq]; omega, k _ _ rfl (Fr.upd (.inl (.inr rfl))) f' m'⟩
theorem set_v [Mo r] {ti : TE} {n : Int} (hv : σ[i]? = some (some (.ref p))) (m : HM r K T H p xs) (hd : r K T H v d) (hi : Ev K T ti σ H zI n) (h0 : 0 ≤ n) (hn : n < xs.length)
    (k : ∀ H1 H2 v, H2 = upd H1 p v → Ex H H1 → Fr (Tp S p) H1 H2 → Fr T H1 H2 → HM r K T H2 p (xs.set n.toNat d) → D.nx σ H2) : gSub (tVar i) ti rSetL v σ H D.nx := by
  refine ⟨.ref p, hv, ?_⟩
  refine hi H (Fr.refl H) _ fun iv H2 e2 r2 => ?_
  obtain ⟨vs', h1', hl', m', f'⟩ := (m.ex' e2).set (j := n.toNat) (Mo.fr e2.fr hd)
  refine ⟨p, vs', n, n.toNat, rfl, r2, h1', ?_, k H2 _ _ rfl e2 (Fr.upd (.inl (.inr rfl))) f' m'⟩
  unfold ixN
  rw [if_pos h0, if_pos (by rw [hl']; exact hn)]
theorem ev_mlist [Mo r] (h : EvA K T tr σ H (aH r) xs) (hl : xs.length ≤ 1000) (k : ∀ p H1 H2 v, H2 = upd H1 p v → Ex H H1 → H1 p = none → Fr (Tp S p) H1 H2 → HM r K (Tp T p) H2 p xs → Q (.ref p) H2) : tLst tr σ H Q :=
  h H (Fr.refl H) _ fun vs H1 e1 r1 => ⟨by rw [all2_len r1, sizeLine_eq]; omega, fun p hp => k p H1 _ _ rfl e1 hp (Fr.upd (.inl (.inr rfl))) ⟨.inr rfl, vs, upd_same, all2_imp (fun _ _ z => Mo.fr (Ex.new hp).fr (Mo.lift hp z)) r1⟩⟩
/-- any list value that is new: p is where it lies -/
theorem lst_new {vs : List V} [Mo r] (h : All2 (r K T H) vs xs) (hl : xs.length ≤ 1000) (k : ∀ p H2 v, H2 = upd H p v → H p = none → Fr (Tp S p) H H2 → HM r K (Tp T p) H2 p xs → Q (.ref p) H2) : vs.length ≤ sizeLine ∧ ∀ p, H p = none → Q (.ref p) (upd H p (.lst vs)) :=
  ⟨by rw [all2_len h, sizeLine_eq]; omega, fun p hp => k p _ _ rfl hp (Fr.upd (.inl (.inr rfl))) ⟨.inr rfl, vs, upd_same, all2_imp (fun _ _ z => Mo.fr (Ex.new hp).fr (Mo.lift hp z)) h⟩⟩
end
theorem Re.cut {W : AS} {I : Nat → Hp → Prop} (R : Re W I) {n m : Nat} {H : Hp} (h : I n H) (e : m ≤ n) : I m H := R.less m (n - m) H (by rw [show m + (n - m) = n by omega]; exact h)
/-- a list with things of many kinds -/
def zH {α : Type} (ra : Rpl α) : Rp α := fun K T H v d => ∃ a vs, v = .ref a ∧ SL K T H a vs ∧ ra K T H vs d
instance {α : Type} {ra : Rpl α} [MoL ra] : Mo (zH ra) := ⟨fun w ⟨a, vs, e, h, q⟩ => ⟨a, vs, e, h.wd w, MoL.wd w q⟩⟩
section
variable {K : PySem.W.Frag} {T : AS} {σ : L2.St} {H : Hp} {α β : Type} {ra : Rpl α} {r : Rp β} {te tb : TE} {d : α} {x : β} {i : Int}
theorem ev_ixH [MoL ra] (h : Ev K T te σ H (zH ra) d) (hb : Ev K T tb σ H zI i) (g : ∀ H1 vs, ra K T H1 vs d → ∃ v, atI vs i = some v ∧ r K T H1 v x) : Ev K T (tOp (rIxL K) te tb) σ H r x :=
  ev_op h hb fun v w H1 Q _ h1 h2 q => by
    obtain ⟨a, vs, rfl, hs, hr⟩ := h1
    obtain ⟨u, hu, hr'⟩ := g H1 vs hr
    exact ⟨a, vs, i, u, rfl, h2, hs.sq, hu, q u H1 (Ex.refl H1) hr'⟩
end
end EB
namespace EB
open PySem PySem.Spec PyProof.Rows L2
theorem m1_open {R : V → List V → Hp → VK → Prop} {ta tb : TE} {σ : L2.St} {H : Hp} {Q : VK} (h : ta σ H fun x H1 => (∃ z : Str, x = .str z) ∧ tb σ H1 fun y H2 => R x [y] H2 Q) : tM1 R ta tb σ H Q := h
theorem of_m1 {R : V → List V → Hp → VK → Prop} {v w : V} {H : Hp} {Q : VK} (h : tM1 R (tVar 0) (tVar 1) [some v, some w] H Q) : R v [w] H Q := by obtain ⟨_, z1, _, _, z2, h⟩ := h; cases z1; cases z2; exact h
theorem all2_mem {α β : Type} {F : α → β → Prop} : ∀ {xs : List α} {ys : List β} {x : α}, All2 F xs ys → x ∈ xs → ∃ y, y ∈ ys ∧ F x y
  | _, _, _, .nil, h => by cases h
  | _, _, x, .cons r t, h => by
    rcases List.mem_cons.mp h with rfl | h
    · exact ⟨_, List.mem_cons_self, r⟩
    · obtain ⟨y, hy, hf⟩ := all2_mem t h
      exact ⟨y, List.mem_cons_of_mem _ hy, hf⟩
theorem getD_mem {α : Type} {xs : List α} {i : Int} {d : α} (h0 : 0 ≤ i) (h : i < (xs.length : Int)) : xs.getD i.toNat d ∈ xs := by
  have : i.toNat < xs.length := by omega
  rw [List.getD_eq_getElem?_getD, List.getElem?_eq_getElem this]
  exact List.getElem_mem this
theorem mn2_spec (i j : Int) : (mn2 i j = i ∧ i ≤ j) ∨ (mn2 i j = j ∧ j ≤ i) := by unfold mn2; split <;> omega
theorem mx2_spec (i j : Int) : (mx2 i j = i ∧ j ≤ i) ∨ (mx2 i j = j ∧ i ≤ j) := by unfold mx2; split <;> omega
theorem cutA_upto {α : Type} (w : List α) (d : Nat) (h : d ≤ w.length) : cutA w none (some (d : Int)) = w.take d := by
  have h2 : HT.sIx w.length w.length (some (d : Int)) = d := by
    unfold HT.sIx
    simp only
    split <;> omega
  have h3 : HT.sIx w.length 0 none = 0 := rfl
  unfold cutA
  rw [h2, h3]
  simp
theorem cutA_up {α : Type} (w : List α) (d : Int) : (0 ≤ d → d ≤ (w.length : Int) → ((cutA w none (some d)).length : Int) = d) ∧ (cutA w none (some d)).length ≤ w.length := by
  refine ⟨fun h1 h2 => ?_, cutA_len _ _ _⟩
  obtain ⟨n, rfl⟩ := Int.eq_ofNat_of_zero_le h1
  rw [cutA_upto w n (by omega), List.length_take]
  omega
theorem flat_len {ws : List (List Bool)} {k : Nat} (h : ∀ w ∈ ws, w.length = k) : ws.flatten.length = ws.length * k := by
  induction ws with
  | nil => simp
  | cons w ws ih =>
    rw [List.flatten_cons, List.length_append, ih (fun x hx => h x (List.mem_cons_of_mem _ hx)), h w List.mem_cons_self, List.length_cons, Nat.succ_mul]
    omega
end EB

set_option Elab.async false
set_option linter.all false
set_option maxRecDepth 100000
set_option maxHeartbeats 4000000
/-! EB: the tape of draws. -/
namespace EB
open PySem PySem.Spec PyProof.Rows L2
/-- [great, seed, count] at d.1, great at d.2 -/
structure TpI (d : Addr × Addr) (n : Nat) (H : Hp) : Prop where
  ex : ∃ (gs : List Int) (seed cnt : Int), H d.1 = some (.lst [.ref d.2, .int seed, .int cnt]) ∧ H d.2 = some (.lst (gs.map V.int)) ∧ (∀ g ∈ gs, 0 ≤ g) ∧ 0 ≤ cnt ∧ cnt + n < 2 ^ 63 ∧ d.1 ≠ d.2 ∧ gs.length ≤ 100
def zTp : Rp (Addr × Addr) := fun _ _ _ v d => v = .ref d.1
instance : Mo zTp := ⟨fun _ h => h⟩
def WTp (d : Addr × Addr) : AS := fun b => b = d.1 ∨ b = d.2
theorem re_tape {d : Addr × Addr} : Re (WTp d) (TpI d) where
  st n H H' h i := by
    obtain ⟨gs, seed, cnt, h1, h2, h3⟩ := i.ex
    exact ⟨gs, seed, cnt, by rw [h _ (.inl rfl)]; exact h1, by rw [h _ (.inr rfl)]; exact h2, h3⟩
  dom n H b i w := by
    obtain ⟨gs, seed, cnt, h1, h2, _⟩ := i.ex
    rcases w with w | w
    · subst w; exact ⟨_, h1⟩
    · subst w; exact ⟨_, h2⟩
  less n m H i := by
    obtain ⟨gs, seed, cnt, h1, h2, h3, h4, h5, h6⟩ := i.ex
    exact ⟨gs, seed, cnt, h1, h2, h3, h4, by omega, h6⟩
abbrev sp_draw (K : PySem.W.Frag) : Sp := NSp K (aC zTp (aC zI aN)) (fun (a : (Addr × Addr) × Int × Unit) => WTp a.1) (fun a => TpI a.1) (fun _ => 1) (fun a => 0 < a.2.1 ∧ a.2.1 < 1073741824) zI (fun (a : (Addr × Addr) × Int × Unit) (d : Int) => 0 ≤ d ∧ d < a.2.1)
theorem NSp_len {K : PySem.W.Frag} {α β : Type} {ra : Rpl α} {W : α → AS} {I : α → Nat → Hp → Prop} {c : α → Nat} {pre : α → Prop} {r : Rp β} {φ : α → β → Prop} {n : Nat} (h : ∀ K T H vs a, ra K T H vs a → vs.length = n) : ∀ vs H Q E, NSp K ra W I c pre r φ vs H Q E → vs.length = n :=
  fun vs H Q E ⟨T, a, _, _, _, hr, _⟩ => h K T H vs a hr
theorem zl0 {K : PySem.W.Frag} {H : Hp} {p : Addr} {gs : List Int} (h : H p = some (.lst (gs.map V.int))) : zL zI K T0 H (.ref p) gs := ⟨p, _, rfl, .new (fun z => z) h, all2_ints⟩
theorem zh0 {K : PySem.W.Frag} {H : Hp} {p q : Addr} {a b : Int} (h : H p = some (.lst [.ref q, .int a, .int b])) : zH (aC zA (aC zI (aC zI aN))) K T0 H (.ref p) (q, a, b, ()) := ⟨p, _, rfl, .new (fun z => z) h, _, _, rfl, rfl, _, _, rfl, rfl, _, _, rfl, rfl, rfl⟩
section
variable {K : PySem.W.Frag} {T : AS} {σ : L2.St} {H : Hp} {te : TE} {d : Addr × Int × Int × Unit}
theorem ev_h0 (h : Ev K T te σ H (zH (aC zA (aC zI (aC zI aN)))) d) : Ev K T (tOp (rIxL K) te (tC (.int 0))) σ H zA d.1 := ev_ixH h ev_int fun H1 vs hr => by
  obtain ⟨_, _, rfl, h1, _, _, rfl, h2, _, _, rfl, h3, rfl⟩ := hr
  exact ⟨_, rfl, h1⟩
theorem ev_h1 (h : Ev K T te σ H (zH (aC zA (aC zI (aC zI aN)))) d) : Ev K T (tOp (rIxL K) te (tC (.int 1))) σ H zI d.2.1 := ev_ixH h ev_int fun H1 vs hr => by
  obtain ⟨_, _, rfl, h1, _, _, rfl, h2, _, _, rfl, h3, rfl⟩ := hr
  exact ⟨_, rfl, h2⟩
theorem ev_h2 (h : Ev K T te σ H (zH (aC zA (aC zI (aC zI aN)))) d) : Ev K T (tOp (rIxL K) te (tC (.int 2))) σ H zI d.2.2.1 := ev_ixH h ev_int fun H1 vs hr => by
  obtain ⟨_, _, rfl, h1, _, _, rfl, h2, _, _, rfl, h3, rfl⟩ := hr
  exact ⟨_, rfl, h3⟩
end
end EB

set_option Elab.async false
set_option linter.all false
set_option maxRecDepth 100000
set_option maxHeartbeats 4000000
/-! EB: == of data; lists that are new. -/
namespace EB
open PySem PySem.Spec PyProof.Rows L2
class Dt {α : Type} (r : Rp α) where
  toD : α → PyData
  dep : Nat
  dp : ∀ {K T H v d}, r K T H v d → Dp K H v (toD d)
  lay : ∀ d, (toD d).canLay0 = true
  hdep : ∀ d, (toD d).depth ≤ dep
  eq : ∀ a b, PyData.eqv (toD a) (toD b) = true ↔ a = b
instance : Dt zI := ⟨.int, 0, fun h => by cases h; exact .int _, fun _ => rfl, fun _ => Nat.le_refl 0, fun a b => by simp [PyData.eqv]⟩
instance : Dt zB := ⟨.bool, 0, fun h => by cases h; exact .bl _, fun _ => rfl, fun _ => Nat.le_refl 0, fun a b => by simp [PyData.eqv]⟩
instance : Dt zN := ⟨fun _ => .none, 0, fun h => by cases h; exact .non, fun _ => rfl, fun _ => Nat.le_refl 0, fun a b => by simp [PyData.eqv]⟩
theorem strOk_wS (w : List Bool) : PyData.canLay0 (.str (wS w)) = true := by
  simp only [PyData.canLay0, PyData.strOk, wS, Array.all_eq_true']
  intro x hx
  simp only [List.mem_toArray, List.mem_map] at hx
  obtain ⟨b, _, rfl⟩ := hx
  cases b <;> decide
theorem str_beq (a b : Str) : ((a == b) = true) ↔ a = b := by simp
instance : Dt zW := ⟨fun w => .str (wS w), 0, fun h => by obtain ⟨rfl, _⟩ := h; exact .str _, strOk_wS, fun _ => Nat.le_refl 0, fun a b => by
  simp only [PyData.eqv, str_beq]
  exact ⟨wS_inj, fun h => by rw [h]⟩⟩
section
variable {α β γ : Type} {r : Rp α} {s : Rp β}
theorem dpAll {K T H} [Dt r] {vs : List V} {xs : List α} (h : All2 (r K T H) vs xs) : DpAll K H vs (xs.map (Dt.toD r)) := by
  induction h with
  | nil => exact .nil
  | cons a _ ih => exact .cons (Dt.dp a) ih
theorem layAll [Dt r] : ∀ xs : List α, PyData.canLayAll0 (xs.map (Dt.toD r)) = true
  | [] => rfl
  | x :: xs => by simp only [List.map_cons, PyData.canLayAll0, Dt.lay, layAll xs, Bool.and_self]
theorem depAll [Dt r] : ∀ xs : List α, PyData.depthAll (xs.map (Dt.toD r)) ≤ Dt.dep r
  | [] => Nat.zero_le _
  | x :: xs => by
    simp only [List.map_cons, PyData.depthAll]
    exact Nat.max_le.mpr ⟨Dt.hdep x, depAll xs⟩
theorem eqAll [Dt r] : ∀ xs ys : List α, PyData.eqvAll (xs.map (Dt.toD r)) (ys.map (Dt.toD r)) = true ↔ xs = ys
  | [], [] => by simp [PyData.eqvAll]
  | [], _ :: _ => by simp [PyData.eqvAll]
  | _ :: _, [] => by simp [PyData.eqvAll]
  | x :: xs, y :: ys => by
    simp only [List.map_cons, PyData.eqvAll, Bool.and_eq_true, Dt.eq, eqAll xs ys, List.cons.injEq]
instance [Dt r] : Dt (zL r) := ⟨fun xs => .list (xs.map (Dt.toD r)), Dt.dep r + 1, fun h => by
  obtain ⟨a, vs, rfl, hs, hh⟩ := h
  exact .lst hs.sq (dpAll hh), fun xs => by simp only [PyData.canLay0]; exact layAll xs, fun xs => by simp only [PyData.depth]; exact Nat.succ_le_succ (depAll xs), fun a b => by simp only [PyData.eqv]; exact eqAll a b⟩
instance [Dt r] : Dt (zU r) := ⟨fun xs => .tuple (xs.map (Dt.toD r)), Dt.dep r + 1, fun h => by
  obtain ⟨a, vs, rfl, hs, hh⟩ := h
  exact .tup hs.sq (dpAll hh), fun xs => by simp only [PyData.canLay0]; exact layAll xs, fun xs => by simp only [PyData.depth]; exact Nat.succ_le_succ (depAll xs), fun a b => by simp only [PyData.eqv]; exact eqAll a b⟩
class DtL {α : Type} (r : Rpl α) where
  toD : α → List PyData
  dep : Nat
  dp : ∀ {K T H v d}, r K T H v d → DpAll K H v (toD d)
  lay : ∀ d, PyData.canLayAll0 (toD d) = true
  hdep : ∀ d, PyData.depthAll (toD d) ≤ dep
  eq : ∀ a b, PyData.eqvAll (toD a) (toD b) = true ↔ a = b
instance : DtL aN := ⟨fun _ => [], 0, fun h => by rw [show _ = [] from h]; exact .nil, fun _ => rfl, fun _ => Nat.le_refl 0, fun a b => by simp [PyData.eqvAll]⟩
instance {t : Rpl β} [Dt r] [DtL t] : DtL (aC r t) := ⟨fun p => Dt.toD r p.1 :: DtL.toD t p.2, max (Dt.dep r) (DtL.dep t), fun h => by
  obtain ⟨v, ws, rfl, h1, h2⟩ := h
  exact .cons (Dt.dp h1) (DtL.dp h2), fun p => by simp only [PyData.canLayAll0, Dt.lay, DtL.lay, Bool.and_self], fun p => by
    simp only [PyData.depthAll]
    have h1 := Dt.hdep (r := r) p.1
    have h2 := DtL.hdep (r := t) p.2
    omega, fun a b => by
    simp only [PyData.eqvAll, Bool.and_eq_true, Dt.eq, DtL.eq]
    exact ⟨fun h => Prod.ext h.1 h.2, fun h => by rw [h]; exact ⟨rfl, rfl⟩⟩⟩
instance {t : Rpl β} [DtL t] : Dt (zH t) := ⟨fun xs => .list (DtL.toD t xs), DtL.dep t + 1, fun h => by
  obtain ⟨a, vs, rfl, hs, hh⟩ := h
  exact .lst hs.sq (DtL.dp hh), fun xs => by simp only [PyData.canLay0]; exact DtL.lay xs, fun xs => by simp only [PyData.depth]; exact Nat.succ_le_succ (DtL.hdep xs), fun a b => by simp only [PyData.eqv]; exact DtL.eq a b⟩
theorem shaped_toD [Dt r] (h : Dt.dep r ≤ 64) (d : α) : SeqAt.shaped (Dt.toD r d) = true := by
  unfold SeqAt.shaped
  rw [Dt.lay, Bool.true_and, decide_eq_true_eq]
  exact Nat.le_trans (Dt.hdep d) h
theorem eqv_toD [Dt r] [DecidableEq α] (a b : α) : PyData.eqv (Dt.toD r a) (Dt.toD r b) = decide (a = b) := by
  by_cases h : a = b
  · rw [decide_eq_true h]; exact (Dt.eq a b).mpr h
  · rw [decide_eq_false h]
    cases e : PyData.eqv (Dt.toD r a) (Dt.toD r b) with
    | true => exact absurd ((Dt.eq a b).mp e) h
    | false => rfl
variable {K : PySem.W.Frag} {T : AS} {σ : L2.St} {H : Hp} {te ta tb : TE}
theorem ev_eqD [Mo r] [Dt r] [DecidableEq α] {a b : α} (ha : Ev K T ta σ H r a) (hb : Ev K T tb σ H r b) (hd : Dt.dep r ≤ 64 := by decide) : Ev K T (tOp (rEqD K) ta tb) σ H zB (decide (a = b)) :=
  ev_op ha hb fun x y H1 Q _ h1 h2 q => ⟨_, _, Dt.dp h1, Dt.dp h2, shaped_toD hd a, shaped_toD hd b, q _ H1 (Ex.refl H1) (by rw [eqv_toD]; rfl)⟩
theorem ev_neD [Mo r] [Dt r] [DecidableEq α] {a b : α} (ha : Ev K T ta σ H r a) (hb : Ev K T tb σ H r b) (hd : Dt.dep r ≤ 64 := by decide) : Ev K T (tOp (rNeD K) ta tb) σ H zB (!decide (a = b)) :=
  ev_op ha hb fun x y H1 Q _ h1 h2 q => ⟨_, _, Dt.dp h1, Dt.dp h2, shaped_toD hd a, shaped_toD hd b, q _ H1 (Ex.refl H1) (by rw [eqv_toD]; rfl)⟩
theorem op_eqDQ {X : Cx} (hu : X.A.units + 64 < cLine) (hK : X.K = K := by rfl) : OpR X (compareOp .Eq) (rEqD K) := hK ▸ op_eqD hu
theorem op_neDQ {X : Cx} (hu : X.A.units + 64 < cLine) (hK : X.K = K := by rfl) : OpR X (compareOp .NotEq) (rNeD K) := hK ▸ op_neD hu
end
/-! ### lists that are new: p lies where nothing lay -/
def EvF (K : PySem.W.Frag) (T : AS) {α : Type} (te : TE) (σ : L2.St) (H : Hp) (r : Rp α) (xs : List α) : Prop :=
  ∀ H1, Fr T H H1 → ∀ Q : VK, (∀ p H2 H3, Ex H1 H2 → H2 p = none → Fr (fun b => b = p) H2 H3 → Ex H2 H3 → HM r K (Tp T p) H3 p xs → Q (.ref p) H3) → te σ H1 Q
section
variable {K : PySem.W.Frag} {T : AS} {σ : L2.St} {H : Hp} {α β : Type} {r : Rp α} {s : Rp β} {te ta tb : TE} {tr : TA} {xs : List α} {Q : VK}
theorem f_run (h : EvF K T te σ H r xs) (k : ∀ p H2 H3, Ex H H2 → H2 p = none → Fr (fun b => b = p) H2 H3 → Ex H2 H3 → HM r K (Tp T p) H3 p xs → Q (.ref p) H3) : te σ H Q := h H (Fr.refl H) Q k
theorem hm_new [Mo r] {p : Addr} {vs : List V} (n : H p = none) (h : All2 (r K T H) vs xs) : Fr (fun b => b = p) H (upd H p (.lst vs)) ∧ Ex H (upd H p (.lst vs)) ∧ HM r K (Tp T p) (upd H p (.lst vs)) p xs :=
  ⟨Fr.upd (.inl rfl), Ex.new n, .inr rfl, vs, upd_same, all2_imp (fun _ _ z => Mo.fr (Ex.new n).fr (Mo.lift n z)) h⟩
theorem ef_lst [Mo r] (h : EvA K T tr σ H (aH r) xs) (hl : xs.length ≤ 1000) : EvF K T (tLst tr) σ H r xs := fun H1 f Q q => h H1 f _ fun vs H2 e2 r2 =>
  ⟨by rw [all2_len r2, sizeLine_eq]; omega, fun p hp => let ⟨a, b, c⟩ := hm_new hp r2; q p H2 _ e2 hp a b c⟩
theorem ef_listL [Mo r] (h : Ev K T ta σ H (zL r) xs) : EvF K T (tCB (rListQ K) (tCons ta tNil)) σ H r xs := fun H1 f Q q => h H1 f _ fun v H2 e2 ⟨a, vs, e, hs, hh⟩ =>
  ⟨a, vs, by rw [e], .inl hs.sq, fun p hp => let ⟨a, b, c⟩ := hm_new hp hh; q p H2 _ e2 hp a b c⟩
theorem ef_listU [Mo r] (h : Ev K T ta σ H (zU r) xs) : EvF K T (tCB (rListQ K) (tCons ta tNil)) σ H r xs := fun H1 f Q q => h H1 f _ fun v H2 e2 ⟨a, vs, e, hs, hh⟩ =>
  ⟨a, vs, by rw [e], .inr hs.sq, fun p hp => let ⟨a, b, c⟩ := hm_new hp hh; q p H2 _ e2 hp a b c⟩
theorem lst_newF [Mo r] {vs : List V} (h : All2 (r K T H) vs xs) (hl : xs.length ≤ 1000) (k : ∀ p H3, H p = none → Fr (fun b => b = p) H H3 → Ex H H3 → HM r K (Tp T p) H3 p xs → Q (.ref p) H3) : vs.length ≤ sizeLine ∧ ∀ p, H p = none → Q (.ref p) (upd H p (.lst vs)) :=
  ⟨by rw [all2_len h, sizeLine_eq]; omega, fun p hp => let ⟨a, b, c⟩ := hm_new hp h; k p _ hp a b c⟩
theorem ef_listQ [Mo r] (h : Ev K T ta σ H (zQ r) xs) : EvF K T (tCB (rListQ K) (tCons ta tNil)) σ H r xs := fun H1 f Q q => h H1 f _ fun v H2 e2 h2 => by
  rcases h2 with ⟨a, vs, e, hs, hh⟩ | ⟨a, vs, e, hs, hh⟩
  · exact ⟨a, vs, by rw [e], .inl hs.sq, fun p hp => let ⟨a, b, c⟩ := hm_new hp hh; q p H2 _ e2 hp a b c⟩
  · exact ⟨a, vs, by rw [e], .inr hs.sq, fun p hp => let ⟨a, b, c⟩ := hm_new hp hh; q p H2 _ e2 hp a b c⟩
end
end EB

set_option Elab.async false
set_option linter.all false
set_option maxRecDepth 100000
set_option maxHeartbeats 4000000
/-! EB: more built-ins. -/
namespace EB
open PySem PySem.Spec PyProof.Rows L2
section
variable {K : PySem.W.Frag} {T : AS} {σ : L2.St} {H : Hp} {α β : Type} {r : Rp α} {te ta tb tc : TE} {i j k : Int}
theorem nuMax2_int (i j : Int) : nuMax2 (.int i) (.int j) = some (.int (mx2 i j)) := by
  show some (if decide (i < j) = true then V.int j else .int i) = some (.int (if j > i then j else i))
  by_cases h : i < j
  · rw [decide_eq_true h, if_pos rfl, if_pos h]
  · rw [decide_eq_false h, if_neg (by decide), if_neg h]
theorem nuMin2_int (i j : Int) : nuMin2 (.int i) (.int j) = some (.int (mn2 i j)) := by
  show some (if decide (j < i) = true then V.int j else .int i) = some (.int (if j < i then j else i))
  by_cases h : j < i
  · rw [decide_eq_true h, if_pos rfl, if_pos h]
  · rw [decide_eq_false h, if_neg (by decide), if_neg h]
theorem call_max3Q {X : Cx} (hc : X.calm = true := by rfl) : CallR X (.builtin "max") (rNuC3 nuMax3) := call_max3Nu hc
theorem call_min3Q {X : Cx} (hc : X.calm = true := by rfl) : CallR X (.builtin "min") (rNuC3 nuMin3) := call_min3Nu hc
theorem ev_max3 (h : Ev K T ta σ H zI i) (h' : Ev K T tb σ H zI j) (h'' : Ev K T tc σ H zI k) : Ev K T (tCB (rNuC3 nuMax3) (tCons ta (tCons tb (tCons tc tNil)))) σ H zI (mx2 (mx2 i j) k) := fun H1 f Q q =>
  h H1 f _ fun x H2 e2 r2 => h' H2 (f.trans e2.fr) _ fun y H3 e3 r3 => h'' H3 ((f.trans e2.fr).trans e3.fr) _ fun z H4 e4 r4 => by
    cases r2; cases r3; cases r4
    exact ⟨_, _, _, _, rfl, by unfold nuMax3; rw [nuMax2_int]; exact nuMax2_int _ _, q _ H4 ((e2.trans e3).trans e4) rfl⟩
theorem ev_min3 (h : Ev K T ta σ H zI i) (h' : Ev K T tb σ H zI j) (h'' : Ev K T tc σ H zI k) : Ev K T (tCB (rNuC3 nuMin3) (tCons ta (tCons tb (tCons tc tNil)))) σ H zI (mn2 (mn2 i j) k) := fun H1 f Q q =>
  h H1 f _ fun x H2 e2 r2 => h' H2 (f.trans e2.fr) _ fun y H3 e3 r3 => h'' H3 ((f.trans e2.fr).trans e3.fr) _ fun z H4 e4 r4 => by
    cases r2; cases r3; cases r4
    exact ⟨_, _, _, _, rfl, by unfold nuMin3; rw [nuMin2_int]; exact nuMin2_int _ _, q _ H4 ((e2.trans e3).trans e4) rfl⟩
end
end EB

set_option Elab.async false
set_option linter.all false
set_option maxRecDepth 100000
set_option maxHeartbeats 4000000
/-! EB: tables of what is known. -/
namespace EB
open PySem PySem.Spec PyProof.Rows L2
theorem nodup_le {α : Type} [DecidableEq α] : ∀ {xs ys : List α}, xs.Nodup → (∀ x ∈ xs, x ∈ ys) → xs.length ≤ ys.length
  | [], _, _, _ => Nat.zero_le _
  | x :: xs, ys, hn, hs => by
    have hx : x ∈ ys := hs x List.mem_cons_self
    obtain ⟨hn1, hn2⟩ := List.nodup_cons.mp hn
    have h1 : ∀ y ∈ xs, y ∈ ys.erase x := fun y hy => by
      have : y ≠ x := fun z => hn1 (z ▸ hy)
      exact (List.mem_erase_of_ne this).mpr (hs y (List.mem_cons_of_mem _ hy))
    have h2 := nodup_le hn2 h1
    rw [List.length_erase_of_mem hx] at h2
    have h3 := List.length_pos_of_mem hx
    rw [List.length_cons]
    omega
structure MmI {α : Type} (a : Addr) (kf : α → Key) (U : List α) (ok : α → Int → Prop) (n : Nat) (H : Hp) : Prop where
  inj : ∀ x y, kf x = kf y → x = y
  few : U.length ≤ 1000000
  ex : ∃ kvs : List (Key × V), H a = some (.dK kvs) ∧ (kvs.map (·.1)).Nodup ∧ ∀ q ∈ kvs, ∃ w i, q = (kf w, V.int i) ∧ w ∈ U ∧ ok w i
def W1 (a : Addr) : AS := fun b => b = a
theorem re_memo {α : Type} {a : Addr} {kf : α → Key} {U : List α} {ok : α → Int → Prop} : Re (W1 a) (MmI a kf U ok) where
  st n H H' h i := ⟨i.inj, i.few, by obtain ⟨kvs, h1, h2⟩ := i.ex; exact ⟨kvs, by rw [h a rfl]; exact h1, h2⟩⟩
  dom n H b i w := by
    obtain ⟨kvs, h1, h2⟩ := i.ex
    cases w
    exact ⟨_, h1⟩
  less n m H i := ⟨i.inj, i.few, i.ex⟩
def HasE {α : Type} (kf : α → Key) (a : Addr) (w : α) (i : Int) (H : Hp) : Prop := ∃ kvs : List (Key × V), H a = some (.dK kvs) ∧ valV kvs (kf w) = some (.int i)
theorem valV_mem {kvs : List (Key × V)} {k : Key} {v : V} (h : valV kvs k = some v) : (k, v) ∈ kvs := by
  unfold valV at h
  cases e : kvs.find? fun kv => decide (kv.1 = k) with
  | none => rw [e] at h; cases h
  | some q =>
    rw [e] at h
    have h1 := List.mem_of_find?_eq_some e
    have h2 := List.find?_some e
    simp only [decide_eq_true_eq] at h2
    cases h
    rw [← h2]
    exact h1
section
variable {K : PySem.W.Frag} {T : AS} {σ : L2.St} {H : Hp} {α : Type} {a : Addr} {kf : α → Key} {U : List α} {ok : α → Int → Prop} {n : Nat} {w : α} {i : Int} {y v : V} {Q : VK} {D : Ends}
theorem HasE.ex {H' : Hp} (h : HasE kf a w i H) (e : Ex H H') : HasE kf a w i H' := let ⟨kvs, h1, h2⟩ := h; ⟨kvs, e _ _ h1, h2⟩
theorem notin_v (hI : MmI a kf U ok n H) (hy : y = kV (kf w)) (k1 : (∀ kvs, H a = some (.dK kvs) → valV kvs (kf w) = none) → Q (.bl true) H) (k2 : ∀ i, ok w i → HasE kf a w i H → Q (.bl false) H) :
    ∃ a' o, V.ref a = .ref a' ∧ DGet H a' y o ∧ Q (.bl (!o.isSome)) H := by
  obtain ⟨kvs, h1, h2, h3⟩ := hI.ex
  refine ⟨a, valV kvs (kf w), rfl, .inl ⟨kvs, _, .inl h1, hy, rfl⟩, ?_⟩
  cases e : valV kvs (kf w) with
  | none => exact k1 fun kvs' h' => by rw [h1] at h'; cases h'; exact e
  | some u =>
    obtain ⟨w', i, e1, _, ho⟩ := h3 _ (valV_mem e)
    injection e1 with e2 e3
    subst e3
    have e4 := hI.inj _ _ e2
    subst e4
    exact k2 i ho ⟨kvs, h1, e⟩
theorem in_v (hI : MmI a kf U ok n H) (hy : y = kV (kf w)) (k1 : (∀ kvs, H a = some (.dK kvs) → valV kvs (kf w) = none) → Q (.bl false) H) (k2 : ∀ i, ok w i → HasE kf a w i H → Q (.bl true) H) :
    ∃ a' o, V.ref a = .ref a' ∧ DGet H a' y o ∧ Q (.bl o.isSome) H := by
  obtain ⟨kvs, h1, h2, h3⟩ := hI.ex
  refine ⟨a, valV kvs (kf w), rfl, .inl ⟨kvs, _, .inl h1, hy, rfl⟩, ?_⟩
  cases e : valV kvs (kf w) with
  | none => exact k1 fun kvs' h' => by rw [h1] at h'; cases h'; exact e
  | some u =>
    obtain ⟨w', i, e1, _, ho⟩ := h3 _ (valV_mem e)
    injection e1 with e2 e3
    subst e3
    have e4 := hI.inj _ _ e2
    subst e4
    exact k2 i ho ⟨kvs, h1, e⟩
theorem get_v (h : HasE kf a w i H) (hy : y = kV (kf w)) (k : Q (.int i) H) : ∃ a' v, V.ref a = .ref a' ∧ DGet H a' y (some v) ∧ Q v H := by
  obtain ⟨kvs, h1, h2⟩ := h
  exact ⟨a, _, rfl, .inl ⟨kvs, _, .inl h1, hy, h2.symm⟩, k⟩
theorem putK_keys {kvs : List (Key × V)} {k : Key} {v : V} : (∀ q ∈ putK kvs k v, q = (k, v) ∨ q ∈ kvs) ∧ ((kvs.map (·.1)).Nodup → ((putK kvs k v).map (·.1)).Nodup) := by
  unfold putK
  by_cases h : (kvs.any fun kv => decide (kv.1 = k)) = true
  · rw [if_pos h]
    constructor
    · intro q hq
      rw [List.mem_map] at hq
      obtain ⟨u, hu, rfl⟩ := hq
      by_cases e : u.1 = k
      · rw [if_pos e]; left; rw [e]
      · rw [if_neg e]; right; exact hu
    · intro hn
      rw [List.map_map, show ((fun x : Key × V => x.1) ∘ fun kv => if kv.1 = k then (kv.1, v) else kv) = (fun x => x.1) from funext fun u => by
        show (if u.1 = k then (u.1, v) else u).1 = u.1
        split <;> rfl]
      exact hn
  · rw [if_neg h]
    constructor
    · intro q hq
      rcases List.mem_append.mp hq with hq | hq
      · exact .inr hq
      · simp only [List.mem_singleton] at hq; exact .inl hq
    · intro hn
      rw [List.map_append, List.nodup_append]
      refine ⟨hn, by simp, fun x hx y hy z => ?_⟩
      simp only [List.map_cons, List.map_nil, List.mem_singleton] at hy
      subst hy; subst z
      apply h
      rw [List.any_eq_true]
      rw [List.mem_map] at hx
      obtain ⟨q, hq, e⟩ := hx
      exact ⟨q, hq, decide_eq_true e⟩
theorem valV_putK {kvs : List (Key × V)} {k : Key} {v : V} : valV (putK kvs k v) k = some v := by
  unfold putK valV
  by_cases h : (kvs.any fun kv => decide (kv.1 = k)) = true
  · rw [if_pos h]
    induction kvs with
    | nil => cases h
    | cons u us ih =>
      by_cases e : u.1 = k
      · simp [List.find?_cons, e]
      · have h' : (us.any fun kv => decide (kv.1 = k)) = true := by simpa [e] using h
        simp only [List.map_cons, e, if_false, List.find?_cons, decide_false]
        exact ih h'
  · rw [if_neg h]
    have hn : (kvs.find? fun kv => decide (kv.1 = k)) = none := by
      rw [List.find?_eq_none]
      intro x hx hd
      exact h (List.any_eq_true.mpr ⟨x, hx, hd⟩)
    rw [List.find?_append, hn]
    simp
theorem put_v (hI : MmI a kf U ok n H) (hy : y = kV (kf w)) (hw : w ∈ U) (ho : ok w i) (k : ∀ H', Fr (W1 a) H H' → MmI a kf U ok n H' → HasE kf a w i H' → D.nx σ H') :
    ∃ a' H', V.ref a = .ref a' ∧ DPut H a' y (.int i) H' ∧ D.nx σ H' := by
  obtain ⟨kvs, h1, h2, h3⟩ := hI.ex
  have hl : kvs.length ≤ U.length := by
    have := nodup_le (ys := U.map kf) h2 fun x hx => by
      rw [List.mem_map] at hx
      obtain ⟨q, hq, e⟩ := hx
      obtain ⟨w', i', rfl, hu, _⟩ := h3 q hq
      exact List.mem_map.mpr ⟨w', hu, e⟩
    simpa using this
  have hf := hI.few
  refine ⟨a, _, rfl, .inl ⟨kvs, _, h1, hy, by rw [sizeLine_eq]; omega, rfl⟩, ?_⟩
  refine k _ (Fr.upd (.inl rfl)) ⟨hI.inj, hI.few, _, upd_same, putK_keys.2 h2, fun q hq => ?_⟩ ⟨_, upd_same, valV_putK⟩
  rcases putK_keys.1 q hq with rfl | hq
  · exact ⟨w, i, rfl, hw, ho⟩
  · exact h3 q hq
end
def kW (w : List Bool) : Key := .inr (wS w)
theorem kW_inj (x y : List Bool) (h : kW x = kW y) : x = y := by
  injection h with h
  exact wS_inj h
def wordsTo : Nat → List (List Bool)
  | 0 => [[]]
  | L + 1 => [] :: ((wordsTo L).map (false :: ·) ++ (wordsTo L).map (true :: ·))
theorem mem_wordsTo : ∀ {L : Nat} {w : List Bool}, w.length ≤ L → w ∈ wordsTo L
  | 0, w, h => by
    have : w = [] := List.length_eq_zero_iff.mp (by omega)
    subst this; simp [wordsTo]
  | L + 1, [], _ => by simp [wordsTo]
  | L + 1, b :: w, h => by
    have := mem_wordsTo (L := L) (w := w) (by simpa using h)
    cases b <;> simp [wordsTo, this]
theorem len_wordsTo : ∀ L, (wordsTo L).length = 2 ^ (L + 1) - 1
  | 0 => rfl
  | L + 1 => by
    simp only [wordsTo, List.length_cons, List.length_append, List.length_map, len_wordsTo L]
    have := Nat.one_le_two_pow (n := L + 1)
    rw [Nat.pow_succ 2 (L + 1)]
    omega
theorem few_wordsTo {L : Nat} (h : L ≤ 15) : (wordsTo L).length ≤ 1000000 := by
  rw [len_wordsTo]
  have : 2 ^ (L + 1) ≤ 2 ^ 16 := Nat.pow_le_pow_right (by decide) (by omega)
  omega
end EB
namespace EB
open PySem PySem.Spec PyProof.Rows L2
section
variable {K : PySem.W.Frag} {T W : AS} {I : Nat → Hp → Prop} {σ : L2.St} {H : Hp} {α β γ : Type} {r : Rp α} {s : Rp β} {ta tb te : TE} {c c' : Nat} {φ : α → Prop} {ψ : β → Prop}
/-- a comprehension whose element changes the resource, as a list that is new -/
theorem en_lcF [Mo r] [Mo s] {wi : TI} {g : TG} {vs : List Nat} {xs : List α} {φ : α → β → Prop} (R : Re W I) (hT : TD T H) (hW : ∀ b, W b → T b) (h : EvI K T wi σ H r xs)
    (hs : ∀ (T' : AS) (H' : Hp) (v : V) (x : α), Tr K T H T' H' → TD T' H' → (∀ b, W b → T' b) → x ∈ xs → r K T' H' v x → ∀ Q : L2.St → Hp → Prop, (∀ σ2, wipe σ2 vs = wipe σ vs → EvN K T' W I c te σ2 H' s (φ x) → Q σ2 H') → g v (wipe σ vs) H' Q) :
    ∀ n H1, Fr T H H1 → I (n + xs.length * c) H1 → ∀ Q : VK, (∀ p H2 ys, Fr W H1 H2 → H1 p = none → I n H2 → HM s K (Tp T p) H2 p ys → All2 (fun y x => φ x y) ys xs → Q (.ref p) H2) → tLc wi g tYes te vs σ H1 Q := fun n H1 fr i1 Q q => h H1 fr _ fun J H2 e2 w => by
  intro D hD
  obtain ⟨⟨m, G, Y, hn, wk, hG, hY⟩, hz⟩ := w
  subst hn
  have i2 := R.ex i1 e2
  have hT2 : TD T H2 := (hT.fr fr).ex e2
  have nD : ¬ T D := hT2.new hD
  have nW : ¬ W D := fun z => nD (hW D z)
  refine lc_it wk (fun i H' => Fr W H2 H' ∧ I (n + (xs.length - i) * c) H' ∧ ∃ acc ys, H' D = some (.lst acc) ∧ All2 (s K (Tp T D) H') acc ys ∧ All2 (fun y x => φ x y) ys (xs.take i)) ⟨(Ex.new hD).fr, R.ex i2 (Ex.new hD), [], [], upd_same, .nil, by simp; exact .nil⟩ (fun i H' _ ⟨e, _⟩ => hG H' (e.mono hW)) ?_ ?_
  · intro i v H' H'' hi ⟨e, hI, acc, ys, hacc, hall, hφ⟩ y
    obtain ⟨eY, x, hx, hr⟩ := hY i H' v H'' hi (e.mono hW) y
    have tr2 : Tr K T H2 (Tp T D) H' := (Tr.lift hD).trans (Tr.fr (e.mono fun b hb => .inl (hW b hb)))
    have hTD : TD (Tp T D) H' := (hT2.fr e).tp hacc
    have tr : Tr K T H (Tp T D) H'' := ((Tr.fr (fr.trans e2.fr)).trans tr2).trans (Tr.ex eY)
    refine hs (Tp T D) H'' v x tr (hTD.ex eY) (fun b hb => .inl (hW b hb)) (List.mem_of_getElem? hx) (hr _ hTD tr2) _ fun σ2 hw he => ⟨hw, ?_⟩
    have hlen : acc.length ≤ i := by
      have h1 := all2_len hall
      have h2 := all2_len hφ
      rw [List.length_take] at h2
      omega
    refine tYes_if ?_
    refine he (n + (xs.length - (i + 1)) * c) H'' (Fr.refl _) ?_ _ fun yv H4 d f4 i4 r4 p4 => ⟨acc, f4.keep _ _ nW (eY _ _ hacc), by omega, ?_⟩
    · have e1 : xs.length - i = (xs.length - (i + 1)) + 1 := by omega
      have e2 : n + (xs.length - (i + 1)) * c + c = n + (xs.length - i) * c := by rw [e1, Nat.succ_mul]; omega
      rw [e2]; exact R.ex hI eY
    · have fD : Fr (Tp T D) H4 (upd H4 D (.lst (acc ++ [yv]))) := Fr.upd (.inl (.inr rfl))
      have f4' : Fr (Tp T D) H'' H4 := f4.mono fun b hb => .inl (hW b hb)
      refine ⟨⟨fun b o nb hb => ?_, fun b o hb => ?_⟩, R.st _ H4 _ (fun b wb => upd_ne (fun z => nW (z ▸ wb))) i4, acc ++ [yv], ys ++ [d], upd_same, ?_, ?_⟩
      · rw [upd_ne (ne_of_none hb hD)]
        exact f4.keep _ _ nb (eY _ _ (e.keep b o nb hb))
      · obtain ⟨o1, h1⟩ := e.dom b o hb
        obtain ⟨o2, h2⟩ := f4.dom b o1 (eY _ _ h1)
        exact ⟨o2, by rw [upd_ne (ne_of_none hb hD)]; exact h2⟩
      · exact all2_app (all2_imp (fun _ _ z => Mo.fr fD (Mo.fr f4' (Mo.fr eY.fr z))) hall) (.cons (Mo.fr fD r4) .nil)
      · rw [List.take_add_one, hx]
        exact all2_app hφ (.cons p4 .nil)
  · rintro H' ⟨e, hI, acc, ys, hacc, hall, hφ⟩
    rw [List.take_length] at hφ
    rw [Nat.sub_self, Nat.zero_mul] at hI
    exact q D H' ys (e2.fr.trans e) (e2.back hD) hI ⟨.inr rfl, acc, hacc, hall⟩ hφ
end
end EB
namespace EB
open PySem PySem.Spec PyProof.Rows L2
theorem room_1 {k : Nat} {A : Around} (r : Room k A) : A.units + 1 < cLine := by have := r.un; omega
theorem room_64 {k : Nat} {A : Around} (r : Room k A) : A.units + 64 < cLine := by have := r.un; omega
theorem dni_open {td ty : TE} {σ : L2.St} {H : Hp} {Q : VK} (h : ty σ H fun y H1 => td σ H1 fun x H2 => ∃ a o, x = .ref a ∧ DGet H2 a y o ∧ Q (.bl (!o.isSome)) H2) : tDNotIn ty td σ H Q := h
theorem din_open {td ty : TE} {σ : L2.St} {H : Hp} {Q : VK} (h : ty σ H fun y H1 => td σ H1 fun x H2 => ∃ a o, x = .ref a ∧ DGet H2 a y o ∧ Q (.bl o.isSome) H2) : tDIn ty td σ H Q := h
theorem dget_open {td ty : TE} {σ : L2.St} {H : Hp} {Q : VK} (h : td σ H fun x H1 => ty σ H1 fun y H2 => ∃ a v, x = .ref a ∧ DGet H2 a y (some v) ∧ Q v H2) : tDGet td ty σ H Q := h
theorem dput_open {td ty tv : TE} {σ : L2.St} {H : Hp} {D : Ends} (h : tv σ H fun v H1 => td σ H1 fun x H2 => ty σ H2 fun y H3 => ∃ a H4, x = .ref a ∧ DPut H3 a y v H4 ∧ D.nx σ H4) : sDPut td ty tv D σ H := h
theorem all2_eqmap {α β : Type} {f : β → α} : ∀ {ys : List α} {xs : List β}, All2 (fun y x => y = f x) ys xs → ys = xs.map f
  | _, _, .nil => rfl
  | _, _, .cons r t => by rw [r, all2_eqmap t]; rfl
end EB
namespace EB
open PySem PySem.Spec PyProof.Rows L2
theorem mem_rng {lo x : Int} {n : Nat} (h : x ∈ rng lo n) : lo ≤ x ∧ x < lo + n := by
  unfold rng at h
  rw [List.mem_map] at h
  obtain ⟨i, hi, rfl⟩ := h
  rw [List.mem_range] at hi
  omega
theorem mem_bits {w : List Bool} (h : w ∈ ([[false], [true]] : List (List Bool))) : w.length = 1 := by
  simp only [List.mem_cons, List.not_mem_nil, or_false] at h
  rcases h with rfl | rfl <;> rfl
end EB
namespace EB
open PySem PySem.Spec PyProof.Rows L2
theorem notin_if {H : Hp} {α : Type} {a : Addr} {kf : α → Key} {U : List α} {ok : α → Int → Prop} {n : Nat} {w : α} {y : V} {A B : Prop} (hI : MmI a kf U ok n H) (hy : y = kV (kf w)) (k1 : (∀ kvs, H a = some (.dK kvs) → valV kvs (kf w) = none) → A) (k2 : ∀ i, ok w i → HasE kf a w i H → B) :
    ∃ a' o, V.ref a = .ref a' ∧ DGet H a' y o ∧ ∃ k, V.bl (!o.isSome) = .bl k ∧ if k = true then A else B :=
  notin_v (Q := fun v _ => ∃ k, v = .bl k ∧ if k = true then A else B) hI hy (fun h => ⟨true, rfl, by rw [if_pos rfl]; exact k1 h⟩) (fun i h1 h2 => ⟨false, rfl, by rw [if_neg (by decide)]; exact k2 i h1 h2⟩)
end EB
namespace EB
open PySem PySem.Spec PyProof.Rows L2
theorem foldl_filter {α β : Type} (c : α → Bool) (f : α → β) : ∀ (xs : List α) (s : List β), xs.foldl (fun s x => if c x = true then s ++ [f x] else s) s = s ++ (xs.filter c).map f
  | [], s => by simp
  | x :: xs, s => by
    rw [List.foldl_cons, foldl_filter c f xs, List.filter_cons]
    by_cases h : c x = true
    · rw [if_pos h, if_pos h, List.map_cons, List.append_assoc]; rfl
    · rw [if_neg h, if_neg h]
end EB

set_option Elab.async false
set_option linter.all false
set_option maxRecDepth 100000
set_option maxHeartbeats 4000000
/-! EB: tuple * int; is; objects that are made. -/
namespace EB
open PySem PySem.Spec PyProof.Rows L2
theorem tuple_mul1 (l : Addr) (items : Array Value) (n : Nat) (dd : Option Addr) (sl : Array (Option Value)) (u : Tok) :
    Meets (Builtin.«tuple.__mul__» ⟨[.ref l, .int 1 u], []⟩) (fun _ R s => s.heap.get? l = some { cls := .type "tuple", dict := dd, data := .seq items n, slots := sl } ∧
      R (.ok (.ret (Value.ref l))) s) :=
  .of_wp fun prog w A R s h => by
    obtain ⟨hp, g, d, tk, os⟩ := s
    obtain ⟨hl, h⟩ := h
    have f1 := AutoSeq1.idx_int
    wp_walk using wpAny_loadPart' hl
    exact ⟨_, rfl, h⟩
/-- a tuple times an int from 1 on -/
def rRepC (K : PySem.W.Frag) : R2 := fun x y H Q => ∃ l k xs, x = .ref l ∧ y = .int k ∧ SqT K H l xs ∧ xs ≠ [] ∧ 1 ≤ k ∧ k ≤ 1000 ∧ xs.length ≤ 1000 ∧ ((k = 1 ∧ Q (.ref l) H) ∨ (2 ≤ k ∧ ∀ p, H p = none → Q (.ref p) (upd H p (.tup (List.replicate k.toNat xs).flatten))))
theorem op_repC {X : Cx} {K : PySem.W.Frag} (hK : X.K = K := by rfl) : OpR X (binaryOp .Mult) (rRepC K) := by
  subst hK
  intro pins s σ H x y v u Q I rx ry h
  obtain ⟨l, k, xs, rfl, rfl, hT, hne, h1, h2, hz, q⟩ := h
  rcases q with ⟨rfl, q⟩ | ⟨h3, q⟩
  · cases rx
    obtain ⟨t, rfl⟩ := ry
    obtain ⟨its, r, ⟨⟨cls, dd, data, sl⟩, ho, hc, n, hd⟩, hs⟩ := I.tuple hT
    simp only at hc hd
    subst hc hd
    refine wpAny_binaryOp_repeat_ref (T := "tuple") (U := "int") (by decide) ⟨_, ho, rfl⟩ (fun s' => typeIs_int s' 1 t) noFill_tuple_mul F.fills_int_mul F.slot_int_rmul repeat_tuple F.slot_int_index.lookup
      (call_meets F.slot_int_rmul (typeIs_int s 1 t) F.entry_int_rmul (F.args_int_rmul_2 _ _) (int_rmul_tuple 1 t l its.toArray n dd sl)
        ⟨ho, rfl, ⟨_, ho, rfl⟩, call_meets F.slot_tuple_mul ⟨_, ho, rfl⟩ F.entry_tuple_mul (F.args_tuple_mul_2 _ _) (tuple_mul1 l its.toArray n dd sl t) ⟨ho, ?_⟩⟩)
    exact ⟨.ref l, H, I, rfl, q⟩
  · exact op_repT pins s σ H _ _ v u Q I rx ry ⟨l, k, xs, rfl, rfl, hT, hne, h3, h2, hz, q⟩
section
variable {K : PySem.W.Frag} {T : AS} {σ : L2.St} {H : Hp} {α β γ : Type} {r : Rp α} {s : Rp β} {te ta tb tv : TE} {D : Ends} {i : Nat}
theorem all2_rep {F : V → α → Prop} {vs : List V} {xs : List α} (h : All2 F vs xs) : ∀ n : Nat, All2 F (List.replicate n vs).flatten (List.replicate n xs).flatten
  | 0 => .nil
  | n + 1 => by
    rw [List.replicate_succ, List.replicate_succ, List.flatten_cons, List.flatten_cons]
    exact all2_app h (all2_rep h n)
theorem ev_repU [Mo r] {xs : List α} {k : Int} (hT : TD T H) (ha : Ev K T ta σ H (zU r) xs) (hb : Ev K T tb σ H zI k) (hne : xs ≠ []) (h1 : 1 ≤ k) (h2 : k ≤ 1000) (hl : xs.length ≤ 1000) : Ev K T (tOp (rRepC K) ta tb) σ H (zU r) (List.replicate k.toNat xs).flatten :=
  ev_op ha hb fun x y H1 Q f h3 h4 q => by
    obtain ⟨a, vs, rfl, hs, hh⟩ := h3
    have hlen := all2_len hh
    refine ⟨a, k, vs, rfl, h4, hs.sq, fun z => hne (by rw [z] at hlen; exact List.eq_nil_of_length_eq_zero hlen.symm), h1, h2, by omega, ?_⟩
    by_cases e : k = 1
    · subst e
      refine .inl ⟨rfl, q _ H1 (Ex.refl H1) ⟨a, vs, rfl, hs, ?_⟩⟩
      show All2 (r K T H1) vs (List.replicate 1 xs).flatten
      simp only [List.replicate, List.flatten_cons, List.flatten_nil, List.append_nil]
      exact hh
    · exact .inr ⟨by omega, fun p hp => q _ _ (Ex.new hp) ⟨p, _, rfl, .new ((hT.fr f).new hp) upd_same, all2_imp (fun _ _ z => Mo.fr (Ex.new hp).fr z) (all2_rep hh _)⟩⟩
theorem ev_isB {a b : Bool} (ha : Ev K T ta σ H zB a) (hb : Ev K T tb σ H zB b) : Ev K T (tOp rIsB ta tb) σ H zB (decide (a = b)) :=
  ev_op ha hb fun x y H1 Q _ h1 h2 q => ⟨a, b, h1, h2, q _ H1 (Ex.refl H1) rfl⟩
theorem ev_notB {a b : Bool} (ha : Ev K T ta σ H zB a) (hb : Ev K T tb σ H zB b) : Ev K T (tOp rNotB ta tb) σ H zB (!decide (a = b)) :=
  ev_op ha hb fun x y H1 Q _ h1 h2 q => ⟨a, b, h1, h2, q _ H1 (Ex.refl H1) rfl⟩
/-- x is None, where what is there is told -/
class NN (r : Rp α) : Prop where
  ne : ∀ {K T H v d}, r K T H v d → v ≠ .non
instance : NN zI := ⟨fun h => by cases h; intro z; cases z⟩
instance : NN zB := ⟨fun h => by cases h; intro z; cases z⟩
instance : NN zW := ⟨fun h => by obtain ⟨rfl, _⟩ := h; intro z; cases z⟩
instance : NN (zL r) := ⟨fun h => by obtain ⟨a, vs, rfl, _⟩ := h; intro z; cases z⟩
instance : NN (zU r) := ⟨fun h => by obtain ⟨a, vs, rfl, _⟩ := h; intro z; cases z⟩
instance : NN (zQ r) := ⟨fun h => by rcases h with h | h <;> (obtain ⟨a, vs, rfl, _⟩ := h; intro z; cases z)⟩
instance : NN (zP r s) := ⟨fun h => by obtain ⟨a, x, y, rfl, _⟩ := h; intro z; cases z⟩
theorem ev_isNO [NN r] {o : Option α} (ha : Ev K T ta σ H (zO r) o) : Ev K T (tOp rIsN ta (tC .non)) σ H zB o.isNone := fun H1 f Q q => ha H1 f _ fun v H2 e2 r2 => by
  refine ⟨rfl, ?_⟩
  rcases r2 with ⟨rfl, rfl⟩ | ⟨x, rfl, hx⟩
  · exact q _ H2 e2 rfl
  · rw [decide_eq_false (NN.ne hx)]; exact q _ H2 e2 rfl
theorem ev_notNO [NN r] {o : Option α} (ha : Ev K T ta σ H (zO r) o) : Ev K T (tOp rNotN ta (tC .non)) σ H zB o.isSome := fun H1 f Q q => ha H1 f _ fun v H2 e2 r2 => by
  refine ⟨rfl, ?_⟩
  rcases r2 with ⟨rfl, rfl⟩ | ⟨x, rfl, hx⟩
  · exact q _ H2 e2 rfl
  · rw [decide_eq_false (NN.ne hx)]; exact q _ H2 e2 rfl
/-- what is there, where it is there -/
theorem ev_O {d : α} (ha : Ev K T ta σ H (zO r) (some d)) : Ev K T ta σ H r d := fun H1 f Q q => ha H1 f Q fun v H2 e2 r2 => by
  rcases r2 with ⟨_, h⟩ | ⟨x, h, hx⟩
  · cases h
  · cases h; exact q v H2 e2 hx
/-- self.f = e, of an object that is being made -/
theorem st_fld {x : Addr} {C : Addr} {dx : Addr} {fs : List (Str × V)} {f : Str} {d : α} (h : Ev K T tv σ H r d) (hx : σ[i]? = some (some (.ref x))) (hi : H x = some (.ins C dx fs)) (c : Cls K C) (n : NoAttr K C f) (hl : fs.length < 1000)
    (k : ∀ y H1 H2, Ex H H1 → r K T H1 y d → Fr (fun b => b = x) H1 H2 → H2 x = some (.ins C dx (putF f y fs)) → D.nx σ H2) : sFld K (tVar i) tv f D σ H :=
  h H (Fr.refl H) _ fun y H1 e1 r1 => ⟨.ref x, hx, x, C, dx, fs, rfl, e1 _ _ hi, c, n, hl, k y H1 _ e1 r1 (Fr.upd (.inl rfl)) upd_same⟩
theorem st_fldD {x : Addr} {C : Addr} {dx : Addr} {fs : List (Str × V)} {f : Str} (hx : σ[i]? = some (some (.ref x))) (hi : H x = some (.ins C dx fs)) (c : Cls K C) (n : NoAttr K C f) (hl : fs.length < 1000)
    (k : ∀ kk H1 H2, H kk = none → H1 = upd H kk (.dK []) → Fr (fun b => b = x) H1 H2 → H2 x = some (.ins C dx (putF f (.ref kk) fs)) → D.nx σ H2) : sFld K (tVar i) tDNewK f D σ H := fun kk hk =>
  ⟨.ref x, hx, x, C, dx, fs, rfl, by rw [upd_ne (ne_of_none hi hk)]; exact hi, c, n, hl, k kk _ _ hk rfl (Fr.upd (.inl rfl)) upd_same⟩
end
/-- __init__ of a class whose objects hold one empty table -/
def ISp (K : PySem.W.Frag) {α β : Type} (Cn : Str) (fs : List Str) (ra : Rpl α) (pre : α → Prop) (rf : Rpl β) (Fd : α → Addr → β) : Sp := fun vs H Q _ =>
  ∃ (T : AS) (a : α) (x dx : Addr) (ws : List V), TD (Tp T x) H ∧ ¬ T x ∧ vs = .ref x :: ws ∧ H x = some (.ins (He.ga K Cn) dx []) ∧ ra K (Tp T x) H ws a ∧ pre a ∧
    ∀ H' kk us, Fr (fun b => b = x) H H' → H kk = none → H' kk = some (.dK []) → H' x = some (.ins (He.ga K Cn) dx (fs.zip us)) → rf K (Tp (Tp T x) kk) H' us (Fd a kk) → Q .non H'
theorem make_v {K : PySem.W.Frag} {T : AS} {H : Hp} {α β : Type} {Cn : Str} {fs : List Str} {ra : Rpl α} {pre : α → Prop} {rf : Rpl β} {Fd : α → Addr → β} {a : α} {ws : List V} {Q : Addr → Hp → Prop} {E : XK} [MoL ra] [MoL rf] (hT : TD T H) (hr : ra K T H ws a) (hp : pre a)
    (k : ∀ p kk H2, Ex H H2 → H kk = none → H2 kk = some (.dK []) → zOb Cn fs rf K (Tp T kk) H2 (.ref p) (Fd a kk) → Q p H2) :
    ∀ x dx, H x = none → H dx = none → dx ≠ x → ISp K Cn fs ra pre rf Fd (.ref x :: ws) (upd (upd H dx (.own x)) x (.ins (He.ga K Cn) dx [])) (fun v H2 => v = .non ∧ Q x H2) E := fun x dx hx hd hne => by
  have e1 : Ex H (upd H dx (.own x)) := Ex.new hd
  have hx1 : upd H dx (.own x) x = none := by rw [upd_ne (Ne.symm hne)]; exact hx
  have e2 : Ex (upd H dx (.own x)) (upd (upd H dx (.own x)) x (.ins (He.ga K Cn) dx [])) := Ex.new hx1
  have e := e1.trans e2
  have nx : ¬ T x := hT.new hx
  refine ⟨T, a, x, dx, ws, (hT.ex e).tp upd_same, nx, rfl, upd_same, MoL.fr e.fr (MoL.lift hx hr), hp, fun H' kk us f hk hk' hx' hu => ⟨rfl, ?_⟩⟩
  have hkx : kk ≠ x := fun z => by rw [z, upd_same] at hk; cases hk
  refine k x kk H' ?_ (e.back hk) hk' ⟨x, dx, us, rfl, fun z => z.elim nx (fun z => hkx z.symm), hx', MoL.sub (fun b hb => hb.elim (fun z => .inl (.inl z)) .inr) hu⟩
  exact e.thenFr f (fun b hb => by cases hb; exact hx)
/-- a def with its arguments' form at hand -/
structure OkD (P : Program) (w : World) (K : PySem.W.Frag) (mg : Str → Option Value) (base : Heap) (k : Nat) (x : Str × Option Str) (ps : List Str) (sp : Sp) (n q : Str) (params : Arguments) (body : List Stmt) (scope : Scope) (dvs : List V) (kws : List (Str × V)) : Prop where
  ex : ∃ fd, FnOk P w K mg base CX0 k (He.fAd K x) fd ps sp ∧ FunD K n q params body scope dvs kws (He.fAd K x) fd
theorem mk_okD {P : Program} {w : World} {K : PySem.W.Frag} {mg : Str → Option Value} {base : Heap} {k : Nat} {at_ : Str × Option Str} {x qual : Str} {params : Arguments} {body : List Stmt} {scope : Scope} {dvs : List V} {kws : List (Str × V)} {N ps : List Str} {sp : Sp} {fd : FuncData}
    (F : FunD K x qual params body scope dvs kws (He.fAd K at_) fd) (S : FnScope N ps scope) (len : ∀ vs H Q E, sp vs H Q E → vs.length = ps.length)
    (hbody : ∀ (cdv : Value) (A : Around) (outer : List Env) (s : Shared) (H : Hp) (vs : List V) (Q : VK) (E : XK), Room k (A.deeper (envOfC qual scope s.heap.objs.size (He.fAd K at_) cdv)) → sp vs H Q E →
      ∃ t, PSs (cxOf CX0 P w K mg base N qual scope (He.fAd K at_) cdv A outer s H E).nox body t ∧ t { nx := fun _ H' => Q .non H', rt := Q } (start N vs) H) : OkD P w K mg base (k + 1) at_ ps sp x qual params body scope dvs kws :=
  ⟨fd, F.ok S len fun cdv A outer s H vs Q E hr h => let ⟨t, h1, h2⟩ := hbody cdv A outer s H vs Q E hr h; ⟨t, h1.nox, h2⟩, F⟩
end EB
namespace EB
open PySem PySem.Spec PyProof.Rows L2
theorem vals_app {vs ws : List V} {us zs : List Value} (h : Vals vs us) (g : Vals ws zs) : Vals (vs ++ ws) (us ++ zs) := by
  induction h with
  | nil => exact g
  | cons a _ ih => exact .cons a ih
section
variable {X : Cx} {k j n : Nat} {Cn : Str} {ps ks : List Str} {sp : Sp} {x nm q : Str} {params : Arguments} {body : List Stmt} {scope : Scope} {dkws : List (Str × V)} {p pos : Pos} {e : Expr} {es : List Expr} {kws : List Keyword} {t tk : TA}
/-- C(a, .., k = v, ..): all that __init__ takes is given, in its order -/
theorem pe_mkA (F : OkD X.prog X.w X.K X.mg X.base k (Cn, some "__init__") ps sp nm q params body scope [] dkws) (M : Mk X.K (He.ga X.K Cn) (He.ma X.K (He.ga X.K Cn) "__init__")) (hr : Room j X.A) (hk : k + 1 ≤ j) (hg : Gl X x) (hm : X.mg x = some (.ref (He.ga X.K Cn)))
    (hne : dkws ≠ []) (n : Nat) (ks : List Str)
    (hb : ∀ (D : Addr) (doc pm : Value) (an : Option Addr) (cdv ct : Value) (us ws : List Value), us.length = n + 1 → ws.length = ks.length → bindArgs (PySem.W.fnOf nm q params body scope .none (.ref D) doc pm an cdv ct) ⟨us, ks.zip ws⟩ = pure (ps.zip (us ++ ws)))
    (ha : PA X (e :: es) t) (hkw : PK X kws tk)
    (hall : (backToKw pos (keywordEach kws X.env)).all (·.1.isSome) = true := by rfl) (hks : (backToKw pos (keywordEach kws X.env)).filterMap (·.1) = ks := by rfl) (hdb : (x == ("__debug__" : Str)) = false := by decide)
    (he : starEach (e :: es) X.env = (false, eval e X.env) :: starEach es X.env := by rfl) (hpl : ((backTo pos (starEach (e :: es) X.env)).any (·.1) || (backToKw pos (keywordEach kws X.env)).any (·.1.isNone)) = false := by rfl) :
    PE X (.Call (.Name x p) (e :: es) kws pos) (tMakeK (He.ga X.K Cn) n ks.length sp (fun vs zs => vs ++ zs) E0 t tk) := by
  obtain ⟨fd, f, D⟩ := F.ex
  obtain ⟨mv, hK⟩ := D.kbinds0 (n + 1) ks [] (fun us mv ws => us ++ ws) hne (fun q h => by cases h) (fun a _ b => vals_app a b) (fun D doc pm an cdv ct us mv ws h1 h2 h3 => by
    cases mv with
    | nil => exact hb D doc pm an cdv ct us ws h1 h3
    | cons a l => cases h2)
  exact pe_makeK M f (hr.mono hk) hg hm hK pass0 ha hkw hall hks hdb he hpl
/-- C(a, ..): the keyword-only ones lack -/
theorem pe_mkB (F : OkD X.prog X.w X.K X.mg X.base k (Cn, some "__init__") ps sp nm q params body scope [] dkws) (M : Mk X.K (He.ga X.K Cn) (He.ma X.K (He.ga X.K Cn) "__init__")) (hr : Room j X.A) (hk : k + 1 ≤ j) (hg : Gl X x) (hm : X.mg x = some (.ref (He.ga X.K Cn)))
    (hne : dkws ≠ []) (n : Nat) (hn : n + 1 + dkws.length = ps.length)
    (hb : ∀ (D : Addr) (doc pm : Value) (an : Option Addr) (cdv ct : Value) (us ks : List Value), us.length = n + 1 → ks.length = dkws.length → KwChain D ((dkws.map (·.1)).zip ks) (bindArgs (PySem.W.fnOf nm q params body scope .none (.ref D) doc pm an cdv ct) ⟨us, []⟩) (ps.zip (us ++ ks)))
    (ha : PA X (e :: es) t) (hdb : (x == ("__debug__" : Str)) = false := by decide) (he : starEach (e :: es) X.env = (false, eval e X.env) :: starEach es X.env := by rfl) (hpl : (backTo pos (starEach es X.env)).any (·.1) = false := by rfl) :
    PE X (.Call (.Name x p) (e :: es) [] pos) (tMake (He.ga X.K Cn) sp (dkws.map (·.2)) E0 t) := by
  obtain ⟨fd, f, D⟩ := F.ex
  obtain ⟨ds, hd, hB⟩ := D.binds0 (n + 1) hne hn hb
  exact pe_make M f (hr.mono hk) hg hm hB hd pass0 ha hdb he hpl
end
end EB
namespace EB
open PySem PySem.Spec PyProof.Rows L2
theorem all2_reverse {α β : Type} {F : α → β → Prop} {xs : List α} {ys : List β} (h : All2 F xs ys) : All2 F xs.reverse ys.reverse := by
  induction h with
  | nil => exact .nil
  | cons a _ ih => rw [List.reverse_cons, List.reverse_cons]; exact all2_app ih (.cons a .nil)
section
variable {K : PySem.W.Frag} {T S : AS} {σ : L2.St} {H : Hp} {α : Type} {r : Rp α} {xs : List α} {p : Addr} {i : Nat} {D : Ends}
theorem st_reverse [Mo r] (hv : σ[i]? = some (some (.ref p))) (m : HM r K T H p xs) (k : ∀ H2 v, H2 = upd H p v → Fr (Tp S p) H H2 → Fr T H H2 → HM r K T H2 p xs.reverse → D.nx σ H2) : tDrop (tBM0 K "list" rReverse (tVar i)) D σ H := by
  obtain ⟨vs, h1, h2⟩ := m.ex
  have f : Fr T H (upd H p (.lst vs.reverse)) := Fr.upd (.inl m.mem)
  exact ⟨.ref p, hv, .inl ⟨rfl, vs, .inl (.inl h1)⟩, p, vs, rfl, rfl, h1, k _ _ rfl (Fr.upd (.inl (.inr rfl))) f ⟨m.mem, _, upd_same, all2_imp (fun _ _ z => Mo.fr f z) (all2_reverse h2)⟩⟩
end
/-- a new tape is made -/
def TSp (K : PySem.W.Frag) : Sp := fun vs H Q _ => ∃ (T : AS) (v : V) (ns : List Int), TD T H ∧ vs = [v] ∧ zL zI K T H v ns ∧ ns.length ≤ 63 ∧ ∀ ta tg H', Ex H H' → H ta = none → H tg = none → TpI (ta, tg) 1000000000 H' → Q (.ref ta) H'
theorem ab_nn (i : Int) : 0 ≤ ab i := by unfold ab; split <;> omega
end EB
namespace EB
open PySem PySem.Spec PyProof.Rows L2
/-- what holds no list is the same where lists may change -/
class Li {α : Type} (r : Rp α) : Prop where
  up : ∀ {K T T1 H v a}, (∀ b, T b → T1 b ∨ ∃ xs, H b = some (.lst xs)) → r K T1 H v a → r K T H v a
class LiL {α : Type} (r : Rpl α) : Prop where
  up : ∀ {K T T1 H v a}, (∀ b, T b → T1 b ∨ ∃ xs, H b = some (.lst xs)) → r K T1 H v a → r K T H v a
instance : Li zI := ⟨fun _ h => h⟩
instance : Li zB := ⟨fun _ h => h⟩
instance : Li zW := ⟨fun _ h => h⟩
instance : Li zN := ⟨fun _ h => h⟩
instance : Li zA := ⟨fun _ h => h⟩
instance {α : Type} {r : Rp α} [Li r] : Li (zU r) := ⟨fun {K T T1 H v d} f h => by
  obtain ⟨a, vs, e, hs, hh⟩ := h
  refine ⟨a, vs, e, ?_, all2_imp (fun _ _ z => Li.up f z) hh⟩
  rcases hs with ⟨n, h⟩ | h
  · refine .inl ⟨fun t => ?_, h⟩
    rcases f a t with z | ⟨xs, z⟩
    · exact n z
    · rcases h with h | ⟨o, h⟩
      · rw [z] at h; cases h
      · rw [z] at h; cases h
  · exact .inr h⟩
instance : LiL aN := ⟨fun _ h => h⟩
instance {α β : Type} {r : Rp α} {s : Rpl β} [Li r] [LiL s] : LiL (aC r s) := ⟨fun f ⟨v, ws, e, h, q⟩ => ⟨v, ws, e, Li.up f h, LiL.up f q⟩⟩
instance {Cn : Str} {fs : List Str} {α : Type} {ra : Rpl α} [LiL ra] : Li (zOb Cn fs ra) := ⟨fun {K T T1 H v d} f h => by
  obtain ⟨p, dx, vs, e, n, h, q⟩ := h
  refine ⟨p, dx, vs, e, fun t => ?_, h, LiL.up f q⟩
  rcases f p t with z | ⟨xs, z⟩
  · exact n z
  · rw [z] at h; cases h⟩
section
variable {K : PySem.W.Frag} {T : AS} {σ : L2.St} {H : Hp} {α β γ δ : Type} {r : Rp α} {s : Rp β} {t : Rp γ} {te : TE} {tr : TA} {Q : VK} {v : V} {E : XK}
theorem ev_hmL [Mo r] {p : Addr} {xs : List α} (h : Ev K T te σ H zA p) (m : zL r K T H (.ref p) xs) : Ev K T te σ H (zL r) xs := fun H1 f Q q => h H1 f Q fun v H2 e r2 => by
  cases r2; exact q _ H2 e (Mo.fr (f.trans e.fr) m)
theorem ev_hA30 {d : Addr × Addr × Addr × Unit} (h : Ev K T te σ H (zH (aC zA (aC zA (aC zA aN)))) d) : Ev K T (tOp (rIxL K) te (tC (.int 0))) σ H zA d.1 := ev_ixH h ev_int fun H1 vs hr => by
  obtain ⟨_, _, rfl, h1, _, _, rfl, h2, _, _, rfl, h3, rfl⟩ := hr
  exact ⟨_, rfl, h1⟩
theorem ev_hA31 {d : Addr × Addr × Addr × Unit} (h : Ev K T te σ H (zH (aC zA (aC zA (aC zA aN)))) d) : Ev K T (tOp (rIxL K) te (tC (.int 1))) σ H zA d.2.1 := ev_ixH h ev_int fun H1 vs hr => by
  obtain ⟨_, _, rfl, h1, _, _, rfl, h2, _, _, rfl, h3, rfl⟩ := hr
  exact ⟨_, rfl, h2⟩
theorem ev_hA32 {d : Addr × Addr × Addr × Unit} (h : Ev K T te σ H (zH (aC zA (aC zA (aC zA aN)))) d) : Ev K T (tOp (rIxL K) te (tC (.int 2))) σ H zA d.2.2.1 := ev_ixH h ev_int fun H1 vs hr => by
  obtain ⟨_, _, rfl, h1, _, _, rfl, h2, _, _, rfl, h3, rfl⟩ := hr
  exact ⟨_, rfl, h3⟩
theorem up3 {p q u : Addr} {x : List α} {y : List β} {z : List γ} (h : zH (aC zA (aC zA (aC zA aN))) K T H v (p, q, u, ())) (m0 : zL r K T H (.ref p) x) (m1 : zL s K T H (.ref q) y) (m2 : zL t K T H (.ref u) z) : zH (aC (zL r) (aC (zL s) (aC (zL t) aN))) K T H v (x, y, z, ()) := by
  obtain ⟨a, vs, e, hs, _, _, rfl, h1, _, _, rfl, h2, _, _, rfl, h3, rfl⟩ := h
  cases h1; cases h2; cases h3
  exact ⟨a, _, e, hs, _, _, rfl, m0, _, _, rfl, m1, _, _, rfl, m2, rfl⟩
theorem ev_lstH {ra : Rpl α} [MoL ra] {d : α} (hT : TD T H) (h : EvA K T tr σ H ra d) (hl : ∀ H vs, ra K T H vs d → vs.length ≤ 1000) : Ev K T (tLst tr) σ H (zH ra) d := fun H1 f Q q => h H1 f _ fun vs H2 e2 r2 =>
  ⟨by have := hl H2 vs r2; rw [sizeLine_eq]; omega, fun p hp => q _ _ (e2.trans (Ex.new hp)) ⟨p, vs, rfl, .new (((hT.fr f).ex e2).new hp) upd_same, MoL.fr (Ex.new hp).fr r2⟩⟩
theorem tape_v {ns : List Int} (hT : TD T H) (hr : zL zI K T H v ns) (hl : ns.length ≤ 63) (k : ∀ ta tg H', Ex H H' → H ta = none → H tg = none → TpI (ta, tg) 1000000000 H' → Q (.ref ta) H') : TSp K ([v] ++ []) H Q E := ⟨T, v, ns, hT, rfl, hr, hl, k⟩
theorem mkK_open {C : Addr} {n m : Nat} {sp : Sp} {gV : List V → List V → List V} {t tk : TA} (h : t σ H fun vs H1 => tk σ H1 fun zs H2 => vs.length = n ∧ zs.length = m ∧ ∀ x dx, H2 x = none → H2 dx = none → dx ≠ x → sp (gV (.ref x :: vs) zs) (upd (upd H2 dx (.own x)) x (.ins C dx [])) (fun v H3 => v = .non ∧ Q (.ref x) H3) E) : tMakeK C n m sp gV E t tk σ H Q := h
theorem mk_open {C : Addr} {sp : Sp} {dvs : List V} {t : TA} (h : t σ H fun vs H1 => ∀ x dx, H1 x = none → H1 dx = none → dx ≠ x → sp (.ref x :: (vs ++ dvs)) (upd (upd H1 dx (.own x)) x (.ins C dx [])) (fun v H2 => v = .non ∧ Q (.ref x) H2) E) : tMake C sp dvs E t σ H Q := h
end
theorem memo_new {α : Type} {a : Addr} {kf : α → Key} {U : List α} {ok : α → Int → Prop} {n : Nat} {H : Hp} (h : H a = some (.dK [])) (inj : ∀ x y, kf x = kf y → x = y) (few : U.length ≤ 1000000) : MmI a kf U ok n H :=
  ⟨inj, few, [], h, List.nodup_nil, fun q hq => by cases hq⟩
end EB

set_option Elab.async false
set_option linter.all false
set_option maxRecDepth 100000
set_option maxHeartbeats 4000000
/-! EB, second layer: what is known is packed; mirrors that may have no answer. -/
namespace EB
open PySem PySem.Spec PyProof.Rows L2

/-! ### facts, cells -/
structure Fact (K : PySem.W.Frag) where
  P : AS → Hp → Prop
  st : ∀ {T H T' H'}, Wd T H T' H' → P T H → P T' H'
@[reducible] def fR {K : PySem.W.Frag} {α : Type} (r : Rp α) [Mo r] (v : V) (d : α) : Fact K := ⟨fun T H => r K T H v d, fun w h => Mo.wd w h⟩
@[reducible] def fL {K : PySem.W.Frag} {α : Type} (r : Rpl α) [MoL r] (v : List V) (d : α) : Fact K := ⟨fun T H => r K T H v d, fun w h => MoL.wd w h⟩
structure Cel (K : PySem.W.Frag) where
  own : List Addr
  P : AS → Hp → Prop
  st : ∀ {T H T' H'}, Wd T H T' H' → (∀ a ∈ own, H' a = H a) → P T H → P T' H'
/-- a list of ours -/
@[reducible] def cL {K : PySem.W.Frag} {α : Type} (r : Rp α) [Mo r] (p : Addr) (xs : List α) : Cel K :=
  ⟨[p], fun T H => ∃ vs, H p = some (.lst vs) ∧ All2 (r K T H) vs xs, fun w h ⟨vs, h1, h2⟩ => ⟨vs, by rw [h p (by simp)]; exact h1, all2_imp (fun _ _ z => Mo.wd w z) h2⟩⟩
/-- an object of ours, as it stands -/
@[reducible] def cV {K : PySem.W.Frag} (p : Addr) (o : HO) : Cel K := ⟨[p], fun _ H => H p = some o, fun _ h h1 => by rw [h p (by simp)]; exact h1⟩
/-- two in one -/
@[reducible] def cM {K : PySem.W.Frag} (c d : Cel K) : Cel K := ⟨c.own ++ d.own, fun T H => c.P T H ∧ d.P T H, fun w h q => ⟨c.st w (fun a ha => h a (List.mem_append_left _ ha)) q.1, d.st w (fun a ha => h a (List.mem_append_right _ ha)) q.2⟩⟩
structure Bs where
  T : AS
  W : List Addr
  H : Hp
def owns {K : PySem.W.Frag} (cs : List (Cel K)) : List Addr := (cs.map (·.own)).flatten
structure En (K : PySem.W.Frag) (b : Bs) (fs : List (Fact K)) (cs : List (Cel K)) (T : AS) (H : Hp) : Prop where
  btd : TD b.T b.H
  sup : ∀ a, b.T a → T a
  td : TD T H
  wd : Wd b.T b.H T H
  fr : Fr (fun a => a ∈ b.W) b.H H
  fac : ∀ (k : Nat) (f : Fact K), fs[k]? = some f → f.P T H
  cel : ∀ c ∈ cs, c.P T H ∧ ∀ a ∈ c.own, T a ∧ (a ∈ b.W ∨ b.H a = none)
  dis : (owns cs).Nodup
section
variable {K : PySem.W.Frag} {b : Bs} {fs : List (Fact K)} {cs : List (Cel K)} {T T' : AS} {H H' : Hp} {α β γ : Type} {r : Rp α} {s : Rp β}
theorem En.at (E : En K b fs cs T H) {f : Fact K} (k : Nat) (h : fs[k]? = some f) : f.P T H := E.fac k f h
theorem En.c (E : En K b fs cs T H) {c : Cel K} (k : Nat) (h : cs[k]? = some c) : c.P T H := (E.cel c (List.mem_of_getElem? h)).1
theorem En.ex (E : En K b fs cs T H) (e : Ex H H') : En K b fs cs T H' where
  btd := E.btd
  sup := E.sup
  td := E.td.ex e
  wd := E.wd.trans (Wd.ex e)
  fr := E.fr.trans e.fr
  fac k f h := f.st (Wd.ex e) (E.fac k f h)
  cel c h := ⟨c.st (Wd.ex e) (fun a ha => by
    obtain ⟨o, ho⟩ := E.td a ((E.cel c h).2 a ha).1
    rw [ho, e a o ho]) (E.cel c h).1, (E.cel c h).2⟩
  dis := E.dis
theorem En.add {f : Fact K} (E : En K b fs cs T H) (h : f.P T H) : En K b (f :: fs) cs T H where
  btd := E.btd
  sup := E.sup
  td := E.td
  wd := E.wd
  fr := E.fr
  fac k f' h' := by
    cases k with
    | zero => cases h'; exact h
    | succ k => exact E.fac k f' (by simpa using h')
  cel := E.cel
  dis := E.dis
/-- other facts, fewer cells -/
def Fcs {K : PySem.W.Frag} (T : AS) (H : Hp) : List (Fact K) → Prop
  | [] => True
  | f :: r => f.P T H ∧ Fcs T H r
theorem Fcs.get {T : AS} {H : Hp} : ∀ {fs : List (Fact K)}, Fcs T H fs → ∀ (k : Nat) (f : Fact K), fs[k]? = some f → f.P T H
  | [], _, k, f, e => by simp at e
  | f :: r, h, 0, g, e => by simp at e; subst e; exact h.1
  | f :: r, h, k + 1, g, e => Fcs.get h.2 k g (by simpa using e)
theorem En.facts {fs' : List (Fact K)} (E : En K b fs cs T H) (h : Fcs T H fs') : En K b fs' cs T H := ⟨E.btd, E.sup, E.td, E.wd, E.fr, h.get, E.cel, E.dis⟩
theorem sub_flat {α : Type} {l l' : List (List α)} (h : l.Sublist l') : l.flatten.Sublist l'.flatten := by
  induction h with
  | slnil => exact List.Sublist.refl _
  | cons a _ ih => rw [List.flatten_cons]; exact ih.trans (List.sublist_append_right _ _)
  | cons_cons a _ ih => rw [List.flatten_cons, List.flatten_cons]; exact List.Sublist.append (List.Sublist.refl _) ih
theorem En.cells {cs' : List (Cel K)} (E : En K b fs cs T H) (h : cs'.Sublist cs) : En K b fs cs' T H :=
  ⟨E.btd, E.sup, E.td, E.wd, E.fr, E.fac, fun c hc => E.cel c (h.subset hc), (sub_flat (h.map (fun c : Cel K => c.own))).nodup (show ((cs.map fun c : Cel K => c.own).flatten).Nodup from E.dis)⟩
/-- runs -/
theorem En.run [Mo r] {te : TE} {σ : L2.St} {d : α} {Q : VK} (E : En K b fs cs T H) (h : Ev K T te σ H r d) (k : ∀ v H', En K b (fR r v d :: fs) cs T H' → Q v H') : te σ H Q :=
  h H (Fr.refl H) Q fun v H' e q => k v H' ((E.ex e).add q)
theorem En.runA {ra : Rpl α} [MoL ra] {tr : TA} {σ : L2.St} {d : α} {Q : List V → Hp → Prop} (E : En K b fs cs T H) (h : EvA K T tr σ H ra d) (k : ∀ v H', En K b (fL ra v d :: fs) cs T H' → Q v H') : tr σ H Q :=
  h H (Fr.refl H) Q fun v H' e q => k v H' ((E.ex e).add q)
theorem En.test {tt : TT} {σ : L2.St} {d : Bool} {Q : Bool → Hp → Prop} (E : En K b fs cs T H) (h : EvT T tt σ H d) (k : ∀ H', En K b fs cs T H' → Q d H') : tt σ H Q :=
  h H (Fr.refl H) Q fun H' e => k H' (E.ex e)
/-- a new cell -/
theorem En.newc {c : Cel K} {T' : AS} (E : En K b fs cs T H) (w : Wd T H T' H') (e : Ex H H') (sub : ∀ b, T b → T' b) (td : TD T' H') (hc : c.P T' H') (ho : ∀ a ∈ c.own, H a = none ∧ T' a) (hn : c.own.Nodup) : En K b fs (c :: cs) T' H' where
  btd := E.btd
  sup := fun a h => sub a (E.sup a h)
  td := td
  wd := E.wd.trans w
  fr := E.fr.trans e.fr
  fac k f h := f.st w (E.fac k f h)
  cel c' h := by
    rcases List.mem_cons.mp h with rfl | h
    · exact ⟨hc, fun a ha => ⟨(ho a ha).2, .inr (E.fr.back (ho a ha).1)⟩⟩
    · refine ⟨c'.st w (fun a ha => ?_) (E.cel c' h).1, fun a ha => ⟨sub a ((E.cel c' h).2 a ha).1, ((E.cel c' h).2 a ha).2⟩⟩
      obtain ⟨o, ho⟩ := E.td a ((E.cel c' h).2 a ha).1
      rw [ho, e a o ho]
  dis := by
    unfold owns
    rw [List.map_cons, List.flatten_cons, List.nodup_append]
    refine ⟨hn, E.dis, fun a ha x hx z => ?_⟩
    subst z
    rw [List.mem_flatten] at hx
    obtain ⟨l, hl, hal⟩ := hx
    rw [List.mem_map] at hl
    obtain ⟨c', hc', rfl⟩ := hl
    obtain ⟨o, h1⟩ := E.td a ((E.cel c' hc').2 a hal).1
    rw [(ho a ha).1] at h1
    cases h1
theorem En.newL [Mo r] {te : TE} {σ : L2.St} {xs : List α} {Q : VK} (E : En K b fs cs T H) (h : EvF K T te σ H r xs) (k : ∀ p H', En K b (fR zA (.ref p) p :: fs) (cL r p xs :: cs) (Tp T p) H' → Q (.ref p) H') : te σ H Q :=
  h H (Fr.refl H) Q fun p H2 H3 e2 n f e3 m => by
    have E2 := E.ex e2
    obtain ⟨vs, h1, h2⟩ := m.ex
    refine k p H3 (En.add (E2.newc (c := cL r p xs) (T' := Tp T p) ⟨e3.fr, fun b t => t.elim .inl fun z => .inr (z ▸ n)⟩ e3 (fun b h => .inl h) ((E2.td.ex e3).tp h1) ⟨vs, h1, h2⟩ (fun a ha => ?_) (by simp)) rfl)
    simp only [List.mem_singleton] at ha
    subst ha
    exact ⟨n, .inr rfl⟩
/-- a cell changes -/
theorem nd_mem {cs : List (Cel K)} {k : Nat} {c c' : Cel K} {a : Addr} (hd : (cs.map (·.own)).flatten.Nodup) (h : cs[k]? = some c) {j : Nat} (h' : cs[j]? = some c') (ha : a ∈ c.own) (ha' : a ∈ c'.own) : k = j := by
  induction cs generalizing k j with
  | nil => simp at h
  | cons x cs ih =>
    rw [List.map_cons, List.flatten_cons, List.nodup_append] at hd
    obtain ⟨_, h2, h3⟩ := hd
    have key : ∀ {i : Nat} {d : Cel K}, cs[i]? = some d → a ∈ d.own → a ∈ (cs.map (·.own)).flatten := fun {i d} hi hd => List.mem_flatten.mpr ⟨d.own, List.mem_map.mpr ⟨d, List.mem_of_getElem? hi, rfl⟩, hd⟩
    cases k with
    | zero =>
      simp at h
      subst h
      cases j with
      | zero => rfl
      | succ j => exact absurd rfl (h3 a ha a (key (by simpa using h') ha'))
    | succ k =>
      cases j with
      | zero =>
        simp at h'
        subst h'
        exact absurd rfl (h3 a ha' a (key (by simpa using h) ha))
      | succ j => exact congrArg (· + 1) (ih h2 (by simpa using h) (by simpa using h'))
theorem own_set {cs : List (Cel K)} {k : Nat} {c c' : Cel K} (h : cs[k]? = some c) (ho : c'.own = c.own) : (cs.set k c').map (·.own) = cs.map (·.own) := by
  induction cs generalizing k with
  | nil => rfl
  | cons x cs ih =>
    cases k with
    | zero => simp at h; subst h; simp [ho]
    | succ k => simp only [List.set_cons_succ, List.map_cons]; rw [ih (by simpa using h)]
theorem En.chg {c c' : Cel K} (E : En K b fs cs T H) (k : Nat) (hk : cs[k]? = some c) (f : Fr (fun a => a ∈ c.own) H H') (hc : c'.P T H') (ho : c'.own = c.own) : En K b fs (cs.set k c') T H' := by
  have hcel := (E.cel c (List.mem_of_getElem? hk)).2
  have fT : Fr T H H' := f.mono fun a ha => (hcel a ha).1
  refine ⟨E.btd, E.sup, E.td.fr f, E.wd.trans (Wd.of fT), E.fr.thenFr f (fun a ha => (hcel a ha).2), fun j g h => g.st (Wd.of fT) (E.fac j g h), fun d hd => ?_, by unfold owns; rw [own_set hk ho]; exact E.dis⟩
  obtain ⟨j, hj⟩ := List.mem_iff_getElem?.mp hd
  rw [List.getElem?_set] at hj
  by_cases hne : k = j
  · rw [if_pos hne] at hj
    split at hj
    · cases hj
      exact ⟨hc, fun a ha => hcel a (ho ▸ ha)⟩
    · cases hj
  · rw [if_neg hne] at hj
    have hm := List.mem_of_getElem? hj
    refine ⟨d.st (Wd.of fT) (fun a ha => ?_) (E.cel d hm).1, (E.cel d hm).2⟩
    obtain ⟨o, h1⟩ := E.td a ((E.cel d hm).2 a ha).1
    rw [h1]
    exact f.keep a o (fun z => hne (nd_mem E.dis hk hj z ha)) h1
/-- as it stands: nothing changes but the way it is told -/
theorem En.retell {c c' : Cel K} (E : En K b fs cs T H) (k : Nat) (hk : cs[k]? = some c) (hc : c.P T H → c'.P T H) (ho : c'.own = c.own) : En K b fs (cs.set k c') T H :=
  E.chg k hk (Fr.refl H) (hc (E.c k hk)) ho
/-- one cell is two -/
theorem En.split {c d : Cel K} (E : En K b fs (cM c d :: cs) T H) : En K b fs (c :: d :: cs) T H := by
  have h := E.cel (cM c d) List.mem_cons_self
  refine ⟨E.btd, E.sup, E.td, E.wd, E.fr, E.fac, fun x hx => ?_, ?_⟩
  · rcases List.mem_cons.mp hx with rfl | hx
    · exact ⟨h.1.1, fun a ha => h.2 a (List.mem_append_left _ ha)⟩
    · rcases List.mem_cons.mp hx with rfl | hx
      · exact ⟨h.1.2, fun a ha => h.2 a (List.mem_append_right _ ha)⟩
      · exact E.cel x (List.mem_cons_of_mem _ hx)
  · have := E.dis
    simp only [owns, List.map_cons, List.flatten_cons, List.append_assoc] at this ⊢
    exact this
theorem En.merge {c d : Cel K} (E : En K b fs (c :: d :: cs) T H) : En K b fs (cM c d :: cs) T H := by
  have h := E.cel c List.mem_cons_self
  have h' := E.cel d (List.mem_cons_of_mem _ List.mem_cons_self)
  refine ⟨E.btd, E.sup, E.td, E.wd, E.fr, E.fac, fun x hx => ?_, ?_⟩
  · rcases List.mem_cons.mp hx with rfl | hx
    · exact ⟨⟨h.1, h'.1⟩, fun a ha => (List.mem_append.mp ha).elim (h.2 a) (h'.2 a)⟩
    · exact E.cel x (List.mem_cons_of_mem _ (List.mem_cons_of_mem _ hx))
  · have := E.dis
    simp only [owns, List.map_cons, List.flatten_cons, List.append_assoc] at this ⊢
    exact this
/-- a cell comes to the front -/
theorem erase_perm {α : Type} : ∀ {cs : List α} {k : Nat} {c : α}, cs[k]? = some c → (c :: cs.eraseIdx k).Perm cs
  | [], _, _, h => by simp at h
  | x :: cs, 0, c, h => by simp at h; subst h; exact List.Perm.refl _
  | x :: cs, k + 1, c, h => by
    have := erase_perm (cs := cs) (k := k) (c := c) (by simpa using h)
    exact (List.Perm.swap x c _).trans (this.cons x)
theorem En.front {c : Cel K} (E : En K b fs cs T H) (k : Nat) (hk : cs[k]? = some c) : En K b fs (c :: cs.eraseIdx k) T H := by
  have hp : (c :: cs.eraseIdx k).Perm cs := erase_perm hk
  refine ⟨E.btd, E.sup, E.td, E.wd, E.fr, E.fac, fun x hx => E.cel x (hp.subset hx), ?_⟩
  exact (hp.map _).flatten.nodup_iff.mpr E.dis
/-- a list is done -/
def Td (T : AS) (p : Addr) : AS := fun b => T b ∧ b ≠ p
theorem En.freeze [Mo r] {p : Addr} {xs : List α} (E : En K b fs (cL r p xs :: cs) T H) (hW : ∀ a ∈ b.W, a ∈ owns cs) : En K b (fR (zL r) (.ref p) xs :: fs) cs (Td T p) H := by
  have w : Wd T H (Td T p) H := Wd.sub fun _ h => h.1
  obtain ⟨⟨vs, h1, h2⟩, h3⟩ := E.cel _ List.mem_cons_self
  have hd := E.dis
  unfold owns at hd
  rw [List.map_cons, List.flatten_cons, List.nodup_append] at hd
  have hp : ¬ b.T p := fun z => by
    rcases (h3 p (by simp)).2 with h | h
    · exact hd.2.2 p (by simp) p (hW p h) rfl
    · obtain ⟨o, ho⟩ := E.btd p z
      rw [ho] at h; cases h
  refine En.add ⟨E.btd, fun a h => ⟨E.sup a h, fun z => hp (z ▸ h)⟩, E.td.sub fun _ h => h.1, E.wd.trans w, E.fr, fun k g h => g.st w (E.fac k g h), fun c hc => ?_, hd.2.1⟩ ?_
  · have hc' := E.cel c (List.mem_cons_of_mem _ hc)
    refine ⟨c.st w (fun _ _ => rfl) hc'.1, fun a ha => ⟨⟨(hc'.2 a ha).1, fun z => ?_⟩, (hc'.2 a ha).2⟩⟩
    subst z
    exact hd.2.2 a (by simp) a (List.mem_flatten.mpr ⟨c.own, List.mem_map.mpr ⟨c, hc, rfl⟩, ha⟩) rfl
  · exact ⟨p, vs, rfl, .new (fun z => z.2 rfl) h1, all2_imp (fun _ _ z => Mo.wd w z) h2⟩
/-- bases -/
theorem mem_owns {c : Cel K} {a : Addr} (hc : c ∈ cs) (ha : a ∈ c.own) : a ∈ owns cs := List.mem_flatten.mpr ⟨c.own, List.mem_map.mpr ⟨c, hc, rfl⟩, ha⟩
theorem owns_mem {a : Addr} (h : a ∈ owns cs) : ∃ c ∈ cs, a ∈ c.own := by
  obtain ⟨l, hl, ha⟩ := List.mem_flatten.mp h
  obtain ⟨c, hc, rfl⟩ := List.mem_map.mp hl
  exact ⟨c, hc, ha⟩
theorem En.rebase (E : En K b fs cs T H) : En K ⟨T, owns cs, H⟩ fs cs T H :=
  ⟨E.td, fun _ h => h, E.td, Wd.refl, Fr.refl H, E.fac, fun c hc => ⟨(E.cel c hc).1, fun a ha => ⟨((E.cel c hc).2 a ha).1, .inl (mem_owns hc ha)⟩⟩, E.dis⟩
theorem En.back {fs' : List (Fact K)} {cs' : List (Cel K)} (E : En K b fs cs T H) (E' : En K ⟨T, owns cs, H⟩ fs' cs' T' H') : En K b fs' cs' T' H' :=
  ⟨E.btd, fun a h => E'.sup a (E.sup a h), E'.td, E.wd.trans E'.wd, E.fr.thenFr E'.fr (fun a h => let ⟨c, hc, ha⟩ := owns_mem h; ((E.cel c hc).2 a ha).2), E'.fac, fun c hc => ⟨(E'.cel c hc).1, fun a ha => ⟨((E'.cel c hc).2 a ha).1, by
    rcases ((E'.cel c hc).2 a ha).2 with h | h
    · obtain ⟨c1, h1, h2⟩ := owns_mem h
      exact ((E.cel c1 h1).2 a h2).2
    · exact .inr (E.fr.back h)⟩⟩, E'.dis⟩
/-- where a def begins, where it hands back -/
theorem En.start {T : AS} {H : Hp} {fs : List (Fact K)} (td : TD T H) (h : Fcs T H fs) : En K ⟨T, [], H⟩ fs [] T H :=
  ⟨td, fun _ h => h, td, Wd.refl, Fr.refl H, h.get, fun c hc => (by cases hc), (by simp [owns])⟩
theorem En.start1 {T : AS} {H : Hp} {fs : List (Fact K)} {c : Cel K} (td : TD T H) (h : Fcs T H fs) (hc : c.P T H) (ho : ∀ a ∈ c.own, T a) (hn : c.own.Nodup) : En K ⟨T, c.own, H⟩ fs [c] T H :=
  ⟨td, fun _ h => h, td, Wd.refl, Fr.refl H, h.get, fun c' hc' => by rw [List.mem_singleton] at hc'; subst hc'; exact ⟨hc, fun a ha => ⟨ho a ha, .inl ha⟩⟩, by simpa [owns] using hn⟩
theorem En.isEx {T0 : AS} {H0 : Hp} (E : En K ⟨T0, [], H0⟩ fs cs T H) : Ex H0 H := E.fr.ex fun _ h => by cases h
theorem En.out {v : V} {d : α} [Mo r] (E : En K b fs cs T H) (h : r K T H v d) : r K b.T H v d := Mo.wd (Wd.sub E.sup) h
theorem En.outc {c : Cel K} (E : En K b fs cs T H) (k : Nat) (h : cs[k]? = some c) : c.P b.T H := c.st (Wd.sub E.sup) (fun _ _ => rfl) (E.c k h)
end
end EB

set_option Elab.async false
set_option linter.all false
set_option maxRecDepth 100000
set_option maxHeartbeats 4000000
/-! EB, second layer: promises whose mirrors may have no answer; loops; lists of ours. -/
namespace EB
open PySem PySem.Spec PyProof.Rows L2

/-! ### answers that may be lacking -/
theorem bnd {α β : Type} {o : Option α} {f : α → Option β} {r : β} (h : o.bind f = some r) : ∃ a, o = some a ∧ f a = some r := by
  cases o with
  | none => cases h
  | some a => exact ⟨a, rfl, h⟩
def grd (c : Prop) [Decidable c] : Option Unit := if c then some () else none
theorem grd_ok {c : Prop} [Decidable c] {u : Unit} (h : grd c = some u) : c := by
  unfold grd at h
  split at h
  · assumption
  · cases h
theorem grd_some {c : Prop} [Decidable c] (h : c) : grd c = some () := if_pos h
def forO {α ρ S : Type} (f : S → α → Option (Out ρ S)) : S → List α → Option (Out ρ S)
  | s, [] => some (.nx s)
  | s, x :: xs => (f s x).bind fun o => match o with
    | .nx s' => forO f s' xs
    | .brk s' => some (.nx s')
    | .ret r => some (.ret r)
def forP {α S : Type} (f : S → α → Option S) : S → List α → Option S
  | s, [] => some s
  | s, x :: xs => (f s x).bind fun s' => forP f s' xs
def mapO {α β : Type} (f : α → Option β) : List α → Option (List β)
  | [] => some []
  | x :: xs => (f x).bind fun y => (mapO f xs).bind fun ys => some (y :: ys)
def mapS {α β S : Type} (f : S → α → Option (β × S)) : S → List α → Option (List β × S)
  | s, [] => some ([], s)
  | s, x :: xs => (f s x).bind fun p => (mapS f p.2 xs).bind fun q => some (p.1 :: q.1, q.2)
theorem mapO_mem {α β : Type} {f : α → Option β} : ∀ {xs : List α} {ys : List β}, mapO f xs = some ys → xs.map f = ys.map some
  | [], ys, h => by cases h; rfl
  | x :: xs, ys, h => by
    obtain ⟨y, h1, h⟩ := bnd h
    obtain ⟨zs, h2, h⟩ := bnd h
    cases h
    rw [List.map_cons, List.map_cons, h1, mapO_mem h2]
theorem mapO_get {α β : Type} {f : α → Option β} {xs : List α} {ys : List β} (h : mapO f xs = some ys) {x : α} (hx : x ∈ xs) : ∃ y, f x = some y := by
  have : f x ∈ xs.map f := List.mem_map.mpr ⟨x, hx, rfl⟩
  rw [mapO_mem h] at this
  obtain ⟨y, _, e⟩ := List.mem_map.mp this
  exact ⟨y, e.symm⟩
theorem mapS_take {α β S : Type} {f : S → α → Option (β × S)} : ∀ {xs : List α} {s s1 : S} {ys : List β}, mapS f s xs = some (ys, s1) → ∀ i, i < xs.length → ∃ s' y s'' x, xs[i]? = some x ∧ mapS f s (xs.take i) = some (ys.take i, s') ∧ f s' x = some (y, s'') ∧ mapS f s (xs.take (i + 1)) = some (ys.take (i + 1), s'') ∧ ys.take (i + 1) = ys.take i ++ [y]
  | [], s, s1, ys, h, i, hi => by simp at hi
  | x :: xs, s, s1, ys, h, i, hi => by
    obtain ⟨⟨y, s2⟩, h1, h⟩ := bnd h
    obtain ⟨⟨zs, s3⟩, h2, h⟩ := bnd h
    cases h
    cases i with
    | zero => exact ⟨s, y, s2, x, rfl, rfl, h1, by simp [mapS, h1], rfl⟩
    | succ i =>
      obtain ⟨s', y', s'', x', e1, e2, e3, e4, e5⟩ := mapS_take h2 i (by simpa using hi)
      refine ⟨s', y', s'', x', by simpa using e1, ?_, e3, ?_, ?_⟩
      · simp only [List.take_succ_cons, mapS]; rw [h1]; simp only [Option.bind_some]; rw [e2]; rfl
      · simp only [List.take_succ_cons, mapS]; rw [h1]; simp only [Option.bind_some]; rw [e4]; rfl
      · simp only [List.take_succ_cons, List.cons_append]; rw [e5]
theorem mapS_len {α β S : Type} {f : S → α → Option (β × S)} : ∀ {xs : List α} {s s1 : S} {ys : List β}, mapS f s xs = some (ys, s1) → ys.length = xs.length
  | [], s, s1, ys, h => by cases h; rfl
  | x :: xs, s, s1, ys, h => by
    obtain ⟨⟨y, s2⟩, h1, h⟩ := bnd h
    obtain ⟨⟨zs, s3⟩, h2, h⟩ := bnd h
    cases h
    simp [mapS_len h2]

/-! ### promises -/
def FSp (K : PySem.W.Frag) {α β : Type} (ra : Rpl α) (r : Rp β) (m : α → Option β) : Sp := fun vs H Q _ =>
  ∃ (T : AS) (a : α) (d : β), TD T H ∧ ra K T H vs a ∧ m a = some d ∧ ∀ v H', Ex H H' → r K T H' v d → Q v H'
def GSp (K : PySem.W.Frag) {α S β : Type} (ra : Rpl α) (c : α → S → Cel K) (r : Rp β) (m : α → S → Option (β × S)) : Sp := fun vs H Q _ =>
  ∃ (T : AS) (a : α) (s : S) (d : β) (s' : S), TD T H ∧ ra K T H vs a ∧ (c a s).P T H ∧ (∀ x ∈ (c a s).own, T x) ∧ (c a s).own.Nodup ∧ m a s = some (d, s') ∧
    ∀ v H', Fr (fun x => x ∈ (c a s).own) H H' → (c a s').P T H' → r K T H' v d → Q v H'
/-- a promise of something new that is ours to change -/
def NewSp (K : PySem.W.Frag) {α ι S : Type} (ra : Rpl α) (c : ι → S → Cel K) (rv : ι → V) (m : α → Option S) : Sp := fun vs H Q _ =>
  ∃ (T : AS) (a : α) (s : S), TD T H ∧ ra K T H vs a ∧ m a = some s ∧ ∀ i H', Ex H H' → (c i s).own.Nodup → (∀ x ∈ (c i s).own, H x = none ∧ ∃ o, H' x = some o) → (c i s).P (fun b => T b ∨ b ∈ (c i s).own) H' → Q (rv i) H'
theorem FSp_len {K : PySem.W.Frag} {α β : Type} {ra : Rpl α} {r : Rp β} {m : α → Option β} {n : Nat} (h : ∀ K T H vs a, ra K T H vs a → vs.length = n) : ∀ vs H Q E, FSp K ra r m vs H Q E → vs.length = n := fun vs H Q E ⟨T, a, _, _, hr, _⟩ => h K T H vs a hr
theorem GSp_len {K : PySem.W.Frag} {α S β : Type} {ra : Rpl α} {c : α → S → Cel K} {r : Rp β} {m : α → S → Option (β × S)} {n : Nat} (h : ∀ K T H vs a, ra K T H vs a → vs.length = n) : ∀ vs H Q E, GSp K ra c r m vs H Q E → vs.length = n := fun vs H Q E ⟨T, a, _, _, _, _, hr, _⟩ => h K T H vs a hr
theorem NewSp_len {K : PySem.W.Frag} {α ι S : Type} {ra : Rpl α} {c : ι → S → Cel K} {rv : ι → V} {m : α → Option S} {n : Nat} (h : ∀ K T H vs a, ra K T H vs a → vs.length = n) : ∀ vs H Q E, NewSp K ra c rv m vs H Q E → vs.length = n := fun vs H Q E ⟨T, a, _, _, hr, _⟩ => h K T H vs a hr
section
variable {K : PySem.W.Frag} {b : Bs} {fs : List (Fact K)} {cs : List (Cel K)} {T T' : AS} {H H' : Hp} {σ : L2.St} {α β γ S ι ρ : Type} {r : Rp α} {s : Rp β} {tr : TA} {te ta tb : TE} {E' : XK} {Q : VK} {D : Ends}
theorem ev_callO {ra : Rpl β} {m : β → Option α} {a : β} {d : α} (hT : TD T H) (h : EvA K T tr σ H ra a) (hm : m a = some d) : Ev K T (tCall (FSp K ra r m) [] E' tr) σ H r d := fun H1 g Q q =>
  h H1 g _ fun vs H2 e2 r2 => by
    show FSp K ra r m (vs ++ []) H2 Q E'
    rw [List.append_nil]
    exact ⟨T, a, d, (hT.fr g).ex e2, r2, hm, fun v H3 e3 r3 => q v H3 (e2.trans e3) r3⟩
theorem ev_methO {Cn : Str} {fn : List Str} {ra : Rpl β} {rb : Rpl γ} {m : β × γ → Option α} {a : β} {g : γ} {d : α} {mn : Str} [MoL ra] (hT : TD T H) (hm : mn ∉ fn) (h : Ev K T ta σ H (zOb Cn fn ra) a) (h2 : EvA K T tr σ H rb g) (he : m (a, g) = some d) :
    Ev K T (tMeth (He.ga K Cn) mn (FSp K (aC (zOb Cn fn ra) rb) r m) [] E' ta tr) σ H r d := fun H1 g' Q q => h H1 g' _ fun v H2 e2 r2 => by
  obtain ⟨p, dx, vs, ev, ht, hh, hr⟩ := r2
  refine ⟨p, dx, _, ev, hh, lookup_zip_none hm, ?_⟩
  refine h2 H2 (g'.trans e2.fr) _ fun ws H3 e3 r3 => ?_
  show FSp K (aC (zOb Cn fn ra) rb) r m (v :: (ws ++ [])) H3 Q E'
  rw [List.append_nil]
  exact ⟨T, (a, g), d, (hT.fr g').ex (e2.trans e3), ⟨v, ws, rfl, ⟨p, dx, vs, ev, ht, e3 _ _ hh, MoL.fr e3.fr hr⟩, r3⟩, he, fun v' H4 e4 r4 => q v' H4 ((e2.trans e3).trans e4) r4⟩
theorem En.gcall {ra : Rpl β} [Mo r] {c : β → S → Cel K} {m : β → S → Option (α × S)} {a : β} {s0 s1 : S} {d : α} (E : En K b fs cs T H) (h : EvA K T tr σ H ra a) (k : Nat) (hk : cs[k]? = some (c a s0)) (hm : m a s0 = some (d, s1)) (ho : (c a s1).own = (c a s0).own)
    (q : ∀ v H', En K b (fR r v d :: fs) (cs.set k (c a s1)) T H' → Q v H') : tCall (GSp K ra c r m) [] E' tr σ H Q :=
  h H (Fr.refl H) _ fun vs H2 e2 r2 => by
    show GSp K ra c r m (vs ++ []) H2 Q E'
    rw [List.append_nil]
    have E2 := E.ex e2
    have hc := E2.cel _ (List.mem_of_getElem? hk)
    refine ⟨T, a, s0, d, s1, E2.td, r2, hc.1, fun x hx => (hc.2 x hx).1, ?_, hm, fun v H3 f3 c3 r3 => q v H3 ((E2.chg k hk f3 c3 ho).add r3)⟩
    have hd := E2.dis
    obtain ⟨l1, l2, rfl⟩ := List.append_of_mem (List.mem_of_getElem? hk)
    simp only [owns, List.map_append, List.map_cons, List.flatten_append, List.flatten_cons] at hd
    exact (List.nodup_append.mp (List.nodup_append.mp hd).2.1).1
theorem En.newcall {ra : Rpl β} {c : ι → S → Cel K} {rv : ι → V} {m : β → Option S} {a : β} {s0 : S} (E : En K b fs cs T H) (h : EvA K T tr σ H ra a) (hm : m a = some s0)
    (q : ∀ i H', En K b fs (c i s0 :: cs) (fun b => T b ∨ b ∈ (c i s0).own) H' → Q (rv i) H') : tCall (NewSp K ra c rv m) [] E' tr σ H Q :=
  h H (Fr.refl H) _ fun vs H2 e2 r2 => by
    show NewSp K ra c rv m (vs ++ []) H2 Q E'
    rw [List.append_nil]
    have E2 := E.ex e2
    exact ⟨T, a, s0, E2.td, r2, hm, fun i H3 e3 hn hx hc => q i H3 (E2.newc (H' := H3) ⟨e3.fr, fun b t => t.elim .inl fun z => .inr (hx b z).1⟩ e3 (fun b h => .inl h) (fun b t => t.elim (E2.td.ex e3 b) fun z => (hx b z).2) hc (fun x hx' => ⟨(hx x hx').1, .inr hx'⟩) hn)⟩
/-! ### tests and choices whose parts may lack an answer -/
theorem ev_andO {c d : Bool} {m : Option Bool} (h1 : Ev K T ta σ H zB c) (h2 : c = true → ∀ x, m = some x → Ev K T tb σ H zB x) (hm : (if c = true then m else some false) = some d) : Ev K T (tAndV ta tb) σ H zB d := by
  cases c with
  | true =>
    rw [if_pos rfl] at hm
    have := ev_andV h1 (b := d) fun _ => h2 rfl d hm
    simpa using this
  | false =>
    rw [if_neg (by decide)] at hm
    cases hm
    have := ev_andV (tb := tb) h1 (b := false) fun z => by cases z
    simpa using this
theorem ev_orO {c d : Bool} {m : Option Bool} (h1 : Ev K T ta σ H zB c) (h2 : c = false → ∀ x, m = some x → Ev K T tb σ H zB x) (hm : (if c = true then some true else m) = some d) : Ev K T (tOrV ta tb) σ H zB d := by
  cases c with
  | false =>
    rw [if_neg (by decide)] at hm
    have := ev_orV h1 (b := d) fun _ => h2 rfl d hm
    simpa using this
  | true =>
    rw [if_pos rfl] at hm
    cases hm
    have := ev_orV (tb := tb) h1 (b := true) fun z => by cases z
    simpa using this
theorem et_andO {t u : TT} {c d : Bool} {m : Option Bool} (h1 : EvT T t σ H c) (h2 : c = true → ∀ x, m = some x → EvT T u σ H x) (hm : (if c = true then m else some false) = some d) : EvT T (tAnd t u) σ H d := by
  cases c with
  | true =>
    rw [if_pos rfl] at hm
    have := et_and h1 (b := d) fun _ => h2 rfl d hm
    simpa using this
  | false =>
    rw [if_neg (by decide)] at hm
    cases hm
    have := et_and (u := u) h1 (b := false) fun z => by cases z
    simpa using this
theorem et_orO {t u : TT} {c d : Bool} {m : Option Bool} (h1 : EvT T t σ H c) (h2 : c = false → ∀ x, m = some x → EvT T u σ H x) (hm : (if c = true then some true else m) = some d) : EvT T (tOr t u) σ H d := by
  cases c with
  | false =>
    rw [if_neg (by decide)] at hm
    have := et_or h1 (b := d) fun _ => h2 rfl d hm
    simpa using this
  | true =>
    rw [if_pos rfl] at hm
    cases hm
    have := et_or (u := u) h1 (b := true) fun z => by cases z
    simpa using this
theorem ev_iteO {t : TT} {c : Bool} {d : α} {m1 m2 : Option α} (h : EvT T t σ H c) (h1 : c = true → ∀ x, m1 = some x → Ev K T ta σ H r x) (h2 : c = false → ∀ x, m2 = some x → Ev K T tb σ H r x) (hm : (if c = true then m1 else m2) = some d) : Ev K T (tIf t ta tb) σ H r d := by
  cases c with
  | true => exact ev_if h (fun z => h1 z d (by simpa using hm)) (fun z => by cases z)
  | false => exact ev_if h (fun z => by cases z) (fun z => h2 z d (by simpa using hm))
/-! ### comprehensions -/
def zSm (s : Rp β) : Rp (Option β) := fun K T H v o => ∃ d, o = some d ∧ s K T H v d
instance [Mo s] : Mo (zSm s) := ⟨fun w ⟨d, e, h⟩ => ⟨d, e, Mo.wd w h⟩⟩
theorem all2_sm {vs : List V} {ys : List β} (h : All2 (zSm s K T H) vs (ys.map some)) : All2 (s K T H) vs ys := by
  induction ys generalizing vs with
  | nil => cases h; exact .nil
  | cons y ys ih =>
    rw [List.map_cons] at h
    cases h with
    | cons r t =>
      obtain ⟨d, e, h⟩ := r
      cases e
      exact .cons h (ih t)
theorem ev_lcO [Mo r] [Mo s] {wi : TI} {g : TG} {tt : TT} {vs : List Nat} {xs : List α} {p : α → Bool} {f : α → Option β} {ys : List β} (hT : TD T H) (h : EvI K T wi σ H r xs) (hm : mapO f (xs.filter p) = some ys)
    (hs : ∀ (T' : AS) (H' : Hp) (v : V) (x : α), Tr K T H T' H' → TD T' H' → x ∈ xs → r K T' H' v x → ∀ Q : L2.St → Hp → Prop, (∀ σ2, wipe σ2 vs = wipe σ vs → EvT T' tt σ2 H' (p x) → (p x = true → ∀ y, f x = some y → Ev K T' te σ2 H' s y) → Q σ2 H') → g v (wipe σ vs) H' Q) :
    Ev K T (tLc wi g tt te vs) σ H (zL s) ys := by
  have h1 := ev_lc (K := K) (s := zSm s) (f := f) (p := p) (te := te) (tt := tt) hT h fun T' H' v x tr hT' hx hr Q q => hs T' H' v x tr hT' hx hr Q fun σ2 hw ht he => q σ2 hw ht fun hp => by
    obtain ⟨y, hy⟩ := mapO_get hm (List.mem_filter.mpr ⟨hx, hp⟩)
    rw [hy]
    exact fun H1 f1 Q1 q1 => he hp y hy H1 f1 Q1 fun v' H2 e2 r2 => q1 v' H2 e2 ⟨y, rfl, r2⟩
  intro H1 f1 Q1 q1
  refine h1 H1 f1 Q1 fun v H2 e2 ⟨a, ws, e, hs', hh⟩ => q1 v H2 e2 ⟨a, ws, e, hs', ?_⟩
  rw [mapO_mem hm] at hh
  exact all2_sm hh
theorem ev_lcO1 [Mo r] [Mo s] {wi : TI} {g : TG} {vs : List Nat} {xs : List α} {f : α → Option β} {ys : List β} (hT : TD T H) (h : EvI K T wi σ H r xs) (hm : mapO f xs = some ys)
    (hs : ∀ (T' : AS) (H' : Hp) (v : V) (x : α), Tr K T H T' H' → TD T' H' → x ∈ xs → r K T' H' v x → ∀ Q : L2.St → Hp → Prop, (∀ σ2, wipe σ2 vs = wipe σ vs → (∀ y, f x = some y → Ev K T' te σ2 H' s y) → Q σ2 H') → g v (wipe σ vs) H' Q) :
    Ev K T (tLc wi g tYes te vs) σ H (zL s) ys :=
  ev_lcO (p := fun _ => true) hT h (by rw [List.filter_eq_self.mpr (fun _ _ => rfl)]; exact hm) fun T' H' v x tr hT' hx hr Q q => hs T' H' v x tr hT' hx hr Q fun σ2 hw he => q σ2 hw et_yes fun _ => he
/-- one whose element changes cells: Cs tells the cells -/
theorem En.lc [Mo r] [Mo s] {wi : TI} {g : TG} {vs : List Nat} {xs : List α} {f : S → α → Option (β × S)} {Cs : S → List (Cel K)} {s0 s1 : S} {ys : List β} (hown : ∀ s, owns (Cs s) = owns (Cs s0)) (E : En K b fs (Cs s0) T H) (h : EvI K T wi σ H r xs) (hm : mapS f s0 xs = some (ys, s1))
    (hs : ∀ (b' : Bs) (T' : AS) (H' : Hp) (v : V) (x : α) (sx sy : S) (y : β), x ∈ xs → Wd T H T' H' → r K T' H' v x → En K b' (fR r v x :: fs) (Cs sx) T' H' → (∀ a, a ∈ b'.W ↔ a ∈ owns (Cs sx)) → f sx x = some (y, sy) → ∀ Q : L2.St → Hp → Prop, (∀ σ2, wipe σ2 vs = wipe σ vs → (∀ Qe : VK, (∀ v' fs' T'' H'', En K b' (fR s v' y :: fs') (Cs sy) T'' H'' → Qe v' H'') → te σ2 H' Qe) → Q σ2 H') → g v (wipe σ vs) H' Q)
    (q : ∀ p H', En K b (fR zA (.ref p) p :: fs) (cL s p ys :: Cs s1) (Tp T p) H' → Q (.ref p) H') : tLc wi g tYes te vs σ H Q := by
  refine h H (Fr.refl H) _ fun J H2 e2 w => ?_
  intro D hD
  obtain ⟨⟨n, G, Y, hn, wk, hG, hY⟩, hz⟩ := w
  subst hn
  have E2 := E.ex e2
  have nD : ¬ T D := E2.td.new hD
  -- the list that is made is a cell of its own
  have E3 : En K b (fR zA (.ref D) D :: fs) (cL s D [] :: Cs s0) (Tp T D) (upd H2 D (.lst [])) :=
    En.add (E2.newc (c := cL s D []) (Wd.new hD) (Ex.new hD) (fun _ h => .inl h) ((E2.td.ex (Ex.new hD)).tp upd_same) ⟨[], upd_same, .nil⟩ (fun a ha => by simp only [List.mem_singleton] at ha; subst ha; exact ⟨hD, .inr rfl⟩) (by simp)) rfl
  have hlen := mapS_len hm
  refine lc_it wk (fun i H' => ∃ si, mapS f s0 (xs.take i) = some (ys.take i, si) ∧ En K b (fR zA (.ref D) D :: fs) (cL s D (ys.take i) :: Cs si) (Tp T D) H' ∧ Fr T H2 H') ⟨s0, rfl, by simpa using E3, (Ex.new hD).fr⟩ (fun i H' _ ⟨_, _, _, f⟩ => hG H' f) ?_ ?_
  · intro i v H' H'' hi ⟨si, hsi, Ei, fi⟩ y
    obtain ⟨eY, x, hx, hr⟩ := hY i H' v H'' hi fi y
    obtain ⟨sx, yv, sy, x', hx', e1, e2', e3, e4⟩ := mapS_take hm i hi
    rw [hx] at hx'; cases hx'
    rw [hsi] at e1; cases e1
    have Ei2 := Ei.ex eY
    -- within: the cells without the list
    have hcel := Ei2.cel
    have hd := Ei2.dis
    simp only [owns, List.map_cons, List.flatten_cons] at hd
    have w2 : Wd T H2 (Tp T D) H' := ⟨fi, fun a t => t.elim .inl fun z => .inr (z ▸ hD)⟩
    have rx := hr (Tp T D) Ei.td (Tr.wd w2)
    have Eb : En K ⟨Tp T D, owns (Cs si), H''⟩ (fR r v x :: fs) (Cs si) (Tp T D) H'' := by
      refine En.add ⟨Ei2.td, fun _ h => h, Ei2.td, Wd.refl, Fr.refl _, fun k g hk => Ei2.fac (k + 1) g (by simpa using hk), fun c hc => ⟨(hcel c (List.mem_cons_of_mem _ hc)).1, fun a ha => ⟨((hcel c (List.mem_cons_of_mem _ hc)).2 a ha).1, .inl (mem_owns hc ha)⟩⟩, (List.nodup_append.mp hd).2.1⟩ rx
    have hDn : D ∉ owns (Cs si) := fun z => (List.nodup_append.mp hd).2.2 D (by simp) D z rfl
    refine hs _ _ _ v x si sy yv (List.mem_of_getElem? hx) (((Wd.ex e2).trans w2).trans (Wd.ex eY)) rx Eb (fun a => Iff.rfl) e2' _ fun σ2 hw he => ⟨hw, tYes_if ?_⟩
    refine he _ fun v' fs' T'' H4 E4 => ?_
    obtain ⟨⟨acc, hacc, hall⟩, _⟩ := hcel _ List.mem_cons_self
    have hkeep : H4 D = some (.lst acc) := E4.fr.keep D _ hDn hacc
    have hl : acc.length = i := by rw [all2_len hall, List.length_take, hlen]; omega
    refine ⟨acc, hkeep, by omega, sy, e3, ?_, ?_⟩
    · -- all of it after the store
      have f4 : Fr (fun a => a ∈ owns (Cs si)) H'' H4 := E4.fr
      have w4 : Wd (Tp T D) H'' (Tp T D) H4 := Wd.of (f4.mono fun a ha => by
        obtain ⟨c, hc, hac⟩ := owns_mem ha
        exact ((hcel c (List.mem_cons_of_mem _ hc)).2 a hac).1)
      have fD : Fr (fun a => a = D) H4 (upd H4 D (.lst (acc ++ [v']))) := Fr.upd (.inl rfl)
      have wD : Wd (Tp T D) H4 (Tp T D) (upd H4 D (.lst (acc ++ [v']))) := Wd.of (fD.mono fun a ha => .inr ha)
      have ry : s K (Tp T D) H4 v' yv := E4.out (E4.at 0 rfl)
      refine ⟨Ei2.btd, Ei2.sup, (Ei2.td.fr w4.fr).fr wD.fr, (Ei2.wd.trans w4).trans wD, ?_, fun k g hk => g.st (w4.trans wD) (Ei2.fac k g hk), fun c hc => ?_, ?_⟩
      · refine Fr.thenFr (Fr.thenFr Ei2.fr f4 fun a ha => ?_) fD fun a ha => ?_
        · obtain ⟨c, hc, hac⟩ := owns_mem ha
          exact ((hcel c (List.mem_cons_of_mem _ hc)).2 a hac).2
        · subst ha
          exact ((hcel _ List.mem_cons_self).2 a (by simp)).2
      · rcases List.mem_cons.mp hc with rfl | hc
        · refine ⟨⟨_, upd_same, ?_⟩, (hcel (cL s D (ys.take i)) List.mem_cons_self).2⟩
          rw [e4]
          exact all2_app (all2_imp (fun _ _ z => Mo.wd (w4.trans wD) z) hall) (.cons (Mo.wd wD ry) .nil)
        · have hc4 := E4.cel c hc
          have hP : c.P (Tp T D) H4 := c.st (Wd.sub E4.sup) (fun _ _ => rfl) hc4.1
          have hin : ∀ a ∈ c.own, a ∈ owns (Cs si) := fun a ha => by rw [hown si, ← hown sy]; exact mem_owns hc ha
          refine ⟨c.st wD (fun a ha => upd_ne (fun z => hDn (z ▸ hin a ha))) hP, fun a ha => ?_⟩
          obtain ⟨c1, h1, h2⟩ := owns_mem (hin a ha)
          exact (hcel c1 (List.mem_cons_of_mem _ h1)).2 a h2
      · simp only [owns, List.map_cons, List.flatten_cons, List.nodup_append]
        refine ⟨by simp, E4.dis, fun a ha x hx z => ?_⟩
        subst z
        simp only [List.mem_singleton] at ha
        subst ha
        refine hDn ?_
        rw [hown si, ← hown sy]
        exact hx
    · refine Fr.thenFr (Fr.thenFr (fi.trans eY.fr) E4.fr fun a ha => .inl ?_) (Fr.upd (T := fun a => a = D) (.inl rfl)) fun a ha => .inr (ha ▸ hD)
      obtain ⟨c1, h1, h2⟩ := owns_mem ha
      rcases ((hcel c1 (List.mem_cons_of_mem _ h1)).2 a h2).1 with h | h
      · exact h
      · exact absurd (h ▸ ha) hDn
  · rintro H' ⟨si, hsi, Ei, fi⟩
    rw [List.take_length] at hsi
    rw [hm] at hsi
    have h1 : ys = ys.take xs.length := by rw [← hlen, List.take_length]
    injection hsi with h2
    injection h2 with h3 h4
    subst h4
    rw [← h1] at Ei
    exact q D H' Ei
theorem mapS_of {f : α → Option β} : ∀ {xs : List α} {ys : List β}, mapO f xs = some ys → mapS (fun (_ : Unit) x => (f x).map fun y => (y, ())) () xs = some (ys, ())
  | [], ys, h => by cases h; rfl
  | x :: xs, ys, h => by
    obtain ⟨y, h1, h⟩ := bnd h
    obtain ⟨zs, h2, h⟩ := bnd h
    cases h
    show ((f x).map _).bind _ = _
    rw [h1]
    show (mapS _ () xs).bind _ = _
    rw [mapS_of h2]
    rfl
/-- a list that is new, by a comprehension that changes nothing -/
theorem En.lcP [Mo r] [Mo s] {wi : TI} {g : TG} {vs : List Nat} {xs : List α} {f : α → Option β} {ys : List β} (E : En K b fs cs T H) (h : EvI K T wi σ H r xs) (hm : mapO f xs = some ys)
    (hs : ∀ (T' : AS) (H' : Hp) (v : V) (x : α), Tr K T H T' H' → TD T' H' → x ∈ xs → r K T' H' v x → ∀ Q : L2.St → Hp → Prop, (∀ σ2, wipe σ2 vs = wipe σ vs → (∀ y, f x = some y → Ev K T' te σ2 H' s y) → Q σ2 H') → g v (wipe σ vs) H' Q)
    (q : ∀ p H', En K b (fR zA (.ref p) p :: fs) (cL s p ys :: cs) (Tp T p) H' → Q (.ref p) H') : tLc wi g tYes te vs σ H Q :=
  En.lc (s := s) (Cs := fun (_ : Unit) => cs) (fun _ => rfl) E h (mapS_of hm) (fun b' T' H' v x sx sy y hx w rx E' _ hf Q1 q1 => hs T' H' v x (Tr.wd w) E'.td hx rx Q1 fun σ2 hw he => q1 σ2 hw fun Qe hQe => by
    cases hy : f x with
    | none => rw [hy] at hf; cases hf
    | some z =>
      rw [hy] at hf
      cases hf
      exact he y hy H' (Fr.refl H') Qe fun v' H'' e r' => hQe v' _ T' H'' ((E'.ex e).add r')) q
/-! ### loops -/
theorem forO_take {f : S → α → Option (Out ρ S)} : ∀ {xs : List α} {s0 : S} {o : Out ρ S} {i : Nat} {x : α} {si : S}, forO f s0 xs = some o → xs[i]? = some x → forO f s0 (xs.take i) = some (.nx si) → (∀ j, j < i → ∀ y sj, xs[j]? = some y → forO f s0 (xs.take j) = some (.nx sj) → ∃ sk, f sj y = some (.nx sk)) → ∃ o', f si x = some o' ∧ (∀ sj, o' = .nx sj → forO f s0 (xs.take (i + 1)) = some (.nx sj)) ∧ (∀ sj, o' = .brk sj → o = .nx sj) ∧ (∀ q, o' = .ret q → o = .ret q)
  | [], s0, o, i, x, si, h, hx, _, _ => by simp at hx
  | y :: xs, s0, o, 0, x, si, h, hx, h1, _ => by
    simp at hx; subst hx
    cases h1
    obtain ⟨o', e1, e2⟩ := bnd h
    refine ⟨o', e1, fun sj ej => ?_, fun sj ej => ?_, fun q ej => ?_⟩
    · subst ej
      simp [forO, e1]
    · subst ej
      cases e2; rfl
    · subst ej
      cases e2; rfl
  | y :: xs, s0, o, i + 1, x, si, h, hx, h1, hp => by
    obtain ⟨o1, e1, e2⟩ := bnd h
    obtain ⟨sk, hk⟩ := hp 0 (by omega) y s0 rfl rfl
    rw [e1] at hk
    cases hk
    rw [List.take_succ_cons] at h1
    have h1' : forO f sk (xs.take i) = some (.nx si) := by
      have : forO f s0 (y :: xs.take i) = forO f sk (xs.take i) := by
        show (f s0 y).bind _ = _
        rw [e1]; rfl
      rw [← this]; exact h1
    obtain ⟨o', q1, q2, q3, q4⟩ := forO_take (xs := xs) (s0 := sk) (o := o) (i := i) (x := x) (si := si) e2 (by simpa using hx) h1' fun j hj z sj hz hzj => by
      refine hp (j + 1) (by omega) z sj (by simpa using hz) ?_
      rw [List.take_succ_cons]
      show (f s0 y).bind _ = _
      rw [e1]; exact hzj
    refine ⟨o', q1, fun sj ej => ?_, q3, q4⟩
    rw [List.take_succ_cons]
    show (f s0 y).bind _ = _
    rw [e1]; exact q2 sj ej
/-- for; I tells what holds between two turns, for a base, the state, what may change, slots and heap -/
theorem En.for_ [Mo r] {wi : TI} {g : TG} {tb : TS} {xs : List α} {f : S → α → Option (Out ρ S)} {s0 : S} {o : Out ρ S} (I : Bs → S → AS → L2.St → Hp → Prop)
    (E : En K b fs cs T H) (h : EvI K T wi σ H r xs) (hm : forO f s0 xs = some o)
    (h0 : ∀ H2, En K ⟨T, owns cs, H2⟩ fs cs T H2 → I ⟨T, owns cs, H2⟩ s0 T σ H2)
    (hI : ∀ b' sx T' σ' H', I b' sx T' σ' H' → Wd b'.T b'.H T' H' ∧ TD T' H')
    (step : ∀ Hb (E2 : En K b fs cs T Hb) sx x o' T' σ' H' H'' v (D' : Ends), x ∈ xs → I ⟨T, owns cs, Hb⟩ sx T' σ' H' → Ex H' H'' → r K T' H'' v x → f sx x = some o' → D'.rt = D.rt → (∀ q, o' = .ret q → o = .ret q) →
      (∀ sy T2 σ2 H2, o' = .nx sy → I ⟨T, owns cs, Hb⟩ sy T2 σ2 H2 → D'.nx σ2 H2 ∧ D'.ct σ2 H2) → (∀ sy T2 σ2 H2, o' = .brk sy → I ⟨T, owns cs, Hb⟩ sy T2 σ2 H2 → D'.bk σ2 H2) → g v σ' H'' fun σ3 H3 => tb D' σ3 H3)
    (k : ∀ H2 sx T' σ' H', En K b fs cs T H2 → o = .nx sx → I ⟨T, owns cs, H2⟩ sx T' σ' H' → D.nx σ' H') : tFor wi g tb D σ H := by
  refine h H (Fr.refl H) _ fun J H2 e2 w => ?_
  obtain ⟨⟨n, G, Y, hn, wk, hG, hY⟩, hz⟩ := w
  subst hn
  have E2 := E.ex e2
  -- within turn i the turns ahead went on
  refine for_it wk (fun i σ' H' => ∃ sx T', forO f s0 (xs.take i) = some (.nx sx) ∧ (∀ j, j < i → ∀ y sj, xs[j]? = some y → forO f s0 (xs.take j) = some (.nx sj) → ∃ sk, f sj y = some (.nx sk)) ∧ I ⟨T, owns cs, H2⟩ sx T' σ' H') ⟨s0, T, rfl, fun j hj => by omega, h0 H2 E2.rebase⟩ (fun i σ' H' _ ⟨_, _, _, _, q⟩ => hG H' (hI _ _ _ _ _ q).1.fr) ?_ ?_
  · rintro i v σ' H' H'' hi ⟨sx, T', e1, e3, q⟩ y
    have hw := hI _ _ _ _ _ q
    obtain ⟨eY, x, hx, hr⟩ := hY i H' v H'' hi hw.1.fr y
    obtain ⟨o', q1, q2, q3, q4⟩ := forO_take hm hx e1 e3
    refine step H2 E2 sx x o' T' σ' H' H'' v _ (List.mem_of_getElem? hx) q eY (hr T' hw.2 (Tr.wd hw.1)) q1 rfl q4 (fun sy T2 σ2 H3 ho I2 => ?_) (fun sy T2 σ2 H3 ho I2 => ?_)
    · have hq : ∃ sx T', forO f s0 (xs.take (i + 1)) = some (.nx sx) ∧ (∀ j, j < i + 1 → ∀ y sj, xs[j]? = some y → forO f s0 (xs.take j) = some (.nx sj) → ∃ sk, f sj y = some (.nx sk)) ∧ I ⟨T, owns cs, H2⟩ sx T' σ2 H3 := by
        refine ⟨sy, T2, q2 sy ho, fun j hj z sj hz hzj => ?_, I2⟩
        rcases Nat.lt_or_ge j i with hji | hji
        · exact e3 j hji z sj hz hzj
        · have : j = i := by omega
          subst this
          rw [hx] at hz; cases hz
          rw [e1] at hzj; cases hzj
          exact ⟨sy, by rw [q1, ho]⟩
      exact ⟨hq, hq⟩
    · exact k H2 sy T2 σ2 H3 E2 (q3 sy ho) I2
  · rintro σ' H' ⟨sx, T', e1, e3, q⟩
    rw [List.take_length, hm] at e1
    cases e1
    exact k H2 sx T' σ' H' E2 rfl q
/-! ### lists of ours -/
theorem En.cl [Mo r] {p : Addr} {xs : List α} (E : En K b fs cs T H) (k : Nat) (hk : cs[k]? = some (cL r p xs)) : T p ∧ ∃ vs, H p = some (.lst vs) ∧ All2 (r K T H) vs xs :=
  ⟨((E.cel _ (List.mem_of_getElem? hk)).2 p (by simp)).1, (E.cel _ (List.mem_of_getElem? hk)).1⟩
theorem En.store [Mo r] {p : Addr} {xs ys : List α} {vs : List V} (E : En K b fs cs T H) (k : Nat) (hk : cs[k]? = some (cL r p xs)) (h : All2 (r K T H) vs ys) : En K b fs (cs.set k (cL r p ys)) T (upd H p (.lst vs)) :=
  E.chg k hk (Fr.upd (.inl (by simp))) ⟨vs, upd_same, all2_imp (fun _ _ z => Mo.fr (Fr.upd (.inl (E.cl k hk).1)) z) h⟩ rfl
theorem En.bm {p : Addr} {xs : List α} {i : Nat} {rX : V → List V → Hp → VK → Prop} [Mo r] (E : En K b fs cs T H) (hv : σ[i]? = some (some (.ref p))) (k : Nat) (hk : cs[k]? = some (cL r p xs)) (h : tr σ H fun vs H1 => rX (.ref p) vs H1 Q) : tBM K "list" rX (tVar i) tr σ H Q := by
  obtain ⟨_, vs, h1, _⟩ := E.cl k hk
  exact ⟨.ref p, hv, .inl ⟨rfl, vs, .inl (.inl h1)⟩, h⟩
theorem En.append [Mo r] {p : Addr} {xs : List α} {v : V} {d : α} (E : En K b fs cs T H) (k : Nat) (hk : cs[k]? = some (cL r p xs)) (hv : r K T H v d) (hl : xs.length < 1000000) (q : ∀ H', En K b fs (cs.set k (cL r p (xs ++ [d]))) T H' → Q .non H') : rAppend (.ref p) [v] H Q := by
  obtain ⟨_, vs, h1, h2⟩ := E.cl k hk
  exact ⟨p, vs, v, rfl, rfl, h1, by rw [all2_len h2, sizeLine_eq]; omega, q _ (E.store k hk (all2_app h2 (.cons hv .nil)))⟩
def setO (xs : List α) (i : Int) (d : α) : Option (List α) := (ixN xs.length i).map fun j => xs.set j d
theorem En.setitem [Mo r] {p : Addr} {xs ys : List α} {v : V} {d : α} {i : Nat} {ti : TE} {n : Int} {Qs : L2.St → Hp → Prop} (E : En K b fs cs T H) (hp : σ[i]? = some (some (.ref p))) (k : Nat) (hk : cs[k]? = some (cL r p xs)) (hv : r K T H v d) (hi : Ev K T ti σ H zI n) (hm : setO xs n d = some ys)
    (q : ∀ H', En K b fs (cs.set k (cL r p ys)) T H' → Qs σ H') : gSub (tVar i) ti rSetL v σ H Qs := by
  refine ⟨.ref p, hp, ?_⟩
  refine hi H (Fr.refl H) _ fun iv H2 e2 r2 => ?_
  have E2 := E.ex e2
  obtain ⟨_, vs, h1, h2⟩ := E2.cl k hk
  unfold setO at hm
  cases hj : ixN xs.length n with
  | none => rw [hj] at hm; cases hm
  | some j =>
    rw [hj] at hm
    cases hm
    exact ⟨p, vs, n, j, rfl, r2, h1, by rw [all2_len h2]; exact hj, q _ (E2.store k hk (all2_set (Mo.fr e2.fr hv) j h2))⟩
def popO (xs : List α) : Option (α × List α) := (xs[xs.length - 1]?).map fun x => (x, xs.dropLast)
theorem all2_dropLast {F : V → α → Prop} : ∀ {vs : List V} {xs : List α}, All2 F vs xs → All2 F vs.dropLast xs.dropLast
  | _, _, .nil => .nil
  | _, _, .cons r .nil => .nil
  | _, _, .cons r (.cons r' t) => .cons r (all2_dropLast (.cons r' t))
theorem En.pop [Mo r] {p : Addr} {xs ys : List α} {d : α} (E : En K b fs cs T H) (k : Nat) (hk : cs[k]? = some (cL r p xs)) (hm : popO xs = some (d, ys)) (q : ∀ v H', En K b (fR r v d :: fs) (cs.set k (cL r p ys)) T H' → Q v H') : rPop (.ref p) [] H Q := by
  obtain ⟨hT, vs, h1, h2⟩ := E.cl k hk
  unfold popO at hm
  cases hj : xs[xs.length - 1]? with
  | none => rw [hj] at hm; cases hm
  | some x =>
    rw [hj] at hm
    cases hm
    obtain ⟨v, hv, hr⟩ := all2_get h2 hj
    have f : Fr T H (upd H p (.lst vs.dropLast)) := Fr.upd (.inl hT)
    exact ⟨p, vs, v, rfl, rfl, h1, by rw [all2_len h2]; exact hv, q _ _ (En.add (E.store k hk (all2_dropLast h2)) (Mo.fr f hr))⟩
theorem En.reverse [Mo r] {p : Addr} {xs : List α} (E : En K b fs cs T H) (k : Nat) (hk : cs[k]? = some (cL r p xs)) (q : ∀ H', En K b fs (cs.set k (cL r p xs.reverse)) T H' → Q .non H') : rReverse (.ref p) [] H Q := by
  obtain ⟨hT, vs, h1, h2⟩ := E.cl k hk
  exact ⟨p, vs, rfl, rfl, h1, q _ (E.store k hk (all2_reverse h2))⟩
/-! ### reading what is ours -/
class At {α : Type} (r : Rp α) : Prop where
  up : ∀ {K T H T' H' v a}, r K T H v a → r K T' H' v a
instance : At zI := ⟨fun h => h⟩
instance : At zB := ⟨fun h => h⟩
instance : At zS := ⟨fun h => h⟩
instance : At zN := ⟨fun h => h⟩
instance : At zW := ⟨fun h => h⟩
instance : At zA := ⟨fun h => h⟩
instance [At r] : At (zO r) := ⟨fun h => h.elim .inl fun ⟨x, e, q⟩ => .inr ⟨x, e, At.up q⟩⟩
/-- without our cells -/
def Tb (T : AS) (cs : List (Cel K)) : AS := fun a => T a ∧ a ∉ owns cs
theorem En.tdB (E : En K b fs cs T H) : TD (Tb T cs) H := E.td.sub fun _ h => h.1
theorem En.atB (E : En K b fs cs T H) {f : Fact K} (k : Nat) (h : fs[k]? = some f) : f.P (Tb T cs) H := f.st (Wd.sub fun _ h => h.1) (E.fac k f h)
theorem En.clB [Mo r] {p : Addr} {xs : List α} (E : En K b fs cs T H) (k : Nat) (hk : cs[k]? = some (cL r p xs)) : zL r K (Tb T cs) H (.ref p) xs := by
  obtain ⟨hT, vs, h1, h2⟩ := E.cl k hk
  exact ⟨p, vs, rfl, .new (fun z => z.2 (mem_owns (List.mem_of_getElem? hk) (by simp))) h1, all2_imp (fun _ _ z => Mo.wd (Wd.sub fun _ h => h.1) z) h2⟩
theorem En.cvB {p : Addr} {vs : List V} (E : En K b fs cs T H) (k : Nat) (hk : cs[k]? = some (cV p (.lst vs))) : SL K (Tb T cs) H p vs :=
  .new (fun z => z.2 (mem_owns (List.mem_of_getElem? hk) (by simp))) (E.c k hk)
theorem En.runB [Mo r] [At r] {d : α} (E : En K b fs cs T H) (h : Ev K (Tb T cs) te σ H r d) (k : ∀ v H', En K b (fR r v d :: fs) cs T H' → Q v H') : te σ H Q :=
  h H (Fr.refl H) Q fun v H' e q => k v H' ((E.ex e).add (At.up q))
theorem En.testB {tt : TT} {d : Bool} {Qb : Bool → Hp → Prop} (E : En K b fs cs T H) (h : EvT (Tb T cs) tt σ H d) (k : ∀ H', En K b fs cs T H' → Qb d H') : tt σ H Qb :=
  h H (Fr.refl H) Qb fun H' e => k H' (E.ex e)
theorem En.newLB [Mo r] [At r] {xs : List α} (E : En K b fs cs T H) (h : EvF K (Tb T cs) te σ H r xs) (k : ∀ p H', En K b (fR zA (.ref p) p :: fs) (cL r p xs :: cs) (Tp T p) H' → Q (.ref p) H') : te σ H Q :=
  h H (Fr.refl H) Q fun p H2 H3 e2 n f e3 m => by
    have E2 := E.ex e2
    obtain ⟨vs, h1, h2⟩ := m.ex
    refine k p H3 (En.add (E2.newc (c := cL r p xs) (T' := Tp T p) ⟨e3.fr, fun b t => t.elim .inl fun z => .inr (z ▸ n)⟩ e3 (fun b h => .inl h) ((E2.td.ex e3).tp h1) ⟨vs, h1, all2_imp (fun _ _ z => At.up z) h2⟩ (fun a ha => ?_) (by simp)) rfl)
    simp only [List.mem_singleton] at ha
    subst ha
    exact ⟨n, .inr rfl⟩
/-- an item of a list of things of many kinds, by its place -/
theorem ev_ixV [Mo r] {p : Addr} {vs : List V} {i : Int} {v : V} {d : α} (ha : Ev K T ta σ H zA p) (hb : Ev K T tb σ H zI i) (hs : SL K T H p vs) (hi : atI vs i = some v) (hv : r K T H v d) : Ev K T (tOp (rIxL K) ta tb) σ H r d := fun H1 f Q q =>
  ha H1 f _ fun x H2 e2 rx => hb H2 (f.trans e2.fr) _ fun y H3 e3 ry => by
    have fr3 := (f.trans e2.fr).trans e3.fr
    exact ⟨p, vs, i, v, rx, ry, (hs.fr fr3).sq, hi, q v H3 (e2.trans e3) (Mo.fr fr3 hv)⟩
/-- a store into a list as it stands -/
theorem En.setraw {p : Addr} {vs : List V} {v : V} {i j : Nat} {ti : TE} {n : Int} {Qs : L2.St → Hp → Prop} (E : En K b fs cs T H) (hp : σ[i]? = some (some (.ref p))) (k : Nat) (hk : cs[k]? = some (cV p (.lst vs))) (hi : Ev K T ti σ H zI n) (hm : ixN vs.length n = some j)
    (q : ∀ H', En K b fs (cs.set k (cV p (.lst (vs.set j v)))) T H' → Qs σ H') : gSub (tVar i) ti rSetL v σ H Qs := by
  refine ⟨.ref p, hp, ?_⟩
  refine hi H (Fr.refl H) _ fun iv H2 e2 r2 => ?_
  have E2 := E.ex e2
  exact ⟨p, vs, n, j, rfl, r2, E2.c k hk, hm, q _ (E2.chg k hk (Fr.upd (.inl (by simp))) upd_same rfl)⟩
end
end EB

set_option Elab.async false
set_option linter.all false
set_option maxRecDepth 100000
set_option maxHeartbeats 4000000
/-! EB, second layer: more operations; guards. -/
namespace EB
open PySem PySem.Spec PyProof.Rows L2
instance {i j : Int} : Decidable (CMulW i j) := by unfold CMulW; infer_instance
instance {i j : Int} : Decidable (CDivW i j) := by unfold CDivW; infer_instance
instance {i j : Int} : Decidable (CPow i j) := by unfold CPow; infer_instance
section
variable {K : PySem.W.Frag} {b : Bs} {fs : List (Fact K)} {cs : List (Cel K)} {T T' : AS} {H H' : Hp} {σ : L2.St} {α β γ S ι ρ : Type} {r : Rp α} {s : Rp β} {tr : TA} {te ta tb : TE} {E' : XK} {Q : VK} {D : Ends}
theorem ev_mulW {i j : Int} (ha : Ev K T ta σ H zI i) (hb : Ev K T tb σ H zI j) (hc : CMulW i j) : Ev K T (tOp (rI CMulW fun i j => .int (i * j)) ta tb) σ H zI (i * j) := ev_IC (fun _ => rfl) ha hb hc
theorem ev_fdivW {i j : Int} (ha : Ev K T ta σ H zI i) (hb : Ev K T tb σ H zI j) (hc : CDivW i j) : Ev K T (tOp (rI CDivW fun i j => .int (i / j)) ta tb) σ H zI (i / j) := ev_IC (fun _ => rfl) ha hb hc
theorem ev_shr {i j : Int} (ha : Ev K T ta σ H zI i) (hb : Ev K T tb σ H zI j) (hc : 0 ≤ j) : Ev K T (tOp (rI (fun _ j => 0 ≤ j) fun i j => .int (i / 2 ^ j.toNat)) ta tb) σ H zI (i / 2 ^ j.toNat) := ev_IC (fun _ => rfl) ha hb hc
theorem ev_band {i j : Int} (ha : Ev K T ta σ H zI i) (hb : Ev K T tb σ H zI j) : Ev K T (tOp (rI0 fun i j => .int (Builtin.bitAnd i j)) ta tb) σ H zI (Builtin.bitAnd i j) := ev_I0 (fun _ => rfl) ha hb
theorem ev_bor {i j : Int} (ha : Ev K T ta σ H zI i) (hb : Ev K T tb σ H zI j) : Ev K T (tOp (rI0 fun i j => .int (Builtin.bitOr i j)) ta tb) σ H zI (Builtin.bitOr i j) := ev_I0 (fun _ => rfl) ha hb
theorem ev_bxor {i j : Int} (ha : Ev K T ta σ H zI i) (hb : Ev K T tb σ H zI j) : Ev K T (tOp (rI0 fun i j => .int (Builtin.bitXor i j)) ta tb) σ H zI (Builtin.bitXor i j) := ev_I0 (fun _ => rfl) ha hb
/-- int(word) of one sign -/
def wInt1 (w : List Bool) : Option Int := match w with
  | [b] => some (b2 b)
  | _ => none
theorem ev_intW1 {w : List Bool} {i : Int} (h : Ev K T ta σ H zW w) (hl : wInt1 w = some i) : Ev K T (tCB rIntS (tCons ta tNil)) σ H zI i := by
  match w, hl with
  | [b], hl =>
    have e : b2 b = i := Option.some.inj hl
    subst e
    exact ev_intW h rfl
/-- the way a block goes on -/
theorem cut_ {t : TS} {σ : L2.St} {H : Hp} (J : L2.St → Hp → Prop) (h : ∀ σ' H', J σ' H' → D.nx σ' H') (k : (∀ σ' H', J σ' H' → D.nx σ' H') → t D σ H) : t D σ H := k h
theorem En.augI {f : Int → Int → Int} {i : Nat} {v : V} {x y : Int} (E : En K b fs cs T H) (hv : σ[i]? = some (some v)) (h : zI K T H v x) (he : Ev K T te σ H zI y) (k : ∀ w H', En K b (fR zI w (f x y) :: fs) cs T H' → D.nx (σ.set i (some w)) H') : tAug i te (ipI f) D σ H :=
  ⟨v, hv, E.run he fun w H' E' => ⟨x, y, h, E'.at (f := fR zI w y) 0 rfl, k _ H' ((show En K b fs cs T H' from ⟨E'.btd, E'.sup, E'.td, E'.wd, E'.fr, fun j g hj => E'.fac (j + 1) g (by simpa using hj), E'.cel, E'.dis⟩).add rfl)⟩⟩
theorem seq_open {t u : TS} {σ : L2.St} {H : Hp} (h : t { D with nx := u D } σ H) : tSeq t u D σ H := h
theorem ifs_open' {tt : TT} {t u : TS} {σ : L2.St} {H : Hp} (h : tt σ H fun c H1 => if c = true then t D σ H1 else u D σ H1) : tIfS tt t u D σ H := h
/-- plain loops -/
theorem forP_O {f : S → α → Option S} : ∀ {xs : List α} {s0 s1 : S}, forP f s0 xs = some s1 → forO (ρ := ρ) (fun s x => (f s x).bind fun s' => some (.nx s')) s0 xs = some (.nx s1)
  | [], s0, s1, h => by cases h; rfl
  | x :: xs, s0, s1, h => by
    obtain ⟨s2, h1, h2⟩ := bnd h
    show ((f s0 x).bind _).bind _ = _
    rw [h1]
    exact forP_O h2
theorem En.forP [Mo r] {wi : TI} {g : TG} {tb : TS} {xs : List α} {f : S → α → Option S} {s0 s1 : S} (I : Bs → S → AS → L2.St → Hp → Prop)
    (E : En K b fs cs T H) (h : EvI K T wi σ H r xs) (hm : forP f s0 xs = some s1)
    (h0 : ∀ H2, En K ⟨T, owns cs, H2⟩ fs cs T H2 → I ⟨T, owns cs, H2⟩ s0 T σ H2)
    (hI : ∀ b' sx T' σ' H', I b' sx T' σ' H' → Wd b'.T b'.H T' H' ∧ TD T' H')
    (step : ∀ b' sx x sy T' σ' H' H'' v (D' : Ends), x ∈ xs → I b' sx T' σ' H' → Ex H' H'' → r K T' H'' v x → f sx x = some sy → D'.rt = D.rt →
      (∀ T2 σ2 H2, I b' sy T2 σ2 H2 → D'.nx σ2 H2 ∧ D'.ct σ2 H2) → g v σ' H'' fun σ3 H3 => tb D' σ3 H3)
    (k : ∀ H2 T' σ' H', En K b fs cs T H2 → I ⟨T, owns cs, H2⟩ s1 T' σ' H' → D.nx σ' H') : tFor wi g tb D σ H :=
  En.for_ (ρ := Unit) I E h (forP_O hm) h0 hI (fun Hb _ sx x o' T' σ' H' H'' v D' hx hI' ex hr hf hd _ hn _ => by
    obtain ⟨sy, h1, h2⟩ := bnd hf
    cases h2
    exact step _ sx x sy T' σ' H' H'' v D' hx hI' ex hr h1 hd fun T2 σ2 H2 i2 => hn sy T2 σ2 H2 rfl i2) fun H2 sx T' σ' H' E2 ho i2 => by cases ho; exact k H2 T' σ' H' E2 i2
/-- facts by their places -/
theorem En.rd [Mo r] {v : V} {d : α} (E : En K b fs cs T H) (k : Nat) (h : fs[k]? = some (fR r v d)) : r K T H v d := E.at k h
theorem En.rdB [Mo r] {v : V} {d : α} (E : En K b fs cs T H) (k : Nat) (h : fs[k]? = some (fR r v d)) : r K (Tb T cs) H v d := E.atB k h
/-- more that lists of ours do -/
def popAtO (xs : List α) (i : Int) : Option (α × List α) := if -1000000 ≤ i ∧ i < 1000000 then (seqIndex? i xs.length).bind fun k => (xs[k]?).map fun x => (x, xs.eraseIdx k) else none
theorem all2_erase {F : V → α → Prop} : ∀ {vs : List V} {xs : List α} (k : Nat), All2 F vs xs → All2 F (vs.eraseIdx k) (xs.eraseIdx k)
  | _, _, _, .nil => .nil
  | _, _, 0, .cons r t => t
  | _, _, k + 1, .cons r t => .cons r (all2_erase k t)
theorem En.popAt [Mo r] {p : Addr} {xs ys : List α} {d : α} {i : Int} (E : En K b fs cs T H) (k : Nat) (hk : cs[k]? = some (cL r p xs)) (hm : popAtO xs i = some (d, ys)) (q : ∀ v H', En K b (fR r v d :: fs) (cs.set k (cL r p ys)) T H' → Q v H') : rPopAt (.ref p) [.int i] H Q := by
  obtain ⟨hT, vs, h1, h2⟩ := E.cl k hk
  unfold popAtO at hm
  split at hm
  · rename_i hi
    obtain ⟨j, hj, hm⟩ := bnd hm
    cases hx : xs[j]? with
    | none => rw [hx] at hm; cases hm
    | some x =>
      rw [hx] at hm
      cases hm
      obtain ⟨v, hv, hr⟩ := all2_get h2 hx
      have f : Fr T H (upd H p (.lst (vs.eraseIdx j))) := Fr.upd (.inl hT)
      exact ⟨p, vs, i, j, v, rfl, rfl, h1, by omega, by omega, by rw [all2_len h2]; exact hj, hv, q _ _ (En.add (E.store k hk (all2_erase j h2)) (Mo.fr f hr))⟩
  · cases hm
def insO (xs : List α) (i : Int) (d : α) : Option (List α) := if 0 ≤ i ∧ i < 1000000 ∧ xs.length < 1000000 then some (xs.take i.toNat ++ [d] ++ xs.drop i.toNat) else none
theorem En.insert [Mo r] {p : Addr} {xs ys : List α} {d : α} {i : Int} {v : V} (E : En K b fs cs T H) (k : Nat) (hk : cs[k]? = some (cL r p xs)) (hv : r K T H v d) (hm : insO xs i d = some ys) (q : ∀ H', En K b fs (cs.set k (cL r p ys)) T H' → Q .non H') :
    ∃ (l : Addr) (xs : List V) (i' : Int) (y : V), V.ref p = .ref l ∧ [V.int i, v] = [.int i', y] ∧ H l = some (.lst xs) ∧ xs.length < sizeLine ∧ 0 ≤ i' ∧ i' < 2 ^ 63 ∧ Q .non (upd H l (.lst (xs.take i'.toNat ++ [y] ++ xs.drop i'.toNat))) := by
  obtain ⟨hT, vs, h1, h2⟩ := E.cl k hk
  unfold insO at hm
  split at hm
  · rename_i hi
    cases hm
    exact ⟨p, vs, i, v, rfl, rfl, h1, by rw [all2_len h2, sizeLine_eq]; omega, hi.1, by omega, q _ (E.store k hk (all2_app (all2_app (all2_take _ h2) (.cons hv .nil)) (all2_drop _ h2)))⟩
  · cases hm
/-- cells by their places -/
theorem own_nd {cs : List (Cel K)} {k : Nat} {c : Cel K} (hd : (owns cs).Nodup) (h : cs[k]? = some c) : c.own.Nodup := by
  obtain ⟨l1, l2, rfl⟩ := List.append_of_mem (List.mem_of_getElem? h)
  simp only [owns, List.map_append, List.map_cons, List.flatten_append, List.flatten_cons] at hd
  exact (List.nodup_append.mp (List.nodup_append.mp hd).2.1).1
theorem pick_nd {cs : List (Cel K)} (hd : (owns cs).Nodup) : ∀ {ks : List Nat} {cs' : List (Cel K)}, ks.Nodup → ks.map (fun k => cs[k]?) = cs'.map some → (owns cs').Nodup
  | [], [], _, _ => by simp [owns]
  | [], _ :: _, _, h => by simp at h
  | _ :: _, [], _, h => by simp at h
  | k :: ks, c :: cs', hn, h => by
    simp only [List.map_cons, List.cons.injEq] at h
    have hn' := List.nodup_cons.mp hn
    have ih := pick_nd hd hn'.2 h.2
    unfold owns at ih ⊢
    rw [List.map_cons, List.flatten_cons, List.nodup_append]
    refine ⟨own_nd hd h.1, ih, fun a ha x hx z => ?_⟩
    subst z
    obtain ⟨c2, hc2, ha2⟩ := owns_mem (cs := cs') hx
    have : some c2 ∈ cs'.map some := List.mem_map.mpr ⟨c2, hc2, rfl⟩
    rw [← h.2] at this
    obtain ⟨j, hj, e⟩ := List.mem_map.mp this
    exact hn'.1 (nd_mem hd h.1 e ha ha2 ▸ hj)
theorem En.pick {cs' : List (Cel K)} (E : En K b fs cs T H) (ks : List Nat) (hn : ks.Nodup) (h : ks.map (fun k => cs[k]?) = cs'.map some) : En K b fs cs' T H :=
  ⟨E.btd, E.sup, E.td, E.wd, E.fr, E.fac, fun c hc => by
    have : some c ∈ cs'.map some := List.mem_map.mpr ⟨c, hc, rfl⟩
    rw [← h] at this
    obtain ⟨j, _, e⟩ := List.mem_map.mp this
    exact E.cel c (List.mem_of_getElem? e), pick_nd E.dis hn h⟩
def outB (o : Out ρ S) (k : S → Option ρ) : Option ρ := match o with
  | .ret r => some r
  | .nx s => k s
  | .brk s => k s
theorem outB_nx {s : S} {k : S → Option ρ} {r : ρ} (h : outB (.nx s) k = some r) : k s = some r := h
theorem outB_ret {o : Out ρ S} {k : S → Option ρ} {q r : ρ} (e : o = .ret q) (h : outB o k = some r) : q = r := by subst e; exact Option.some.inj h
end
/-- [list of numbers, number, number], ours -/
@[reducible] def cTp {K : PySem.W.Frag} (a : Addr × Addr) (s : List Int × Int × Int) : Cel K := cM (cV a.1 (.lst [.ref a.2, .int s.2.1, .int s.2.2])) (cL zI a.2 s.1)
end EB

set_option Elab.async false
set_option linter.all false
set_option maxRecDepth 100000
set_option maxHeartbeats 4000000
/-! EB, second layer: promises of the first layer within packed facts. -/
namespace EB
open PySem PySem.Spec PyProof.Rows L2
@[reducible] def cTape {K : PySem.W.Frag} (d : Addr × Addr) (n : Nat) : Cel K := ⟨[d.1, d.2], fun _ H => TpI d n H, fun _ h i => re_tape.st n _ _ (fun b w => h b (by rcases w with rfl | rfl <;> simp)) i⟩
@[reducible] def cMemo {K : PySem.W.Frag} {α : Type} (a : Addr) (kf : α → Key) (U : List α) (ok : α → Int → Prop) : Cel K := ⟨[a], fun _ H => MmI a kf U ok 0 H, fun _ h i => re_memo.st 0 _ _ (fun b w => h b (by cases w; simp)) i⟩
section
variable {K : PySem.W.Frag} {b : Bs} {fs : List (Fact K)} {cs : List (Cel K)} {T T' : AS} {H H' : Hp} {σ : L2.St} {α β γ S ι ρ : Type} {r : Rp α} {s : Rp β} {tr : TA} {te ta tb : TE} {E' : XK} {Q : VK} {D : Ends}
theorem En.runN [Mo r] {W : AS} {I : Nat → Hp → Prop} {n c0 : Nat} {φ : α → Prop} {c c' : Cel K} (E : En K b fs cs T H) (k : Nat) (hk : cs[k]? = some c) (h : (∀ x, W x → T x) → EvN K T W I c0 te σ H r φ) (ho : ∀ x, W x ↔ x ∈ c.own) (hi : c.P T H → I (n + c0) H) (ho' : c'.own = c.own) (hi' : ∀ T H, I n H → c'.P T H)
    (q : ∀ v H' d, φ d → En K b (fR r v d :: fs) (cs.set k c') T H' → Q v H') : te σ H Q :=
  have hc := E.cel c (List.mem_of_getElem? hk)
  h (fun x hx => (hc.2 x ((ho x).mp hx)).1) n H (Fr.refl H) (hi hc.1) Q fun v H' d f i rv p => q v H' d p ((E.chg k hk (f.mono fun x hx => (ho x).mp hx) (hi' T H' i) ho').add rv)
theorem En.runT [Mo r] {d : Addr × Addr} {n c0 : Nat} {φ : α → Prop} (E : En K b fs cs T H) (k : Nat) (hk : cs[k]? = some (cTape d n)) (m : Nat) (hm : m + c0 ≤ n) (h : (∀ x, WTp d x → T x) → EvN K T (WTp d) (TpI d) c0 te σ H r φ)
    (q : ∀ v H' x, φ x → En K b (fR r v x :: fs) (cs.set k (cTape d m)) T H' → Q v H') : te σ H Q :=
  En.runN (n := m) (c' := cTape d m) E k hk h (fun x => by simp [WTp]) (fun i => Re.cut re_tape i hm) rfl (fun _ _ i => i) q
theorem En.runM [Mo r] {a : Addr} {kf : γ → Key} {U : List γ} {ok : γ → Int → Prop} {φ : α → Prop} (E : En K b fs cs T H) (k : Nat) (hk : cs[k]? = some (cMemo a kf U ok)) (h : (∀ x, W1 a x → T x) → EvN K T (W1 a) (MmI a kf U ok) 0 te σ H r φ)
    (q : ∀ v H' x, φ x → En K b (fR r v x :: fs) (cs.set k (cMemo a kf U ok)) T H' → Q v H') : te σ H Q :=
  En.runN (n := 0) (c' := cMemo a kf U ok) E k hk h (fun x => by simp [W1]) (fun i => i) rfl (fun _ _ i => i) q
theorem En.tape {ns : List Int} (E : En K b fs cs T H) (h : EvA K T tr σ H (aC (zL zI) aN) (ns, ())) (hl : ns.length ≤ 63)
    (q : ∀ d H', En K b (fR zTp (.ref d.1) d :: fs) (cTape d 1000000000 :: cs) (fun x => T x ∨ x ∈ [d.1, d.2]) H' → Q (.ref d.1) H') : tCall (TSp K) [] E' tr σ H Q :=
  h H (Fr.refl H) _ fun vs H2 e2 ⟨v, _, ev, rv, hn⟩ => by
    show TSp K (vs ++ []) H2 Q E'
    rw [List.append_nil, ev, show _ = [] from hn]
    have E2 := E.ex e2
    refine ⟨T, v, ns, E2.td, rfl, rv, hl, fun ta tg H3 e3 h1 h2 hI => ?_⟩
    have hx : ∀ x ∈ [ta, tg], H2 x = none := fun x hx => by
      rcases List.mem_cons.mp hx with rfl | hx
      · exact h1
      · rw [List.mem_singleton] at hx; subst hx; exact h2
    have hne : ta ≠ tg := by obtain ⟨_, _, _, _, _, _, _, _, h9, _⟩ := hI.ex; exact h9
    refine q (ta, tg) H3 (En.add (E2.newc (c := cTape (ta, tg) 1000000000) (H' := H3) ⟨e3.fr, fun b t => t.elim .inl fun z => .inr (hx b z)⟩ e3 (fun b h => .inl h) (fun b t => ?_) hI (fun x hx' => ⟨hx x hx', .inr hx'⟩) (by simp [hne])) rfl)
    rcases t with t | t
    · exact E2.td.ex e3 b t
    · rcases List.mem_cons.mp t with rfl | t
      · exact re_tape.dom _ _ _ hI (.inl rfl)
      · rw [List.mem_singleton] at t; subst t; exact re_tape.dom _ _ _ hI (.inr rfl)
theorem En.newV {vs : List V} (E : En K b fs cs T H) (hl : vs.length ≤ 1000) (q : ∀ p H', En K b (fR zA (.ref p) p :: fs) (cV p (.lst vs) :: cs) (Tp T p) H' → Q (.ref p) H') : vs.length ≤ sizeLine ∧ ∀ p, H p = none → Q (.ref p) (upd H p (.lst vs)) :=
  ⟨by rw [sizeLine_eq]; omega, fun p hp => q p _ (En.add (E.newc (c := cV p (.lst vs)) (Wd.new hp) (Ex.new hp) (fun _ h => .inl h) ((E.td.ex (Ex.new hp)).tp upd_same) upd_same (fun a ha => by simp only [List.mem_singleton] at ha; subst ha; exact ⟨hp, .inr rfl⟩) (by simp)) rfl)⟩
theorem En.newR {vs : List V} {p : Addr} (E : En K b fs cs T H) (hp : H p = none) : En K b (fR zA (.ref p) p :: fs) (cV p (.lst vs) :: cs) (Tp T p) (upd H p (.lst vs)) :=
  En.add (E.newc (c := cV p (.lst vs)) (Wd.new hp) (Ex.new hp) (fun _ h => .inl h) ((E.td.ex (Ex.new hp)).tp upd_same) upd_same (fun a ha => by simp only [List.mem_singleton] at ha; subst ha; exact ⟨hp, .inr rfl⟩) (by simp)) rfl
/-- read at the cells that lie aside -/
theorem En.runTb {d : α} (E : En K b fs cs T H) (h : Ev K (Tb T cs) te σ H r d) (k : ∀ v H', Ex H H' → En K b fs cs T H' → r K (Tb T cs) H' v d → Q v H') : te σ H Q :=
  h H (Fr.refl H) Q fun v H' e q => k v H' e (E.ex e) q
/-- an object with one table, made of what is read aside; the cells aside are lists -/
theorem En.made {Cn : Str} {fn : List Str} {rf : Rpl β} [LiL rf] {kk p : Addr} {kf : γ → Key} {U : List γ} {ok : γ → Int → Prop} {x : β} {ks : List (Cel K)} (E : En K b fs cs T H) (e : Ex H H') (h0 : H kk = none) (h1 : H' kk = some (.dK [])) (inj : ∀ x y, kf x = kf y → x = y) (few : U.length ≤ 1000000)
    (ho : zOb Cn fn rf K (Tp (Tb T ks) kk) H' (.ref p) x) (hl : ∀ a, a ∈ owns ks → ∃ xs, H a = some (.lst xs)) [MoL rf] : En K b (fR (zOb Cn fn rf) (.ref p) x :: fs) (cMemo kk kf U ok :: cs) (Tp T kk) H' := by
  have w : Wd T H (Tp T kk) H' := ⟨e.fr, fun b t => t.elim .inl fun z => .inr (z ▸ h0)⟩
  refine En.add (E.newc (c := cMemo kk kf U ok) w e (fun _ h => .inl h) ((E.td.ex e).tp h1) (memo_new h1 inj few) (fun a ha => by simp only [List.mem_singleton] at ha; subst ha; exact ⟨h0, .inr rfl⟩) (by simp)) ?_
  refine Li.up (T1 := Tp (Tb T ks) kk) (fun a t => ?_) ho
  rcases t with t | t
  · by_cases hm : a ∈ owns ks
    · obtain ⟨xs, hx⟩ := hl a hm
      exact .inr ⟨xs, e a _ hx⟩
    · exact .inl (.inl ⟨t, hm⟩)
  · exact .inl (.inr t)
theorem En.isL [Mo r] {p : Addr} {xs : List α} (E : En K b fs cs T H) (k : Nat) (hk : cs[k]? = some (cL r p xs)) : ∃ vs, H p = some (.lst vs) := let ⟨_, vs, h, _⟩ := E.cl k hk; ⟨vs, h⟩
theorem En.isV {p : Addr} {vs : List V} (E : En K b fs cs T H) (k : Nat) (hk : cs[k]? = some (cV p (.lst vs))) : ∃ vs, H p = some (.lst vs) := ⟨vs, E.c k hk⟩
theorem En.isT {d : Addr × Addr} {n : Nat} (E : En K b fs cs T H) (k : Nat) (hk : cs[k]? = some (cTape d n)) : ∀ a, a ∈ [d.1, d.2] → ∃ vs, H a = some (.lst vs) := fun a ha => by
  obtain ⟨gs, sd, ct, h1, h2, _⟩ := (E.c k hk : TpI d n H).ex
  rcases List.mem_cons.mp ha with rfl | ha
  · exact ⟨_, h1⟩
  · rw [List.mem_singleton] at ha; subst ha; exact ⟨_, h2⟩
theorem setO_ok {xs : List α} {i : Int} {d : α} (h0 : 0 ≤ i) (h : i < (xs.length : Int)) : setO xs i d = some (xs.set i.toNat d) := by
  unfold setO ixN
  rw [if_pos h0, if_pos (by omega)]
  rfl
theorem tp_less {d : Addr × Addr} {n m : Nat} {H : Hp} (h : TpI d n H) (e : m ≤ n) : TpI d m H := Re.cut re_tape h e
theorem ev_fromL [Mo r] {p : Addr} {xs : List α} (h : Ev K T te σ H zA p) (m : zL r K T H (.ref p) xs) : Ev K T te σ H (zL r) xs := ev_hmL h m
end
end EB

set_option Elab.async false
set_option linter.all false
set_option maxRecDepth 100000
set_option maxHeartbeats 4000000

namespace EB
open PySem PySem.Spec PyProof.Rows L2
local macro_rules | `(tactic| walk_at "ob") => `(tactic| first | exact trivial | omega | assumption | exact len_sign ‹_›)
local macro_rules | `(tactic| walk_at "ob1") => `(tactic| first | (have := mem_enL ‹_ ∈ enL _›; omega) | (simp only [List.length_append, List.length_cons, List.length_nil, enL_len, rng_len] at *; omega))
local macro_rules | `(tactic| walk_at "ob2") => `(tactic| (simp_all; done))
local macro_rules | `(tactic| walk_at "inv") => `(tactic| first | exact trivial | (simp only [List.length_append, List.length_cons, List.length_nil, Nat.mul_zero, Nat.add_zero]; omega) | omega | (simp only [List.length_append, List.length_cons, List.length_nil] at *; omega))
local macro_rules | `(tactic| walk_at "fin") => `(tactic| first | (simp; done) | (simp_all [List.all_eq_true]; done))

def top (i : Nat) : Stmt := PySem.Challenge.pw_everybudget_k28_need_with_flips.main.body.getD i (.Pass ⟨0, 0, 0, 0⟩)
abbrev s_is_integer : Stmt := top 6
theorem sc_is_integer : FnScope ["value"] ["value"] (defScope s_is_integer) := ⟨rfl, rfl, rfl, by decide +kernel, rfl, by decide +kernel, by decide +kernel⟩
abbrev s_is_number : Stmt := top 7
theorem sc_is_number : FnScope ["value"] ["value"] (defScope s_is_number) := ⟨rfl, rfl, rfl, by decide +kernel, rfl, by decide +kernel, by decide +kernel⟩
abbrev s_is_row : Stmt := top 8
theorem sc_is_row : FnScope ["value"] ["value"] (defScope s_is_row) := ⟨rfl, rfl, rfl, by decide +kernel, rfl, by decide +kernel, by decide +kernel⟩
abbrev s_is_word : Stmt := top 9
theorem sc_is_word : FnScope ["value", "character"] ["value"] (defScope s_is_word) := ⟨rfl, rfl, rfl, by decide +kernel, rfl, by decide +kernel, by decide +kernel⟩
abbrev s_are_budgets : Stmt := top 11
theorem sc_are_budgets : FnScope ["value", "budget"] ["value"] (defScope s_are_budgets) := ⟨rfl, rfl, rfl, by decide +kernel, rfl, by decide +kernel, by decide +kernel⟩
abbrev s_are_rows : Stmt := top 12
theorem sc_are_rows : FnScope ["value", "word"] ["value"] (defScope s_are_rows) := ⟨rfl, rfl, rfl, by decide +kernel, rfl, by decide +kernel, by decide +kernel⟩
abbrev s_check_rows : Stmt := top 13
theorem sc_check_rows : FnScope ["rows", "budgets"] ["rows", "budgets"] (defScope s_check_rows) := ⟨rfl, rfl, rfl, by decide +kernel, rfl, by decide +kernel, by decide +kernel⟩
abbrev s_differences : Stmt := top 16
theorem sc_differences : FnScope ["row", "word", "bit", "other"] ["row", "word"] (defScope s_differences) := ⟨rfl, rfl, rfl, by decide +kernel, rfl, by decide +kernel, by decide +kernel⟩
abbrev s_Game___init__ : Stmt := inClass (top 17) 0
theorem sc_Game___init__ : FnScope ["self", "rows", "budgets", "flips"] ["self", "rows", "budgets", "flips"] (defScope s_Game___init__) := ⟨rfl, rfl, rfl, by decide +kernel, rfl, by decide +kernel, by decide +kernel⟩
abbrev s_Game_living_at : Stmt := inClass (top 17) 1
theorem sc_Game_living_at : FnScope ["self", "word", "found", "program", "row"] ["self", "word"] (defScope s_Game_living_at) := ⟨rfl, rfl, rfl, by decide +kernel, rfl, by decide +kernel, by decide +kernel⟩
abbrev s_Game_open_bits : Stmt := inClass (top 17) 2
theorem sc_Game_open_bits : FnScope ["self", "word", "bit"] ["self", "word"] (defScope s_Game_open_bits) := ⟨rfl, rfl, rfl, by decide +kernel, rfl, by decide +kernel, by decide +kernel⟩
abbrev s_Game_need_at : Stmt := inClass (top 17) 3
theorem sc_Game_need_at : FnScope ["self", "word", "needs", "bit", "program"] ["self", "word"] (defScope s_Game_need_at) := ⟨rfl, rfl, rfl, by decide +kernel, rfl, by decide +kernel, by decide +kernel⟩
abbrev s_Game_need : Stmt := inClass (top 17) 4
theorem sc_Game_need : FnScope ["self"] ["self"] (defScope s_Game_need) := ⟨rfl, rfl, rfl, by decide +kernel, rfl, by decide +kernel, by decide +kernel⟩
abbrev s_Game_is_kept : Stmt := inClass (top 17) 5
theorem sc_Game_is_kept : FnScope ["self"] ["self"] (defScope s_Game_is_kept) := ⟨rfl, rfl, rfl, by decide +kernel, rfl, by decide +kernel, by decide +kernel⟩
abbrev s__law_tape : Stmt := top 19
theorem sc__law_tape : FnScope ["script", "great", "seed", "cell"] ["script"] (defScope s__law_tape) := ⟨rfl, rfl, rfl, by decide +kernel, rfl, by decide +kernel, by decide +kernel⟩
abbrev s__law_draw : Stmt := top 20
theorem sc__law_draw : FnScope ["tape", "limit", "great", "mixed", "number"] ["tape", "limit"] (defScope s__law_draw) := ⟨rfl, rfl, rfl, by decide +kernel, rfl, by decide +kernel, by decide +kernel⟩
abbrev s__law_bits : Stmt := top 21
theorem sc__law_bits : FnScope ["tape", "many", "k"] ["tape", "many"] (defScope s__law_bits) := ⟨rfl, rfl, rfl, by decide +kernel, rfl, by decide +kernel, by decide +kernel⟩
abbrev s__law_integer : Stmt := top 22
theorem sc__law_integer : FnScope ["told", "due"] ["told", "due"] (defScope s__law_integer) := ⟨rfl, rfl, rfl, by decide +kernel, rfl, by decide +kernel, by decide +kernel⟩
abbrev s__law_rows : Stmt := top 23
theorem sc__law_rows : FnScope ["tape", "size", "many", "rows", "k", "row", "at"] ["tape"] (defScope s__law_rows) := ⟨rfl, rfl, rfl, by decide +kernel, rfl, by decide +kernel, by decide +kernel⟩
abbrev s__law_flips : Stmt := top 24
theorem sc__law_flips : FnScope ["tape", "rows", "high", "row"] ["tape", "rows"] (defScope s__law_flips) := ⟨rfl, rfl, rfl, by decide +kernel, rfl, by decide +kernel, by decide +kernel⟩
abbrev s__law_need : Stmt := top 25
theorem sc__law_need : FnScope ["rows", "budgets", "living", "place", "needs", "bit", "left", "pair"] ["rows", "budgets", "living", "place"] (defScope s__law_need) := ⟨rfl, rfl, rfl, by decide +kernel, rfl, by decide +kernel, by decide +kernel⟩
abbrev s__law_due : Stmt := top 26
theorem sc__law_due : FnScope ["rows", "budgets", "flips", "q"] ["rows", "budgets", "flips"] (defScope s__law_due) := ⟨rfl, rfl, rfl, by decide +kernel, rfl, by decide +kernel, by decide +kernel⟩
abbrev s__law_asked : Stmt := top 27
theorem sc__law_asked : FnScope ["game", "need", "told"] ["game", "need"] (defScope s__law_asked) := ⟨rfl, rfl, rfl, by decide +kernel, rfl, by decide +kernel, by decide +kernel⟩
abbrev s__law_asks : Stmt := top 28
theorem sc__law_asks : FnScope ["script", "tape", "rows", "flips", "high", "budgets", "need", "passed", "late", "others", "at", "other_need", "other", "plain", "shift", "game", "row", "part", "sign"] ["script"] (defScope s__law_asks) := ⟨rfl, rfl, rfl, by decide +kernel, rfl, by decide +kernel, by decide +kernel⟩
abbrev s_law : Stmt := top 29
theorem sc_law : FnScope ["script"] ["script"] (defScope s_law) := ⟨rfl, rfl, rfl, by decide +kernel, rfl, by decide +kernel, by decide +kernel⟩
def fn : List He.DefD := [⟨("is_integer", none), "is_integer", "is_integer", defArgs s_is_integer, defBody s_is_integer, defScope s_is_integer, [], []⟩,
  ⟨("is_number", none), "is_number", "is_number", defArgs s_is_number, defBody s_is_number, defScope s_is_number, [], []⟩,
  ⟨("is_row", none), "is_row", "is_row", defArgs s_is_row, defBody s_is_row, defScope s_is_row, [], []⟩,
  ⟨("is_word", none), "is_word", "is_word", defArgs s_is_word, defBody s_is_word, defScope s_is_word, [], []⟩,
  ⟨("are_budgets", none), "are_budgets", "are_budgets", defArgs s_are_budgets, defBody s_are_budgets, defScope s_are_budgets, [], []⟩,
  ⟨("are_rows", none), "are_rows", "are_rows", defArgs s_are_rows, defBody s_are_rows, defScope s_are_rows, [], []⟩,
  ⟨("check_rows", none), "check_rows", "check_rows", defArgs s_check_rows, defBody s_check_rows, defScope s_check_rows, [], []⟩,
  ⟨("differences", none), "differences", "differences", defArgs s_differences, defBody s_differences, defScope s_differences, [], []⟩,
  ⟨("Game", some "__init__"), "__init__", "Game.__init__", defArgs s_Game___init__, defBody s_Game___init__, defScope s_Game___init__, [], [("flips", .non)]⟩,
  ⟨("Game", some "living_at"), "living_at", "Game.living_at", defArgs s_Game_living_at, defBody s_Game_living_at, defScope s_Game_living_at, [], []⟩,
  ⟨("Game", some "open_bits"), "open_bits", "Game.open_bits", defArgs s_Game_open_bits, defBody s_Game_open_bits, defScope s_Game_open_bits, [], []⟩,
  ⟨("Game", some "need_at"), "need_at", "Game.need_at", defArgs s_Game_need_at, defBody s_Game_need_at, defScope s_Game_need_at, [], []⟩,
  ⟨("Game", some "need"), "need", "Game.need", defArgs s_Game_need, defBody s_Game_need, defScope s_Game_need, [], []⟩,
  ⟨("Game", some "is_kept"), "is_kept", "Game.is_kept", defArgs s_Game_is_kept, defBody s_Game_is_kept, defScope s_Game_is_kept, [], []⟩,
  ⟨("_law_tape", none), "_law_tape", "_law_tape", defArgs s__law_tape, defBody s__law_tape, defScope s__law_tape, [], []⟩,
  ⟨("_law_draw", none), "_law_draw", "_law_draw", defArgs s__law_draw, defBody s__law_draw, defScope s__law_draw, [], []⟩,
  ⟨("_law_bits", none), "_law_bits", "_law_bits", defArgs s__law_bits, defBody s__law_bits, defScope s__law_bits, [], []⟩,
  ⟨("_law_integer", none), "_law_integer", "_law_integer", defArgs s__law_integer, defBody s__law_integer, defScope s__law_integer, [], []⟩,
  ⟨("_law_rows", none), "_law_rows", "_law_rows", defArgs s__law_rows, defBody s__law_rows, defScope s__law_rows, [], []⟩,
  ⟨("_law_flips", none), "_law_flips", "_law_flips", defArgs s__law_flips, defBody s__law_flips, defScope s__law_flips, [], []⟩,
  ⟨("_law_need", none), "_law_need", "_law_need", defArgs s__law_need, defBody s__law_need, defScope s__law_need, [], []⟩,
  ⟨("_law_due", none), "_law_due", "_law_due", defArgs s__law_due, defBody s__law_due, defScope s__law_due, [], []⟩,
  ⟨("_law_asked", none), "_law_asked", "_law_asked", defArgs s__law_asked, defBody s__law_asked, defScope s__law_asked, [], []⟩,
  ⟨("_law_asks", none), "_law_asks", "_law_asks", defArgs s__law_asks, defBody s__law_asks, defScope s__law_asks, [], []⟩,
  ⟨("law", none), "law", "law", defArgs s_law, defBody s_law, defScope s_law, [], []⟩]
def fa : List He.Fa := [.glo "is_integer", .glo "is_number", .glo "is_row", .glo "is_word", .glo "are_budgets", .glo "are_rows", .glo "check_rows", .glo "differences", .glo "_law_tape", .glo "_law_draw", .glo "_law_bits", .glo "_law_integer", .glo "_law_rows", .glo "_law_flips", .glo "_law_need", .glo "_law_due", .glo "_law_asked", .glo "_law_asks", .glo "law", .glo "BudgetError", .glo "InvalidBudgets", .glo "InvalidRows", .glo "Game", .cls "Game", .mkr "Game", .meth "Game" "__init__", .meth "Game" "living_at", .meth "Game" "open_bits", .meth "Game" "need_at", .meth "Game" "need", .meth "Game" "is_kept", .meth "Game" "open_words", .meth "Game" "errors_led", .meth "Game" "guess_at", .meth "Game" "book", .meth "Game" "tree", .meth "Game" "tree_at", .noat "Game" "rows", .noat "Game" "budgets", .noat "Game" "flips", .noat "Game" "known", .glo "BITS", .free "abs", .free "all", .free "bool", .free "enumerate", .free "int", .free "isinstance", .free "len", .free "list", .free "max", .free "min", .free "range", .free "str", .free "tuple", .free "zip"]
def ex (K : PySem.W.Frag) : Bool := He.tupB K "BITS" [.str "0", .str "1"]
structure Tx (K : PySem.W.Frag) (mg : Str → Option Value) : Prop where
  g : ∀ (i : Nat) (x : Str), fa[i]? = some (.glo x) → mg x = some (.ref (He.ga K x))
  n : ∀ (i : Nat) (x : Str), fa[i]? = some (.free x) → mg x = none
  f : ∀ (i : Nat) (f : He.Fa), fa[i]? = some f → f.ok K = true
  d : ∀ (i : Nat) (d : He.DefD), fn[i]? = some d → ∃ fd, FunD K d.name d.qual d.params d.body d.scope (d.dvs K) (d.kws K) (He.fAd K d.at_) fd
  e : ex K = true
theorem tx_of {w : World} {K : PySem.W.Frag} {h : Heap} {mg : Str → Option Value} (X : K.In h) (G : h.Ns mainGlobals mg) (c : He.SaysX fa fn [] [] ex w h K) : Tx K mg :=
  ⟨fun i x e => He.glo_ok X G (c.t.d.fact i e), fun i x e => He.free_ok X G (c.t.d.fact i e), fun i f e => c.t.d.fact i e, fun i d e => c.t.d.def_ i e, c.more⟩
section
variable {K : PySem.W.Frag} {mg : Str → Option Value} (S : Tx K mg)
include S
theorem g_is_integer : mg "is_integer" = some (.ref (He.ga K "is_integer")) := S.g 0 _ rfl
theorem g_is_number : mg "is_number" = some (.ref (He.ga K "is_number")) := S.g 1 _ rfl
theorem g_is_row : mg "is_row" = some (.ref (He.ga K "is_row")) := S.g 2 _ rfl
theorem g_is_word : mg "is_word" = some (.ref (He.ga K "is_word")) := S.g 3 _ rfl
theorem g_are_budgets : mg "are_budgets" = some (.ref (He.ga K "are_budgets")) := S.g 4 _ rfl
theorem g_are_rows : mg "are_rows" = some (.ref (He.ga K "are_rows")) := S.g 5 _ rfl
theorem g_check_rows : mg "check_rows" = some (.ref (He.ga K "check_rows")) := S.g 6 _ rfl
theorem g_differences : mg "differences" = some (.ref (He.ga K "differences")) := S.g 7 _ rfl
theorem g__law_tape : mg "_law_tape" = some (.ref (He.ga K "_law_tape")) := S.g 8 _ rfl
theorem g__law_draw : mg "_law_draw" = some (.ref (He.ga K "_law_draw")) := S.g 9 _ rfl
theorem g__law_bits : mg "_law_bits" = some (.ref (He.ga K "_law_bits")) := S.g 10 _ rfl
theorem g__law_integer : mg "_law_integer" = some (.ref (He.ga K "_law_integer")) := S.g 11 _ rfl
theorem g__law_rows : mg "_law_rows" = some (.ref (He.ga K "_law_rows")) := S.g 12 _ rfl
theorem g__law_flips : mg "_law_flips" = some (.ref (He.ga K "_law_flips")) := S.g 13 _ rfl
theorem g__law_need : mg "_law_need" = some (.ref (He.ga K "_law_need")) := S.g 14 _ rfl
theorem g__law_due : mg "_law_due" = some (.ref (He.ga K "_law_due")) := S.g 15 _ rfl
theorem g__law_asked : mg "_law_asked" = some (.ref (He.ga K "_law_asked")) := S.g 16 _ rfl
theorem g__law_asks : mg "_law_asks" = some (.ref (He.ga K "_law_asks")) := S.g 17 _ rfl
theorem g_law : mg "law" = some (.ref (He.ga K "law")) := S.g 18 _ rfl
theorem g_BudgetError : mg "BudgetError" = some (.ref (He.ga K "BudgetError")) := S.g 19 _ rfl
theorem g_InvalidBudgets : mg "InvalidBudgets" = some (.ref (He.ga K "InvalidBudgets")) := S.g 20 _ rfl
theorem g_InvalidRows : mg "InvalidRows" = some (.ref (He.ga K "InvalidRows")) := S.g 21 _ rfl
theorem g_Game : mg "Game" = some (.ref (He.ga K "Game")) := S.g 22 _ rfl
theorem c_Game : Cls K (He.ga K "Game") := He.cls_ok (S.f 23 _ rfl)
theorem k_Game : Mk K (He.ga K "Game") (He.ma K (He.ga K "Game") "__init__") := He.mkr_ok (S.f 24 _ rfl)
theorem mm_Game___init__ : Meth K (He.ga K "Game") "__init__" (He.ma K (He.ga K "Game") "__init__") := He.meth_ok (S.f 25 _ rfl)
theorem mm_Game_living_at : Meth K (He.ga K "Game") "living_at" (He.ma K (He.ga K "Game") "living_at") := He.meth_ok (S.f 26 _ rfl)
theorem mm_Game_open_bits : Meth K (He.ga K "Game") "open_bits" (He.ma K (He.ga K "Game") "open_bits") := He.meth_ok (S.f 27 _ rfl)
theorem mm_Game_need_at : Meth K (He.ga K "Game") "need_at" (He.ma K (He.ga K "Game") "need_at") := He.meth_ok (S.f 28 _ rfl)
theorem mm_Game_need : Meth K (He.ga K "Game") "need" (He.ma K (He.ga K "Game") "need") := He.meth_ok (S.f 29 _ rfl)
theorem mm_Game_is_kept : Meth K (He.ga K "Game") "is_kept" (He.ma K (He.ga K "Game") "is_kept") := He.meth_ok (S.f 30 _ rfl)
theorem mm_Game_open_words : Meth K (He.ga K "Game") "open_words" (He.ma K (He.ga K "Game") "open_words") := He.meth_ok (S.f 31 _ rfl)
theorem mm_Game_errors_led : Meth K (He.ga K "Game") "errors_led" (He.ma K (He.ga K "Game") "errors_led") := He.meth_ok (S.f 32 _ rfl)
theorem mm_Game_guess_at : Meth K (He.ga K "Game") "guess_at" (He.ma K (He.ga K "Game") "guess_at") := He.meth_ok (S.f 33 _ rfl)
theorem mm_Game_book : Meth K (He.ga K "Game") "book" (He.ma K (He.ga K "Game") "book") := He.meth_ok (S.f 34 _ rfl)
theorem mm_Game_tree : Meth K (He.ga K "Game") "tree" (He.ma K (He.ga K "Game") "tree") := He.meth_ok (S.f 35 _ rfl)
theorem mm_Game_tree_at : Meth K (He.ga K "Game") "tree_at" (He.ma K (He.ga K "Game") "tree_at") := He.meth_ok (S.f 36 _ rfl)
theorem na_Game_rows : NoAttr K (He.ga K "Game") "rows" := He.noat_ok (S.f 37 _ rfl)
theorem na_Game_budgets : NoAttr K (He.ga K "Game") "budgets" := He.noat_ok (S.f 38 _ rfl)
theorem na_Game_flips : NoAttr K (He.ga K "Game") "flips" := He.noat_ok (S.f 39 _ rfl)
theorem na_Game_known : NoAttr K (He.ga K "Game") "known" := He.noat_ok (S.f 40 _ rfl)
theorem g_BITS : mg "BITS" = some (.ref (He.ga K "BITS")) := S.g 41 _ rfl
theorem m_abs : mg "abs" = none := S.n 42 _ rfl
theorem m_all : mg "all" = none := S.n 43 _ rfl
theorem m_bool : mg "bool" = none := S.n 44 _ rfl
theorem m_enumerate : mg "enumerate" = none := S.n 45 _ rfl
theorem m_int : mg "int" = none := S.n 46 _ rfl
theorem m_isinstance : mg "isinstance" = none := S.n 47 _ rfl
theorem m_len : mg "len" = none := S.n 48 _ rfl
theorem m_list : mg "list" = none := S.n 49 _ rfl
theorem m_max : mg "max" = none := S.n 50 _ rfl
theorem m_min : mg "min" = none := S.n 51 _ rfl
theorem m_range : mg "range" = none := S.n 52 _ rfl
theorem m_str : mg "str" = none := S.n 53 _ rfl
theorem m_tuple : mg "tuple" = none := S.n 54 _ rfl
theorem m_zip : mg "zip" = none := S.n 55 _ rfl
theorem d_is_integer : ∃ fd, FunD K "is_integer" "is_integer" (defArgs s_is_integer) (defBody s_is_integer) (defScope s_is_integer) [] [] (He.fAd K ("is_integer", none)) fd := S.d 0 _ rfl
theorem d_is_number : ∃ fd, FunD K "is_number" "is_number" (defArgs s_is_number) (defBody s_is_number) (defScope s_is_number) [] [] (He.fAd K ("is_number", none)) fd := S.d 1 _ rfl
theorem d_is_row : ∃ fd, FunD K "is_row" "is_row" (defArgs s_is_row) (defBody s_is_row) (defScope s_is_row) [] [] (He.fAd K ("is_row", none)) fd := S.d 2 _ rfl
theorem d_is_word : ∃ fd, FunD K "is_word" "is_word" (defArgs s_is_word) (defBody s_is_word) (defScope s_is_word) [] [] (He.fAd K ("is_word", none)) fd := S.d 3 _ rfl
theorem d_are_budgets : ∃ fd, FunD K "are_budgets" "are_budgets" (defArgs s_are_budgets) (defBody s_are_budgets) (defScope s_are_budgets) [] [] (He.fAd K ("are_budgets", none)) fd := S.d 4 _ rfl
theorem d_are_rows : ∃ fd, FunD K "are_rows" "are_rows" (defArgs s_are_rows) (defBody s_are_rows) (defScope s_are_rows) [] [] (He.fAd K ("are_rows", none)) fd := S.d 5 _ rfl
theorem d_check_rows : ∃ fd, FunD K "check_rows" "check_rows" (defArgs s_check_rows) (defBody s_check_rows) (defScope s_check_rows) [] [] (He.fAd K ("check_rows", none)) fd := S.d 6 _ rfl
theorem d_differences : ∃ fd, FunD K "differences" "differences" (defArgs s_differences) (defBody s_differences) (defScope s_differences) [] [] (He.fAd K ("differences", none)) fd := S.d 7 _ rfl
theorem d_Game___init__ : ∃ fd, FunD K "__init__" "Game.__init__" (defArgs s_Game___init__) (defBody s_Game___init__) (defScope s_Game___init__) [] [("flips", V.non)] (He.fAd K ("Game", some "__init__")) fd := S.d 8 _ rfl
theorem d_Game_living_at : ∃ fd, FunD K "living_at" "Game.living_at" (defArgs s_Game_living_at) (defBody s_Game_living_at) (defScope s_Game_living_at) [] [] (He.fAd K ("Game", some "living_at")) fd := S.d 9 _ rfl
theorem d_Game_open_bits : ∃ fd, FunD K "open_bits" "Game.open_bits" (defArgs s_Game_open_bits) (defBody s_Game_open_bits) (defScope s_Game_open_bits) [] [] (He.fAd K ("Game", some "open_bits")) fd := S.d 10 _ rfl
theorem d_Game_need_at : ∃ fd, FunD K "need_at" "Game.need_at" (defArgs s_Game_need_at) (defBody s_Game_need_at) (defScope s_Game_need_at) [] [] (He.fAd K ("Game", some "need_at")) fd := S.d 11 _ rfl
theorem d_Game_need : ∃ fd, FunD K "need" "Game.need" (defArgs s_Game_need) (defBody s_Game_need) (defScope s_Game_need) [] [] (He.fAd K ("Game", some "need")) fd := S.d 12 _ rfl
theorem d_Game_is_kept : ∃ fd, FunD K "is_kept" "Game.is_kept" (defArgs s_Game_is_kept) (defBody s_Game_is_kept) (defScope s_Game_is_kept) [] [] (He.fAd K ("Game", some "is_kept")) fd := S.d 13 _ rfl
theorem d__law_tape : ∃ fd, FunD K "_law_tape" "_law_tape" (defArgs s__law_tape) (defBody s__law_tape) (defScope s__law_tape) [] [] (He.fAd K ("_law_tape", none)) fd := S.d 14 _ rfl
theorem d__law_draw : ∃ fd, FunD K "_law_draw" "_law_draw" (defArgs s__law_draw) (defBody s__law_draw) (defScope s__law_draw) [] [] (He.fAd K ("_law_draw", none)) fd := S.d 15 _ rfl
theorem d__law_bits : ∃ fd, FunD K "_law_bits" "_law_bits" (defArgs s__law_bits) (defBody s__law_bits) (defScope s__law_bits) [] [] (He.fAd K ("_law_bits", none)) fd := S.d 16 _ rfl
theorem d__law_integer : ∃ fd, FunD K "_law_integer" "_law_integer" (defArgs s__law_integer) (defBody s__law_integer) (defScope s__law_integer) [] [] (He.fAd K ("_law_integer", none)) fd := S.d 17 _ rfl
theorem d__law_rows : ∃ fd, FunD K "_law_rows" "_law_rows" (defArgs s__law_rows) (defBody s__law_rows) (defScope s__law_rows) [] [] (He.fAd K ("_law_rows", none)) fd := S.d 18 _ rfl
theorem d__law_flips : ∃ fd, FunD K "_law_flips" "_law_flips" (defArgs s__law_flips) (defBody s__law_flips) (defScope s__law_flips) [] [] (He.fAd K ("_law_flips", none)) fd := S.d 19 _ rfl
theorem d__law_need : ∃ fd, FunD K "_law_need" "_law_need" (defArgs s__law_need) (defBody s__law_need) (defScope s__law_need) [] [] (He.fAd K ("_law_need", none)) fd := S.d 20 _ rfl
theorem d__law_due : ∃ fd, FunD K "_law_due" "_law_due" (defArgs s__law_due) (defBody s__law_due) (defScope s__law_due) [] [] (He.fAd K ("_law_due", none)) fd := S.d 21 _ rfl
theorem d__law_asked : ∃ fd, FunD K "_law_asked" "_law_asked" (defArgs s__law_asked) (defBody s__law_asked) (defScope s__law_asked) [] [] (He.fAd K ("_law_asked", none)) fd := S.d 22 _ rfl
theorem d__law_asks : ∃ fd, FunD K "_law_asks" "_law_asks" (defArgs s__law_asks) (defBody s__law_asks) (defScope s__law_asks) [] [] (He.fAd K ("_law_asks", none)) fd := S.d 23 _ rfl
theorem d_law : ∃ fd, FunD K "law" "law" (defArgs s_law) (defBody s_law) (defScope s_law) [] [] (He.fAd K ("law", none)) fd := S.d 24 _ rfl
end

theorem ev_BITS {K : PySem.W.Frag} {mg : Str → Option Value} (S : Tx K mg) {T : AS} {σ : L2.St} {H : Hp} : Ev K T (tC (.ref (He.ga K "BITS"))) σ H (zU zW) ([[false], [true]] : (List (List Bool))) :=
  ev_kU (vs := [.str "0", .str "1"]) (S.e) fun H => (.cons ⟨rfl, by decide⟩ (.cons ⟨rfl, by decide⟩ .nil))

section
variable {P : Program} {w : World} {K : PySem.W.Frag} {mg : Str → Option Value} {base : Heap}

abbrev sp_is_integer (K : PySem.W.Frag) : Sp := PSp K (aC zI aN) (fun (a : Int × Unit) => True) zB (fun (a : Int × Unit) => true)
theorem ok_is_integer (S : Tx K mg)  : Ok P w K mg base 1 ("is_integer", none) ["value"] (sp_is_integer K) := by
  obtain ⟨fd, D⟩ := d_is_integer S
  refine mk_ok D sc_is_integer (D.bindsN fun _ _ _ _ _ _ us hl => match us, hl with | [_], _ => rfl) (PSp_len len1) (fun cdv A outer s H vs Q E hr h => ?_)
  obtain ⟨T, ⟨p_value, _⟩, hT, ⟨v_value, _, rfl, r_value, rfl⟩, hp, hQ⟩ := h
  replace r_value : zI K T H v_value p_value := r_value
  have hp : True := hp
  have hQ : ∀ v H', Ex H H' → zB K T H' v true → Q v H' := hQ
  refine ⟨_, (pss_one (ps_ret (pe_and (pe_callB (kc_isi (K := K)) (by rfl) (m_isinstance S) bt_isinstance (pa_cons (pv 0) (pa_cons (pe_cls (by rfl) (m_int S) bt_int) pa_nil))) (pe_one (pe_not (pe_callB (kc_isi (K := K)) (by rfl) (m_isinstance S) bt_isinstance (pa_cons (pv 0) (pa_cons (pe_cls (by rfl) (m_bool S) bt_bool) pa_nil)))))))), ?_⟩
  · have ea := Ex.refl H
    first | refine nx_ ?_ | skip
    exact st_ret (K := K) (T := T) (ev_andV (ev_isi (b := true) (ev_var (i := 0) rfl r_value)) fun hc3 => (ev_notV (ev_isi (b := false) (ev_var (i := 0) rfl r_value)))) fun v H9 e r => hQ v H9 (ea.trans e) (by
      have e9 : (true && (!false)) = true := by first | rfl | (walk_at "fin")
      rw [e9] at r
      exact r)

abbrev sp_is_number (K : PySem.W.Frag) : Sp := PSp K (aC zI aN) (fun (a : Int × Unit) => True) zB (fun (a : Int × Unit) => (decide (0 ≤ a.1)))
theorem ok_is_number (S : Tx K mg) (G_is_integer : Ok P w K mg base 1 ("is_integer", none) ["value"] (sp_is_integer K)) : Ok P w K mg base 2 ("is_number", none) ["value"] (sp_is_number K) := by
  obtain ⟨fd, D⟩ := d_is_number S
  refine mk_ok D sc_is_number (D.bindsN fun _ _ _ _ _ _ us hl => match us, hl with | [_], _ => rfl) (PSp_len len1) (fun cdv A outer s H vs Q E hr h => ?_)
  obtain ⟨T, ⟨p_value, _⟩, hT, ⟨v_value, _, rfl, r_value, rfl⟩, hp, hQ⟩ := h
  replace r_value : zI K T H v_value p_value := r_value
  have hp : True := hp
  have hQ : ∀ v H', Ex H H' → zB K T H' v (decide (0 ≤ p_value)) → Q v H' := hQ
  refine ⟨_, (pss_one (ps_ret (pe_and (pe_callG G_is_integer hr (by omega) (by rfl) (g_is_integer S) (pa_cons (pv 0) pa_nil)) (pe_one (pe_cmpR op_ge (pv 0) pe_int (nomark _)))))), ?_⟩
  · have ea := Ex.refl H
    first | refine nx_ ?_ | skip
    exact st_ret (K := K) (T := T) (ev_andV (ev_call hT (ea_cons (ev_var (i := 0) rfl r_value) ea_nil) (show True from (by first | walk_at "ob" | walk_at "ob1" | walk_at "ob2"))) fun hc6 => (ev_ge (ev_var (i := 0) rfl r_value) ev_int)) fun v H9 e r => hQ v H9 (ea.trans e) (by
      have e9 : (true && (decide ((0 : Int) ≤ p_value))) = (decide (0 ≤ p_value)) := by first | rfl | (walk_at "fin")
      rw [e9] at r
      exact r)

abbrev sp_is_row_w (K : PySem.W.Frag) : Sp := PSp K (aC (zQ zW) aN) (fun (a : (List (List Bool)) × Unit) => True) zB (fun (a : (List (List Bool)) × Unit) => true)
theorem ok_is_row_w (S : Tx K mg)  : Ok P w K mg base 1 ("is_row", none) ["value"] (sp_is_row_w K) := by
  obtain ⟨fd, D⟩ := d_is_row S
  refine mk_ok D sc_is_row (D.bindsN fun _ _ _ _ _ _ us hl => match us, hl with | [_], _ => rfl) (PSp_len len1) (fun cdv A outer s H vs Q E hr h => ?_)
  obtain ⟨T, ⟨p_value, _⟩, hT, ⟨v_value, _, rfl, r_value, rfl⟩, hp, hQ⟩ := h
  replace r_value : (zQ zW) K T H v_value p_value := r_value
  have hp : True := hp
  have hQ : ∀ v H', Ex H H' → zB K T H' v true → Q v H' := hQ
  refine ⟨_, (pss_one (ps_ret (pe_callB (kc_isiT (K := K)) (by rfl) (m_isinstance S) bt_isinstance (pa_cons (pv 0) (pa_cons (pe_tup (pa_cons (pe_cls (by rfl) (m_tuple S) bt_tuple) (pa_cons (pe_cls (by rfl) (m_list S) bt_list) pa_nil))) pa_nil))))), ?_⟩
  · have ea := Ex.refl H
    first | refine nx_ ?_ | skip
    exact st_ret (K := K) (T := T) (ev_isiQ (ev_var (i := 0) rfl r_value)) fun v H9 e r => hQ v H9 (ea.trans e) (by
      have e9 : true = true := by first | rfl | (walk_at "fin")
      rw [e9] at r
      exact r)

abbrev sp_is_row_i (K : PySem.W.Frag) : Sp := PSp K (aC (zQ zI) aN) (fun (a : (List Int) × Unit) => True) zB (fun (a : (List Int) × Unit) => true)
theorem ok_is_row_i (S : Tx K mg)  : Ok P w K mg base 1 ("is_row", none) ["value"] (sp_is_row_i K) := by
  obtain ⟨fd, D⟩ := d_is_row S
  refine mk_ok D sc_is_row (D.bindsN fun _ _ _ _ _ _ us hl => match us, hl with | [_], _ => rfl) (PSp_len len1) (fun cdv A outer s H vs Q E hr h => ?_)
  obtain ⟨T, ⟨p_value, _⟩, hT, ⟨v_value, _, rfl, r_value, rfl⟩, hp, hQ⟩ := h
  replace r_value : (zQ zI) K T H v_value p_value := r_value
  have hp : True := hp
  have hQ : ∀ v H', Ex H H' → zB K T H' v true → Q v H' := hQ
  refine ⟨_, (pss_one (ps_ret (pe_callB (kc_isiT (K := K)) (by rfl) (m_isinstance S) bt_isinstance (pa_cons (pv 0) (pa_cons (pe_tup (pa_cons (pe_cls (by rfl) (m_tuple S) bt_tuple) (pa_cons (pe_cls (by rfl) (m_list S) bt_list) pa_nil))) pa_nil))))), ?_⟩
  · have ea := Ex.refl H
    first | refine nx_ ?_ | skip
    exact st_ret (K := K) (T := T) (ev_isiQ (ev_var (i := 0) rfl r_value)) fun v H9 e r => hQ v H9 (ea.trans e) (by
      have e9 : true = true := by first | rfl | (walk_at "fin")
      rw [e9] at r
      exact r)

abbrev sp_is_word (K : PySem.W.Frag) : Sp := PSp K (aC zW aN) (fun (a : (List Bool) × Unit) => True) zB (fun (a : (List Bool) × Unit) => true)
theorem ok_is_word (S : Tx K mg)  : Ok P w K mg base 1 ("is_word", none) ["value"] (sp_is_word K) := by
  obtain ⟨fd, D⟩ := d_is_word S
  refine mk_ok D sc_is_word (D.bindsN fun _ _ _ _ _ _ us hl => match us, hl with | [_], _ => rfl) (PSp_len len1) (fun cdv A outer s H vs Q E hr h => ?_)
  obtain ⟨T, ⟨p_value, _⟩, hT, ⟨v_value, _, rfl, r_value, rfl⟩, hp, hQ⟩ := h
  replace r_value : zW K T H v_value p_value := r_value
  have hp : True := hp
  have hQ : ∀ v H', Ex H H' → zB K T H' v true → Q v H' := hQ
  refine ⟨_, (pss_one (ps_ret (pe_and (pe_callB (kc_isi (K := K)) (by rfl) (m_isinstance S) bt_isinstance (pa_cons (pv 0) (pa_cons (pe_cls (by rfl) (m_str S) bt_str) pa_nil))) (pe_one (pe_callB (kr_all (K := K) rfl) (by rfl) (m_all S) bt_all (pa_cons (pe_lc (own := [("character", 1)]) (by rfl) sc_is_word.nd (pi_str (pv 0)) (blkOk_by (N := ["value", "character"]) (sc := defScope s_is_word) (by decide +kernel)) (fun _ _ _ _ _ => pg_name (i := 1) sc_is_word.nd rfl (.inl rfl)) (fun _ _ _ _ _ => pts_nil) (fun _ _ _ _ _ => (pe_cmpR op_inSg (pv 1) pe_str (by rfl)))) pa_nil)))))), ?_⟩
  · have ea := Ex.refl H
    first | refine nx_ ?_ | skip
    exact st_ret (K := K) (T := T) (ev_andV (ev_isi (b := true) (ev_var (i := 0) rfl r_value)) fun hc13 => (ev_all (ev_lc1 (f := fun (x12 : (List Bool)) => true) hT (ei_word (ev_var (i := 0) rfl r_value)) (fun T12 H12 v12 x12 L12 hT12 hx12 r12 Q12 q12 => q12 _ wipe1 (ev_in01 (ev_var (i := 1) rfl r12) (by first | walk_at "ob" | walk_at "ob1" | walk_at "ob2")))))) fun v H9 e r => hQ v H9 (ea.trans e) (by
      have e9 : (true && ((((((p_value).map fun b => [b])).map fun (x12 : (List Bool)) => true)).all id)) = true := by first | rfl | (walk_at "fin")
      rw [e9] at r
      exact r)

abbrev sp_are_budgets (K : PySem.W.Frag) : Sp := PSp K (aC (zQ zI) aN) (fun (a : (List Int) × Unit) => ∀ x ∈ a.1, (0 : Int) ≤ x) zB (fun (a : (List Int) × Unit) => true)
theorem ok_are_budgets (S : Tx K mg) (G_is_number : Ok P w K mg base 2 ("is_number", none) ["value"] (sp_is_number K)) (G_is_row_i : Ok P w K mg base 1 ("is_row", none) ["value"] (sp_is_row_i K)) : Ok P w K mg base 3 ("are_budgets", none) ["value"] (sp_are_budgets K) := by
  obtain ⟨fd, D⟩ := d_are_budgets S
  refine mk_ok D sc_are_budgets (D.bindsN fun _ _ _ _ _ _ us hl => match us, hl with | [_], _ => rfl) (PSp_len len1) (fun cdv A outer s H vs Q E hr h => ?_)
  obtain ⟨T, ⟨p_value, _⟩, hT, ⟨v_value, _, rfl, r_value, rfl⟩, hp, hQ⟩ := h
  replace r_value : (zQ zI) K T H v_value p_value := r_value
  have hp : ∀ x ∈ p_value, (0 : Int) ≤ x := hp
  have hQ : ∀ v H', Ex H H' → zB K T H' v true → Q v H' := hQ
  refine ⟨_, (pss_one (ps_ret (pe_and (pe_callG G_is_row_i hr (by omega) (by rfl) (g_is_row S) (pa_cons (pv 0) pa_nil)) (pe_one (pe_callB (kr_all (K := K) rfl) (by rfl) (m_all S) bt_all (pa_cons (pe_lc (own := [("budget", 1)]) (by rfl) sc_are_budgets.nd (kp_seq (K := K) (pv 0)) (blkOk_by (N := ["value", "budget"]) (sc := defScope s_are_budgets) (by decide +kernel)) (fun _ _ _ _ _ => pg_name (i := 1) sc_are_budgets.nd rfl (.inl rfl)) (fun _ _ _ _ _ => pts_nil) (fun _ _ _ _ _ => (pe_callG G_is_number hr (by omega) (by rfl) (g_is_number S) (pa_cons (pv 1) pa_nil)))) pa_nil)))))), ?_⟩
  · have ea := Ex.refl H
    first | refine nx_ ?_ | skip
    exact st_ret (K := K) (T := T) (ev_andV (ev_call hT (ea_cons (ev_var (i := 0) rfl r_value) ea_nil) (show True from (by first | walk_at "ob" | walk_at "ob1" | walk_at "ob2"))) fun hc18 => (ev_all (ev_lc1 (f := fun (x17 : Int) => (decide (0 ≤ x17))) hT (ei_seq (ev_var (i := 0) rfl r_value)) (fun T17 H17 v17 x17 L17 hT17 hx17 r17 Q17 q17 => q17 _ wipe1 (ev_call hT17 (ea_cons (ev_var (i := 1) rfl r17) ea_nil) (show True from (by first | walk_at "ob" | walk_at "ob1" | walk_at "ob2"))))))) fun v H9 e r => hQ v H9 (ea.trans e) (by
      have e9 : (true && ((((p_value).map fun (x17 : Int) => (decide (0 ≤ x17)))).all id)) = true := by first | rfl | (walk_at "fin")
      rw [e9] at r
      exact r)

abbrev sp_are_rows (K : PySem.W.Frag) : Sp := PSp K (aC (zQ zW) aN) (fun (a : (List (List Bool)) × Unit) => a.1 ≠ [] ∧ ∀ x ∈ a.1, x.length = (a.1.getD 0 []).length) zB (fun (a : (List (List Bool)) × Unit) => true)
theorem ok_are_rows (S : Tx K mg) (G_is_row_w : Ok P w K mg base 1 ("is_row", none) ["value"] (sp_is_row_w K)) (G_is_word : Ok P w K mg base 1 ("is_word", none) ["value"] (sp_is_word K)) : Ok P w K mg base 2 ("are_rows", none) ["value"] (sp_are_rows K) := by
  obtain ⟨fd, D⟩ := d_are_rows S
  refine mk_ok D sc_are_rows (D.bindsN fun _ _ _ _ _ _ us hl => match us, hl with | [_], _ => rfl) (PSp_len len1) (fun cdv A outer s H vs Q E hr h => ?_)
  obtain ⟨T, ⟨p_value, _⟩, hT, ⟨v_value, _, rfl, r_value, rfl⟩, hp, hQ⟩ := h
  replace r_value : (zQ zW) K T H v_value p_value := r_value
  have hp : p_value ≠ [] ∧ ∀ x ∈ p_value, x.length = (p_value.getD 0 []).length := hp
  have hQ : ∀ v H', Ex H H' → zB K T H' v true → Q v H' := hQ
  refine ⟨_, (pss_cons (ps_if (PW.pt (pw_or (pt_not (pt_val (pe_callG G_is_row_w hr (by omega) (by rfl) (g_is_row S) (pa_cons (pv 0) pa_nil)))) (pw_or (pt_cmpR op_eq (pe_callB (kc_len (K := K)) (by rfl) (m_len S) bt_len (pa_cons (pv 0) pa_nil)) pe_int (nomark _)) (pw_or1 (pt_not (pt_val (pe_callB (kr_all (K := K) rfl) (by rfl) (m_all S) bt_all (pa_cons (pe_lc (own := [("word", 1)]) (by rfl) sc_are_rows.nd (kp_seq (K := K) (pv 0)) (blkOk_by (N := ["value", "word"]) (sc := defScope s_are_rows) (by decide +kernel)) (fun _ _ _ _ _ => pg_name (i := 1) sc_are_rows.nd rfl (.inl rfl)) (fun _ _ _ _ _ => pts_nil) (fun _ _ _ _ _ => (pe_callG G_is_word hr (by omega) (by rfl) (g_is_word S) (pa_cons (pv 1) pa_nil)))) pa_nil)))))))) (pss_one (ps_ret pe_bl)) pss_nil) (pss_one (ps_ret (pe_callB (kr_all (K := K) rfl) (by rfl) (m_all S) bt_all (pa_cons (pe_lc (own := [("word", 1)]) (by rfl) sc_are_rows.nd (kp_seq (K := K) (pv 0)) (blkOk_by (N := ["value", "word"]) (sc := defScope s_are_rows) (by decide +kernel)) (fun _ _ _ _ _ => pg_name (i := 1) sc_are_rows.nd rfl (.inl rfl)) (fun _ _ _ _ _ => pts_nil) (fun _ _ _ _ _ => (pe_cmpR op_eq (pe_callB call_lenS (by rfl) (m_len S) bt_len (pa_cons (pv 1) pa_nil)) (pe_callB call_lenS (by rfl) (m_len S) bt_len (pa_cons (pe_ix (kx_seq (K := K)) (pv 0) pe_int (fun _ _ => rfl)) pa_nil)) (nomark _)))) pa_nil))))), ?_⟩
  · have ea := Ex.refl H
    first | refine nx_ ?_ | skip
    refine st_if (T := T) (et_or (et_not (et_B (ev_call hT (ea_cons (ev_var (i := 0) rfl r_value) ea_nil) (show True from (by first | walk_at "ob" | (have := List.length_pos_iff.mpr hp.1; omega) | walk_at "ob1" | walk_at "ob2"))))) fun hc26 => (et_or (et_test (ev_eqI (ev_lenQ (ev_var (i := 0) rfl r_value)) ev_int)) fun hc25 => (et_not (et_B (ev_all (ev_lc1 (f := fun (x24 : (List Bool)) => true) hT (ei_seq (ev_var (i := 0) rfl r_value)) (fun T24 H24 v24 x24 L24 hT24 hx24 r24 Q24 q24 => q24 _ wipe1 (ev_call hT24 (ea_cons (ev_var (i := 1) rfl r24) ea_nil) (show True from (by first | walk_at "ob" | (have := List.length_pos_iff.mpr hp.1; omega) | walk_at "ob1" | walk_at "ob2")))))))))) (fun h23 H23 e23 => ?_) (fun h23 H23 e23 => ?_)
    · have h23 : ((!true) || ((decide (((p_value).length : Int) = (0 : Int))) || (!((((p_value).map fun (x24 : (List Bool)) => true)).all id)))) = true := h23
      replace r_value := Mo.fr e23.fr r_value
      replace hT := hT.ex e23
      replace ea := ea.trans e23
      first | refine nx_ ?_ | skip
      exact st_ret (K := K) (T := T) ev_bl fun v H9 e r => hQ v H9 (ea.trans e) (by
      have e9 : false = true := by first | rfl | (walk_at "fin")
      rw [e9] at r
      exact r)
    · have h23 : ((!true) || ((decide (((p_value).length : Int) = (0 : Int))) || (!((((p_value).map fun (x24 : (List Bool)) => true)).all id)))) = false := h23
      replace r_value := Mo.fr e23.fr r_value
      replace hT := hT.ex e23
      replace ea := ea.trans e23
      first | refine nx_ ?_ | skip
      exact st_ret (K := K) (T := T) (ev_all (ev_lc1 (f := fun (x29 : (List Bool)) => (decide (((x29).length : Int) = ((((p_value).getD 0 [])).length : Int)))) hT (ei_seq (ev_var (i := 0) rfl r_value)) (fun T29 H29 v29 x29 L29 hT29 hx29 r29 Q29 q29 => q29 _ wipe1 (ev_eqI (ev_lenW (ev_var (i := 1) rfl r29)) (ev_lenW (ev_ixQ (ev_var (i := 0) rfl (L29.ap r_value)) ev_int (at_get (d0 := []) (by first | walk_at "ob" | (have := List.length_pos_iff.mpr hp.1; omega) | walk_at "ob1" | walk_at "ob2") (by first | walk_at "ob" | (have := List.length_pos_iff.mpr hp.1; omega) | walk_at "ob1" | walk_at "ob2")))))))) fun v H9 e r => hQ v H9 (ea.trans e) (by
      have e9 : ((((p_value).map fun (x29 : (List Bool)) => (decide (((x29).length : Int) = ((((p_value).getD 0 [])).length : Int))))).all id) = true := by first | rfl | (walk_at "fin")
      rw [e9] at r
      exact r)

abbrev sp_check_rows (K : PySem.W.Frag) : Sp := PSp K (aC (zQ zW) (aC (zQ zI) aN)) (fun (a : (List (List Bool)) × (List Int) × Unit) => (a.1 ≠ [] ∧ ∀ x ∈ a.1, x.length = (a.1.getD 0 []).length) ∧ (∀ x ∈ a.2.1, (0 : Int) ≤ x) ∧ a.2.1.length = a.1.length) zN (fun (a : (List (List Bool)) × (List Int) × Unit) => ())
theorem ok_check_rows (S : Tx K mg) (G_are_budgets : Ok P w K mg base 3 ("are_budgets", none) ["value"] (sp_are_budgets K)) (G_are_rows : Ok P w K mg base 2 ("are_rows", none) ["value"] (sp_are_rows K)) : Ok P w K mg base 4 ("check_rows", none) ["rows", "budgets"] (sp_check_rows K) := by
  obtain ⟨fd, D⟩ := d_check_rows S
  refine mk_ok D sc_check_rows (D.bindsN fun _ _ _ _ _ _ us hl => match us, hl with | [_, _], _ => rfl) (PSp_len len2) (fun cdv A outer s H vs Q E hr h => ?_)
  obtain ⟨T, ⟨p_rows, p_budgets, _⟩, hT, ⟨v_rows, _, rfl, r_rows, v_budgets, _, rfl, r_budgets, rfl⟩, hp, hQ⟩ := h
  replace r_rows : (zQ zW) K T H v_rows p_rows := r_rows
  replace r_budgets : (zQ zI) K T H v_budgets p_budgets := r_budgets
  have hp : (p_rows ≠ [] ∧ ∀ x ∈ p_rows, x.length = (p_rows.getD 0 []).length) ∧ (∀ x ∈ p_budgets, (0 : Int) ≤ x) ∧ p_budgets.length = p_rows.length := hp
  have hQ : ∀ v H', Ex H H' → zN K T H' v () → Q v H' := hQ
  refine ⟨_, (pss_cons (ps_if (pt_not (pt_val (pe_callG G_are_rows hr (by omega) (by rfl) (g_are_rows S) (pa_cons (pv 0) pa_nil)))) (pss_one ps_never) pss_nil) (pss_one (ps_if (PW.pt (pw_or (pt_not (pt_val (pe_callG G_are_budgets hr (by omega) (by rfl) (g_are_budgets S) (pa_cons (pv 1) pa_nil)))) (pw_or1 (pt_cmpR op_ne (pe_callB (kc_len (K := K)) (by rfl) (m_len S) bt_len (pa_cons (pv 1) pa_nil)) (pe_callB (kc_len (K := K)) (by rfl) (m_len S) bt_len (pa_cons (pv 0) pa_nil)) (nomark _))))) (pss_one ps_never) pss_nil))), ?_⟩
  · have ea := Ex.refl H
    first | refine nx_ ?_ | skip
    refine st_if (T := T) (et_not (et_B (ev_call hT (ea_cons (ev_var (i := 0) rfl r_rows) ea_nil) (show p_rows ≠ [] ∧ ∀ x ∈ p_rows, x.length = (p_rows.getD 0 []).length from (by first | walk_at "ob" | (exact hp.1) | (exact hp.2.1) | (have := hp.2.2; simp_all; done) | walk_at "ob1" | walk_at "ob2"))))) (fun h31 H31 e31 => ?_) (fun h31 H31 e31 => ?_)
    · have h31 : (!true) = true := h31
      replace r_rows := Mo.fr e31.fr r_rows
      replace r_budgets := Mo.fr e31.fr r_budgets
      replace hT := hT.ex e31
      replace ea := ea.trans e31
      first | refine nx_ ?_ | skip
      exact (show False from by first | (simp_all; done) | (walk_at "ob") | (exact hp.1) | (exact hp.2.1) | (have := hp.2.2; simp_all; done))
    · have h31 : (!true) = false := h31
      replace r_rows := Mo.fr e31.fr r_rows
      replace r_budgets := Mo.fr e31.fr r_budgets
      replace hT := hT.ex e31
      replace ea := ea.trans e31
      first | refine nx_ ?_ | skip
      refine st_if (T := T) (et_or (et_not (et_B (ev_call hT (ea_cons (ev_var (i := 1) rfl r_budgets) ea_nil) (show ∀ x ∈ p_budgets, (0 : Int) ≤ x from (by first | walk_at "ob" | (exact hp.1) | (exact hp.2.1) | (have := hp.2.2; simp_all; done) | walk_at "ob1" | walk_at "ob2"))))) fun hc34 => (et_test (ev_neI (ev_lenQ (ev_var (i := 1) rfl r_budgets)) (ev_lenQ (ev_var (i := 0) rfl r_rows))))) (fun h33 H33 e33 => ?_) (fun h33 H33 e33 => ?_)
      · have h33 : ((!true) || (!decide (((p_budgets).length : Int) = ((p_rows).length : Int)))) = true := h33
        replace r_rows := Mo.fr e33.fr r_rows
        replace r_budgets := Mo.fr e33.fr r_budgets
        replace hT := hT.ex e33
        replace ea := ea.trans e33
        first | refine nx_ ?_ | skip
        exact (show False from by first | (simp_all; done) | (walk_at "ob") | (exact hp.1) | (exact hp.2.1) | (have := hp.2.2; simp_all; done))
      · have h33 : ((!true) || (!decide (((p_budgets).length : Int) = ((p_rows).length : Int)))) = false := h33
        replace r_rows := Mo.fr e33.fr r_rows
        replace r_budgets := Mo.fr e33.fr r_budgets
        replace hT := hT.ex e33
        replace ea := ea.trans e33
        exact hQ _ _ ea rfl

def m_differences (p_row : (List Bool)) (p_word : (List Bool)) : Int := (((((((((p_word).map fun b => [b])).zip ((p_row).map fun b => [b]))).filter fun (x36 : ((List Bool) × (List Bool))) => (!decide ((x36).1 = (x36).2))).map fun (x36 : ((List Bool) × (List Bool))) => (x36).1)).length : Int)
abbrev sp_differences (K : PySem.W.Frag) : Sp := PSp K (aC zW (aC zW aN)) (fun (a : (List Bool) × (List Bool) × Unit) => True) zI (fun (a : (List Bool) × (List Bool) × Unit) => (m_differences a.1 a.2.1))
theorem ok_differences (S : Tx K mg)  : Ok P w K mg base 1 ("differences", none) ["row", "word"] (sp_differences K) := by
  obtain ⟨fd, D⟩ := d_differences S
  refine mk_ok D sc_differences (D.bindsN fun _ _ _ _ _ _ us hl => match us, hl with | [_, _], _ => rfl) (PSp_len len2) (fun cdv A outer s H vs Q E hr h => ?_)
  obtain ⟨T, ⟨p_row, p_word, _⟩, hT, ⟨v_row, _, rfl, r_row, v_word, _, rfl, r_word, rfl⟩, hp, hQ⟩ := h
  replace r_row : zW K T H v_row p_row := r_row
  replace r_word : zW K T H v_word p_word := r_word
  have hp : True := hp
  have hQ : ∀ v H', Ex H H' → zI K T H' v (m_differences p_row p_word) → Q v H' := hQ
  refine ⟨_, (pss_one (ps_ret (pe_callB (kc_len (K := K)) (by rfl) (m_len S) bt_len (pa_cons (pe_lc (own := [("bit", 2), ("other", 3)]) (by rfl) sc_differences.nd (pi_zn (K := K) (by rfl) (m_zip S) (pa_cons (pv 1) (pa_cons (pv 0) pa_nil))) (blkOk_by (N := ["row", "word", "bit", "other"]) (sc := defScope s_differences) (by decide +kernel)) (fun _ _ _ _ _ => kg_tup (K := K) (n := 2) rfl (pgs_cons (pg_name (i := 2) sc_differences.nd rfl (.inl rfl)) (pgs_cons (pg_name (i := 3) sc_differences.nd rfl (.inl rfl)) pgs_nil))) (fun _ _ _ _ _ => pts_one (pt_cmpR op_ne (pv 2) (pv 3) (nomark _))) (fun _ _ _ _ _ => (pv 2))) pa_nil)))), ?_⟩
  · have ea := Ex.refl H
    first | refine nx_ ?_ | skip
    exact st_ret (K := K) (T := T) (ev_lenL (ev_lc (p := fun (x39 : ((List Bool) × (List Bool))) => (!decide ((x39).1 = (x39).2))) (f := fun (x39 : ((List Bool) × (List Bool))) => (x39).1) hT (ei_zn (ev_var (i := 1) rfl r_word) (ev_var (i := 0) rfl r_row)) (fun T39 H39 v39 x39 L39 hT39 hx39 r39 Q39 q39 => g2_tup r39 fun w39_0 r39_0 w39_1 r39_1 => q39 _ (by rfl) (et_test (ev_neW (ev_var (i := 2) rfl r39_0) (ev_var (i := 3) rfl r39_1))) fun hp39 => (ev_var (i := 2) rfl r39_0)))) fun v H9 e r => hQ v H9 (ea.trans e) (by
      have e9 : (m_differences p_row p_word) = (((((((((p_word).map fun b => [b])).zip ((p_row).map fun b => [b]))).filter fun (x39 : ((List Bool) × (List Bool))) => (!decide ((x39).1 = (x39).2))).map fun (x39 : ((List Bool) × (List Bool))) => (x39).1)).length : Int) := by simp only [m_differences, if_true, if_false, Bool.false_eq_true, reduceIte]
      rw [e9]; exact r)

abbrev DGame : Type := (List (List Bool)) × (List Int) × (List Int) × Addr × Unit
abbrev zGame : Rp DGame := zOb "Game" ["rows", "budgets", "flips", "known"] (aC (zU zW) (aC (zU zI) (aC (zU zI) (aC zA aN))))
theorem fd_Game_rows {K : PySem.W.Frag} {mg : Str → Option Value} (S : Tx K mg) {T : AS} {σ : L2.St} {H : Hp} {ta : TE} {g : DGame} (h : Ev K T ta σ H zGame g) : Ev K T (tFld K ta "rows") σ H (zU zW) g.1 :=
  ev_fld (c_Game S) (na_Game_rows S) h fun H1 vs hr => by
    obtain ⟨v0, _, rfl, r0, v1, _, rfl, r1, v2, _, rfl, r2, v3, _, rfl, r3, rfl⟩ := hr
    exact ⟨v0, rfl, r0⟩
theorem fd_Game_budgets {K : PySem.W.Frag} {mg : Str → Option Value} (S : Tx K mg) {T : AS} {σ : L2.St} {H : Hp} {ta : TE} {g : DGame} (h : Ev K T ta σ H zGame g) : Ev K T (tFld K ta "budgets") σ H (zU zI) g.2.1 :=
  ev_fld (c_Game S) (na_Game_budgets S) h fun H1 vs hr => by
    obtain ⟨v0, _, rfl, r0, v1, _, rfl, r1, v2, _, rfl, r2, v3, _, rfl, r3, rfl⟩ := hr
    exact ⟨v1, rfl, r1⟩
theorem fd_Game_flips {K : PySem.W.Frag} {mg : Str → Option Value} (S : Tx K mg) {T : AS} {σ : L2.St} {H : Hp} {ta : TE} {g : DGame} (h : Ev K T ta σ H zGame g) : Ev K T (tFld K ta "flips") σ H (zU zI) g.2.2.1 :=
  ev_fld (c_Game S) (na_Game_flips S) h fun H1 vs hr => by
    obtain ⟨v0, _, rfl, r0, v1, _, rfl, r1, v2, _, rfl, r2, v3, _, rfl, r3, rfl⟩ := hr
    exact ⟨v2, rfl, r2⟩
theorem fd_Game_known {K : PySem.W.Frag} {mg : Str → Option Value} (S : Tx K mg) {T : AS} {σ : L2.St} {H : Hp} {ta : TE} {g : DGame} (h : Ev K T ta σ H zGame g) : Ev K T (tFld K ta "known") σ H zA g.2.2.2.1 :=
  ev_fld (c_Game S) (na_Game_known S) h fun H1 vs hr => by
    obtain ⟨v0, _, rfl, r0, v1, _, rfl, r1, v2, _, rfl, r2, v3, _, rfl, r3, rfl⟩ := hr
    exact ⟨v3, rfl, r3⟩

def lp_Game_living_at_1 (f_self : DGame) (f_word : (List Bool)) (si : (List Int)) (xi : (Int × (List Bool))) : (List Int) := (if (decide ((m_differences xi.2 f_word) ≤ (((f_self).2.2.1).getD (xi.1).toNat 0))) = true then (si ++ [xi.1]) else si)
def m_Game_living_at (p_self : DGame) (p_word : (List Bool)) : (List Int) := (List.foldl (lp_Game_living_at_1 p_self p_word) ([] : (List Int)) (enL (p_self).1))
abbrev sp_Game_living_at (K : PySem.W.Frag) : Sp := PSp K (aC zGame (aC zW aN)) (fun (a : DGame × (List Bool) × Unit) => a.1.2.2.1.length = a.1.1.length ∧ a.1.1.length ≤ 1000) (zL zI) (fun (a : DGame × (List Bool) × Unit) => (m_Game_living_at a.1 a.2.1))
theorem ok_Game_living_at (S : Tx K mg) (G_differences : Ok P w K mg base 1 ("differences", none) ["row", "word"] (sp_differences K)) : Ok P w K mg base 2 ("Game", some "living_at") ["self", "word"] (sp_Game_living_at K) := by
  obtain ⟨fd, D⟩ := d_Game_living_at S
  refine mk_ok D sc_Game_living_at (D.bindsN fun _ _ _ _ _ _ us hl => match us, hl with | [_, _], _ => rfl) (PSp_len len2) (fun cdv A outer s H vs Q E hr h => ?_)
  obtain ⟨T, ⟨p_self, p_word, _⟩, hT, ⟨v_self, _, rfl, r_self, v_word, _, rfl, r_word, rfl⟩, hp, hQ⟩ := h
  replace r_self : zGame K T H v_self p_self := r_self
  replace r_word : zW K T H v_word p_word := r_word
  have hp : p_self.2.2.1.length = p_self.1.length ∧ p_self.1.length ≤ 1000 := hp
  have hQ : ∀ v H', Ex H H' → (zL zI) K T H' v (m_Game_living_at p_self p_word) → Q v H' := hQ
  refine ⟨_, (pss_cons (ps_set (i := 2) sc_Game_living_at.nd rfl (.inl rfl) (pe_lst pa_nil)) (pss_cons (ps_for PassesOwn.never rfl (pi_en (K := K) (by rfl) (m_enumerate S) (pa_cons (ke_fld (K := K) (pv 0)) pa_nil)) (kg_tup (K := K) (n := 2) rfl (pgs_cons (pg_name (i := 3) sc_Game_living_at.nd rfl (.inl rfl)) (pgs_cons (pg_name (i := 4) sc_Game_living_at.nd rfl (.inl rfl)) pgs_nil))) (pss_one (ps_if (pt_cmpR op_le (pe_callG G_differences hr (by omega) (by rfl) (g_differences S) (pa_cons (pv 4) (pa_cons (pv 1) pa_nil))) (pe_ix (kx_tup (K := K)) (ke_fld (K := K) (pv 0)) (pv 3) (fun _ _ => rfl)) (nomark _)) (pss_one (ps_expr (pe_bm PySem.F.plainAttrs_list PySem.F.slot_list_append PySem.F.type_list_append mt_append (pv 2) (pa_cons (pv 3) pa_nil)))) pss_nil))) (pss_one (ps_ret (pv 2))))), ?_⟩
  · have ea := Ex.refl H
    first | refine nx_ ?_ | skip
    refine asg_open ?_
    refine f_run (K := K) (T := T) (ef_lst (r := zI) (xs := []) eh_nil (by simp)) fun p40 H40a H40 e40 n40 f40 en40 m_found => ?_
    replace r_self := Mo.fr e40.fr r_self
    replace r_word := Mo.fr e40.fr r_word
    replace hT := hT.ex e40
    replace ea := ea.trans e40
    have hn_p40 : ¬ T p40 := fun z => (hT.new n40) z
    replace r_self := Mo.fr en40.fr (Mo.lift n40 r_self)
    replace r_word := Mo.fr en40.fr (Mo.lift n40 r_word)
    replace hT := hT.of_mem (S := T0) en40.fr m_found.dom
    have h0_p40 := ea.back n40
    replace ea := ea.trans en40
    first | refine nx_ ?_ | skip
    refine st_for (K := K) (T := (Tp T p40)) hT (ei_en (fd_Game_rows S (ev_var (i := 0) rfl r_self))) fun H41 e41 => ?_
    replace r_self := Mo.fr e41.fr r_self
    replace r_word := Mo.fr e41.fr r_word
    replace m_found := m_found.ex' e41
    replace hT := hT.ex e41
    replace ea := ea.trans e41
    obtain ⟨Pv41, hPv41⟩ : ∃ Pv : Nat → L2.St → Hp → Prop, ∀ i σ' H', Pv i σ' H' ↔ (∃ (si : (List Int)), List.foldl (lp_Game_living_at_1 p_self p_word) ([] : (List Int)) (((enL (p_self).1)).take i) = si ∧ Fr (Tp T0 p40) H41 H' ∧ ∃ (y_program : Option V) (y_row : Option V), σ' = [some v_self, some v_word, some (.ref p40), y_program, y_row] ∧ HM zI K (Tp T p40) H' p40 si ∧ ((si).length ≤ (([] : (List Int))).length + 1 * i)) := ⟨_, fun _ _ _ => Iff.rfl⟩
    refine ⟨Pv41, (hPv41 _ _ _).mpr ⟨([] : (List Int)), rfl, Fr.refl _, _, _, rfl, m_found, (by walk_at "inv")⟩, fun i σ' H' _ h => ?_, ?_, ?_⟩
    · obtain ⟨si, _, hF, _⟩ := (hPv41 _ _ _).mp h
      exact hF.mono (fun b hb => hb.elim (fun z => .inl (z.elim)) .inr)
    · intro i x41 σ' H'41 v41 H''41 hx41 hh eY rv41
      obtain ⟨si41, hrun41, hF41, y_program, y_row, rfl, m'_found, hl_found_41⟩ := (hPv41 _ _ _).mp hh
      have hmem41 := List.mem_of_getElem? hx41
      replace r_self := Mo.fr ((hF41.mono (fun b hb => hb.elim (fun z => .inl (z.elim)) .inr)).trans eY.fr) r_self
      replace r_word := Mo.fr ((hF41.mono (fun b hb => hb.elim (fun z => .inl (z.elim)) .inr)).trans eY.fr) r_word
      replace m_found := m'_found.ex' eY
      replace hT := (hT.fr hF41).ex eY
      replace ea := (ea.thenFr hF41 (fun b hb => hb.elim (fun z => z.elim) (fun z => by subst z; exact h0_p40))).trans eY
      replace eb41 := hF41.trans (Ex.fr (T := (Tp T0 p40)) eY)
      refine g2_tup rv41 fun u41_program r_program u41_row r_row => ?_
      have hi41 := (List.getElem?_eq_some_iff.mp hx41).1
      first | refine nx_ ?_ | skip
      refine st_if (T := (Tp T p40)) (et_test (ev_le (ev_call hT (ea_cons (ev_var (i := 4) rfl r_row) (ea_cons (ev_var (i := 1) rfl r_word) ea_nil)) (show True from (by first | walk_at "ob" | walk_at "ob1" | walk_at "ob2"))) (ev_ixU (fd_Game_flips S (ev_var (i := 0) rfl r_self)) (ev_var (i := 3) rfl r_program) (at_get (d0 := 0) (by first | walk_at "ob" | walk_at "ob1" | walk_at "ob2") (by first | walk_at "ob" | walk_at "ob1" | walk_at "ob2"))))) (fun h42 H42 e42 => ?_) (fun h42 H42 e42 => ?_)
      · have h42 : (decide ((m_differences x41.2 p_word) ≤ (((p_self).2.2.1).getD (x41.1).toNat 0))) = true := h42
        replace r_self := Mo.fr e42.fr r_self
        replace r_word := Mo.fr e42.fr r_word
        replace r_program := Mo.fr e42.fr r_program
        replace r_row := Mo.fr e42.fr r_row
        replace m_found := m_found.ex' e42
        replace hT := hT.ex e42
        replace ea := ea.trans e42
        replace eb41 := eb41.trans e42.fr
        first | refine nx_ ?_ | skip
        refine st_append (K := K) (T := (Tp T p40)) (S := fun _ => False) rfl m_found (ev_var (i := 3) rfl r_program) (by first | walk_at "ob" | walk_at "ob1" | walk_at "ob2") fun H43a H43 v43 ev43 e43 f43 fT43 m43 => ?_
        have hpm43 := m_found.mem
        have fp43 : Fr (fun b => b = p40) H43a H43 := f43.mono (fun b hb => hb.elim False.elim id)
        replace r_self := Mo.fr (e43.fr.trans fT43) r_self
        replace r_word := Mo.fr (e43.fr.trans fT43) r_word
        replace r_program := Mo.fr (e43.fr.trans fT43) r_program
        replace r_row := Mo.fr (e43.fr.trans fT43) r_row
        replace hT := (hT.ex e43).fr fT43
        replace ea := (ea.trans e43).thenFr fp43 (fun b hb => by subst hb; exact h0_p40)
        replace eb41 := (eb41.trans e43.fr).thenFr fp43 (fun b hb => by subst hb; exact .inl (.inr rfl))
        replace m_found := m43
        exact (hPv41 _ _ _).mpr ⟨(si41 ++ [x41.1]), ((foldl_take hx41).trans (by rw [hrun41])).trans (show (lp_Game_living_at_1 p_self p_word) si41 x41 = (si41 ++ [x41.1]) by simp only [lp_Game_living_at_1, h42, if_true, if_false, Bool.false_eq_true, reduceIte]), eb41, _, _, rfl, m_found, (by walk_at "inv")⟩
      · have h42 : (decide ((m_differences x41.2 p_word) ≤ (((p_self).2.2.1).getD (x41.1).toNat 0))) = false := h42
        replace r_self := Mo.fr e42.fr r_self
        replace r_word := Mo.fr e42.fr r_word
        replace r_program := Mo.fr e42.fr r_program
        replace r_row := Mo.fr e42.fr r_row
        replace m_found := m_found.ex' e42
        replace hT := hT.ex e42
        replace ea := ea.trans e42
        replace eb41 := eb41.trans e42.fr
        exact (hPv41 _ _ _).mpr ⟨si41, ((foldl_take hx41).trans (by rw [hrun41])).trans (show (lp_Game_living_at_1 p_self p_word) si41 x41 = si41 by simp only [lp_Game_living_at_1, h42, if_true, if_false, Bool.false_eq_true, reduceIte]), eb41, _, _, rfl, m_found, (by walk_at "inv")⟩
    · intro σ' H'41 hh
      obtain ⟨si41, hrun41, hF41, y_program, y_row, rfl, m'_found, hl_found_41⟩ := (hPv41 _ _ _).mp hh
      rw [List.take_length] at hrun41
      replace r_self := Mo.fr (hF41.mono (fun b hb => hb.elim (fun z => .inl (z.elim)) .inr)) r_self
      replace r_word := Mo.fr (hF41.mono (fun b hb => hb.elim (fun z => .inl (z.elim)) .inr)) r_word
      replace m_found := m'_found
      replace hT := hT.fr hF41
      replace ea := ea.thenFr hF41 (fun b hb => hb.elim (fun z => z.elim) (fun z => by subst z; exact h0_p40))
      replace r_found := m_found.done (T' := T) (fun b hb => (.inl hb)) (fun z => (hn_p40 z))
      replace r_self := Mo.sub (T' := T) (fun b hb => (.inl hb)) r_self
      replace r_word := Mo.sub (T' := T) (fun b hb => (.inl hb)) r_word
      replace hT := hT.sub (T' := T) (fun b hb => (.inl hb))
      first | refine nx_ ?_ | skip
      exact st_ret (K := K) (T := T) (ev_var (i := 2) rfl r_found) fun v H9 e r => hQ v H9 (ea.trans e) (by
      have e9 : (m_Game_living_at p_self p_word) = si41 := by simp only [m_Game_living_at, hrun41, if_true, if_false, Bool.false_eq_true, reduceIte]
      rw [e9]; exact r)

end
end EB

set_option Elab.async false
set_option linter.all false
set_option maxRecDepth 100000
set_option maxHeartbeats 4000000

namespace EB
open PySem PySem.Spec PyProof.Rows L2
local macro_rules | `(tactic| walk_at "ob") => `(tactic| first | exact trivial | omega | assumption | exact len_sign ‹_›)
local macro_rules | `(tactic| walk_at "ob1") => `(tactic| first | (have := mem_enL ‹_ ∈ enL _›; omega) | (simp only [List.length_append, List.length_cons, List.length_nil, enL_len, rng_len] at *; omega))
local macro_rules | `(tactic| walk_at "ob2") => `(tactic| (simp_all; done))
local macro_rules | `(tactic| walk_at "inv") => `(tactic| first | exact trivial | (simp only [List.length_append, List.length_cons, List.length_nil, Nat.mul_zero, Nat.add_zero]; omega) | omega | (simp only [List.length_append, List.length_cons, List.length_nil] at *; omega))
local macro_rules | `(tactic| walk_at "fin") => `(tactic| first | (simp; done) | (simp_all [List.all_eq_true]; done))

section
variable {P : Program} {w : World} {K : PySem.W.Frag} {mg : Str → Option Value} {base : Heap}

theorem ok__law_draw (S : Tx K mg) : Ok P w K mg base 1 ("_law_draw", none) ["tape", "limit"] (sp_draw K) := by
  obtain ⟨fd, D⟩ := d__law_draw S
  refine mk_ok D sc__law_draw (D.bindsN fun _ _ _ _ _ _ us hl => match us, hl with | [_, _], _ => rfl) (NSp_len len2) (fun cdv A outer s H vs Q E hr h => ?_)
  obtain ⟨T, ⟨⟨ta, tg⟩, lim, _⟩, n, hT, hW, ⟨v1, _, rfl, r1, v2, _, rfl, r2, rfl⟩, hp, hI, hQ⟩ := h
  have hQ : ∀ v H' d, Fr (WTp (ta, tg)) H H' → TpI (ta, tg) n H' → zI K T H' v d → (0 ≤ d ∧ d < lim) → Q v H' := hQ
  have hp : 0 < lim ∧ lim < 1073741824 := hp
  replace hI : TpI (ta, tg) (n + 1) H := hI
  cases r1; cases r2
  obtain ⟨gs, seed, cnt, h1, h2, hg, hc0, hc, hne, hgl9⟩ := hI.ex
  have h1 : H ta = some (.lst [.ref tg, .int seed, .int cnt]) := h1
  have h2 : H tg = some (.lst (gs.map V.int)) := h2
  have hne : ta ≠ tg := hne
  refine ⟨_, (pss_cons (ps_set (i := 2) sc__law_draw.nd rfl (.inl rfl) (pe_ix (kx_list (K := K)) (pv 0) pe_int (fun _ _ => rfl))) (pss_cons (ps_if (kt_truth (K := K) (pv 2)) (pss_cons (ps_set (i := 4) sc__law_draw.nd rfl (.inl rfl) (pe_bm0 PySem.F.plainAttrs_list PySem.F.slot_list_pop PySem.F.type_list_pop mt_pop (pv 2))) (pss_cons (ps_if (pt_cmpR op_ge (pv 4) (pv 1) (nomark _)) (pss_one (ps_expr (pe_bm PySem.F.plainAttrs_list PySem.F.slot_list_append PySem.F.type_list_append mt_append (pv 2) (pa_cons (pe_op op_fdiv (pv 4) (pv 1)) pa_nil)))) pss_nil) (pss_one (ps_ret (pe_op op_mod (pe_callTy call_int1Q (by rfl) (m_int S) bt_int (pa_cons (pv 4) pa_nil)) (pv 1)))))) pss_nil) (pss_cons (ps_asg (pe_op op_add (pe_ix (kx_list (K := K)) (pv 0) pe_int (fun _ _ => rfl)) pe_int) (pg_sub (pv 0) pe_int set_list)) (pss_cons (ps_set (i := 3) sc__law_draw.nd rfl (.inl rfl) (pe_op op_mod (pe_callTy call_int1Q (by rfl) (m_int S) bt_int (pa_cons (pe_op op_add (pe_op op_mul (pe_callTy call_int1Q (by rfl) (m_int S) bt_int (pa_cons (pe_op op_add (pe_ix (kx_list (K := K)) (pv 0) pe_int (fun _ _ => rfl)) (pe_ix (kx_list (K := K)) (pv 0) pe_int (fun _ _ => rfl))) pa_nil)) pe_int) (pe_op op_mul (pe_op op_mul (pe_ix (kx_list (K := K)) (pv 0) pe_int (fun _ _ => rfl)) (pe_ix (kx_list (K := K)) (pv 0) pe_int (fun _ _ => rfl))) pe_int)) pa_nil)) pe_int)) (pss_one (ps_ret (pe_op op_mod (pe_op op_fdiv (pe_op op_mod (pe_callTy call_int1Q (by rfl) (m_int S) bt_int (pa_cons (pe_op op_add (pe_op op_mul (pv 3) (pv 3)) (pe_op op_mul (pe_ix (kx_list (K := K)) (pv 0) pe_int (fun _ _ => rfl)) pe_int)) pa_nil)) pe_int) pe_int) (pv 1)))))))), ?_⟩
  refine asg_open ?_
  refine ⟨.ref ta, rfl, ta, _, 0, .ref tg, rfl, rfl, .inl (.inl h1), rfl, ?_⟩
  refine ifs_open (t_run (T := T0) (et_truL (ev_var (i := 2) rfl (zl0 h2))) fun H2 e2 => ?_)
  have h1 := e2 _ _ h1
  have h2 := e2 _ _ h2
  refine iteB (fun hb => ?_) (fun hb => ?_)
  · rcases List.eq_nil_or_concat gs with rfl | ⟨gi, gl, rfl⟩
    · simp at hb
    · rw [List.concat_eq_append] at h2 hg hb
      have hgl : 0 ≤ gl := hg gl (by simp)
      have hgi : ∀ g ∈ gi, 0 ≤ g := fun g hm => hg g (by simp [hm])
      have h2' : H2 tg = some (.lst (gi.map V.int ++ [.int gl])) := by rw [h2]; simp
      refine asg_open ?_
      refine ⟨.ref tg, rfl, .inl ⟨rfl, _, .inl (.inl h2)⟩, tg, _, .int gl, rfl, rfl, h2', by simp, ?_⟩
      rw [List.dropLast_concat]
      have f3 : Fr (WTp (ta, tg)) H (upd H2 tg (.lst (gi.map V.int))) := e2.fr.trans (Fr.upd (.inl (.inr rfl)))
      have h3 : upd H2 tg (.lst (gi.map V.int)) tg = some (.lst (gi.map V.int)) := upd_same
      have h31 : upd H2 tg (.lst (gi.map V.int)) ta = some (.lst [.ref tg, .int seed, .int cnt]) := by rw [upd_ne hne]; exact h1
      generalize upd H2 tg (.lst (gi.map V.int)) = H3 at f3 h3 h31 ⊢
      refine ifs_open (t_run (T := T0) (et_test (ev_ge (K := K) (ev_var (i := 4) (v := .int gl) (d := gl) rfl rfl) (ev_var (i := 1) (v := .int lim) (d := lim) rfl rfl))) fun H4 e4 => ?_)
      have h4 := e4 _ _ h3
      have h41 := e4 _ _ h31
      have f4 := f3.trans e4.fr
      refine iteB (fun hb2 => ?_) (fun hb2 => ?_)
      · refine append_open (K := K) (T := Tp T0 tg) (r := zI) (xs := gi) (p := tg) rfl ⟨.inr rfl, _, h4, all2_ints⟩ ?_
        refine x_run (K := K) (T := Tp T0 tg) (ev_fdiv (ev_var (i := 4) rfl rfl) (ev_var (i := 1) rfl rfl) ⟨hp.1, hp.2⟩) fun v5 H5 e5 r5 => ?_
        refine append_v (K := K) (T := Tp T0 tg) (S := WTp (ta, tg)) (r := zI) (xs := gi) ⟨.inr rfl, _, e5 _ _ h4, all2_ints⟩ r5 (by have := hgl9; simp at this; omega) fun H6 v6 ev6 f6 _ m6 => ?_
        subst ev6
        refine ret_open (x_run (K := K) (T := T0) (ev_mod (ev_intI (ev_var (i := 4) rfl rfl)) (ev_var (i := 1) rfl rfl) hp.1) fun v7 H7 e7 r7 => ?_)
        have f7 := (((f4.trans e5.fr).trans (f6.mono fun b hb => hb.elim id fun z => .inr z)).trans e7.fr)
        obtain ⟨vs6, hm6, ha6⟩ := m6.ex
        have hm7 := e7 _ _ hm6
        rw [all2_int ha6] at hm7
        refine hQ v7 H7 _ f7 ⟨gi ++ [gl / lim], seed, cnt, ?_, hm7, ?_, hc0, by omega, hne, by have := hgl9; simp at this ⊢; omega⟩ r7 ⟨Int.emod_nonneg _ (by omega), Int.emod_lt_of_pos _ hp.1⟩
        · refine e7 _ _ ?_
          rw [upd_ne hne]; exact e5 _ _ h41
        · intro g hm
          rcases List.mem_append.mp hm with hm | hm
          · exact hgi g hm
          · simp only [List.mem_singleton] at hm
            subst hm; exact Int.ediv_nonneg hgl (by omega)
      · refine ret_open (x_run (K := K) (T := T0) (ev_mod (ev_intI (ev_var (i := 4) rfl rfl)) (ev_var (i := 1) rfl rfl) hp.1) fun v7 H7 e7 r7 => ?_)
        exact hQ v7 H7 _ (f4.trans e7.fr) ⟨gi, seed, cnt, e7 _ _ h41, e7 _ _ h4, hgi, hc0, by omega, hne, by have := hgl9; simp at this ⊢; omega⟩ r7 ⟨Int.emod_nonneg _ (by omega), Int.emod_lt_of_pos _ hp.1⟩
  · refine asgt_open (x_run (K := K) (T := T0) (ev_add (ev_h2 (ev_var (i := 0) rfl (zh0 h1))) ev_int) fun v3 H3 e3 r3 => ?_)
    have h13 := e3 _ _ h1
    have h23 := e3 _ _ h2
    cases r3
    refine ⟨.ref ta, rfl, ta, _, 2, 2, rfl, rfl, h13, rfl, ?_⟩
    have f4 : Fr (WTp (ta, tg)) H (upd H3 ta (.lst [.ref tg, .int seed, .int (cnt + 1)])) := (e2.trans e3).fr.trans (Fr.upd (.inl (.inl rfl)))
    have h4 : upd H3 ta (.lst [.ref tg, .int seed, .int (cnt + 1)]) ta = some (.lst [.ref tg, .int seed, .int (cnt + 1)]) := upd_same
    have h42 : upd H3 ta (.lst [.ref tg, .int seed, .int (cnt + 1)]) tg = some (.lst (gs.map V.int)) := by rw [upd_ne (Ne.symm hne)]; exact h23
    show (_ : L2.Ends).nx _ (upd H3 ta (.lst [.ref tg, .int seed, .int (cnt + 1)]))
    generalize upd H3 ta (.lst [.ref tg, .int seed, .int (cnt + 1)]) = H4 at f4 h4 h42 ⊢
    refine asg_open (x_run (K := K) (T := T0) (ev_mod (ev_intI (ev_add (ev_mul (ev_intI (ev_add (ev_h1 (ev_var (i := 0) rfl (zh0 h4))) (ev_h2 (ev_var (i := 0) rfl (zh0 h4))))) ev_int (.inr (by decide))) (ev_mul (ev_mul (ev_h2 (ev_var (i := 0) rfl (zh0 h4))) (ev_h2 (ev_var (i := 0) rfl (zh0 h4))) (show CMul (cnt + 1) (cnt + 1) from .inl ⟨by omega, by omega⟩)) ev_int (.inr (by decide))))) ev_int (by decide)) fun v5 H5 e5 r5 => ?_)
    have h5 := e5 _ _ h4
    cases r5
    refine ret_open (x_run (K := K) (T := T0) (ev_mod (ev_fdiv (ev_mod (ev_intI (ev_add (ev_mul (ev_var (i := 3) rfl rfl) (ev_var (i := 3) rfl rfl) (.inl ?_)) (ev_mul (ev_h2 (ev_var (i := 0) rfl (zh0 h5))) ev_int (.inr (by decide))))) ev_int (by decide)) ev_int ⟨by decide, by decide⟩) (ev_var (i := 1) rfl rfl) hp.1) fun v7 H7 e7 r7 => ?_)
    · generalize seed + (cnt + 1) = y1
      generalize y1 * 69621 + (cnt + 1) * (cnt + 1) * 40692 = y
      have b1 := Int.emod_nonneg y (show (2147483629 : Int) ≠ 0 by decide)
      have b2 := Int.emod_lt_of_pos y (show (0 : Int) < 2147483629 by decide)
      constructor
      · exact Int.lt_of_lt_of_le (show (-(2 ^ 64) : Int) < 0 by decide) b1
      · exact Int.lt_trans b2 (by decide)
    · exact hQ v7 H7 _ ((f4.trans e5.fr).trans e7.fr) ⟨gs, seed, cnt + 1, e7 _ _ h5, e7 _ _ (e5 _ _ h42), hg, by omega, by omega, hne, hgl9⟩ r7 ⟨Int.emod_nonneg _ (by omega), Int.emod_lt_of_pos _ hp.1⟩

abbrev sp__law_bits (K : PySem.W.Frag) : Sp := NSp K (aC zTp (aC zI aN)) (fun (a : (Addr × Addr) × Int × Unit) => WTp a.1) (fun (a : (Addr × Addr) × Int × Unit) => TpI a.1) (fun _ => 100) (fun (a : (Addr × Addr) × Int × Unit) => 0 ≤ a.2.1 ∧ a.2.1 ≤ 50) zW (fun (a : (Addr × Addr) × Int × Unit) (d : (List Bool)) => (d.length : Int) = a.2.1)
theorem ok__law_bits (S : Tx K mg) (G__law_draw : Ok P w K mg base 1 ("_law_draw", none) ["tape", "limit"] (sp_draw K)) : Ok P w K mg base 2 ("_law_bits", none) ["tape", "many"] (sp__law_bits K) := by
  obtain ⟨fd, D⟩ := d__law_bits S
  refine mk_ok D sc__law_bits (D.bindsN fun _ _ _ _ _ _ us hl => match us, hl with | [_, _], _ => rfl) (NSp_len len2) (fun cdv A outer s H vs Q E hr h => ?_)
  obtain ⟨T, ⟨p_tape, p_many, _⟩, n, hT, hW, ⟨v_tape, _, rfl, r_tape, v_many, _, rfl, r_many, rfl⟩, hp, hI, hQ⟩ := h
  replace r_tape : zTp K T H v_tape p_tape := r_tape
  replace r_many : zI K T H v_many p_many := r_many
  have hp : 0 ≤ p_many ∧ p_many ≤ 50 := hp
  replace hI : TpI p_tape (n + 100) H := hI
  have hW : ∀ b, WTp p_tape b → T b := hW
  have hQ : ∀ v H' d, Fr (WTp p_tape) H H' → TpI p_tape n H' → zW K T H' v d → ((d.length : Int) = p_many) → Q v H' := hQ
  refine ⟨_, (pss_one (ps_ret (ke_join (K := K) pe_str (pe_lc (own := [("k", 2)]) (by rfl) sc__law_bits.nd (pi_range1 (by rfl) (m_range S) (pa_cons (pv 1) pa_nil)) (blkOk_by (N := ["tape", "many", "k"]) (sc := defScope s__law_bits) (by decide +kernel)) (fun _ _ _ _ _ => pg_name (i := 2) sc__law_bits.nd rfl (.inl rfl)) (fun _ _ _ _ _ => pts_nil) (fun _ _ _ _ _ => (pe_ix ix_str pe_str (pe_callG G__law_draw hr (by omega) (by rfl) (g__law_draw S) (pa_cons (pv 0) (pa_cons pe_int pa_nil))) (fun _ _ => rfl))))))), ?_⟩
  · have ea := Fr.refl (T := WTp p_tape) H
    first | refine nx_ ?_ | skip
    refine ret_open ?_
    refine m1_open ?_
    refine x_run (K := K) (T := T) (ev_word [] (by decide) (by decide)) fun v47 H47 e47 r47 => ?_
    replace r_tape := Mo.fr e47.fr r_tape
    replace r_many := Mo.fr e47.fr r_many
    replace hT := hT.ex e47
    replace ea := ea.trans (Ex.fr e47)
    replace hI := Re.ex (re_tape (d := p_tape)) hI e47
    refine ⟨⟨_, (r47).1⟩, ?_⟩
    refine en_lc (c := 1) (s := zW) (φ := fun (x48 : Int) (y : (List Bool)) => y.length = 1) (re_tape (d := p_tape)) hT (fun b hb => (hW b hb)) (ei_range (ea_cons (ev_var (i := 1) rfl r_many) ea_nil) (by first | walk_at "ob" | (rw [flat_len (k := 1) ‹_›]; simp only [rng_len] at *; omega) | walk_at "ob1" | walk_at "ob2") (by first | walk_at "ob" | (rw [flat_len (k := 1) ‹_›]; simp only [rng_len] at *; omega) | walk_at "ob1" | walk_at "ob2")) (fun T48 Hc48 vc48 x48 L48 hT48 hW48 hx48 rr_k Qc48 qc48 => qc48 _ wipe1 (fun n48 Hs48 fr48 hIs48 Qv48 Q48 => by
        have hx48 : x48 ∈ (rng 0 (p_many).toNat) := hx48
        replace r_tape := Mo.fr fr48 (L48.ap r_tape)
        replace r_many := Mo.fr fr48 (L48.ap r_many)
        replace r47 := Mo.fr fr48 (L48.ap r47)
        replace rr_k := Mo.fr fr48 rr_k
        replace hT := hT48.fr fr48
        replace ea := Fr.refl (T := WTp p_tape) Hs48
        replace hI := hIs48
        have hW := hW48
        refine op_open ?_
        refine x_run (K := K) (T := T48) (ev_word [false, true] (by decide) (by decide)) fun v49 H49 e49 r49 => ?_
        replace r_tape := Mo.fr e49.fr r_tape
        replace r_many := Mo.fr e49.fr r_many
        replace r47 := Mo.fr e49.fr r47
        replace rr_k := Mo.fr e49.fr rr_k
        replace hT := hT.ex e49
        replace ea := ea.trans (Ex.fr e49)
        replace hI := Re.ex (re_tape (d := p_tape)) hI e49
        refine call_open ?_
        refine cons_open ?_
        refine x_run (K := K) (T := T48) (ev_var (i := 0) rfl r_tape) fun v50 H50 e50 r50 => ?_
        replace r_tape := Mo.fr e50.fr r_tape
        replace r_many := Mo.fr e50.fr r_many
        replace r47 := Mo.fr e50.fr r47
        replace rr_k := Mo.fr e50.fr rr_k
        replace r49 := Mo.fr e50.fr r49
        replace hT := hT.ex e50
        replace ea := ea.trans (Ex.fr e50)
        replace hI := Re.ex (re_tape (d := p_tape)) hI e50
        refine cons_open ?_
        refine x_run (K := K) (T := T48) ev_int fun v51 H51 e51 r51 => ?_
        replace r_tape := Mo.fr e51.fr r_tape
        replace r_many := Mo.fr e51.fr r_many
        replace r47 := Mo.fr e51.fr r47
        replace rr_k := Mo.fr e51.fr rr_k
        replace r49 := Mo.fr e51.fr r49
        replace r50 := Mo.fr e51.fr r50
        replace hT := hT.ex e51
        replace ea := ea.trans (Ex.fr e51)
        replace hI := Re.ex (re_tape (d := p_tape)) hI e51
        refine nil_open ?_
        refine ncall_v (T := T48) (b := (p_tape, (2 : Int), ())) (n := n48 + 0) hT (fun b hb => (hW b hb)) ⟨_, _, rfl, r50, ⟨_, _, rfl, r51, rfl⟩⟩ (show 0 < (2 : Int) ∧ (2 : Int) < 1073741824 from (by first | walk_at "ob" | (rw [flat_len (k := 1) ‹_›]; simp only [rng_len] at *; omega) | walk_at "ob1" | walk_at "ob2")) (Re.cut (re_tape (d := p_tape)) hI (by omega)) fun v52 H52 d52 f52 hI52 r52 hp52 => ?_
        replace r52 : zI K T48 H52 v52 d52 := r52
        replace r_tape := Mo.fr (Fr.mono f52 (fun b hb => (hW b hb))) r_tape
        replace r_many := Mo.fr (Fr.mono f52 (fun b hb => (hW b hb))) r_many
        replace r47 := Mo.fr (Fr.mono f52 (fun b hb => (hW b hb))) r47
        replace rr_k := Mo.fr (Fr.mono f52 (fun b hb => (hW b hb))) rr_k
        replace r49 := Mo.fr (Fr.mono f52 (fun b hb => (hW b hb))) r49
        replace r50 := Mo.fr (Fr.mono f52 (fun b hb => (hW b hb))) r50
        replace r51 := Mo.fr (Fr.mono f52 (fun b hb => (hW b hb))) r51
        replace hT := hT.fr f52
        replace ea := ea.trans f52
        replace hI := hI52
        have hp52 : 0 ≤ d52 ∧ d52 < (2 : Int) := hp52
        refine of_op ?_
        refine x_run (K := K) (T := T48) (ev_ixW (ev_var (i := 0) rfl r49) (ev_var (i := 1) rfl r52) (at_get (d0 := false) (by first | walk_at "ob" | (rw [flat_len (k := 1) ‹_›]; simp only [rng_len] at *; omega) | walk_at "ob1" | walk_at "ob2") (by first | walk_at "ob" | (rw [flat_len (k := 1) ‹_›]; simp only [rng_len] at *; omega) | walk_at "ob1" | walk_at "ob2"))) fun v53 H53 e53 r53 => ?_
        replace r_tape := Mo.fr e53.fr r_tape
        replace r_many := Mo.fr e53.fr r_many
        replace r47 := Mo.fr e53.fr r47
        replace rr_k := Mo.fr e53.fr rr_k
        replace r49 := Mo.fr e53.fr r49
        replace r50 := Mo.fr e53.fr r50
        replace r51 := Mo.fr e53.fr r51
        replace r52 := Mo.fr e53.fr r52
        replace hT := hT.ex e53
        replace ea := ea.trans (Ex.fr e53)
        replace hI := Re.ex (re_tape (d := p_tape)) hI e53
        exact Q48 _ _ _ ea (Re.cut (re_tape (d := p_tape)) hI (by omega)) r53 (by first | walk_at "ob" | (rw [flat_len (k := 1) ‹_›]; simp only [rng_len] at *; omega) | walk_at "ob1" | walk_at "ob2")
        )) (n + 50) _ (Fr.refl _) (Re.cut (re_tape (d := p_tape)) hI (by have h8 : ((rng 0 (p_many).toNat)).length ≤ 50 := (by first | walk_at "ob" | (rw [flat_len (k := 1) ‹_›]; simp only [rng_len] at *; omega) | walk_at "ob1" | walk_at "ob2"); have h7 := Nat.mul_le_mul_right 1 h8; omega)) _ fun v48 H48 d48 f48 hI48 r48 hp48 => ?_
    replace r48 : (zL zW) K T H48 v48 d48 := r48
    replace r_tape := Mo.fr (Fr.mono f48 (fun b hb => (hW b hb))) r_tape
    replace r_many := Mo.fr (Fr.mono f48 (fun b hb => (hW b hb))) r_many
    replace r47 := Mo.fr (Fr.mono f48 (fun b hb => (hW b hb))) r47
    replace hT := hT.fr f48
    replace ea := ea.trans f48
    replace hI := hI48
    have hl48 : d48.length = ((rng 0 (p_many).toNat)).length := all2_len hp48
    have hp48 : ∀ y ∈ d48, y.length = 1 := fun y hy => by
      obtain ⟨x, _, h⟩ := all2_mem hp48 hy
      exact h
    refine of_m1 ?_
    refine x_run (K := K) (T := T) (ev_joinW (ev_var (i := 0) rfl r47) (ev_var (i := 1) rfl r48) (by first | walk_at "ob" | (rw [flat_len (k := 1) ‹_›]; simp only [rng_len] at *; omega) | walk_at "ob1" | walk_at "ob2")) fun v54 H54 e54 r54 => ?_
    replace r_tape := Mo.fr e54.fr r_tape
    replace r_many := Mo.fr e54.fr r_many
    replace r47 := Mo.fr e54.fr r47
    replace r48 := Mo.fr e54.fr r48
    replace hT := hT.ex e54
    replace ea := ea.trans (Ex.fr e54)
    replace hI := Re.ex (re_tape (d := p_tape)) hI e54
    exact hQ _ _ _ ea (Re.cut (re_tape (d := p_tape)) hI (by omega)) r54 (by first | walk_at "ob" | (rw [flat_len (k := 1) ‹_›]; simp only [rng_len] at *; omega) | walk_at "ob1" | walk_at "ob2")

abbrev sp__law_rows (K : PySem.W.Frag) : Sp := NSp K (aC zTp aN) (fun (a : (Addr × Addr) × Unit) => WTp a.1) (fun (a : (Addr × Addr) × Unit) => TpI a.1) (fun _ => 2000) (fun (a : (Addr × Addr) × Unit) => True) (zL zW) (fun (a : (Addr × Addr) × Unit) (d : (List (List Bool))) => ∃ m : Int, m ≤ 8 ∧ d ≠ [] ∧ d.length ≤ 12 ∧ ∀ w ∈ d, (w.length : Int) = m)
theorem ok__law_rows (S : Tx K mg) (G__law_bits : Ok P w K mg base 2 ("_law_bits", none) ["tape", "many"] (sp__law_bits K)) (G__law_draw : Ok P w K mg base 1 ("_law_draw", none) ["tape", "limit"] (sp_draw K)) : Ok P w K mg base 3 ("_law_rows", none) ["tape"] (sp__law_rows K) := by
  obtain ⟨fd, D⟩ := d__law_rows S
  refine mk_ok D sc__law_rows (D.bindsN fun _ _ _ _ _ _ us hl => match us, hl with | [_], _ => rfl) (NSp_len len1) (fun cdv A outer s H vs Q E hr h => ?_)
  obtain ⟨T, ⟨p_tape, _⟩, n, hT, hW, ⟨v_tape, _, rfl, r_tape, rfl⟩, hp, hI, hQ⟩ := h
  replace r_tape : zTp K T H v_tape p_tape := r_tape
  have hp : True := hp
  replace hI : TpI p_tape (n + 2000) H := hI
  have hW : ∀ b, WTp p_tape b → T b := hW
  have hQ : ∀ v H' d, Fr (WTp p_tape) H H' → TpI p_tape n H' → (zL zW) K T H' v d → (∃ m : Int, m ≤ 8 ∧ d ≠ [] ∧ d.length ≤ 12 ∧ ∀ w ∈ d, (w.length : Int) = m) → Q v H' := hQ
  refine ⟨_, (pss_cons (ps_set (i := 1) sc__law_rows.nd rfl (.inl rfl) (pe_callG G__law_draw hr (by omega) (by rfl) (g__law_draw S) (pa_cons (pv 0) (pa_cons pe_int pa_nil)))) (pss_cons (ps_set (i := 2) sc__law_rows.nd rfl (.inl rfl) (pe_op op_add pe_int (pe_callG G__law_draw hr (by omega) (by rfl) (g__law_draw S) (pa_cons (pv 0) (pa_cons pe_int pa_nil))))) (pss_cons (ps_if (pt_cmpR op_eq (pe_callG G__law_draw hr (by omega) (by rfl) (g__law_draw S) (pa_cons (pv 0) (pa_cons pe_int pa_nil))) pe_int (nomark _)) (pss_cons (ps_set (i := 1) sc__law_rows.nd rfl (.inl rfl) (pe_op op_add pe_int (pe_callG G__law_draw hr (by omega) (by rfl) (g__law_draw S) (pa_cons (pv 0) (pa_cons pe_int pa_nil))))) (pss_one (ps_set (i := 2) sc__law_rows.nd rfl (.inl rfl) (pe_op op_add pe_int (pe_callG G__law_draw hr (by omega) (by rfl) (g__law_draw S) (pa_cons (pv 0) (pa_cons pe_int pa_nil))))))) pss_nil) (pss_cons (ps_if (pt_cmpR op_eq (pe_callG G__law_draw hr (by omega) (by rfl) (g__law_draw S) (pa_cons (pv 0) (pa_cons pe_int pa_nil))) pe_int (nomark _)) (pss_cons (ps_set (i := 2) sc__law_rows.nd rfl (.inl rfl) (pe_op op_add pe_int (pe_callG G__law_draw hr (by omega) (by rfl) (g__law_draw S) (pa_cons (pv 0) (pa_cons pe_int pa_nil))))) (pss_one (ps_set (i := 1) sc__law_rows.nd rfl (.inl rfl) (pe_callB call_min2Q (by rfl) (m_min S) bt_min (pa_cons (pv 1) (pa_cons pe_int pa_nil)))))) pss_nil) (pss_cons (ps_set (i := 3) sc__law_rows.nd rfl (.inl rfl) (pe_lst (pa_cons (pe_callG G__law_bits hr (by omega) (by rfl) (g__law_bits S) (pa_cons (pv 0) (pa_cons (pv 1) pa_nil))) pa_nil))) (pss_cons (ps_for PassesOwn.never rfl (pi_range1 (by rfl) (m_range S) (pa_cons (pe_op op_sub (pv 2) pe_int) pa_nil)) (pg_name (i := 4) sc__law_rows.nd rfl (.inl rfl)) (pss_cons (ps_set (i := 5) sc__law_rows.nd rfl (.inl rfl) (pe_ix (kx_list (K := K)) (pv 3) (pe_callG G__law_draw hr (by omega) (by rfl) (g__law_draw S) (pa_cons (pv 0) (pa_cons (pe_callB (kc_len (K := K)) (by rfl) (m_len S) bt_len (pa_cons (pv 3) pa_nil)) pa_nil))) (fun _ _ => rfl))) (pss_cons (ps_set (i := 6) sc__law_rows.nd rfl (.inl rfl) (pe_callG G__law_draw hr (by omega) (by rfl) (g__law_draw S) (pa_cons (pv 0) (pa_cons (pe_op op_add (pv 1) pe_int) pa_nil)))) (pss_one (ps_expr (pe_bm PySem.F.plainAttrs_list PySem.F.slot_list_append PySem.F.type_list_append mt_append (pv 3) (pa_cons (pe_op op_addS (pe_slice sl_str (pv 5) po_none (po_some (pv 6))) (pe_callG G__law_bits hr (by omega) (by rfl) (g__law_bits S) (pa_cons (pv 0) (pa_cons (pe_op op_sub (pv 1) (pv 6)) pa_nil)))) pa_nil))))))) (pss_one (ps_ret (pv 3))))))))), ?_⟩
  · have ea := Fr.refl (T := WTp p_tape) H
    first | refine nx_ ?_ | skip
    refine asg_open ?_
    refine call_open ?_
    refine cons_open ?_
    refine x_run (K := K) (T := T) (ev_var (i := 0) rfl r_tape) fun v56 H56 e56 r56 => ?_
    replace r_tape := Mo.fr e56.fr r_tape
    replace hT := hT.ex e56
    replace ea := ea.trans (Ex.fr e56)
    replace hI := Re.ex (re_tape (d := p_tape)) hI e56
    refine cons_open ?_
    refine x_run (K := K) (T := T) ev_int fun v57 H57 e57 r57 => ?_
    replace r_tape := Mo.fr e57.fr r_tape
    replace r56 := Mo.fr e57.fr r56
    replace hT := hT.ex e57
    replace ea := ea.trans (Ex.fr e57)
    replace hI := Re.ex (re_tape (d := p_tape)) hI e57
    refine nil_open ?_
    refine ncall_v (T := T) (b := (p_tape, (5 : Int), ())) (n := n + 1999) hT (fun b hb => (hW b hb)) ⟨_, _, rfl, r56, ⟨_, _, rfl, r57, rfl⟩⟩ (show 0 < (5 : Int) ∧ (5 : Int) < 1073741824 from (by first | walk_at "ob" | (have h1 := hinv.2 _ h_row_1; omega) | (refine ⟨rfl, fun w hw => ?_⟩; simp only [List.mem_singleton] at hw; subst hw; omega) | (have h1 := hinv.2 _ h_row_1; refine ⟨by (simp only [List.length_append, List.length_cons, List.length_nil]; omega), fun w hw => ?_⟩; (rcases List.mem_append.mp hw with hw | hw); exact hinv.2 w hw; (simp only [List.mem_singleton] at hw; subst hw; rw [List.length_append]; omega)) | (simp only [rng_len] at *; refine ⟨_, ?_, fun h => ?_, ?_, hinv.2⟩; omega; (have h1 := hinv.1; simp only [h, List.length_nil] at h1; omega); omega) | walk_at "ob1" | walk_at "ob2")) (Re.cut (re_tape (d := p_tape)) hI (by omega)) fun v58 H58 d58 f58 hI58 r58 hp58 => ?_
    replace r58 : zI K T H58 v58 d58 := r58
    replace r_tape := Mo.fr (Fr.mono f58 (fun b hb => (hW b hb))) r_tape
    replace r56 := Mo.fr (Fr.mono f58 (fun b hb => (hW b hb))) r56
    replace r57 := Mo.fr (Fr.mono f58 (fun b hb => (hW b hb))) r57
    replace hT := hT.fr f58
    replace ea := ea.trans f58
    replace hI := hI58
    have hp58 : 0 ≤ d58 ∧ d58 < (5 : Int) := hp58
    have h_size_0 := hp58
    replace r_size := r58
    first | refine nx_ ?_ | skip
    refine asg_open ?_
    refine op_open ?_
    refine x_run (K := K) (T := T) ev_int fun v60 H60 e60 r60 => ?_
    replace r_tape := Mo.fr e60.fr r_tape
    replace r_size := Mo.fr e60.fr r_size
    replace hT := hT.ex e60
    replace ea := ea.trans (Ex.fr e60)
    replace hI := Re.ex (re_tape (d := p_tape)) hI e60
    refine call_open ?_
    refine cons_open ?_
    refine x_run (K := K) (T := T) (ev_var (i := 0) rfl r_tape) fun v61 H61 e61 r61 => ?_
    replace r_tape := Mo.fr e61.fr r_tape
    replace r_size := Mo.fr e61.fr r_size
    replace r60 := Mo.fr e61.fr r60
    replace hT := hT.ex e61
    replace ea := ea.trans (Ex.fr e61)
    replace hI := Re.ex (re_tape (d := p_tape)) hI e61
    refine cons_open ?_
    refine x_run (K := K) (T := T) ev_int fun v62 H62 e62 r62 => ?_
    replace r_tape := Mo.fr e62.fr r_tape
    replace r_size := Mo.fr e62.fr r_size
    replace r60 := Mo.fr e62.fr r60
    replace r61 := Mo.fr e62.fr r61
    replace hT := hT.ex e62
    replace ea := ea.trans (Ex.fr e62)
    replace hI := Re.ex (re_tape (d := p_tape)) hI e62
    refine nil_open ?_
    refine ncall_v (T := T) (b := (p_tape, (4 : Int), ())) (n := n + 1998) hT (fun b hb => (hW b hb)) ⟨_, _, rfl, r61, ⟨_, _, rfl, r62, rfl⟩⟩ (show 0 < (4 : Int) ∧ (4 : Int) < 1073741824 from (by first | walk_at "ob" | (have h1 := hinv.2 _ h_row_1; omega) | (refine ⟨rfl, fun w hw => ?_⟩; simp only [List.mem_singleton] at hw; subst hw; omega) | (have h1 := hinv.2 _ h_row_1; refine ⟨by (simp only [List.length_append, List.length_cons, List.length_nil]; omega), fun w hw => ?_⟩; (rcases List.mem_append.mp hw with hw | hw); exact hinv.2 w hw; (simp only [List.mem_singleton] at hw; subst hw; rw [List.length_append]; omega)) | (simp only [rng_len] at *; refine ⟨_, ?_, fun h => ?_, ?_, hinv.2⟩; omega; (have h1 := hinv.1; simp only [h, List.length_nil] at h1; omega); omega) | walk_at "ob1" | walk_at "ob2")) (Re.cut (re_tape (d := p_tape)) hI (by omega)) fun v63 H63 d63 f63 hI63 r63 hp63 => ?_
    replace r63 : zI K T H63 v63 d63 := r63
    replace r_tape := Mo.fr (Fr.mono f63 (fun b hb => (hW b hb))) r_tape
    replace r_size := Mo.fr (Fr.mono f63 (fun b hb => (hW b hb))) r_size
    replace r60 := Mo.fr (Fr.mono f63 (fun b hb => (hW b hb))) r60
    replace r61 := Mo.fr (Fr.mono f63 (fun b hb => (hW b hb))) r61
    replace r62 := Mo.fr (Fr.mono f63 (fun b hb => (hW b hb))) r62
    replace hT := hT.fr f63
    replace ea := ea.trans f63
    replace hI := hI63
    have hp63 : 0 ≤ d63 ∧ d63 < (4 : Int) := hp63
    refine of_op ?_
    refine x_run (K := K) (T := T) (ev_add (ev_var (i := 0) rfl r60) (ev_var (i := 1) rfl r63)) fun v64 H64 e64 r64 => ?_
    replace r_tape := Mo.fr e64.fr r_tape
    replace r_size := Mo.fr e64.fr r_size
    replace r60 := Mo.fr e64.fr r60
    replace r61 := Mo.fr e64.fr r61
    replace r62 := Mo.fr e64.fr r62
    replace r63 := Mo.fr e64.fr r63
    replace hT := hT.ex e64
    replace ea := ea.trans (Ex.fr e64)
    replace hI := Re.ex (re_tape (d := p_tape)) hI e64
    have h_many_0 := hp63
    replace r_many := r64
    first | refine nx_ ?_ | skip
    refine ifs_open ?_
    refine test_open ?_
    refine op_open ?_
    refine call_open ?_
    refine cons_open ?_
    refine x_run (K := K) (T := T) (ev_var (i := 0) rfl r_tape) fun v66 H66 e66 r66 => ?_
    replace r_tape := Mo.fr e66.fr r_tape
    replace r_size := Mo.fr e66.fr r_size
    replace r_many := Mo.fr e66.fr r_many
    replace hT := hT.ex e66
    replace ea := ea.trans (Ex.fr e66)
    replace hI := Re.ex (re_tape (d := p_tape)) hI e66
    refine cons_open ?_
    refine x_run (K := K) (T := T) ev_int fun v67 H67 e67 r67 => ?_
    replace r_tape := Mo.fr e67.fr r_tape
    replace r_size := Mo.fr e67.fr r_size
    replace r_many := Mo.fr e67.fr r_many
    replace r66 := Mo.fr e67.fr r66
    replace hT := hT.ex e67
    replace ea := ea.trans (Ex.fr e67)
    replace hI := Re.ex (re_tape (d := p_tape)) hI e67
    refine nil_open ?_
    refine ncall_v (T := T) (b := (p_tape, (8 : Int), ())) (n := n + 1997) hT (fun b hb => (hW b hb)) ⟨_, _, rfl, r66, ⟨_, _, rfl, r67, rfl⟩⟩ (show 0 < (8 : Int) ∧ (8 : Int) < 1073741824 from (by first | walk_at "ob" | (have h1 := hinv.2 _ h_row_1; omega) | (refine ⟨rfl, fun w hw => ?_⟩; simp only [List.mem_singleton] at hw; subst hw; omega) | (have h1 := hinv.2 _ h_row_1; refine ⟨by (simp only [List.length_append, List.length_cons, List.length_nil]; omega), fun w hw => ?_⟩; (rcases List.mem_append.mp hw with hw | hw); exact hinv.2 w hw; (simp only [List.mem_singleton] at hw; subst hw; rw [List.length_append]; omega)) | (simp only [rng_len] at *; refine ⟨_, ?_, fun h => ?_, ?_, hinv.2⟩; omega; (have h1 := hinv.1; simp only [h, List.length_nil] at h1; omega); omega) | walk_at "ob1" | walk_at "ob2")) (Re.cut (re_tape (d := p_tape)) hI (by omega)) fun v68 H68 d68 f68 hI68 r68 hp68 => ?_
    replace r68 : zI K T H68 v68 d68 := r68
    replace r_tape := Mo.fr (Fr.mono f68 (fun b hb => (hW b hb))) r_tape
    replace r_size := Mo.fr (Fr.mono f68 (fun b hb => (hW b hb))) r_size
    replace r_many := Mo.fr (Fr.mono f68 (fun b hb => (hW b hb))) r_many
    replace r66 := Mo.fr (Fr.mono f68 (fun b hb => (hW b hb))) r66
    replace r67 := Mo.fr (Fr.mono f68 (fun b hb => (hW b hb))) r67
    replace hT := hT.fr f68
    replace ea := ea.trans f68
    replace hI := hI68
    have hp68 : 0 ≤ d68 ∧ d68 < (8 : Int) := hp68
    refine x_run (K := K) (T := T) ev_int fun v69 H69 e69 r69 => ?_
    replace r_tape := Mo.fr e69.fr r_tape
    replace r_size := Mo.fr e69.fr r_size
    replace r_many := Mo.fr e69.fr r_many
    replace r66 := Mo.fr e69.fr r66
    replace r67 := Mo.fr e69.fr r67
    replace r68 := Mo.fr e69.fr r68
    replace hT := hT.ex e69
    replace ea := ea.trans (Ex.fr e69)
    replace hI := Re.ex (re_tape (d := p_tape)) hI e69
    refine of_op ?_
    refine x_run (K := K) (T := T) (ev_eqI (ev_var (i := 0) rfl r68) (ev_var (i := 1) rfl r69)) fun v70 H70 e70 r70 => ?_
    replace r_tape := Mo.fr e70.fr r_tape
    replace r_size := Mo.fr e70.fr r_size
    replace r_many := Mo.fr e70.fr r_many
    replace r66 := Mo.fr e70.fr r66
    replace r67 := Mo.fr e70.fr r67
    replace r68 := Mo.fr e70.fr r68
    replace r69 := Mo.fr e70.fr r69
    replace hT := hT.ex e70
    replace ea := ea.trans (Ex.fr e70)
    replace hI := Re.ex (re_tape (d := p_tape)) hI e70
    refine ⟨_, r70, ?_⟩
    refine iteB (fun h71 => ?_) (fun h71 => ?_)
    · have h71 : (decide (d68 = (0 : Int))) = true := h71
      first | refine nx_ ?_ | skip
      refine asg_open ?_
      refine op_open ?_
      refine x_run (K := K) (T := T) ev_int fun v73 H73 e73 r73 => ?_
      replace r_tape := Mo.fr e73.fr r_tape
      replace r_size := Mo.fr e73.fr r_size
      replace r_many := Mo.fr e73.fr r_many
      replace hT := hT.ex e73
      replace ea := ea.trans (Ex.fr e73)
      replace hI := Re.ex (re_tape (d := p_tape)) hI e73
      refine call_open ?_
      refine cons_open ?_
      refine x_run (K := K) (T := T) (ev_var (i := 0) rfl r_tape) fun v74 H74 e74 r74 => ?_
      replace r_tape := Mo.fr e74.fr r_tape
      replace r_size := Mo.fr e74.fr r_size
      replace r_many := Mo.fr e74.fr r_many
      replace r73 := Mo.fr e74.fr r73
      replace hT := hT.ex e74
      replace ea := ea.trans (Ex.fr e74)
      replace hI := Re.ex (re_tape (d := p_tape)) hI e74
      refine cons_open ?_
      refine x_run (K := K) (T := T) ev_int fun v75 H75 e75 r75 => ?_
      replace r_tape := Mo.fr e75.fr r_tape
      replace r_size := Mo.fr e75.fr r_size
      replace r_many := Mo.fr e75.fr r_many
      replace r73 := Mo.fr e75.fr r73
      replace r74 := Mo.fr e75.fr r74
      replace hT := hT.ex e75
      replace ea := ea.trans (Ex.fr e75)
      replace hI := Re.ex (re_tape (d := p_tape)) hI e75
      refine nil_open ?_
      refine ncall_v (T := T) (b := (p_tape, (4 : Int), ())) (n := n + 1996) hT (fun b hb => (hW b hb)) ⟨_, _, rfl, r74, ⟨_, _, rfl, r75, rfl⟩⟩ (show 0 < (4 : Int) ∧ (4 : Int) < 1073741824 from (by first | walk_at "ob" | (have h1 := hinv.2 _ h_row_1; omega) | (refine ⟨rfl, fun w hw => ?_⟩; simp only [List.mem_singleton] at hw; subst hw; omega) | (have h1 := hinv.2 _ h_row_1; refine ⟨by (simp only [List.length_append, List.length_cons, List.length_nil]; omega), fun w hw => ?_⟩; (rcases List.mem_append.mp hw with hw | hw); exact hinv.2 w hw; (simp only [List.mem_singleton] at hw; subst hw; rw [List.length_append]; omega)) | (simp only [rng_len] at *; refine ⟨_, ?_, fun h => ?_, ?_, hinv.2⟩; omega; (have h1 := hinv.1; simp only [h, List.length_nil] at h1; omega); omega) | walk_at "ob1" | walk_at "ob2")) (Re.cut (re_tape (d := p_tape)) hI (by omega)) fun v76 H76 d76 f76 hI76 r76 hp76 => ?_
      replace r76 : zI K T H76 v76 d76 := r76
      replace r_tape := Mo.fr (Fr.mono f76 (fun b hb => (hW b hb))) r_tape
      replace r_size := Mo.fr (Fr.mono f76 (fun b hb => (hW b hb))) r_size
      replace r_many := Mo.fr (Fr.mono f76 (fun b hb => (hW b hb))) r_many
      replace r73 := Mo.fr (Fr.mono f76 (fun b hb => (hW b hb))) r73
      replace r74 := Mo.fr (Fr.mono f76 (fun b hb => (hW b hb))) r74
      replace r75 := Mo.fr (Fr.mono f76 (fun b hb => (hW b hb))) r75
      replace hT := hT.fr f76
      replace ea := ea.trans f76
      replace hI := hI76
      have hp76 : 0 ≤ d76 ∧ d76 < (4 : Int) := hp76
      refine of_op ?_
      refine x_run (K := K) (T := T) (ev_add (ev_var (i := 0) rfl r73) (ev_var (i := 1) rfl r76)) fun v77 H77 e77 r77 => ?_
      replace r_tape := Mo.fr e77.fr r_tape
      replace r_size := Mo.fr e77.fr r_size
      replace r_many := Mo.fr e77.fr r_many
      replace r73 := Mo.fr e77.fr r73
      replace r74 := Mo.fr e77.fr r74
      replace r75 := Mo.fr e77.fr r75
      replace r76 := Mo.fr e77.fr r76
      replace hT := hT.ex e77
      replace ea := ea.trans (Ex.fr e77)
      replace hI := Re.ex (re_tape (d := p_tape)) hI e77
      have h_size_0 := hp76
      replace r_size := r77
      first | refine nx_ ?_ | skip
      refine asg_open ?_
      refine op_open ?_
      refine x_run (K := K) (T := T) ev_int fun v79 H79 e79 r79 => ?_
      replace r_tape := Mo.fr e79.fr r_tape
      replace r_size := Mo.fr e79.fr r_size
      replace r_many := Mo.fr e79.fr r_many
      replace hT := hT.ex e79
      replace ea := ea.trans (Ex.fr e79)
      replace hI := Re.ex (re_tape (d := p_tape)) hI e79
      refine call_open ?_
      refine cons_open ?_
      refine x_run (K := K) (T := T) (ev_var (i := 0) rfl r_tape) fun v80 H80 e80 r80 => ?_
      replace r_tape := Mo.fr e80.fr r_tape
      replace r_size := Mo.fr e80.fr r_size
      replace r_many := Mo.fr e80.fr r_many
      replace r79 := Mo.fr e80.fr r79
      replace hT := hT.ex e80
      replace ea := ea.trans (Ex.fr e80)
      replace hI := Re.ex (re_tape (d := p_tape)) hI e80
      refine cons_open ?_
      refine x_run (K := K) (T := T) ev_int fun v81 H81 e81 r81 => ?_
      replace r_tape := Mo.fr e81.fr r_tape
      replace r_size := Mo.fr e81.fr r_size
      replace r_many := Mo.fr e81.fr r_many
      replace r79 := Mo.fr e81.fr r79
      replace r80 := Mo.fr e81.fr r80
      replace hT := hT.ex e81
      replace ea := ea.trans (Ex.fr e81)
      replace hI := Re.ex (re_tape (d := p_tape)) hI e81
      refine nil_open ?_
      refine ncall_v (T := T) (b := (p_tape, (3 : Int), ())) (n := n + 1995) hT (fun b hb => (hW b hb)) ⟨_, _, rfl, r80, ⟨_, _, rfl, r81, rfl⟩⟩ (show 0 < (3 : Int) ∧ (3 : Int) < 1073741824 from (by first | walk_at "ob" | (have h1 := hinv.2 _ h_row_1; omega) | (refine ⟨rfl, fun w hw => ?_⟩; simp only [List.mem_singleton] at hw; subst hw; omega) | (have h1 := hinv.2 _ h_row_1; refine ⟨by (simp only [List.length_append, List.length_cons, List.length_nil]; omega), fun w hw => ?_⟩; (rcases List.mem_append.mp hw with hw | hw); exact hinv.2 w hw; (simp only [List.mem_singleton] at hw; subst hw; rw [List.length_append]; omega)) | (simp only [rng_len] at *; refine ⟨_, ?_, fun h => ?_, ?_, hinv.2⟩; omega; (have h1 := hinv.1; simp only [h, List.length_nil] at h1; omega); omega) | walk_at "ob1" | walk_at "ob2")) (Re.cut (re_tape (d := p_tape)) hI (by omega)) fun v82 H82 d82 f82 hI82 r82 hp82 => ?_
      replace r82 : zI K T H82 v82 d82 := r82
      replace r_tape := Mo.fr (Fr.mono f82 (fun b hb => (hW b hb))) r_tape
      replace r_size := Mo.fr (Fr.mono f82 (fun b hb => (hW b hb))) r_size
      replace r_many := Mo.fr (Fr.mono f82 (fun b hb => (hW b hb))) r_many
      replace r79 := Mo.fr (Fr.mono f82 (fun b hb => (hW b hb))) r79
      replace r80 := Mo.fr (Fr.mono f82 (fun b hb => (hW b hb))) r80
      replace r81 := Mo.fr (Fr.mono f82 (fun b hb => (hW b hb))) r81
      replace hT := hT.fr f82
      replace ea := ea.trans f82
      replace hI := hI82
      have hp82 : 0 ≤ d82 ∧ d82 < (3 : Int) := hp82
      refine of_op ?_
      refine x_run (K := K) (T := T) (ev_add (ev_var (i := 0) rfl r79) (ev_var (i := 1) rfl r82)) fun v83 H83 e83 r83 => ?_
      replace r_tape := Mo.fr e83.fr r_tape
      replace r_size := Mo.fr e83.fr r_size
      replace r_many := Mo.fr e83.fr r_many
      replace r79 := Mo.fr e83.fr r79
      replace r80 := Mo.fr e83.fr r80
      replace r81 := Mo.fr e83.fr r81
      replace r82 := Mo.fr e83.fr r82
      replace hT := hT.ex e83
      replace ea := ea.trans (Ex.fr e83)
      replace hI := Re.ex (re_tape (d := p_tape)) hI e83
      have h_many_0 := hp82
      replace r_many := r83
      first | refine nx_ ?_ | skip
      refine ifs_open ?_
      refine test_open ?_
      refine op_open ?_
      refine call_open ?_
      refine cons_open ?_
      refine x_run (K := K) (T := T) (ev_var (i := 0) rfl r_tape) fun v85 H85 e85 r85 => ?_
      replace r_tape := Mo.fr e85.fr r_tape
      replace r_size := Mo.fr e85.fr r_size
      replace r_many := Mo.fr e85.fr r_many
      replace hT := hT.ex e85
      replace ea := ea.trans (Ex.fr e85)
      replace hI := Re.ex (re_tape (d := p_tape)) hI e85
      refine cons_open ?_
      refine x_run (K := K) (T := T) ev_int fun v86 H86 e86 r86 => ?_
      replace r_tape := Mo.fr e86.fr r_tape
      replace r_size := Mo.fr e86.fr r_size
      replace r_many := Mo.fr e86.fr r_many
      replace r85 := Mo.fr e86.fr r85
      replace hT := hT.ex e86
      replace ea := ea.trans (Ex.fr e86)
      replace hI := Re.ex (re_tape (d := p_tape)) hI e86
      refine nil_open ?_
      refine ncall_v (T := T) (b := (p_tape, (8 : Int), ())) (n := n + 1994) hT (fun b hb => (hW b hb)) ⟨_, _, rfl, r85, ⟨_, _, rfl, r86, rfl⟩⟩ (show 0 < (8 : Int) ∧ (8 : Int) < 1073741824 from (by first | walk_at "ob" | (have h1 := hinv.2 _ h_row_1; omega) | (refine ⟨rfl, fun w hw => ?_⟩; simp only [List.mem_singleton] at hw; subst hw; omega) | (have h1 := hinv.2 _ h_row_1; refine ⟨by (simp only [List.length_append, List.length_cons, List.length_nil]; omega), fun w hw => ?_⟩; (rcases List.mem_append.mp hw with hw | hw); exact hinv.2 w hw; (simp only [List.mem_singleton] at hw; subst hw; rw [List.length_append]; omega)) | (simp only [rng_len] at *; refine ⟨_, ?_, fun h => ?_, ?_, hinv.2⟩; omega; (have h1 := hinv.1; simp only [h, List.length_nil] at h1; omega); omega) | walk_at "ob1" | walk_at "ob2")) (Re.cut (re_tape (d := p_tape)) hI (by omega)) fun v87 H87 d87 f87 hI87 r87 hp87 => ?_
      replace r87 : zI K T H87 v87 d87 := r87
      replace r_tape := Mo.fr (Fr.mono f87 (fun b hb => (hW b hb))) r_tape
      replace r_size := Mo.fr (Fr.mono f87 (fun b hb => (hW b hb))) r_size
      replace r_many := Mo.fr (Fr.mono f87 (fun b hb => (hW b hb))) r_many
      replace r85 := Mo.fr (Fr.mono f87 (fun b hb => (hW b hb))) r85
      replace r86 := Mo.fr (Fr.mono f87 (fun b hb => (hW b hb))) r86
      replace hT := hT.fr f87
      replace ea := ea.trans f87
      replace hI := hI87
      have hp87 : 0 ≤ d87 ∧ d87 < (8 : Int) := hp87
      refine x_run (K := K) (T := T) ev_int fun v88 H88 e88 r88 => ?_
      replace r_tape := Mo.fr e88.fr r_tape
      replace r_size := Mo.fr e88.fr r_size
      replace r_many := Mo.fr e88.fr r_many
      replace r85 := Mo.fr e88.fr r85
      replace r86 := Mo.fr e88.fr r86
      replace r87 := Mo.fr e88.fr r87
      replace hT := hT.ex e88
      replace ea := ea.trans (Ex.fr e88)
      replace hI := Re.ex (re_tape (d := p_tape)) hI e88
      refine of_op ?_
      refine x_run (K := K) (T := T) (ev_eqI (ev_var (i := 0) rfl r87) (ev_var (i := 1) rfl r88)) fun v89 H89 e89 r89 => ?_
      replace r_tape := Mo.fr e89.fr r_tape
      replace r_size := Mo.fr e89.fr r_size
      replace r_many := Mo.fr e89.fr r_many
      replace r85 := Mo.fr e89.fr r85
      replace r86 := Mo.fr e89.fr r86
      replace r87 := Mo.fr e89.fr r87
      replace r88 := Mo.fr e89.fr r88
      replace hT := hT.ex e89
      replace ea := ea.trans (Ex.fr e89)
      replace hI := Re.ex (re_tape (d := p_tape)) hI e89
      refine ⟨_, r89, ?_⟩
      refine iteB (fun h90 => ?_) (fun h90 => ?_)
      · have h90 : (decide (d87 = (0 : Int))) = true := h90
        first | refine nx_ ?_ | skip
        refine asg_open ?_
        refine op_open ?_
        refine x_run (K := K) (T := T) ev_int fun v92 H92 e92 r92 => ?_
        replace r_tape := Mo.fr e92.fr r_tape
        replace r_size := Mo.fr e92.fr r_size
        replace r_many := Mo.fr e92.fr r_many
        replace hT := hT.ex e92
        replace ea := ea.trans (Ex.fr e92)
        replace hI := Re.ex (re_tape (d := p_tape)) hI e92
        refine call_open ?_
        refine cons_open ?_
        refine x_run (K := K) (T := T) (ev_var (i := 0) rfl r_tape) fun v93 H93 e93 r93 => ?_
        replace r_tape := Mo.fr e93.fr r_tape
        replace r_size := Mo.fr e93.fr r_size
        replace r_many := Mo.fr e93.fr r_many
        replace r92 := Mo.fr e93.fr r92
        replace hT := hT.ex e93
        replace ea := ea.trans (Ex.fr e93)
        replace hI := Re.ex (re_tape (d := p_tape)) hI e93
        refine cons_open ?_
        refine x_run (K := K) (T := T) ev_int fun v94 H94 e94 r94 => ?_
        replace r_tape := Mo.fr e94.fr r_tape
        replace r_size := Mo.fr e94.fr r_size
        replace r_many := Mo.fr e94.fr r_many
        replace r92 := Mo.fr e94.fr r92
        replace r93 := Mo.fr e94.fr r93
        replace hT := hT.ex e94
        replace ea := ea.trans (Ex.fr e94)
        replace hI := Re.ex (re_tape (d := p_tape)) hI e94
        refine nil_open ?_
        refine ncall_v (T := T) (b := (p_tape, (12 : Int), ())) (n := n + 1993) hT (fun b hb => (hW b hb)) ⟨_, _, rfl, r93, ⟨_, _, rfl, r94, rfl⟩⟩ (show 0 < (12 : Int) ∧ (12 : Int) < 1073741824 from (by first | walk_at "ob" | (have h1 := hinv.2 _ h_row_1; omega) | (refine ⟨rfl, fun w hw => ?_⟩; simp only [List.mem_singleton] at hw; subst hw; omega) | (have h1 := hinv.2 _ h_row_1; refine ⟨by (simp only [List.length_append, List.length_cons, List.length_nil]; omega), fun w hw => ?_⟩; (rcases List.mem_append.mp hw with hw | hw); exact hinv.2 w hw; (simp only [List.mem_singleton] at hw; subst hw; rw [List.length_append]; omega)) | (simp only [rng_len] at *; refine ⟨_, ?_, fun h => ?_, ?_, hinv.2⟩; omega; (have h1 := hinv.1; simp only [h, List.length_nil] at h1; omega); omega) | walk_at "ob1" | walk_at "ob2")) (Re.cut (re_tape (d := p_tape)) hI (by omega)) fun v95 H95 d95 f95 hI95 r95 hp95 => ?_
        replace r95 : zI K T H95 v95 d95 := r95
        replace r_tape := Mo.fr (Fr.mono f95 (fun b hb => (hW b hb))) r_tape
        replace r_size := Mo.fr (Fr.mono f95 (fun b hb => (hW b hb))) r_size
        replace r_many := Mo.fr (Fr.mono f95 (fun b hb => (hW b hb))) r_many
        replace r92 := Mo.fr (Fr.mono f95 (fun b hb => (hW b hb))) r92
        replace r93 := Mo.fr (Fr.mono f95 (fun b hb => (hW b hb))) r93
        replace r94 := Mo.fr (Fr.mono f95 (fun b hb => (hW b hb))) r94
        replace hT := hT.fr f95
        replace ea := ea.trans f95
        replace hI := hI95
        have hp95 : 0 ≤ d95 ∧ d95 < (12 : Int) := hp95
        refine of_op ?_
        refine x_run (K := K) (T := T) (ev_add (ev_var (i := 0) rfl r92) (ev_var (i := 1) rfl r95)) fun v96 H96 e96 r96 => ?_
        replace r_tape := Mo.fr e96.fr r_tape
        replace r_size := Mo.fr e96.fr r_size
        replace r_many := Mo.fr e96.fr r_many
        replace r92 := Mo.fr e96.fr r92
        replace r93 := Mo.fr e96.fr r93
        replace r94 := Mo.fr e96.fr r94
        replace r95 := Mo.fr e96.fr r95
        replace hT := hT.ex e96
        replace ea := ea.trans (Ex.fr e96)
        replace hI := Re.ex (re_tape (d := p_tape)) hI e96
        have h_many_0 := hp95
        replace r_many := r96
        first | refine nx_ ?_ | skip
        refine st_asg (K := K) (T := T) (ev_min2 (ev_var (i := 1) rfl r_size) ev_int) fun v97 H97 e97 rr97 => ?_
        replace r_tape := Mo.fr e97.fr r_tape
        replace r_many := Mo.fr e97.fr r_many
        replace hT := hT.ex e97
        replace ea := ea.trans (Ex.fr e97)
        replace hI := Re.ex (re_tape (d := p_tape)) hI e97
        replace r_size := rr97
        have hmm98 := mn2_spec ((5 : Int) + d76) (5 : Int)
        first | refine nx_ ?_ | skip
        refine asg_open ?_
        refine lst_open ?_
        refine cons_open ?_
        refine call_open ?_
        refine cons_open ?_
        refine x_run (K := K) (T := T) (ev_var (i := 0) rfl r_tape) fun v100 H100 e100 r100 => ?_
        replace r_tape := Mo.fr e100.fr r_tape
        replace r_many := Mo.fr e100.fr r_many
        replace r_size := Mo.fr e100.fr r_size
        replace hT := hT.ex e100
        replace ea := ea.trans (Ex.fr e100)
        replace hI := Re.ex (re_tape (d := p_tape)) hI e100
        refine cons_open ?_
        refine x_run (K := K) (T := T) (ev_var (i := 1) rfl r_size) fun v101 H101 e101 r101 => ?_
        replace r_tape := Mo.fr e101.fr r_tape
        replace r_many := Mo.fr e101.fr r_many
        replace r_size := Mo.fr e101.fr r_size
        replace r100 := Mo.fr e101.fr r100
        replace hT := hT.ex e101
        replace ea := ea.trans (Ex.fr e101)
        replace hI := Re.ex (re_tape (d := p_tape)) hI e101
        refine nil_open ?_
        refine ncall_v (T := T) (b := (p_tape, (mn2 ((5 : Int) + d76) (5 : Int)), ())) (n := n + 1893) hT (fun b hb => (hW b hb)) ⟨_, _, rfl, r100, ⟨_, _, rfl, r101, rfl⟩⟩ (show 0 ≤ (mn2 ((5 : Int) + d76) (5 : Int)) ∧ (mn2 ((5 : Int) + d76) (5 : Int)) ≤ 50 from (by first | walk_at "ob" | (have h1 := hinv.2 _ h_row_1; omega) | (refine ⟨rfl, fun w hw => ?_⟩; simp only [List.mem_singleton] at hw; subst hw; omega) | (have h1 := hinv.2 _ h_row_1; refine ⟨by (simp only [List.length_append, List.length_cons, List.length_nil]; omega), fun w hw => ?_⟩; (rcases List.mem_append.mp hw with hw | hw); exact hinv.2 w hw; (simp only [List.mem_singleton] at hw; subst hw; rw [List.length_append]; omega)) | (simp only [rng_len] at *; refine ⟨_, ?_, fun h => ?_, ?_, hinv.2⟩; omega; (have h1 := hinv.1; simp only [h, List.length_nil] at h1; omega); omega) | walk_at "ob1" | walk_at "ob2")) (Re.cut (re_tape (d := p_tape)) hI (by omega)) fun v102 H102 d102 f102 hI102 r102 hp102 => ?_
        replace r102 : zW K T H102 v102 d102 := r102
        replace r_tape := Mo.fr (Fr.mono f102 (fun b hb => (hW b hb))) r_tape
        replace r_many := Mo.fr (Fr.mono f102 (fun b hb => (hW b hb))) r_many
        replace r_size := Mo.fr (Fr.mono f102 (fun b hb => (hW b hb))) r_size
        replace r100 := Mo.fr (Fr.mono f102 (fun b hb => (hW b hb))) r100
        replace r101 := Mo.fr (Fr.mono f102 (fun b hb => (hW b hb))) r101
        replace hT := hT.fr f102
        replace ea := ea.trans f102
        replace hI := hI102
        have hp102 : (d102.length : Int) = (mn2 ((5 : Int) + d76) (5 : Int)) := hp102
        refine nil_open ?_
        refine ⟨(by rw [sizeLine_eq]; simp), fun p99 n99 => ?_⟩
        obtain ⟨f99, en99, m_rows⟩ := hm_new (K := K) (T := T) (r := zW) (xs := [d102]) n99 (.cons r102 .nil)
        generalize upd H102 p99 (HO.lst [v102]) = H99 at f99 en99 m_rows ⊢
        have hn_p99 : ¬ T p99 := fun z => (hT.new n99) z
        replace r_tape := Mo.fr en99.fr (Mo.lift n99 r_tape)
        replace r_many := Mo.fr en99.fr (Mo.lift n99 r_many)
        replace r_size := Mo.fr en99.fr (Mo.lift n99 r_size)
        replace hT := hT.of_mem (S := T0) en99.fr m_rows.dom
        have h0_p99 := ea.back n99
        replace ea := ea.trans (Ex.fr en99)
        replace hI := Re.ex (re_tape (d := p_tape)) hI en99
        first | refine nx_ ?_ | skip
        refine st_for (K := K) (T := (Tp T p99)) hT (ei_range (ea_cons (ev_sub (ev_var (i := 2) rfl r_many) ev_int) ea_nil) (by first | walk_at "ob" | (have h1 := hinv.2 _ h_row_1; omega) | (refine ⟨rfl, fun w hw => ?_⟩; simp only [List.mem_singleton] at hw; subst hw; omega) | (have h1 := hinv.2 _ h_row_1; refine ⟨by (simp only [List.length_append, List.length_cons, List.length_nil]; omega), fun w hw => ?_⟩; (rcases List.mem_append.mp hw with hw | hw); exact hinv.2 w hw; (simp only [List.mem_singleton] at hw; subst hw; rw [List.length_append]; omega)) | (simp only [rng_len] at *; refine ⟨_, ?_, fun h => ?_, ?_, hinv.2⟩; omega; (have h1 := hinv.1; simp only [h, List.length_nil] at h1; omega); omega) | walk_at "ob1" | walk_at "ob2") (by first | walk_at "ob" | (have h1 := hinv.2 _ h_row_1; omega) | (refine ⟨rfl, fun w hw => ?_⟩; simp only [List.mem_singleton] at hw; subst hw; omega) | (have h1 := hinv.2 _ h_row_1; refine ⟨by (simp only [List.length_append, List.length_cons, List.length_nil]; omega), fun w hw => ?_⟩; (rcases List.mem_append.mp hw with hw | hw); exact hinv.2 w hw; (simp only [List.mem_singleton] at hw; subst hw; rw [List.length_append]; omega)) | (simp only [rng_len] at *; refine ⟨_, ?_, fun h => ?_, ?_, hinv.2⟩; omega; (have h1 := hinv.1; simp only [h, List.length_nil] at h1; omega); omega) | walk_at "ob1" | walk_at "ob2")) fun H103 e103 => ?_
        replace r_tape := Mo.fr e103.fr r_tape
        replace r_many := Mo.fr e103.fr r_many
        replace r_size := Mo.fr e103.fr r_size
        replace m_rows := m_rows.ex' e103
        replace hT := hT.ex e103
        replace ea := ea.trans (Ex.fr e103)
        replace hI := Re.ex (re_tape (d := p_tape)) hI e103
        have hN103 : ((rng 0 ((((1 : Int) + d95) - (1 : Int))).toNat)).length ≤ 11 := (by first | walk_at "ob" | (have h1 := hinv.2 _ h_row_1; omega) | (refine ⟨rfl, fun w hw => ?_⟩; simp only [List.mem_singleton] at hw; subst hw; omega) | (have h1 := hinv.2 _ h_row_1; refine ⟨by (simp only [List.length_append, List.length_cons, List.length_nil]; omega), fun w hw => ?_⟩; (rcases List.mem_append.mp hw with hw | hw); exact hinv.2 w hw; (simp only [List.mem_singleton] at hw; subst hw; rw [List.length_append]; omega)) | (simp only [rng_len] at *; refine ⟨_, ?_, fun h => ?_, ?_, hinv.2⟩; omega; (have h1 := hinv.1; simp only [h, List.length_nil] at h1; omega); omega) | walk_at "ob1" | walk_at "ob2")
        obtain ⟨Pv103, hPv103⟩ : ∃ Pv : Nat → L2.St → Hp → Prop, ∀ i σ' H', Pv i σ' H' ↔ (∃ (si : (List (List Bool))), ((si).length = 1 + i ∧ ∀ w ∈ si, (w.length : Int) = (mn2 ((5 : Int) + d76) (5 : Int))) ∧ Fr (Tp (WTp p_tape) p99) H103 H' ∧ ∃ (y_row : Option V) (y_at : Option V) (y_k : Option V), σ' = [some v_tape, some v97, some v96, some (.ref p99), y_k, y_row, y_at] ∧ HM zW K (Tp T p99) H' p99 si ∧ (TpI p_tape) (n + (771 + (11 - i) * 102)) H') := ⟨_, fun _ _ _ => Iff.rfl⟩
        refine ⟨Pv103, (hPv103 _ _ _).mpr ⟨([d102] : (List (List Bool))), (by first | walk_at "inv" | walk_at "ob" | (have h1 := hinv.2 _ h_row_1; omega) | (refine ⟨rfl, fun w hw => ?_⟩; simp only [List.mem_singleton] at hw; subst hw; omega) | (have h1 := hinv.2 _ h_row_1; refine ⟨by (simp only [List.length_append, List.length_cons, List.length_nil]; omega), fun w hw => ?_⟩; (rcases List.mem_append.mp hw with hw | hw); exact hinv.2 w hw; (simp only [List.mem_singleton] at hw; subst hw; rw [List.length_append]; omega)) | (simp only [rng_len] at *; refine ⟨_, ?_, fun h => ?_, ?_, hinv.2⟩; omega; (have h1 := hinv.1; simp only [h, List.length_nil] at h1; omega); omega) | (dsimp only; first | walk_at "inv" | walk_at "ob" | (have h1 := hinv.2 _ h_row_1; omega) | (refine ⟨rfl, fun w hw => ?_⟩; simp only [List.mem_singleton] at hw; subst hw; omega) | (have h1 := hinv.2 _ h_row_1; refine ⟨by (simp only [List.length_append, List.length_cons, List.length_nil]; omega), fun w hw => ?_⟩; (rcases List.mem_append.mp hw with hw | hw); exact hinv.2 w hw; (simp only [List.mem_singleton] at hw; subst hw; rw [List.length_append]; omega)) | (simp only [rng_len] at *; refine ⟨_, ?_, fun h => ?_, ?_, hinv.2⟩; omega; (have h1 := hinv.1; simp only [h, List.length_nil] at h1; omega); omega)) | walk_at "ob1" | walk_at "ob2"), Fr.refl _, _, _, _, rfl, m_rows, (Re.cut (re_tape (d := p_tape)) hI (by omega))⟩, fun i σ' H' _ h => ?_, ?_, ?_⟩
        · obtain ⟨si, _, hF, _⟩ := (hPv103 _ _ _).mp h
          exact hF.mono (fun b hb => hb.elim (fun z => .inl (hW _ z)) .inr)
        · intro i x103 σ' H'103 v103 H''103 hx103 hh eY rv103
          obtain ⟨si103, hinv103, hF103, y_row, y_at, y_k, rfl, m'_rows, i'_R0⟩ := (hPv103 _ _ _).mp hh
          have hinv103 : (si103).length = 1 + i ∧ ∀ w ∈ si103, (w.length : Int) = (mn2 ((5 : Int) + d76) (5 : Int)) := hinv103
          have hinv := hinv103
          have hmem103 := List.mem_of_getElem? hx103
          have hi103 := (List.getElem?_eq_some_iff.mp hx103).1
          replace r_tape := Mo.fr ((hF103.mono (fun b hb => hb.elim (fun z => .inl (hW _ z)) .inr)).trans eY.fr) r_tape
          replace r_many := Mo.fr ((hF103.mono (fun b hb => hb.elim (fun z => .inl (hW _ z)) .inr)).trans eY.fr) r_many
          replace r_size := Mo.fr ((hF103.mono (fun b hb => hb.elim (fun z => .inl (hW _ z)) .inr)).trans eY.fr) r_size
          replace m_rows := m'_rows.ex' eY
          replace hT := (hT.fr hF103).ex eY
          replace hI : (TpI p_tape) ((n + (771 + (11 - (i + 1)) * 102)) + 102) H''103 := Re.cut (re_tape (d := p_tape)) (Re.ex (re_tape (d := p_tape)) i'_R0 eY) (by omega)
          replace ea := (ea.thenFr hF103 (fun b hb => hb.elim (fun z => .inl z) (fun z => by subst z; exact .inr h0_p99))).trans eY.fr
          replace eb103 := hF103.trans (Ex.fr (T := (Tp (WTp p_tape) p99)) eY)
          refine gn ?_
          replace r_k := rv103
          first | refine nx_ ?_ | skip
          refine asg_open ?_
          refine op_open ?_
          refine x_run (K := K) (T := (Tp T p99)) (ev_var (i := 3) (r := zA) (v := .ref p99) (d := p99) rfl rfl) fun v105 H105 e105 r105 => ?_
          cases r105
          replace r_tape := Mo.fr e105.fr r_tape
          replace r_many := Mo.fr e105.fr r_many
          replace r_size := Mo.fr e105.fr r_size
          replace r_k := Mo.fr e105.fr r_k
          replace m_rows := m_rows.ex' e105
          replace hT := hT.ex e105
          replace ea := ea.trans (Ex.fr e105)
          replace hI := Re.ex (re_tape (d := p_tape)) hI e105
          replace eb103 := eb103.trans e105.fr
          refine call_open ?_
          refine cons_open ?_
          refine x_run (K := K) (T := (Tp T p99)) (ev_var (i := 0) rfl r_tape) fun v106 H106 e106 r106 => ?_
          replace r_tape := Mo.fr e106.fr r_tape
          replace r_many := Mo.fr e106.fr r_many
          replace r_size := Mo.fr e106.fr r_size
          replace r_k := Mo.fr e106.fr r_k
          replace m_rows := m_rows.ex' e106
          replace hT := hT.ex e106
          replace ea := ea.trans (Ex.fr e106)
          replace hI := Re.ex (re_tape (d := p_tape)) hI e106
          replace eb103 := eb103.trans e106.fr
          refine cons_open ?_
          refine x_run (K := K) (T := T) (ev_lenL (ev_var (i := 3) rfl (m_rows.done (T' := T) (fun b hb => (.inl hb)) (fun z => (hn_p99 z))))) fun v107 H107 e107 r107 => ?_
          replace r_tape := Mo.fr e107.fr r_tape
          replace r_many := Mo.fr e107.fr r_many
          replace r_size := Mo.fr e107.fr r_size
          replace r_k := Mo.fr e107.fr r_k
          replace r106 := Mo.fr e107.fr r106
          replace m_rows := m_rows.ex' e107
          replace hT := hT.ex e107
          replace ea := ea.trans (Ex.fr e107)
          replace hI := Re.ex (re_tape (d := p_tape)) hI e107
          replace eb103 := eb103.trans e107.fr
          replace r107 : zI K (Tp T p99) H107 v107 _ := r107
          refine nil_open ?_
          refine ncall_v (T := (Tp T p99)) (b := (p_tape, ((si103).length : Int), ())) (n := (n + (771 + (11 - (i + 1)) * 102)) + 101) hT (fun b hb => (.inl (hW b hb))) ⟨_, _, rfl, r106, ⟨_, _, rfl, r107, rfl⟩⟩ (show 0 < ((si103).length : Int) ∧ ((si103).length : Int) < 1073741824 from (by first | walk_at "ob" | (have h1 := hinv.2 _ h_row_1; omega) | (refine ⟨rfl, fun w hw => ?_⟩; simp only [List.mem_singleton] at hw; subst hw; omega) | (have h1 := hinv.2 _ h_row_1; refine ⟨by (simp only [List.length_append, List.length_cons, List.length_nil]; omega), fun w hw => ?_⟩; (rcases List.mem_append.mp hw with hw | hw); exact hinv.2 w hw; (simp only [List.mem_singleton] at hw; subst hw; rw [List.length_append]; omega)) | (simp only [rng_len] at *; refine ⟨_, ?_, fun h => ?_, ?_, hinv.2⟩; omega; (have h1 := hinv.1; simp only [h, List.length_nil] at h1; omega); omega) | walk_at "ob1" | walk_at "ob2")) (Re.cut (re_tape (d := p_tape)) hI (by omega)) fun v108 H108 d108 f108 hI108 r108 hp108 => ?_
          replace r108 : zI K (Tp T p99) H108 v108 d108 := r108
          replace r_tape := Mo.fr (Fr.mono f108 (fun b hb => (.inl (hW b hb)))) r_tape
          replace r_many := Mo.fr (Fr.mono f108 (fun b hb => (.inl (hW b hb)))) r_many
          replace r_size := Mo.fr (Fr.mono f108 (fun b hb => (.inl (hW b hb)))) r_size
          replace r_k := Mo.fr (Fr.mono f108 (fun b hb => (.inl (hW b hb)))) r_k
          replace r106 := Mo.fr (Fr.mono f108 (fun b hb => (.inl (hW b hb)))) r106
          replace r107 := Mo.fr (Fr.mono f108 (fun b hb => (.inl (hW b hb)))) r107
          replace m_rows := m_rows.fr f108 (fun z => hn_p99 (hW _ z)) (fun b hb => (.inl (hW b hb)))
          replace hT := hT.fr f108
          replace ea := ea.trans f108
          replace eb103 := eb103.trans (f108.mono fun b hb => (.inl hb))
          replace hI := hI108
          have hp108 : 0 ≤ d108 ∧ d108 < ((si103).length : Int) := hp108
          refine of_op ?_
          refine x_run (K := K) (T := T) (ev_ixL (ev_var (i := 0) rfl (m_rows.done (T' := T) (fun b hb => (.inl hb)) (fun z => (hn_p99 z)))) (ev_var (i := 1) rfl (Mo.sub (T' := T) (fun b hb => (.inl hb)) r108)) (at_get (d0 := []) (by first | walk_at "ob" | (have h1 := hinv.2 _ h_row_1; omega) | (refine ⟨rfl, fun w hw => ?_⟩; simp only [List.mem_singleton] at hw; subst hw; omega) | (have h1 := hinv.2 _ h_row_1; refine ⟨by (simp only [List.length_append, List.length_cons, List.length_nil]; omega), fun w hw => ?_⟩; (rcases List.mem_append.mp hw with hw | hw); exact hinv.2 w hw; (simp only [List.mem_singleton] at hw; subst hw; rw [List.length_append]; omega)) | (simp only [rng_len] at *; refine ⟨_, ?_, fun h => ?_, ?_, hinv.2⟩; omega; (have h1 := hinv.1; simp only [h, List.length_nil] at h1; omega); omega) | walk_at "ob1" | walk_at "ob2") (by first | walk_at "ob" | (have h1 := hinv.2 _ h_row_1; omega) | (refine ⟨rfl, fun w hw => ?_⟩; simp only [List.mem_singleton] at hw; subst hw; omega) | (have h1 := hinv.2 _ h_row_1; refine ⟨by (simp only [List.length_append, List.length_cons, List.length_nil]; omega), fun w hw => ?_⟩; (rcases List.mem_append.mp hw with hw | hw); exact hinv.2 w hw; (simp only [List.mem_singleton] at hw; subst hw; rw [List.length_append]; omega)) | (simp only [rng_len] at *; refine ⟨_, ?_, fun h => ?_, ?_, hinv.2⟩; omega; (have h1 := hinv.1; simp only [h, List.length_nil] at h1; omega); omega) | walk_at "ob1" | walk_at "ob2"))) fun v109 H109 e109 r109 => ?_
          replace r_tape := Mo.fr e109.fr r_tape
          replace r_many := Mo.fr e109.fr r_many
          replace r_size := Mo.fr e109.fr r_size
          replace r_k := Mo.fr e109.fr r_k
          replace r106 := Mo.fr e109.fr r106
          replace r107 := Mo.fr e109.fr r107
          replace r108 := Mo.fr e109.fr r108
          replace m_rows := m_rows.ex' e109
          replace hT := hT.ex e109
          replace ea := ea.trans (Ex.fr e109)
          replace hI := Re.ex (re_tape (d := p_tape)) hI e109
          replace eb103 := eb103.trans e109.fr
          replace r109 : zW K (Tp T p99) H109 v109 _ := r109
          have hm109 : ((si103).getD (d108).toNat []) ∈ si103 := getD_mem (by first | walk_at "ob" | (have h1 := hinv.2 _ h_row_1; omega) | (refine ⟨rfl, fun w hw => ?_⟩; simp only [List.mem_singleton] at hw; subst hw; omega) | (have h1 := hinv.2 _ h_row_1; refine ⟨by (simp only [List.length_append, List.length_cons, List.length_nil]; omega), fun w hw => ?_⟩; (rcases List.mem_append.mp hw with hw | hw); exact hinv.2 w hw; (simp only [List.mem_singleton] at hw; subst hw; rw [List.length_append]; omega)) | (simp only [rng_len] at *; refine ⟨_, ?_, fun h => ?_, ?_, hinv.2⟩; omega; (have h1 := hinv.1; simp only [h, List.length_nil] at h1; omega); omega) | walk_at "ob1" | walk_at "ob2") (by first | walk_at "ob" | (have h1 := hinv.2 _ h_row_1; omega) | (refine ⟨rfl, fun w hw => ?_⟩; simp only [List.mem_singleton] at hw; subst hw; omega) | (have h1 := hinv.2 _ h_row_1; refine ⟨by (simp only [List.length_append, List.length_cons, List.length_nil]; omega), fun w hw => ?_⟩; (rcases List.mem_append.mp hw with hw | hw); exact hinv.2 w hw; (simp only [List.mem_singleton] at hw; subst hw; rw [List.length_append]; omega)) | (simp only [rng_len] at *; refine ⟨_, ?_, fun h => ?_, ?_, hinv.2⟩; omega; (have h1 := hinv.1; simp only [h, List.length_nil] at h1; omega); omega) | walk_at "ob1" | walk_at "ob2")
          have h_row_0 := hp108
          have h_row_1 := hm109
          replace r_row := r109
          first | refine nx_ ?_ | skip
          refine asg_open ?_
          refine call_open ?_
          refine cons_open ?_
          refine x_run (K := K) (T := (Tp T p99)) (ev_var (i := 0) rfl r_tape) fun v111 H111 e111 r111 => ?_
          replace r_tape := Mo.fr e111.fr r_tape
          replace r_many := Mo.fr e111.fr r_many
          replace r_size := Mo.fr e111.fr r_size
          replace r_k := Mo.fr e111.fr r_k
          replace r_row := Mo.fr e111.fr r_row
          replace m_rows := m_rows.ex' e111
          replace hT := hT.ex e111
          replace ea := ea.trans (Ex.fr e111)
          replace hI := Re.ex (re_tape (d := p_tape)) hI e111
          replace eb103 := eb103.trans e111.fr
          refine cons_open ?_
          refine x_run (K := K) (T := (Tp T p99)) (ev_add (ev_var (i := 1) rfl r_size) ev_int) fun v112 H112 e112 r112 => ?_
          replace r_tape := Mo.fr e112.fr r_tape
          replace r_many := Mo.fr e112.fr r_many
          replace r_size := Mo.fr e112.fr r_size
          replace r_k := Mo.fr e112.fr r_k
          replace r_row := Mo.fr e112.fr r_row
          replace r111 := Mo.fr e112.fr r111
          replace m_rows := m_rows.ex' e112
          replace hT := hT.ex e112
          replace ea := ea.trans (Ex.fr e112)
          replace hI := Re.ex (re_tape (d := p_tape)) hI e112
          replace eb103 := eb103.trans e112.fr
          refine nil_open ?_
          refine ncall_v (T := (Tp T p99)) (b := (p_tape, ((mn2 ((5 : Int) + d76) (5 : Int)) + (1 : Int)), ())) (n := (n + (771 + (11 - (i + 1)) * 102)) + 100) hT (fun b hb => (.inl (hW b hb))) ⟨_, _, rfl, r111, ⟨_, _, rfl, r112, rfl⟩⟩ (show 0 < ((mn2 ((5 : Int) + d76) (5 : Int)) + (1 : Int)) ∧ ((mn2 ((5 : Int) + d76) (5 : Int)) + (1 : Int)) < 1073741824 from (by first | walk_at "ob" | (have h1 := hinv.2 _ h_row_1; omega) | (refine ⟨rfl, fun w hw => ?_⟩; simp only [List.mem_singleton] at hw; subst hw; omega) | (have h1 := hinv.2 _ h_row_1; refine ⟨by (simp only [List.length_append, List.length_cons, List.length_nil]; omega), fun w hw => ?_⟩; (rcases List.mem_append.mp hw with hw | hw); exact hinv.2 w hw; (simp only [List.mem_singleton] at hw; subst hw; rw [List.length_append]; omega)) | (simp only [rng_len] at *; refine ⟨_, ?_, fun h => ?_, ?_, hinv.2⟩; omega; (have h1 := hinv.1; simp only [h, List.length_nil] at h1; omega); omega) | walk_at "ob1" | walk_at "ob2")) (Re.cut (re_tape (d := p_tape)) hI (by omega)) fun v113 H113 d113 f113 hI113 r113 hp113 => ?_
          replace r113 : zI K (Tp T p99) H113 v113 d113 := r113
          replace r_tape := Mo.fr (Fr.mono f113 (fun b hb => (.inl (hW b hb)))) r_tape
          replace r_many := Mo.fr (Fr.mono f113 (fun b hb => (.inl (hW b hb)))) r_many
          replace r_size := Mo.fr (Fr.mono f113 (fun b hb => (.inl (hW b hb)))) r_size
          replace r_k := Mo.fr (Fr.mono f113 (fun b hb => (.inl (hW b hb)))) r_k
          replace r_row := Mo.fr (Fr.mono f113 (fun b hb => (.inl (hW b hb)))) r_row
          replace r111 := Mo.fr (Fr.mono f113 (fun b hb => (.inl (hW b hb)))) r111
          replace r112 := Mo.fr (Fr.mono f113 (fun b hb => (.inl (hW b hb)))) r112
          replace m_rows := m_rows.fr f113 (fun z => hn_p99 (hW _ z)) (fun b hb => (.inl (hW b hb)))
          replace hT := hT.fr f113
          replace ea := ea.trans f113
          replace eb103 := eb103.trans (f113.mono fun b hb => (.inl hb))
          replace hI := hI113
          have hp113 : 0 ≤ d113 ∧ d113 < ((mn2 ((5 : Int) + d76) (5 : Int)) + (1 : Int)) := hp113
          have h_at_0 := hp113
          replace r_at := r113
          first | refine nx_ ?_ | skip
          refine append_open (K := K) (T := (Tp T p99)) rfl m_rows ?_
          refine op_open ?_
          refine x_run (K := K) (T := (Tp T p99)) (ev_slW (ev_var (i := 5) rfl r_row) eo_none (eo_some (K := K) (ev_var (i := 6) rfl r_at))) fun v115 H115 e115 r115 => ?_
          replace r_tape := Mo.fr e115.fr r_tape
          replace r_many := Mo.fr e115.fr r_many
          replace r_size := Mo.fr e115.fr r_size
          replace r_k := Mo.fr e115.fr r_k
          replace r_row := Mo.fr e115.fr r_row
          replace r_at := Mo.fr e115.fr r_at
          replace m_rows := m_rows.ex' e115
          replace hT := hT.ex e115
          replace ea := ea.trans (Ex.fr e115)
          replace hI := Re.ex (re_tape (d := p_tape)) hI e115
          replace eb103 := eb103.trans e115.fr
          have hmm116 := cutA_up ((si103).getD (d108).toNat []) d113
          refine call_open ?_
          refine cons_open ?_
          refine x_run (K := K) (T := (Tp T p99)) (ev_var (i := 0) rfl r_tape) fun v117 H117 e117 r117 => ?_
          replace r_tape := Mo.fr e117.fr r_tape
          replace r_many := Mo.fr e117.fr r_many
          replace r_size := Mo.fr e117.fr r_size
          replace r_k := Mo.fr e117.fr r_k
          replace r_row := Mo.fr e117.fr r_row
          replace r_at := Mo.fr e117.fr r_at
          replace r115 := Mo.fr e117.fr r115
          replace m_rows := m_rows.ex' e117
          replace hT := hT.ex e117
          replace ea := ea.trans (Ex.fr e117)
          replace hI := Re.ex (re_tape (d := p_tape)) hI e117
          replace eb103 := eb103.trans e117.fr
          refine cons_open ?_
          refine x_run (K := K) (T := (Tp T p99)) (ev_sub (ev_var (i := 1) rfl r_size) (ev_var (i := 6) rfl r_at)) fun v118 H118 e118 r118 => ?_
          replace r_tape := Mo.fr e118.fr r_tape
          replace r_many := Mo.fr e118.fr r_many
          replace r_size := Mo.fr e118.fr r_size
          replace r_k := Mo.fr e118.fr r_k
          replace r_row := Mo.fr e118.fr r_row
          replace r_at := Mo.fr e118.fr r_at
          replace r115 := Mo.fr e118.fr r115
          replace r117 := Mo.fr e118.fr r117
          replace m_rows := m_rows.ex' e118
          replace hT := hT.ex e118
          replace ea := ea.trans (Ex.fr e118)
          replace hI := Re.ex (re_tape (d := p_tape)) hI e118
          replace eb103 := eb103.trans e118.fr
          refine nil_open ?_
          refine ncall_v (T := (Tp T p99)) (b := (p_tape, ((mn2 ((5 : Int) + d76) (5 : Int)) - d113), ())) (n := (n + (771 + (11 - (i + 1)) * 102)) + 0) hT (fun b hb => (.inl (hW b hb))) ⟨_, _, rfl, r117, ⟨_, _, rfl, r118, rfl⟩⟩ (show 0 ≤ ((mn2 ((5 : Int) + d76) (5 : Int)) - d113) ∧ ((mn2 ((5 : Int) + d76) (5 : Int)) - d113) ≤ 50 from (by first | walk_at "ob" | (have h1 := hinv.2 _ h_row_1; omega) | (refine ⟨rfl, fun w hw => ?_⟩; simp only [List.mem_singleton] at hw; subst hw; omega) | (have h1 := hinv.2 _ h_row_1; refine ⟨by (simp only [List.length_append, List.length_cons, List.length_nil]; omega), fun w hw => ?_⟩; (rcases List.mem_append.mp hw with hw | hw); exact hinv.2 w hw; (simp only [List.mem_singleton] at hw; subst hw; rw [List.length_append]; omega)) | (simp only [rng_len] at *; refine ⟨_, ?_, fun h => ?_, ?_, hinv.2⟩; omega; (have h1 := hinv.1; simp only [h, List.length_nil] at h1; omega); omega) | walk_at "ob1" | walk_at "ob2")) (Re.cut (re_tape (d := p_tape)) hI (by omega)) fun v119 H119 d119 f119 hI119 r119 hp119 => ?_
          replace r119 : zW K (Tp T p99) H119 v119 d119 := r119
          replace r_tape := Mo.fr (Fr.mono f119 (fun b hb => (.inl (hW b hb)))) r_tape
          replace r_many := Mo.fr (Fr.mono f119 (fun b hb => (.inl (hW b hb)))) r_many
          replace r_size := Mo.fr (Fr.mono f119 (fun b hb => (.inl (hW b hb)))) r_size
          replace r_k := Mo.fr (Fr.mono f119 (fun b hb => (.inl (hW b hb)))) r_k
          replace r_row := Mo.fr (Fr.mono f119 (fun b hb => (.inl (hW b hb)))) r_row
          replace r_at := Mo.fr (Fr.mono f119 (fun b hb => (.inl (hW b hb)))) r_at
          replace r115 := Mo.fr (Fr.mono f119 (fun b hb => (.inl (hW b hb)))) r115
          replace r117 := Mo.fr (Fr.mono f119 (fun b hb => (.inl (hW b hb)))) r117
          replace r118 := Mo.fr (Fr.mono f119 (fun b hb => (.inl (hW b hb)))) r118
          replace m_rows := m_rows.fr f119 (fun z => hn_p99 (hW _ z)) (fun b hb => (.inl (hW b hb)))
          replace hT := hT.fr f119
          replace ea := ea.trans f119
          replace eb103 := eb103.trans (f119.mono fun b hb => (.inl hb))
          replace hI := hI119
          have hp119 : (d119.length : Int) = ((mn2 ((5 : Int) + d76) (5 : Int)) - d113) := hp119
          refine of_op ?_
          refine x_run (K := K) (T := (Tp T p99)) (ev_catW (ev_var (i := 0) rfl r115) (ev_var (i := 1) rfl r119) (by first | walk_at "ob" | (have h1 := hinv.2 _ h_row_1; omega) | (refine ⟨rfl, fun w hw => ?_⟩; simp only [List.mem_singleton] at hw; subst hw; omega) | (have h1 := hinv.2 _ h_row_1; refine ⟨by (simp only [List.length_append, List.length_cons, List.length_nil]; omega), fun w hw => ?_⟩; (rcases List.mem_append.mp hw with hw | hw); exact hinv.2 w hw; (simp only [List.mem_singleton] at hw; subst hw; rw [List.length_append]; omega)) | (simp only [rng_len] at *; refine ⟨_, ?_, fun h => ?_, ?_, hinv.2⟩; omega; (have h1 := hinv.1; simp only [h, List.length_nil] at h1; omega); omega) | walk_at "ob1" | walk_at "ob2")) fun v120 H120 e120 r120 => ?_
          replace r_tape := Mo.fr e120.fr r_tape
          replace r_many := Mo.fr e120.fr r_many
          replace r_size := Mo.fr e120.fr r_size
          replace r_k := Mo.fr e120.fr r_k
          replace r_row := Mo.fr e120.fr r_row
          replace r_at := Mo.fr e120.fr r_at
          replace r115 := Mo.fr e120.fr r115
          replace r117 := Mo.fr e120.fr r117
          replace r118 := Mo.fr e120.fr r118
          replace r119 := Mo.fr e120.fr r119
          replace m_rows := m_rows.ex' e120
          replace hT := hT.ex e120
          replace ea := ea.trans (Ex.fr e120)
          replace hI := Re.ex (re_tape (d := p_tape)) hI e120
          replace eb103 := eb103.trans e120.fr
          refine append_v (K := K) (T := (Tp T p99)) (S := fun _ => False) m_rows r120 (by first | walk_at "ob" | (have h1 := hinv.2 _ h_row_1; omega) | (refine ⟨rfl, fun w hw => ?_⟩; simp only [List.mem_singleton] at hw; subst hw; omega) | (have h1 := hinv.2 _ h_row_1; refine ⟨by (simp only [List.length_append, List.length_cons, List.length_nil]; omega), fun w hw => ?_⟩; (rcases List.mem_append.mp hw with hw | hw); exact hinv.2 w hw; (simp only [List.mem_singleton] at hw; subst hw; rw [List.length_append]; omega)) | (simp only [rng_len] at *; refine ⟨_, ?_, fun h => ?_, ?_, hinv.2⟩; omega; (have h1 := hinv.1; simp only [h, List.length_nil] at h1; omega); omega) | walk_at "ob1" | walk_at "ob2") fun H121 v121 ev121 f121 fT121 m121 => ?_
          have e121 := Ex.refl H120
          have hpm121 := m_rows.mem
          have fp121 : Fr (fun b => b = p99) H120 H121 := f121.mono (fun b hb => hb.elim False.elim id)
          replace r_tape := Mo.fr fT121 r_tape
          replace r_many := Mo.fr fT121 r_many
          replace r_size := Mo.fr fT121 r_size
          replace r_k := Mo.fr fT121 r_k
          replace r_row := Mo.fr fT121 r_row
          replace r_at := Mo.fr fT121 r_at
          replace hT := hT.fr fT121
          replace ea := ea.thenFr fp121 (fun b hb => by subst hb; exact .inr h0_p99)
          replace hI := Re.fr (re_tape (d := p_tape)) hI fp121 (fun b hb z => hn_p99 (hW _ (z ▸ hb)))
          replace eb103 := eb103.thenFr fp121 (fun b hb => by subst hb; exact .inl (.inr rfl))
          replace m_rows := m121
          exact (hPv103 _ _ _).mpr ⟨(si103 ++ [((cutA ((si103).getD (d108).toNat []) none (some d113)) ++ d119)]), (by first | walk_at "inv" | walk_at "ob" | (have h1 := hinv.2 _ h_row_1; omega) | (refine ⟨rfl, fun w hw => ?_⟩; simp only [List.mem_singleton] at hw; subst hw; omega) | (have h1 := hinv.2 _ h_row_1; refine ⟨by (simp only [List.length_append, List.length_cons, List.length_nil]; omega), fun w hw => ?_⟩; (rcases List.mem_append.mp hw with hw | hw); exact hinv.2 w hw; (simp only [List.mem_singleton] at hw; subst hw; rw [List.length_append]; omega)) | (simp only [rng_len] at *; refine ⟨_, ?_, fun h => ?_, ?_, hinv.2⟩; omega; (have h1 := hinv.1; simp only [h, List.length_nil] at h1; omega); omega) | (dsimp only; first | walk_at "inv" | walk_at "ob" | (have h1 := hinv.2 _ h_row_1; omega) | (refine ⟨rfl, fun w hw => ?_⟩; simp only [List.mem_singleton] at hw; subst hw; omega) | (have h1 := hinv.2 _ h_row_1; refine ⟨by (simp only [List.length_append, List.length_cons, List.length_nil]; omega), fun w hw => ?_⟩; (rcases List.mem_append.mp hw with hw | hw); exact hinv.2 w hw; (simp only [List.mem_singleton] at hw; subst hw; rw [List.length_append]; omega)) | (simp only [rng_len] at *; refine ⟨_, ?_, fun h => ?_, ?_, hinv.2⟩; omega; (have h1 := hinv.1; simp only [h, List.length_nil] at h1; omega); omega)) | walk_at "ob1" | walk_at "ob2"), eb103, _, _, _, rfl, m_rows, (Re.cut (re_tape (d := p_tape)) hI (by omega))⟩
        · intro σ' H'103 hh
          obtain ⟨si103, hinv103, hF103, y_row, y_at, y_k, rfl, m'_rows, i'_R0⟩ := (hPv103 _ _ _).mp hh
          have hinv103 : (si103).length = 1 + ((rng 0 ((((1 : Int) + d95) - (1 : Int))).toNat)).length ∧ ∀ w ∈ si103, (w.length : Int) = (mn2 ((5 : Int) + d76) (5 : Int)) := hinv103
          have hinv := hinv103
          replace r_tape := Mo.fr (hF103.mono (fun b hb => hb.elim (fun z => .inl (hW _ z)) .inr)) r_tape
          replace r_many := Mo.fr (hF103.mono (fun b hb => hb.elim (fun z => .inl (hW _ z)) .inr)) r_many
          replace r_size := Mo.fr (hF103.mono (fun b hb => hb.elim (fun z => .inl (hW _ z)) .inr)) r_size
          replace m_rows := m'_rows
          replace hI : (TpI p_tape) (n + 771) H'103 := Re.cut (re_tape (d := p_tape)) i'_R0 (by omega)
          replace hT := hT.fr hF103
          replace ea := ea.thenFr hF103 (fun b hb => hb.elim (fun z => .inl z) (fun z => by subst z; exact .inr h0_p99))
          replace r_rows := m_rows.done (T' := T) (fun b hb => (.inl hb)) (fun z => (hn_p99 z))
          replace r_tape := Mo.sub (T' := T) (fun b hb => (.inl hb)) r_tape
          replace r_many := Mo.sub (T' := T) (fun b hb => (.inl hb)) r_many
          replace r_size := Mo.sub (T' := T) (fun b hb => (.inl hb)) r_size
          replace hT := hT.sub (T' := T) (fun b hb => (.inl hb))
          first | refine nx_ ?_ | skip
          exact st_ret (K := K) (T := T) (ev_var (i := 3) rfl r_rows) fun v H9 e r => hQ v H9 _ (ea.trans (Ex.fr e)) (Re.cut (re_tape (d := p_tape)) (Re.ex (re_tape (d := p_tape)) hI e) (by omega)) r (by first | walk_at "ob" | (have h1 := hinv.2 _ h_row_1; omega) | (refine ⟨rfl, fun w hw => ?_⟩; simp only [List.mem_singleton] at hw; subst hw; omega) | (have h1 := hinv.2 _ h_row_1; refine ⟨by (simp only [List.length_append, List.length_cons, List.length_nil]; omega), fun w hw => ?_⟩; (rcases List.mem_append.mp hw with hw | hw); exact hinv.2 w hw; (simp only [List.mem_singleton] at hw; subst hw; rw [List.length_append]; omega)) | (simp only [rng_len] at *; refine ⟨_, ?_, fun h => ?_, ?_, hinv.2⟩; omega; (have h1 := hinv.1; simp only [h, List.length_nil] at h1; omega); omega) | walk_at "ob1" | walk_at "ob2")
      · have h90 : (decide (d87 = (0 : Int))) = false := h90
        first | refine nx_ ?_ | skip
        refine asg_open ?_
        refine lst_open ?_
        refine cons_open ?_
        refine call_open ?_
        refine cons_open ?_
        refine x_run (K := K) (T := T) (ev_var (i := 0) rfl r_tape) fun v124 H124 e124 r124 => ?_
        replace r_tape := Mo.fr e124.fr r_tape
        replace r_size := Mo.fr e124.fr r_size
        replace r_many := Mo.fr e124.fr r_many
        replace hT := hT.ex e124
        replace ea := ea.trans (Ex.fr e124)
        replace hI := Re.ex (re_tape (d := p_tape)) hI e124
        refine cons_open ?_
        refine x_run (K := K) (T := T) (ev_var (i := 1) rfl r_size) fun v125 H125 e125 r125 => ?_
        replace r_tape := Mo.fr e125.fr r_tape
        replace r_size := Mo.fr e125.fr r_size
        replace r_many := Mo.fr e125.fr r_many
        replace r124 := Mo.fr e125.fr r124
        replace hT := hT.ex e125
        replace ea := ea.trans (Ex.fr e125)
        replace hI := Re.ex (re_tape (d := p_tape)) hI e125
        refine nil_open ?_
        refine ncall_v (T := T) (b := (p_tape, ((5 : Int) + d76), ())) (n := n + 1894) hT (fun b hb => (hW b hb)) ⟨_, _, rfl, r124, ⟨_, _, rfl, r125, rfl⟩⟩ (show 0 ≤ ((5 : Int) + d76) ∧ ((5 : Int) + d76) ≤ 50 from (by first | walk_at "ob" | (have h1 := hinv.2 _ h_row_1; omega) | (refine ⟨rfl, fun w hw => ?_⟩; simp only [List.mem_singleton] at hw; subst hw; omega) | (have h1 := hinv.2 _ h_row_1; refine ⟨by (simp only [List.length_append, List.length_cons, List.length_nil]; omega), fun w hw => ?_⟩; (rcases List.mem_append.mp hw with hw | hw); exact hinv.2 w hw; (simp only [List.mem_singleton] at hw; subst hw; rw [List.length_append]; omega)) | (simp only [rng_len] at *; refine ⟨_, ?_, fun h => ?_, ?_, hinv.2⟩; omega; (have h1 := hinv.1; simp only [h, List.length_nil] at h1; omega); omega) | walk_at "ob1" | walk_at "ob2")) (Re.cut (re_tape (d := p_tape)) hI (by omega)) fun v126 H126 d126 f126 hI126 r126 hp126 => ?_
        replace r126 : zW K T H126 v126 d126 := r126
        replace r_tape := Mo.fr (Fr.mono f126 (fun b hb => (hW b hb))) r_tape
        replace r_size := Mo.fr (Fr.mono f126 (fun b hb => (hW b hb))) r_size
        replace r_many := Mo.fr (Fr.mono f126 (fun b hb => (hW b hb))) r_many
        replace r124 := Mo.fr (Fr.mono f126 (fun b hb => (hW b hb))) r124
        replace r125 := Mo.fr (Fr.mono f126 (fun b hb => (hW b hb))) r125
        replace hT := hT.fr f126
        replace ea := ea.trans f126
        replace hI := hI126
        have hp126 : (d126.length : Int) = ((5 : Int) + d76) := hp126
        refine nil_open ?_
        refine ⟨(by rw [sizeLine_eq]; simp), fun p123 n123 => ?_⟩
        obtain ⟨f123, en123, m_rows⟩ := hm_new (K := K) (T := T) (r := zW) (xs := [d126]) n123 (.cons r126 .nil)
        generalize upd H126 p123 (HO.lst [v126]) = H123 at f123 en123 m_rows ⊢
        have hn_p123 : ¬ T p123 := fun z => (hT.new n123) z
        replace r_tape := Mo.fr en123.fr (Mo.lift n123 r_tape)
        replace r_size := Mo.fr en123.fr (Mo.lift n123 r_size)
        replace r_many := Mo.fr en123.fr (Mo.lift n123 r_many)
        replace hT := hT.of_mem (S := T0) en123.fr m_rows.dom
        have h0_p123 := ea.back n123
        replace ea := ea.trans (Ex.fr en123)
        replace hI := Re.ex (re_tape (d := p_tape)) hI en123
        first | refine nx_ ?_ | skip
        refine st_for (K := K) (T := (Tp T p123)) hT (ei_range (ea_cons (ev_sub (ev_var (i := 2) rfl r_many) ev_int) ea_nil) (by first | walk_at "ob" | (have h1 := hinv.2 _ h_row_1; omega) | (refine ⟨rfl, fun w hw => ?_⟩; simp only [List.mem_singleton] at hw; subst hw; omega) | (have h1 := hinv.2 _ h_row_1; refine ⟨by (simp only [List.length_append, List.length_cons, List.length_nil]; omega), fun w hw => ?_⟩; (rcases List.mem_append.mp hw with hw | hw); exact hinv.2 w hw; (simp only [List.mem_singleton] at hw; subst hw; rw [List.length_append]; omega)) | (simp only [rng_len] at *; refine ⟨_, ?_, fun h => ?_, ?_, hinv.2⟩; omega; (have h1 := hinv.1; simp only [h, List.length_nil] at h1; omega); omega) | walk_at "ob1" | walk_at "ob2") (by first | walk_at "ob" | (have h1 := hinv.2 _ h_row_1; omega) | (refine ⟨rfl, fun w hw => ?_⟩; simp only [List.mem_singleton] at hw; subst hw; omega) | (have h1 := hinv.2 _ h_row_1; refine ⟨by (simp only [List.length_append, List.length_cons, List.length_nil]; omega), fun w hw => ?_⟩; (rcases List.mem_append.mp hw with hw | hw); exact hinv.2 w hw; (simp only [List.mem_singleton] at hw; subst hw; rw [List.length_append]; omega)) | (simp only [rng_len] at *; refine ⟨_, ?_, fun h => ?_, ?_, hinv.2⟩; omega; (have h1 := hinv.1; simp only [h, List.length_nil] at h1; omega); omega) | walk_at "ob1" | walk_at "ob2")) fun H127 e127 => ?_
        replace r_tape := Mo.fr e127.fr r_tape
        replace r_size := Mo.fr e127.fr r_size
        replace r_many := Mo.fr e127.fr r_many
        replace m_rows := m_rows.ex' e127
        replace hT := hT.ex e127
        replace ea := ea.trans (Ex.fr e127)
        replace hI := Re.ex (re_tape (d := p_tape)) hI e127
        have hN127 : ((rng 0 ((((1 : Int) + d82) - (1 : Int))).toNat)).length ≤ 11 := (by first | walk_at "ob" | (have h1 := hinv.2 _ h_row_1; omega) | (refine ⟨rfl, fun w hw => ?_⟩; simp only [List.mem_singleton] at hw; subst hw; omega) | (have h1 := hinv.2 _ h_row_1; refine ⟨by (simp only [List.length_append, List.length_cons, List.length_nil]; omega), fun w hw => ?_⟩; (rcases List.mem_append.mp hw with hw | hw); exact hinv.2 w hw; (simp only [List.mem_singleton] at hw; subst hw; rw [List.length_append]; omega)) | (simp only [rng_len] at *; refine ⟨_, ?_, fun h => ?_, ?_, hinv.2⟩; omega; (have h1 := hinv.1; simp only [h, List.length_nil] at h1; omega); omega) | walk_at "ob1" | walk_at "ob2")
        obtain ⟨Pv127, hPv127⟩ : ∃ Pv : Nat → L2.St → Hp → Prop, ∀ i σ' H', Pv i σ' H' ↔ (∃ (si : (List (List Bool))), ((si).length = 1 + i ∧ ∀ w ∈ si, (w.length : Int) = ((5 : Int) + d76)) ∧ Fr (Tp (WTp p_tape) p123) H127 H' ∧ ∃ (y_row : Option V) (y_at : Option V) (y_k : Option V), σ' = [some v_tape, some v77, some v83, some (.ref p123), y_k, y_row, y_at] ∧ HM zW K (Tp T p123) H' p123 si ∧ (TpI p_tape) (n + (772 + (11 - i) * 102)) H') := ⟨_, fun _ _ _ => Iff.rfl⟩
        refine ⟨Pv127, (hPv127 _ _ _).mpr ⟨([d126] : (List (List Bool))), (by first | walk_at "inv" | walk_at "ob" | (have h1 := hinv.2 _ h_row_1; omega) | (refine ⟨rfl, fun w hw => ?_⟩; simp only [List.mem_singleton] at hw; subst hw; omega) | (have h1 := hinv.2 _ h_row_1; refine ⟨by (simp only [List.length_append, List.length_cons, List.length_nil]; omega), fun w hw => ?_⟩; (rcases List.mem_append.mp hw with hw | hw); exact hinv.2 w hw; (simp only [List.mem_singleton] at hw; subst hw; rw [List.length_append]; omega)) | (simp only [rng_len] at *; refine ⟨_, ?_, fun h => ?_, ?_, hinv.2⟩; omega; (have h1 := hinv.1; simp only [h, List.length_nil] at h1; omega); omega) | (dsimp only; first | walk_at "inv" | walk_at "ob" | (have h1 := hinv.2 _ h_row_1; omega) | (refine ⟨rfl, fun w hw => ?_⟩; simp only [List.mem_singleton] at hw; subst hw; omega) | (have h1 := hinv.2 _ h_row_1; refine ⟨by (simp only [List.length_append, List.length_cons, List.length_nil]; omega), fun w hw => ?_⟩; (rcases List.mem_append.mp hw with hw | hw); exact hinv.2 w hw; (simp only [List.mem_singleton] at hw; subst hw; rw [List.length_append]; omega)) | (simp only [rng_len] at *; refine ⟨_, ?_, fun h => ?_, ?_, hinv.2⟩; omega; (have h1 := hinv.1; simp only [h, List.length_nil] at h1; omega); omega)) | walk_at "ob1" | walk_at "ob2"), Fr.refl _, _, _, _, rfl, m_rows, (Re.cut (re_tape (d := p_tape)) hI (by omega))⟩, fun i σ' H' _ h => ?_, ?_, ?_⟩
        · obtain ⟨si, _, hF, _⟩ := (hPv127 _ _ _).mp h
          exact hF.mono (fun b hb => hb.elim (fun z => .inl (hW _ z)) .inr)
        · intro i x127 σ' H'127 v127 H''127 hx127 hh eY rv127
          obtain ⟨si127, hinv127, hF127, y_row, y_at, y_k, rfl, m'_rows, i'_R0⟩ := (hPv127 _ _ _).mp hh
          have hinv127 : (si127).length = 1 + i ∧ ∀ w ∈ si127, (w.length : Int) = ((5 : Int) + d76) := hinv127
          have hinv := hinv127
          have hmem127 := List.mem_of_getElem? hx127
          have hi127 := (List.getElem?_eq_some_iff.mp hx127).1
          replace r_tape := Mo.fr ((hF127.mono (fun b hb => hb.elim (fun z => .inl (hW _ z)) .inr)).trans eY.fr) r_tape
          replace r_size := Mo.fr ((hF127.mono (fun b hb => hb.elim (fun z => .inl (hW _ z)) .inr)).trans eY.fr) r_size
          replace r_many := Mo.fr ((hF127.mono (fun b hb => hb.elim (fun z => .inl (hW _ z)) .inr)).trans eY.fr) r_many
          replace m_rows := m'_rows.ex' eY
          replace hT := (hT.fr hF127).ex eY
          replace hI : (TpI p_tape) ((n + (772 + (11 - (i + 1)) * 102)) + 102) H''127 := Re.cut (re_tape (d := p_tape)) (Re.ex (re_tape (d := p_tape)) i'_R0 eY) (by omega)
          replace ea := (ea.thenFr hF127 (fun b hb => hb.elim (fun z => .inl z) (fun z => by subst z; exact .inr h0_p123))).trans eY.fr
          replace eb127 := hF127.trans (Ex.fr (T := (Tp (WTp p_tape) p123)) eY)
          refine gn ?_
          replace r_k := rv127
          first | refine nx_ ?_ | skip
          refine asg_open ?_
          refine op_open ?_
          refine x_run (K := K) (T := (Tp T p123)) (ev_var (i := 3) (r := zA) (v := .ref p123) (d := p123) rfl rfl) fun v129 H129 e129 r129 => ?_
          cases r129
          replace r_tape := Mo.fr e129.fr r_tape
          replace r_size := Mo.fr e129.fr r_size
          replace r_many := Mo.fr e129.fr r_many
          replace r_k := Mo.fr e129.fr r_k
          replace m_rows := m_rows.ex' e129
          replace hT := hT.ex e129
          replace ea := ea.trans (Ex.fr e129)
          replace hI := Re.ex (re_tape (d := p_tape)) hI e129
          replace eb127 := eb127.trans e129.fr
          refine call_open ?_
          refine cons_open ?_
          refine x_run (K := K) (T := (Tp T p123)) (ev_var (i := 0) rfl r_tape) fun v130 H130 e130 r130 => ?_
          replace r_tape := Mo.fr e130.fr r_tape
          replace r_size := Mo.fr e130.fr r_size
          replace r_many := Mo.fr e130.fr r_many
          replace r_k := Mo.fr e130.fr r_k
          replace m_rows := m_rows.ex' e130
          replace hT := hT.ex e130
          replace ea := ea.trans (Ex.fr e130)
          replace hI := Re.ex (re_tape (d := p_tape)) hI e130
          replace eb127 := eb127.trans e130.fr
          refine cons_open ?_
          refine x_run (K := K) (T := T) (ev_lenL (ev_var (i := 3) rfl (m_rows.done (T' := T) (fun b hb => (.inl hb)) (fun z => (hn_p123 z))))) fun v131 H131 e131 r131 => ?_
          replace r_tape := Mo.fr e131.fr r_tape
          replace r_size := Mo.fr e131.fr r_size
          replace r_many := Mo.fr e131.fr r_many
          replace r_k := Mo.fr e131.fr r_k
          replace r130 := Mo.fr e131.fr r130
          replace m_rows := m_rows.ex' e131
          replace hT := hT.ex e131
          replace ea := ea.trans (Ex.fr e131)
          replace hI := Re.ex (re_tape (d := p_tape)) hI e131
          replace eb127 := eb127.trans e131.fr
          replace r131 : zI K (Tp T p123) H131 v131 _ := r131
          refine nil_open ?_
          refine ncall_v (T := (Tp T p123)) (b := (p_tape, ((si127).length : Int), ())) (n := (n + (772 + (11 - (i + 1)) * 102)) + 101) hT (fun b hb => (.inl (hW b hb))) ⟨_, _, rfl, r130, ⟨_, _, rfl, r131, rfl⟩⟩ (show 0 < ((si127).length : Int) ∧ ((si127).length : Int) < 1073741824 from (by first | walk_at "ob" | (have h1 := hinv.2 _ h_row_1; omega) | (refine ⟨rfl, fun w hw => ?_⟩; simp only [List.mem_singleton] at hw; subst hw; omega) | (have h1 := hinv.2 _ h_row_1; refine ⟨by (simp only [List.length_append, List.length_cons, List.length_nil]; omega), fun w hw => ?_⟩; (rcases List.mem_append.mp hw with hw | hw); exact hinv.2 w hw; (simp only [List.mem_singleton] at hw; subst hw; rw [List.length_append]; omega)) | (simp only [rng_len] at *; refine ⟨_, ?_, fun h => ?_, ?_, hinv.2⟩; omega; (have h1 := hinv.1; simp only [h, List.length_nil] at h1; omega); omega) | walk_at "ob1" | walk_at "ob2")) (Re.cut (re_tape (d := p_tape)) hI (by omega)) fun v132 H132 d132 f132 hI132 r132 hp132 => ?_
          replace r132 : zI K (Tp T p123) H132 v132 d132 := r132
          replace r_tape := Mo.fr (Fr.mono f132 (fun b hb => (.inl (hW b hb)))) r_tape
          replace r_size := Mo.fr (Fr.mono f132 (fun b hb => (.inl (hW b hb)))) r_size
          replace r_many := Mo.fr (Fr.mono f132 (fun b hb => (.inl (hW b hb)))) r_many
          replace r_k := Mo.fr (Fr.mono f132 (fun b hb => (.inl (hW b hb)))) r_k
          replace r130 := Mo.fr (Fr.mono f132 (fun b hb => (.inl (hW b hb)))) r130
          replace r131 := Mo.fr (Fr.mono f132 (fun b hb => (.inl (hW b hb)))) r131
          replace m_rows := m_rows.fr f132 (fun z => hn_p123 (hW _ z)) (fun b hb => (.inl (hW b hb)))
          replace hT := hT.fr f132
          replace ea := ea.trans f132
          replace eb127 := eb127.trans (f132.mono fun b hb => (.inl hb))
          replace hI := hI132
          have hp132 : 0 ≤ d132 ∧ d132 < ((si127).length : Int) := hp132
          refine of_op ?_
          refine x_run (K := K) (T := T) (ev_ixL (ev_var (i := 0) rfl (m_rows.done (T' := T) (fun b hb => (.inl hb)) (fun z => (hn_p123 z)))) (ev_var (i := 1) rfl (Mo.sub (T' := T) (fun b hb => (.inl hb)) r132)) (at_get (d0 := []) (by first | walk_at "ob" | (have h1 := hinv.2 _ h_row_1; omega) | (refine ⟨rfl, fun w hw => ?_⟩; simp only [List.mem_singleton] at hw; subst hw; omega) | (have h1 := hinv.2 _ h_row_1; refine ⟨by (simp only [List.length_append, List.length_cons, List.length_nil]; omega), fun w hw => ?_⟩; (rcases List.mem_append.mp hw with hw | hw); exact hinv.2 w hw; (simp only [List.mem_singleton] at hw; subst hw; rw [List.length_append]; omega)) | (simp only [rng_len] at *; refine ⟨_, ?_, fun h => ?_, ?_, hinv.2⟩; omega; (have h1 := hinv.1; simp only [h, List.length_nil] at h1; omega); omega) | walk_at "ob1" | walk_at "ob2") (by first | walk_at "ob" | (have h1 := hinv.2 _ h_row_1; omega) | (refine ⟨rfl, fun w hw => ?_⟩; simp only [List.mem_singleton] at hw; subst hw; omega) | (have h1 := hinv.2 _ h_row_1; refine ⟨by (simp only [List.length_append, List.length_cons, List.length_nil]; omega), fun w hw => ?_⟩; (rcases List.mem_append.mp hw with hw | hw); exact hinv.2 w hw; (simp only [List.mem_singleton] at hw; subst hw; rw [List.length_append]; omega)) | (simp only [rng_len] at *; refine ⟨_, ?_, fun h => ?_, ?_, hinv.2⟩; omega; (have h1 := hinv.1; simp only [h, List.length_nil] at h1; omega); omega) | walk_at "ob1" | walk_at "ob2"))) fun v133 H133 e133 r133 => ?_
          replace r_tape := Mo.fr e133.fr r_tape
          replace r_size := Mo.fr e133.fr r_size
          replace r_many := Mo.fr e133.fr r_many
          replace r_k := Mo.fr e133.fr r_k
          replace r130 := Mo.fr e133.fr r130
          replace r131 := Mo.fr e133.fr r131
          replace r132 := Mo.fr e133.fr r132
          replace m_rows := m_rows.ex' e133
          replace hT := hT.ex e133
          replace ea := ea.trans (Ex.fr e133)
          replace hI := Re.ex (re_tape (d := p_tape)) hI e133
          replace eb127 := eb127.trans e133.fr
          replace r133 : zW K (Tp T p123) H133 v133 _ := r133
          have hm133 : ((si127).getD (d132).toNat []) ∈ si127 := getD_mem (by first | walk_at "ob" | (have h1 := hinv.2 _ h_row_1; omega) | (refine ⟨rfl, fun w hw => ?_⟩; simp only [List.mem_singleton] at hw; subst hw; omega) | (have h1 := hinv.2 _ h_row_1; refine ⟨by (simp only [List.length_append, List.length_cons, List.length_nil]; omega), fun w hw => ?_⟩; (rcases List.mem_append.mp hw with hw | hw); exact hinv.2 w hw; (simp only [List.mem_singleton] at hw; subst hw; rw [List.length_append]; omega)) | (simp only [rng_len] at *; refine ⟨_, ?_, fun h => ?_, ?_, hinv.2⟩; omega; (have h1 := hinv.1; simp only [h, List.length_nil] at h1; omega); omega) | walk_at "ob1" | walk_at "ob2") (by first | walk_at "ob" | (have h1 := hinv.2 _ h_row_1; omega) | (refine ⟨rfl, fun w hw => ?_⟩; simp only [List.mem_singleton] at hw; subst hw; omega) | (have h1 := hinv.2 _ h_row_1; refine ⟨by (simp only [List.length_append, List.length_cons, List.length_nil]; omega), fun w hw => ?_⟩; (rcases List.mem_append.mp hw with hw | hw); exact hinv.2 w hw; (simp only [List.mem_singleton] at hw; subst hw; rw [List.length_append]; omega)) | (simp only [rng_len] at *; refine ⟨_, ?_, fun h => ?_, ?_, hinv.2⟩; omega; (have h1 := hinv.1; simp only [h, List.length_nil] at h1; omega); omega) | walk_at "ob1" | walk_at "ob2")
          have h_row_0 := hp132
          have h_row_1 := hm133
          replace r_row := r133
          first | refine nx_ ?_ | skip
          refine asg_open ?_
          refine call_open ?_
          refine cons_open ?_
          refine x_run (K := K) (T := (Tp T p123)) (ev_var (i := 0) rfl r_tape) fun v135 H135 e135 r135 => ?_
          replace r_tape := Mo.fr e135.fr r_tape
          replace r_size := Mo.fr e135.fr r_size
          replace r_many := Mo.fr e135.fr r_many
          replace r_k := Mo.fr e135.fr r_k
          replace r_row := Mo.fr e135.fr r_row
          replace m_rows := m_rows.ex' e135
          replace hT := hT.ex e135
          replace ea := ea.trans (Ex.fr e135)
          replace hI := Re.ex (re_tape (d := p_tape)) hI e135
          replace eb127 := eb127.trans e135.fr
          refine cons_open ?_
          refine x_run (K := K) (T := (Tp T p123)) (ev_add (ev_var (i := 1) rfl r_size) ev_int) fun v136 H136 e136 r136 => ?_
          replace r_tape := Mo.fr e136.fr r_tape
          replace r_size := Mo.fr e136.fr r_size
          replace r_many := Mo.fr e136.fr r_many
          replace r_k := Mo.fr e136.fr r_k
          replace r_row := Mo.fr e136.fr r_row
          replace r135 := Mo.fr e136.fr r135
          replace m_rows := m_rows.ex' e136
          replace hT := hT.ex e136
          replace ea := ea.trans (Ex.fr e136)
          replace hI := Re.ex (re_tape (d := p_tape)) hI e136
          replace eb127 := eb127.trans e136.fr
          refine nil_open ?_
          refine ncall_v (T := (Tp T p123)) (b := (p_tape, (((5 : Int) + d76) + (1 : Int)), ())) (n := (n + (772 + (11 - (i + 1)) * 102)) + 100) hT (fun b hb => (.inl (hW b hb))) ⟨_, _, rfl, r135, ⟨_, _, rfl, r136, rfl⟩⟩ (show 0 < (((5 : Int) + d76) + (1 : Int)) ∧ (((5 : Int) + d76) + (1 : Int)) < 1073741824 from (by first | walk_at "ob" | (have h1 := hinv.2 _ h_row_1; omega) | (refine ⟨rfl, fun w hw => ?_⟩; simp only [List.mem_singleton] at hw; subst hw; omega) | (have h1 := hinv.2 _ h_row_1; refine ⟨by (simp only [List.length_append, List.length_cons, List.length_nil]; omega), fun w hw => ?_⟩; (rcases List.mem_append.mp hw with hw | hw); exact hinv.2 w hw; (simp only [List.mem_singleton] at hw; subst hw; rw [List.length_append]; omega)) | (simp only [rng_len] at *; refine ⟨_, ?_, fun h => ?_, ?_, hinv.2⟩; omega; (have h1 := hinv.1; simp only [h, List.length_nil] at h1; omega); omega) | walk_at "ob1" | walk_at "ob2")) (Re.cut (re_tape (d := p_tape)) hI (by omega)) fun v137 H137 d137 f137 hI137 r137 hp137 => ?_
          replace r137 : zI K (Tp T p123) H137 v137 d137 := r137
          replace r_tape := Mo.fr (Fr.mono f137 (fun b hb => (.inl (hW b hb)))) r_tape
          replace r_size := Mo.fr (Fr.mono f137 (fun b hb => (.inl (hW b hb)))) r_size
          replace r_many := Mo.fr (Fr.mono f137 (fun b hb => (.inl (hW b hb)))) r_many
          replace r_k := Mo.fr (Fr.mono f137 (fun b hb => (.inl (hW b hb)))) r_k
          replace r_row := Mo.fr (Fr.mono f137 (fun b hb => (.inl (hW b hb)))) r_row
          replace r135 := Mo.fr (Fr.mono f137 (fun b hb => (.inl (hW b hb)))) r135
          replace r136 := Mo.fr (Fr.mono f137 (fun b hb => (.inl (hW b hb)))) r136
          replace m_rows := m_rows.fr f137 (fun z => hn_p123 (hW _ z)) (fun b hb => (.inl (hW b hb)))
          replace hT := hT.fr f137
          replace ea := ea.trans f137
          replace eb127 := eb127.trans (f137.mono fun b hb => (.inl hb))
          replace hI := hI137
          have hp137 : 0 ≤ d137 ∧ d137 < (((5 : Int) + d76) + (1 : Int)) := hp137
          have h_at_0 := hp137
          replace r_at := r137
          first | refine nx_ ?_ | skip
          refine append_open (K := K) (T := (Tp T p123)) rfl m_rows ?_
          refine op_open ?_
          refine x_run (K := K) (T := (Tp T p123)) (ev_slW (ev_var (i := 5) rfl r_row) eo_none (eo_some (K := K) (ev_var (i := 6) rfl r_at))) fun v139 H139 e139 r139 => ?_
          replace r_tape := Mo.fr e139.fr r_tape
          replace r_size := Mo.fr e139.fr r_size
          replace r_many := Mo.fr e139.fr r_many
          replace r_k := Mo.fr e139.fr r_k
          replace r_row := Mo.fr e139.fr r_row
          replace r_at := Mo.fr e139.fr r_at
          replace m_rows := m_rows.ex' e139
          replace hT := hT.ex e139
          replace ea := ea.trans (Ex.fr e139)
          replace hI := Re.ex (re_tape (d := p_tape)) hI e139
          replace eb127 := eb127.trans e139.fr
          have hmm140 := cutA_up ((si127).getD (d132).toNat []) d137
          refine call_open ?_
          refine cons_open ?_
          refine x_run (K := K) (T := (Tp T p123)) (ev_var (i := 0) rfl r_tape) fun v141 H141 e141 r141 => ?_
          replace r_tape := Mo.fr e141.fr r_tape
          replace r_size := Mo.fr e141.fr r_size
          replace r_many := Mo.fr e141.fr r_many
          replace r_k := Mo.fr e141.fr r_k
          replace r_row := Mo.fr e141.fr r_row
          replace r_at := Mo.fr e141.fr r_at
          replace r139 := Mo.fr e141.fr r139
          replace m_rows := m_rows.ex' e141
          replace hT := hT.ex e141
          replace ea := ea.trans (Ex.fr e141)
          replace hI := Re.ex (re_tape (d := p_tape)) hI e141
          replace eb127 := eb127.trans e141.fr
          refine cons_open ?_
          refine x_run (K := K) (T := (Tp T p123)) (ev_sub (ev_var (i := 1) rfl r_size) (ev_var (i := 6) rfl r_at)) fun v142 H142 e142 r142 => ?_
          replace r_tape := Mo.fr e142.fr r_tape
          replace r_size := Mo.fr e142.fr r_size
          replace r_many := Mo.fr e142.fr r_many
          replace r_k := Mo.fr e142.fr r_k
          replace r_row := Mo.fr e142.fr r_row
          replace r_at := Mo.fr e142.fr r_at
          replace r139 := Mo.fr e142.fr r139
          replace r141 := Mo.fr e142.fr r141
          replace m_rows := m_rows.ex' e142
          replace hT := hT.ex e142
          replace ea := ea.trans (Ex.fr e142)
          replace hI := Re.ex (re_tape (d := p_tape)) hI e142
          replace eb127 := eb127.trans e142.fr
          refine nil_open ?_
          refine ncall_v (T := (Tp T p123)) (b := (p_tape, (((5 : Int) + d76) - d137), ())) (n := (n + (772 + (11 - (i + 1)) * 102)) + 0) hT (fun b hb => (.inl (hW b hb))) ⟨_, _, rfl, r141, ⟨_, _, rfl, r142, rfl⟩⟩ (show 0 ≤ (((5 : Int) + d76) - d137) ∧ (((5 : Int) + d76) - d137) ≤ 50 from (by first | walk_at "ob" | (have h1 := hinv.2 _ h_row_1; omega) | (refine ⟨rfl, fun w hw => ?_⟩; simp only [List.mem_singleton] at hw; subst hw; omega) | (have h1 := hinv.2 _ h_row_1; refine ⟨by (simp only [List.length_append, List.length_cons, List.length_nil]; omega), fun w hw => ?_⟩; (rcases List.mem_append.mp hw with hw | hw); exact hinv.2 w hw; (simp only [List.mem_singleton] at hw; subst hw; rw [List.length_append]; omega)) | (simp only [rng_len] at *; refine ⟨_, ?_, fun h => ?_, ?_, hinv.2⟩; omega; (have h1 := hinv.1; simp only [h, List.length_nil] at h1; omega); omega) | walk_at "ob1" | walk_at "ob2")) (Re.cut (re_tape (d := p_tape)) hI (by omega)) fun v143 H143 d143 f143 hI143 r143 hp143 => ?_
          replace r143 : zW K (Tp T p123) H143 v143 d143 := r143
          replace r_tape := Mo.fr (Fr.mono f143 (fun b hb => (.inl (hW b hb)))) r_tape
          replace r_size := Mo.fr (Fr.mono f143 (fun b hb => (.inl (hW b hb)))) r_size
          replace r_many := Mo.fr (Fr.mono f143 (fun b hb => (.inl (hW b hb)))) r_many
          replace r_k := Mo.fr (Fr.mono f143 (fun b hb => (.inl (hW b hb)))) r_k
          replace r_row := Mo.fr (Fr.mono f143 (fun b hb => (.inl (hW b hb)))) r_row
          replace r_at := Mo.fr (Fr.mono f143 (fun b hb => (.inl (hW b hb)))) r_at
          replace r139 := Mo.fr (Fr.mono f143 (fun b hb => (.inl (hW b hb)))) r139
          replace r141 := Mo.fr (Fr.mono f143 (fun b hb => (.inl (hW b hb)))) r141
          replace r142 := Mo.fr (Fr.mono f143 (fun b hb => (.inl (hW b hb)))) r142
          replace m_rows := m_rows.fr f143 (fun z => hn_p123 (hW _ z)) (fun b hb => (.inl (hW b hb)))
          replace hT := hT.fr f143
          replace ea := ea.trans f143
          replace eb127 := eb127.trans (f143.mono fun b hb => (.inl hb))
          replace hI := hI143
          have hp143 : (d143.length : Int) = (((5 : Int) + d76) - d137) := hp143
          refine of_op ?_
          refine x_run (K := K) (T := (Tp T p123)) (ev_catW (ev_var (i := 0) rfl r139) (ev_var (i := 1) rfl r143) (by first | walk_at "ob" | (have h1 := hinv.2 _ h_row_1; omega) | (refine ⟨rfl, fun w hw => ?_⟩; simp only [List.mem_singleton] at hw; subst hw; omega) | (have h1 := hinv.2 _ h_row_1; refine ⟨by (simp only [List.length_append, List.length_cons, List.length_nil]; omega), fun w hw => ?_⟩; (rcases List.mem_append.mp hw with hw | hw); exact hinv.2 w hw; (simp only [List.mem_singleton] at hw; subst hw; rw [List.length_append]; omega)) | (simp only [rng_len] at *; refine ⟨_, ?_, fun h => ?_, ?_, hinv.2⟩; omega; (have h1 := hinv.1; simp only [h, List.length_nil] at h1; omega); omega) | walk_at "ob1" | walk_at "ob2")) fun v144 H144 e144 r144 => ?_
          replace r_tape := Mo.fr e144.fr r_tape
          replace r_size := Mo.fr e144.fr r_size
          replace r_many := Mo.fr e144.fr r_many
          replace r_k := Mo.fr e144.fr r_k
          replace r_row := Mo.fr e144.fr r_row
          replace r_at := Mo.fr e144.fr r_at
          replace r139 := Mo.fr e144.fr r139
          replace r141 := Mo.fr e144.fr r141
          replace r142 := Mo.fr e144.fr r142
          replace r143 := Mo.fr e144.fr r143
          replace m_rows := m_rows.ex' e144
          replace hT := hT.ex e144
          replace ea := ea.trans (Ex.fr e144)
          replace hI := Re.ex (re_tape (d := p_tape)) hI e144
          replace eb127 := eb127.trans e144.fr
          refine append_v (K := K) (T := (Tp T p123)) (S := fun _ => False) m_rows r144 (by first | walk_at "ob" | (have h1 := hinv.2 _ h_row_1; omega) | (refine ⟨rfl, fun w hw => ?_⟩; simp only [List.mem_singleton] at hw; subst hw; omega) | (have h1 := hinv.2 _ h_row_1; refine ⟨by (simp only [List.length_append, List.length_cons, List.length_nil]; omega), fun w hw => ?_⟩; (rcases List.mem_append.mp hw with hw | hw); exact hinv.2 w hw; (simp only [List.mem_singleton] at hw; subst hw; rw [List.length_append]; omega)) | (simp only [rng_len] at *; refine ⟨_, ?_, fun h => ?_, ?_, hinv.2⟩; omega; (have h1 := hinv.1; simp only [h, List.length_nil] at h1; omega); omega) | walk_at "ob1" | walk_at "ob2") fun H145 v145 ev145 f145 fT145 m145 => ?_
          have e145 := Ex.refl H144
          have hpm145 := m_rows.mem
          have fp145 : Fr (fun b => b = p123) H144 H145 := f145.mono (fun b hb => hb.elim False.elim id)
          replace r_tape := Mo.fr fT145 r_tape
          replace r_size := Mo.fr fT145 r_size
          replace r_many := Mo.fr fT145 r_many
          replace r_k := Mo.fr fT145 r_k
          replace r_row := Mo.fr fT145 r_row
          replace r_at := Mo.fr fT145 r_at
          replace hT := hT.fr fT145
          replace ea := ea.thenFr fp145 (fun b hb => by subst hb; exact .inr h0_p123)
          replace hI := Re.fr (re_tape (d := p_tape)) hI fp145 (fun b hb z => hn_p123 (hW _ (z ▸ hb)))
          replace eb127 := eb127.thenFr fp145 (fun b hb => by subst hb; exact .inl (.inr rfl))
          replace m_rows := m145
          exact (hPv127 _ _ _).mpr ⟨(si127 ++ [((cutA ((si127).getD (d132).toNat []) none (some d137)) ++ d143)]), (by first | walk_at "inv" | walk_at "ob" | (have h1 := hinv.2 _ h_row_1; omega) | (refine ⟨rfl, fun w hw => ?_⟩; simp only [List.mem_singleton] at hw; subst hw; omega) | (have h1 := hinv.2 _ h_row_1; refine ⟨by (simp only [List.length_append, List.length_cons, List.length_nil]; omega), fun w hw => ?_⟩; (rcases List.mem_append.mp hw with hw | hw); exact hinv.2 w hw; (simp only [List.mem_singleton] at hw; subst hw; rw [List.length_append]; omega)) | (simp only [rng_len] at *; refine ⟨_, ?_, fun h => ?_, ?_, hinv.2⟩; omega; (have h1 := hinv.1; simp only [h, List.length_nil] at h1; omega); omega) | (dsimp only; first | walk_at "inv" | walk_at "ob" | (have h1 := hinv.2 _ h_row_1; omega) | (refine ⟨rfl, fun w hw => ?_⟩; simp only [List.mem_singleton] at hw; subst hw; omega) | (have h1 := hinv.2 _ h_row_1; refine ⟨by (simp only [List.length_append, List.length_cons, List.length_nil]; omega), fun w hw => ?_⟩; (rcases List.mem_append.mp hw with hw | hw); exact hinv.2 w hw; (simp only [List.mem_singleton] at hw; subst hw; rw [List.length_append]; omega)) | (simp only [rng_len] at *; refine ⟨_, ?_, fun h => ?_, ?_, hinv.2⟩; omega; (have h1 := hinv.1; simp only [h, List.length_nil] at h1; omega); omega)) | walk_at "ob1" | walk_at "ob2"), eb127, _, _, _, rfl, m_rows, (Re.cut (re_tape (d := p_tape)) hI (by omega))⟩
        · intro σ' H'127 hh
          obtain ⟨si127, hinv127, hF127, y_row, y_at, y_k, rfl, m'_rows, i'_R0⟩ := (hPv127 _ _ _).mp hh
          have hinv127 : (si127).length = 1 + ((rng 0 ((((1 : Int) + d82) - (1 : Int))).toNat)).length ∧ ∀ w ∈ si127, (w.length : Int) = ((5 : Int) + d76) := hinv127
          have hinv := hinv127
          replace r_tape := Mo.fr (hF127.mono (fun b hb => hb.elim (fun z => .inl (hW _ z)) .inr)) r_tape
          replace r_size := Mo.fr (hF127.mono (fun b hb => hb.elim (fun z => .inl (hW _ z)) .inr)) r_size
          replace r_many := Mo.fr (hF127.mono (fun b hb => hb.elim (fun z => .inl (hW _ z)) .inr)) r_many
          replace m_rows := m'_rows
          replace hI : (TpI p_tape) (n + 772) H'127 := Re.cut (re_tape (d := p_tape)) i'_R0 (by omega)
          replace hT := hT.fr hF127
          replace ea := ea.thenFr hF127 (fun b hb => hb.elim (fun z => .inl z) (fun z => by subst z; exact .inr h0_p123))
          replace r_rows := m_rows.done (T' := T) (fun b hb => (.inl hb)) (fun z => (hn_p123 z))
          replace r_tape := Mo.sub (T' := T) (fun b hb => (.inl hb)) r_tape
          replace r_size := Mo.sub (T' := T) (fun b hb => (.inl hb)) r_size
          replace r_many := Mo.sub (T' := T) (fun b hb => (.inl hb)) r_many
          replace hT := hT.sub (T' := T) (fun b hb => (.inl hb))
          first | refine nx_ ?_ | skip
          exact st_ret (K := K) (T := T) (ev_var (i := 3) rfl r_rows) fun v H9 e r => hQ v H9 _ (ea.trans (Ex.fr e)) (Re.cut (re_tape (d := p_tape)) (Re.ex (re_tape (d := p_tape)) hI e) (by omega)) r (by first | walk_at "ob" | (have h1 := hinv.2 _ h_row_1; omega) | (refine ⟨rfl, fun w hw => ?_⟩; simp only [List.mem_singleton] at hw; subst hw; omega) | (have h1 := hinv.2 _ h_row_1; refine ⟨by (simp only [List.length_append, List.length_cons, List.length_nil]; omega), fun w hw => ?_⟩; (rcases List.mem_append.mp hw with hw | hw); exact hinv.2 w hw; (simp only [List.mem_singleton] at hw; subst hw; rw [List.length_append]; omega)) | (simp only [rng_len] at *; refine ⟨_, ?_, fun h => ?_, ?_, hinv.2⟩; omega; (have h1 := hinv.1; simp only [h, List.length_nil] at h1; omega); omega) | walk_at "ob1" | walk_at "ob2")
    · have h71 : (decide (d68 = (0 : Int))) = false := h71
      first | refine nx_ ?_ | skip
      refine ifs_open ?_
      refine test_open ?_
      refine op_open ?_
      refine call_open ?_
      refine cons_open ?_
      refine x_run (K := K) (T := T) (ev_var (i := 0) rfl r_tape) fun v148 H148 e148 r148 => ?_
      replace r_tape := Mo.fr e148.fr r_tape
      replace r_size := Mo.fr e148.fr r_size
      replace r_many := Mo.fr e148.fr r_many
      replace hT := hT.ex e148
      replace ea := ea.trans (Ex.fr e148)
      replace hI := Re.ex (re_tape (d := p_tape)) hI e148
      refine cons_open ?_
      refine x_run (K := K) (T := T) ev_int fun v149 H149 e149 r149 => ?_
      replace r_tape := Mo.fr e149.fr r_tape
      replace r_size := Mo.fr e149.fr r_size
      replace r_many := Mo.fr e149.fr r_many
      replace r148 := Mo.fr e149.fr r148
      replace hT := hT.ex e149
      replace ea := ea.trans (Ex.fr e149)
      replace hI := Re.ex (re_tape (d := p_tape)) hI e149
      refine nil_open ?_
      refine ncall_v (T := T) (b := (p_tape, (8 : Int), ())) (n := n + 1996) hT (fun b hb => (hW b hb)) ⟨_, _, rfl, r148, ⟨_, _, rfl, r149, rfl⟩⟩ (show 0 < (8 : Int) ∧ (8 : Int) < 1073741824 from (by first | walk_at "ob" | (have h1 := hinv.2 _ h_row_1; omega) | (refine ⟨rfl, fun w hw => ?_⟩; simp only [List.mem_singleton] at hw; subst hw; omega) | (have h1 := hinv.2 _ h_row_1; refine ⟨by (simp only [List.length_append, List.length_cons, List.length_nil]; omega), fun w hw => ?_⟩; (rcases List.mem_append.mp hw with hw | hw); exact hinv.2 w hw; (simp only [List.mem_singleton] at hw; subst hw; rw [List.length_append]; omega)) | (simp only [rng_len] at *; refine ⟨_, ?_, fun h => ?_, ?_, hinv.2⟩; omega; (have h1 := hinv.1; simp only [h, List.length_nil] at h1; omega); omega) | walk_at "ob1" | walk_at "ob2")) (Re.cut (re_tape (d := p_tape)) hI (by omega)) fun v150 H150 d150 f150 hI150 r150 hp150 => ?_
      replace r150 : zI K T H150 v150 d150 := r150
      replace r_tape := Mo.fr (Fr.mono f150 (fun b hb => (hW b hb))) r_tape
      replace r_size := Mo.fr (Fr.mono f150 (fun b hb => (hW b hb))) r_size
      replace r_many := Mo.fr (Fr.mono f150 (fun b hb => (hW b hb))) r_many
      replace r148 := Mo.fr (Fr.mono f150 (fun b hb => (hW b hb))) r148
      replace r149 := Mo.fr (Fr.mono f150 (fun b hb => (hW b hb))) r149
      replace hT := hT.fr f150
      replace ea := ea.trans f150
      replace hI := hI150
      have hp150 : 0 ≤ d150 ∧ d150 < (8 : Int) := hp150
      refine x_run (K := K) (T := T) ev_int fun v151 H151 e151 r151 => ?_
      replace r_tape := Mo.fr e151.fr r_tape
      replace r_size := Mo.fr e151.fr r_size
      replace r_many := Mo.fr e151.fr r_many
      replace r148 := Mo.fr e151.fr r148
      replace r149 := Mo.fr e151.fr r149
      replace r150 := Mo.fr e151.fr r150
      replace hT := hT.ex e151
      replace ea := ea.trans (Ex.fr e151)
      replace hI := Re.ex (re_tape (d := p_tape)) hI e151
      refine of_op ?_
      refine x_run (K := K) (T := T) (ev_eqI (ev_var (i := 0) rfl r150) (ev_var (i := 1) rfl r151)) fun v152 H152 e152 r152 => ?_
      replace r_tape := Mo.fr e152.fr r_tape
      replace r_size := Mo.fr e152.fr r_size
      replace r_many := Mo.fr e152.fr r_many
      replace r148 := Mo.fr e152.fr r148
      replace r149 := Mo.fr e152.fr r149
      replace r150 := Mo.fr e152.fr r150
      replace r151 := Mo.fr e152.fr r151
      replace hT := hT.ex e152
      replace ea := ea.trans (Ex.fr e152)
      replace hI := Re.ex (re_tape (d := p_tape)) hI e152
      refine ⟨_, r152, ?_⟩
      refine iteB (fun h153 => ?_) (fun h153 => ?_)
      · have h153 : (decide (d150 = (0 : Int))) = true := h153
        first | refine nx_ ?_ | skip
        refine asg_open ?_
        refine op_open ?_
        refine x_run (K := K) (T := T) ev_int fun v155 H155 e155 r155 => ?_
        replace r_tape := Mo.fr e155.fr r_tape
        replace r_size := Mo.fr e155.fr r_size
        replace r_many := Mo.fr e155.fr r_many
        replace hT := hT.ex e155
        replace ea := ea.trans (Ex.fr e155)
        replace hI := Re.ex (re_tape (d := p_tape)) hI e155
        refine call_open ?_
        refine cons_open ?_
        refine x_run (K := K) (T := T) (ev_var (i := 0) rfl r_tape) fun v156 H156 e156 r156 => ?_
        replace r_tape := Mo.fr e156.fr r_tape
        replace r_size := Mo.fr e156.fr r_size
        replace r_many := Mo.fr e156.fr r_many
        replace r155 := Mo.fr e156.fr r155
        replace hT := hT.ex e156
        replace ea := ea.trans (Ex.fr e156)
        replace hI := Re.ex (re_tape (d := p_tape)) hI e156
        refine cons_open ?_
        refine x_run (K := K) (T := T) ev_int fun v157 H157 e157 r157 => ?_
        replace r_tape := Mo.fr e157.fr r_tape
        replace r_size := Mo.fr e157.fr r_size
        replace r_many := Mo.fr e157.fr r_many
        replace r155 := Mo.fr e157.fr r155
        replace r156 := Mo.fr e157.fr r156
        replace hT := hT.ex e157
        replace ea := ea.trans (Ex.fr e157)
        replace hI := Re.ex (re_tape (d := p_tape)) hI e157
        refine nil_open ?_
        refine ncall_v (T := T) (b := (p_tape, (12 : Int), ())) (n := n + 1995) hT (fun b hb => (hW b hb)) ⟨_, _, rfl, r156, ⟨_, _, rfl, r157, rfl⟩⟩ (show 0 < (12 : Int) ∧ (12 : Int) < 1073741824 from (by first | walk_at "ob" | (have h1 := hinv.2 _ h_row_1; omega) | (refine ⟨rfl, fun w hw => ?_⟩; simp only [List.mem_singleton] at hw; subst hw; omega) | (have h1 := hinv.2 _ h_row_1; refine ⟨by (simp only [List.length_append, List.length_cons, List.length_nil]; omega), fun w hw => ?_⟩; (rcases List.mem_append.mp hw with hw | hw); exact hinv.2 w hw; (simp only [List.mem_singleton] at hw; subst hw; rw [List.length_append]; omega)) | (simp only [rng_len] at *; refine ⟨_, ?_, fun h => ?_, ?_, hinv.2⟩; omega; (have h1 := hinv.1; simp only [h, List.length_nil] at h1; omega); omega) | walk_at "ob1" | walk_at "ob2")) (Re.cut (re_tape (d := p_tape)) hI (by omega)) fun v158 H158 d158 f158 hI158 r158 hp158 => ?_
        replace r158 : zI K T H158 v158 d158 := r158
        replace r_tape := Mo.fr (Fr.mono f158 (fun b hb => (hW b hb))) r_tape
        replace r_size := Mo.fr (Fr.mono f158 (fun b hb => (hW b hb))) r_size
        replace r_many := Mo.fr (Fr.mono f158 (fun b hb => (hW b hb))) r_many
        replace r155 := Mo.fr (Fr.mono f158 (fun b hb => (hW b hb))) r155
        replace r156 := Mo.fr (Fr.mono f158 (fun b hb => (hW b hb))) r156
        replace r157 := Mo.fr (Fr.mono f158 (fun b hb => (hW b hb))) r157
        replace hT := hT.fr f158
        replace ea := ea.trans f158
        replace hI := hI158
        have hp158 : 0 ≤ d158 ∧ d158 < (12 : Int) := hp158
        refine of_op ?_
        refine x_run (K := K) (T := T) (ev_add (ev_var (i := 0) rfl r155) (ev_var (i := 1) rfl r158)) fun v159 H159 e159 r159 => ?_
        replace r_tape := Mo.fr e159.fr r_tape
        replace r_size := Mo.fr e159.fr r_size
        replace r_many := Mo.fr e159.fr r_many
        replace r155 := Mo.fr e159.fr r155
        replace r156 := Mo.fr e159.fr r156
        replace r157 := Mo.fr e159.fr r157
        replace r158 := Mo.fr e159.fr r158
        replace hT := hT.ex e159
        replace ea := ea.trans (Ex.fr e159)
        replace hI := Re.ex (re_tape (d := p_tape)) hI e159
        have h_many_0 := hp158
        replace r_many := r159
        first | refine nx_ ?_ | skip
        refine st_asg (K := K) (T := T) (ev_min2 (ev_var (i := 1) rfl r_size) ev_int) fun v160 H160 e160 rr160 => ?_
        replace r_tape := Mo.fr e160.fr r_tape
        replace r_many := Mo.fr e160.fr r_many
        replace hT := hT.ex e160
        replace ea := ea.trans (Ex.fr e160)
        replace hI := Re.ex (re_tape (d := p_tape)) hI e160
        replace r_size := rr160
        have hmm161 := mn2_spec d58 (5 : Int)
        first | refine nx_ ?_ | skip
        refine asg_open ?_
        refine lst_open ?_
        refine cons_open ?_
        refine call_open ?_
        refine cons_open ?_
        refine x_run (K := K) (T := T) (ev_var (i := 0) rfl r_tape) fun v163 H163 e163 r163 => ?_
        replace r_tape := Mo.fr e163.fr r_tape
        replace r_many := Mo.fr e163.fr r_many
        replace r_size := Mo.fr e163.fr r_size
        replace hT := hT.ex e163
        replace ea := ea.trans (Ex.fr e163)
        replace hI := Re.ex (re_tape (d := p_tape)) hI e163
        refine cons_open ?_
        refine x_run (K := K) (T := T) (ev_var (i := 1) rfl r_size) fun v164 H164 e164 r164 => ?_
        replace r_tape := Mo.fr e164.fr r_tape
        replace r_many := Mo.fr e164.fr r_many
        replace r_size := Mo.fr e164.fr r_size
        replace r163 := Mo.fr e164.fr r163
        replace hT := hT.ex e164
        replace ea := ea.trans (Ex.fr e164)
        replace hI := Re.ex (re_tape (d := p_tape)) hI e164
        refine nil_open ?_
        refine ncall_v (T := T) (b := (p_tape, (mn2 d58 (5 : Int)), ())) (n := n + 1895) hT (fun b hb => (hW b hb)) ⟨_, _, rfl, r163, ⟨_, _, rfl, r164, rfl⟩⟩ (show 0 ≤ (mn2 d58 (5 : Int)) ∧ (mn2 d58 (5 : Int)) ≤ 50 from (by first | walk_at "ob" | (have h1 := hinv.2 _ h_row_1; omega) | (refine ⟨rfl, fun w hw => ?_⟩; simp only [List.mem_singleton] at hw; subst hw; omega) | (have h1 := hinv.2 _ h_row_1; refine ⟨by (simp only [List.length_append, List.length_cons, List.length_nil]; omega), fun w hw => ?_⟩; (rcases List.mem_append.mp hw with hw | hw); exact hinv.2 w hw; (simp only [List.mem_singleton] at hw; subst hw; rw [List.length_append]; omega)) | (simp only [rng_len] at *; refine ⟨_, ?_, fun h => ?_, ?_, hinv.2⟩; omega; (have h1 := hinv.1; simp only [h, List.length_nil] at h1; omega); omega) | walk_at "ob1" | walk_at "ob2")) (Re.cut (re_tape (d := p_tape)) hI (by omega)) fun v165 H165 d165 f165 hI165 r165 hp165 => ?_
        replace r165 : zW K T H165 v165 d165 := r165
        replace r_tape := Mo.fr (Fr.mono f165 (fun b hb => (hW b hb))) r_tape
        replace r_many := Mo.fr (Fr.mono f165 (fun b hb => (hW b hb))) r_many
        replace r_size := Mo.fr (Fr.mono f165 (fun b hb => (hW b hb))) r_size
        replace r163 := Mo.fr (Fr.mono f165 (fun b hb => (hW b hb))) r163
        replace r164 := Mo.fr (Fr.mono f165 (fun b hb => (hW b hb))) r164
        replace hT := hT.fr f165
        replace ea := ea.trans f165
        replace hI := hI165
        have hp165 : (d165.length : Int) = (mn2 d58 (5 : Int)) := hp165
        refine nil_open ?_
        refine ⟨(by rw [sizeLine_eq]; simp), fun p162 n162 => ?_⟩
        obtain ⟨f162, en162, m_rows⟩ := hm_new (K := K) (T := T) (r := zW) (xs := [d165]) n162 (.cons r165 .nil)
        generalize upd H165 p162 (HO.lst [v165]) = H162 at f162 en162 m_rows ⊢
        have hn_p162 : ¬ T p162 := fun z => (hT.new n162) z
        replace r_tape := Mo.fr en162.fr (Mo.lift n162 r_tape)
        replace r_many := Mo.fr en162.fr (Mo.lift n162 r_many)
        replace r_size := Mo.fr en162.fr (Mo.lift n162 r_size)
        replace hT := hT.of_mem (S := T0) en162.fr m_rows.dom
        have h0_p162 := ea.back n162
        replace ea := ea.trans (Ex.fr en162)
        replace hI := Re.ex (re_tape (d := p_tape)) hI en162
        first | refine nx_ ?_ | skip
        refine st_for (K := K) (T := (Tp T p162)) hT (ei_range (ea_cons (ev_sub (ev_var (i := 2) rfl r_many) ev_int) ea_nil) (by first | walk_at "ob" | (have h1 := hinv.2 _ h_row_1; omega) | (refine ⟨rfl, fun w hw => ?_⟩; simp only [List.mem_singleton] at hw; subst hw; omega) | (have h1 := hinv.2 _ h_row_1; refine ⟨by (simp only [List.length_append, List.length_cons, List.length_nil]; omega), fun w hw => ?_⟩; (rcases List.mem_append.mp hw with hw | hw); exact hinv.2 w hw; (simp only [List.mem_singleton] at hw; subst hw; rw [List.length_append]; omega)) | (simp only [rng_len] at *; refine ⟨_, ?_, fun h => ?_, ?_, hinv.2⟩; omega; (have h1 := hinv.1; simp only [h, List.length_nil] at h1; omega); omega) | walk_at "ob1" | walk_at "ob2") (by first | walk_at "ob" | (have h1 := hinv.2 _ h_row_1; omega) | (refine ⟨rfl, fun w hw => ?_⟩; simp only [List.mem_singleton] at hw; subst hw; omega) | (have h1 := hinv.2 _ h_row_1; refine ⟨by (simp only [List.length_append, List.length_cons, List.length_nil]; omega), fun w hw => ?_⟩; (rcases List.mem_append.mp hw with hw | hw); exact hinv.2 w hw; (simp only [List.mem_singleton] at hw; subst hw; rw [List.length_append]; omega)) | (simp only [rng_len] at *; refine ⟨_, ?_, fun h => ?_, ?_, hinv.2⟩; omega; (have h1 := hinv.1; simp only [h, List.length_nil] at h1; omega); omega) | walk_at "ob1" | walk_at "ob2")) fun H166 e166 => ?_
        replace r_tape := Mo.fr e166.fr r_tape
        replace r_many := Mo.fr e166.fr r_many
        replace r_size := Mo.fr e166.fr r_size
        replace m_rows := m_rows.ex' e166
        replace hT := hT.ex e166
        replace ea := ea.trans (Ex.fr e166)
        replace hI := Re.ex (re_tape (d := p_tape)) hI e166
        have hN166 : ((rng 0 ((((1 : Int) + d158) - (1 : Int))).toNat)).length ≤ 11 := (by first | walk_at "ob" | (have h1 := hinv.2 _ h_row_1; omega) | (refine ⟨rfl, fun w hw => ?_⟩; simp only [List.mem_singleton] at hw; subst hw; omega) | (have h1 := hinv.2 _ h_row_1; refine ⟨by (simp only [List.length_append, List.length_cons, List.length_nil]; omega), fun w hw => ?_⟩; (rcases List.mem_append.mp hw with hw | hw); exact hinv.2 w hw; (simp only [List.mem_singleton] at hw; subst hw; rw [List.length_append]; omega)) | (simp only [rng_len] at *; refine ⟨_, ?_, fun h => ?_, ?_, hinv.2⟩; omega; (have h1 := hinv.1; simp only [h, List.length_nil] at h1; omega); omega) | walk_at "ob1" | walk_at "ob2")
        obtain ⟨Pv166, hPv166⟩ : ∃ Pv : Nat → L2.St → Hp → Prop, ∀ i σ' H', Pv i σ' H' ↔ (∃ (si : (List (List Bool))), ((si).length = 1 + i ∧ ∀ w ∈ si, (w.length : Int) = (mn2 d58 (5 : Int))) ∧ Fr (Tp (WTp p_tape) p162) H166 H' ∧ ∃ (y_row : Option V) (y_at : Option V) (y_k : Option V), σ' = [some v_tape, some v160, some v159, some (.ref p162), y_k, y_row, y_at] ∧ HM zW K (Tp T p162) H' p162 si ∧ (TpI p_tape) (n + (773 + (11 - i) * 102)) H') := ⟨_, fun _ _ _ => Iff.rfl⟩
        refine ⟨Pv166, (hPv166 _ _ _).mpr ⟨([d165] : (List (List Bool))), (by first | walk_at "inv" | walk_at "ob" | (have h1 := hinv.2 _ h_row_1; omega) | (refine ⟨rfl, fun w hw => ?_⟩; simp only [List.mem_singleton] at hw; subst hw; omega) | (have h1 := hinv.2 _ h_row_1; refine ⟨by (simp only [List.length_append, List.length_cons, List.length_nil]; omega), fun w hw => ?_⟩; (rcases List.mem_append.mp hw with hw | hw); exact hinv.2 w hw; (simp only [List.mem_singleton] at hw; subst hw; rw [List.length_append]; omega)) | (simp only [rng_len] at *; refine ⟨_, ?_, fun h => ?_, ?_, hinv.2⟩; omega; (have h1 := hinv.1; simp only [h, List.length_nil] at h1; omega); omega) | (dsimp only; first | walk_at "inv" | walk_at "ob" | (have h1 := hinv.2 _ h_row_1; omega) | (refine ⟨rfl, fun w hw => ?_⟩; simp only [List.mem_singleton] at hw; subst hw; omega) | (have h1 := hinv.2 _ h_row_1; refine ⟨by (simp only [List.length_append, List.length_cons, List.length_nil]; omega), fun w hw => ?_⟩; (rcases List.mem_append.mp hw with hw | hw); exact hinv.2 w hw; (simp only [List.mem_singleton] at hw; subst hw; rw [List.length_append]; omega)) | (simp only [rng_len] at *; refine ⟨_, ?_, fun h => ?_, ?_, hinv.2⟩; omega; (have h1 := hinv.1; simp only [h, List.length_nil] at h1; omega); omega)) | walk_at "ob1" | walk_at "ob2"), Fr.refl _, _, _, _, rfl, m_rows, (Re.cut (re_tape (d := p_tape)) hI (by omega))⟩, fun i σ' H' _ h => ?_, ?_, ?_⟩
        · obtain ⟨si, _, hF, _⟩ := (hPv166 _ _ _).mp h
          exact hF.mono (fun b hb => hb.elim (fun z => .inl (hW _ z)) .inr)
        · intro i x166 σ' H'166 v166 H''166 hx166 hh eY rv166
          obtain ⟨si166, hinv166, hF166, y_row, y_at, y_k, rfl, m'_rows, i'_R0⟩ := (hPv166 _ _ _).mp hh
          have hinv166 : (si166).length = 1 + i ∧ ∀ w ∈ si166, (w.length : Int) = (mn2 d58 (5 : Int)) := hinv166
          have hinv := hinv166
          have hmem166 := List.mem_of_getElem? hx166
          have hi166 := (List.getElem?_eq_some_iff.mp hx166).1
          replace r_tape := Mo.fr ((hF166.mono (fun b hb => hb.elim (fun z => .inl (hW _ z)) .inr)).trans eY.fr) r_tape
          replace r_many := Mo.fr ((hF166.mono (fun b hb => hb.elim (fun z => .inl (hW _ z)) .inr)).trans eY.fr) r_many
          replace r_size := Mo.fr ((hF166.mono (fun b hb => hb.elim (fun z => .inl (hW _ z)) .inr)).trans eY.fr) r_size
          replace m_rows := m'_rows.ex' eY
          replace hT := (hT.fr hF166).ex eY
          replace hI : (TpI p_tape) ((n + (773 + (11 - (i + 1)) * 102)) + 102) H''166 := Re.cut (re_tape (d := p_tape)) (Re.ex (re_tape (d := p_tape)) i'_R0 eY) (by omega)
          replace ea := (ea.thenFr hF166 (fun b hb => hb.elim (fun z => .inl z) (fun z => by subst z; exact .inr h0_p162))).trans eY.fr
          replace eb166 := hF166.trans (Ex.fr (T := (Tp (WTp p_tape) p162)) eY)
          refine gn ?_
          replace r_k := rv166
          first | refine nx_ ?_ | skip
          refine asg_open ?_
          refine op_open ?_
          refine x_run (K := K) (T := (Tp T p162)) (ev_var (i := 3) (r := zA) (v := .ref p162) (d := p162) rfl rfl) fun v168 H168 e168 r168 => ?_
          cases r168
          replace r_tape := Mo.fr e168.fr r_tape
          replace r_many := Mo.fr e168.fr r_many
          replace r_size := Mo.fr e168.fr r_size
          replace r_k := Mo.fr e168.fr r_k
          replace m_rows := m_rows.ex' e168
          replace hT := hT.ex e168
          replace ea := ea.trans (Ex.fr e168)
          replace hI := Re.ex (re_tape (d := p_tape)) hI e168
          replace eb166 := eb166.trans e168.fr
          refine call_open ?_
          refine cons_open ?_
          refine x_run (K := K) (T := (Tp T p162)) (ev_var (i := 0) rfl r_tape) fun v169 H169 e169 r169 => ?_
          replace r_tape := Mo.fr e169.fr r_tape
          replace r_many := Mo.fr e169.fr r_many
          replace r_size := Mo.fr e169.fr r_size
          replace r_k := Mo.fr e169.fr r_k
          replace m_rows := m_rows.ex' e169
          replace hT := hT.ex e169
          replace ea := ea.trans (Ex.fr e169)
          replace hI := Re.ex (re_tape (d := p_tape)) hI e169
          replace eb166 := eb166.trans e169.fr
          refine cons_open ?_
          refine x_run (K := K) (T := T) (ev_lenL (ev_var (i := 3) rfl (m_rows.done (T' := T) (fun b hb => (.inl hb)) (fun z => (hn_p162 z))))) fun v170 H170 e170 r170 => ?_
          replace r_tape := Mo.fr e170.fr r_tape
          replace r_many := Mo.fr e170.fr r_many
          replace r_size := Mo.fr e170.fr r_size
          replace r_k := Mo.fr e170.fr r_k
          replace r169 := Mo.fr e170.fr r169
          replace m_rows := m_rows.ex' e170
          replace hT := hT.ex e170
          replace ea := ea.trans (Ex.fr e170)
          replace hI := Re.ex (re_tape (d := p_tape)) hI e170
          replace eb166 := eb166.trans e170.fr
          replace r170 : zI K (Tp T p162) H170 v170 _ := r170
          refine nil_open ?_
          refine ncall_v (T := (Tp T p162)) (b := (p_tape, ((si166).length : Int), ())) (n := (n + (773 + (11 - (i + 1)) * 102)) + 101) hT (fun b hb => (.inl (hW b hb))) ⟨_, _, rfl, r169, ⟨_, _, rfl, r170, rfl⟩⟩ (show 0 < ((si166).length : Int) ∧ ((si166).length : Int) < 1073741824 from (by first | walk_at "ob" | (have h1 := hinv.2 _ h_row_1; omega) | (refine ⟨rfl, fun w hw => ?_⟩; simp only [List.mem_singleton] at hw; subst hw; omega) | (have h1 := hinv.2 _ h_row_1; refine ⟨by (simp only [List.length_append, List.length_cons, List.length_nil]; omega), fun w hw => ?_⟩; (rcases List.mem_append.mp hw with hw | hw); exact hinv.2 w hw; (simp only [List.mem_singleton] at hw; subst hw; rw [List.length_append]; omega)) | (simp only [rng_len] at *; refine ⟨_, ?_, fun h => ?_, ?_, hinv.2⟩; omega; (have h1 := hinv.1; simp only [h, List.length_nil] at h1; omega); omega) | walk_at "ob1" | walk_at "ob2")) (Re.cut (re_tape (d := p_tape)) hI (by omega)) fun v171 H171 d171 f171 hI171 r171 hp171 => ?_
          replace r171 : zI K (Tp T p162) H171 v171 d171 := r171
          replace r_tape := Mo.fr (Fr.mono f171 (fun b hb => (.inl (hW b hb)))) r_tape
          replace r_many := Mo.fr (Fr.mono f171 (fun b hb => (.inl (hW b hb)))) r_many
          replace r_size := Mo.fr (Fr.mono f171 (fun b hb => (.inl (hW b hb)))) r_size
          replace r_k := Mo.fr (Fr.mono f171 (fun b hb => (.inl (hW b hb)))) r_k
          replace r169 := Mo.fr (Fr.mono f171 (fun b hb => (.inl (hW b hb)))) r169
          replace r170 := Mo.fr (Fr.mono f171 (fun b hb => (.inl (hW b hb)))) r170
          replace m_rows := m_rows.fr f171 (fun z => hn_p162 (hW _ z)) (fun b hb => (.inl (hW b hb)))
          replace hT := hT.fr f171
          replace ea := ea.trans f171
          replace eb166 := eb166.trans (f171.mono fun b hb => (.inl hb))
          replace hI := hI171
          have hp171 : 0 ≤ d171 ∧ d171 < ((si166).length : Int) := hp171
          refine of_op ?_
          refine x_run (K := K) (T := T) (ev_ixL (ev_var (i := 0) rfl (m_rows.done (T' := T) (fun b hb => (.inl hb)) (fun z => (hn_p162 z)))) (ev_var (i := 1) rfl (Mo.sub (T' := T) (fun b hb => (.inl hb)) r171)) (at_get (d0 := []) (by first | walk_at "ob" | (have h1 := hinv.2 _ h_row_1; omega) | (refine ⟨rfl, fun w hw => ?_⟩; simp only [List.mem_singleton] at hw; subst hw; omega) | (have h1 := hinv.2 _ h_row_1; refine ⟨by (simp only [List.length_append, List.length_cons, List.length_nil]; omega), fun w hw => ?_⟩; (rcases List.mem_append.mp hw with hw | hw); exact hinv.2 w hw; (simp only [List.mem_singleton] at hw; subst hw; rw [List.length_append]; omega)) | (simp only [rng_len] at *; refine ⟨_, ?_, fun h => ?_, ?_, hinv.2⟩; omega; (have h1 := hinv.1; simp only [h, List.length_nil] at h1; omega); omega) | walk_at "ob1" | walk_at "ob2") (by first | walk_at "ob" | (have h1 := hinv.2 _ h_row_1; omega) | (refine ⟨rfl, fun w hw => ?_⟩; simp only [List.mem_singleton] at hw; subst hw; omega) | (have h1 := hinv.2 _ h_row_1; refine ⟨by (simp only [List.length_append, List.length_cons, List.length_nil]; omega), fun w hw => ?_⟩; (rcases List.mem_append.mp hw with hw | hw); exact hinv.2 w hw; (simp only [List.mem_singleton] at hw; subst hw; rw [List.length_append]; omega)) | (simp only [rng_len] at *; refine ⟨_, ?_, fun h => ?_, ?_, hinv.2⟩; omega; (have h1 := hinv.1; simp only [h, List.length_nil] at h1; omega); omega) | walk_at "ob1" | walk_at "ob2"))) fun v172 H172 e172 r172 => ?_
          replace r_tape := Mo.fr e172.fr r_tape
          replace r_many := Mo.fr e172.fr r_many
          replace r_size := Mo.fr e172.fr r_size
          replace r_k := Mo.fr e172.fr r_k
          replace r169 := Mo.fr e172.fr r169
          replace r170 := Mo.fr e172.fr r170
          replace r171 := Mo.fr e172.fr r171
          replace m_rows := m_rows.ex' e172
          replace hT := hT.ex e172
          replace ea := ea.trans (Ex.fr e172)
          replace hI := Re.ex (re_tape (d := p_tape)) hI e172
          replace eb166 := eb166.trans e172.fr
          replace r172 : zW K (Tp T p162) H172 v172 _ := r172
          have hm172 : ((si166).getD (d171).toNat []) ∈ si166 := getD_mem (by first | walk_at "ob" | (have h1 := hinv.2 _ h_row_1; omega) | (refine ⟨rfl, fun w hw => ?_⟩; simp only [List.mem_singleton] at hw; subst hw; omega) | (have h1 := hinv.2 _ h_row_1; refine ⟨by (simp only [List.length_append, List.length_cons, List.length_nil]; omega), fun w hw => ?_⟩; (rcases List.mem_append.mp hw with hw | hw); exact hinv.2 w hw; (simp only [List.mem_singleton] at hw; subst hw; rw [List.length_append]; omega)) | (simp only [rng_len] at *; refine ⟨_, ?_, fun h => ?_, ?_, hinv.2⟩; omega; (have h1 := hinv.1; simp only [h, List.length_nil] at h1; omega); omega) | walk_at "ob1" | walk_at "ob2") (by first | walk_at "ob" | (have h1 := hinv.2 _ h_row_1; omega) | (refine ⟨rfl, fun w hw => ?_⟩; simp only [List.mem_singleton] at hw; subst hw; omega) | (have h1 := hinv.2 _ h_row_1; refine ⟨by (simp only [List.length_append, List.length_cons, List.length_nil]; omega), fun w hw => ?_⟩; (rcases List.mem_append.mp hw with hw | hw); exact hinv.2 w hw; (simp only [List.mem_singleton] at hw; subst hw; rw [List.length_append]; omega)) | (simp only [rng_len] at *; refine ⟨_, ?_, fun h => ?_, ?_, hinv.2⟩; omega; (have h1 := hinv.1; simp only [h, List.length_nil] at h1; omega); omega) | walk_at "ob1" | walk_at "ob2")
          have h_row_0 := hp171
          have h_row_1 := hm172
          replace r_row := r172
          first | refine nx_ ?_ | skip
          refine asg_open ?_
          refine call_open ?_
          refine cons_open ?_
          refine x_run (K := K) (T := (Tp T p162)) (ev_var (i := 0) rfl r_tape) fun v174 H174 e174 r174 => ?_
          replace r_tape := Mo.fr e174.fr r_tape
          replace r_many := Mo.fr e174.fr r_many
          replace r_size := Mo.fr e174.fr r_size
          replace r_k := Mo.fr e174.fr r_k
          replace r_row := Mo.fr e174.fr r_row
          replace m_rows := m_rows.ex' e174
          replace hT := hT.ex e174
          replace ea := ea.trans (Ex.fr e174)
          replace hI := Re.ex (re_tape (d := p_tape)) hI e174
          replace eb166 := eb166.trans e174.fr
          refine cons_open ?_
          refine x_run (K := K) (T := (Tp T p162)) (ev_add (ev_var (i := 1) rfl r_size) ev_int) fun v175 H175 e175 r175 => ?_
          replace r_tape := Mo.fr e175.fr r_tape
          replace r_many := Mo.fr e175.fr r_many
          replace r_size := Mo.fr e175.fr r_size
          replace r_k := Mo.fr e175.fr r_k
          replace r_row := Mo.fr e175.fr r_row
          replace r174 := Mo.fr e175.fr r174
          replace m_rows := m_rows.ex' e175
          replace hT := hT.ex e175
          replace ea := ea.trans (Ex.fr e175)
          replace hI := Re.ex (re_tape (d := p_tape)) hI e175
          replace eb166 := eb166.trans e175.fr
          refine nil_open ?_
          refine ncall_v (T := (Tp T p162)) (b := (p_tape, ((mn2 d58 (5 : Int)) + (1 : Int)), ())) (n := (n + (773 + (11 - (i + 1)) * 102)) + 100) hT (fun b hb => (.inl (hW b hb))) ⟨_, _, rfl, r174, ⟨_, _, rfl, r175, rfl⟩⟩ (show 0 < ((mn2 d58 (5 : Int)) + (1 : Int)) ∧ ((mn2 d58 (5 : Int)) + (1 : Int)) < 1073741824 from (by first | walk_at "ob" | (have h1 := hinv.2 _ h_row_1; omega) | (refine ⟨rfl, fun w hw => ?_⟩; simp only [List.mem_singleton] at hw; subst hw; omega) | (have h1 := hinv.2 _ h_row_1; refine ⟨by (simp only [List.length_append, List.length_cons, List.length_nil]; omega), fun w hw => ?_⟩; (rcases List.mem_append.mp hw with hw | hw); exact hinv.2 w hw; (simp only [List.mem_singleton] at hw; subst hw; rw [List.length_append]; omega)) | (simp only [rng_len] at *; refine ⟨_, ?_, fun h => ?_, ?_, hinv.2⟩; omega; (have h1 := hinv.1; simp only [h, List.length_nil] at h1; omega); omega) | walk_at "ob1" | walk_at "ob2")) (Re.cut (re_tape (d := p_tape)) hI (by omega)) fun v176 H176 d176 f176 hI176 r176 hp176 => ?_
          replace r176 : zI K (Tp T p162) H176 v176 d176 := r176
          replace r_tape := Mo.fr (Fr.mono f176 (fun b hb => (.inl (hW b hb)))) r_tape
          replace r_many := Mo.fr (Fr.mono f176 (fun b hb => (.inl (hW b hb)))) r_many
          replace r_size := Mo.fr (Fr.mono f176 (fun b hb => (.inl (hW b hb)))) r_size
          replace r_k := Mo.fr (Fr.mono f176 (fun b hb => (.inl (hW b hb)))) r_k
          replace r_row := Mo.fr (Fr.mono f176 (fun b hb => (.inl (hW b hb)))) r_row
          replace r174 := Mo.fr (Fr.mono f176 (fun b hb => (.inl (hW b hb)))) r174
          replace r175 := Mo.fr (Fr.mono f176 (fun b hb => (.inl (hW b hb)))) r175
          replace m_rows := m_rows.fr f176 (fun z => hn_p162 (hW _ z)) (fun b hb => (.inl (hW b hb)))
          replace hT := hT.fr f176
          replace ea := ea.trans f176
          replace eb166 := eb166.trans (f176.mono fun b hb => (.inl hb))
          replace hI := hI176
          have hp176 : 0 ≤ d176 ∧ d176 < ((mn2 d58 (5 : Int)) + (1 : Int)) := hp176
          have h_at_0 := hp176
          replace r_at := r176
          first | refine nx_ ?_ | skip
          refine append_open (K := K) (T := (Tp T p162)) rfl m_rows ?_
          refine op_open ?_
          refine x_run (K := K) (T := (Tp T p162)) (ev_slW (ev_var (i := 5) rfl r_row) eo_none (eo_some (K := K) (ev_var (i := 6) rfl r_at))) fun v178 H178 e178 r178 => ?_
          replace r_tape := Mo.fr e178.fr r_tape
          replace r_many := Mo.fr e178.fr r_many
          replace r_size := Mo.fr e178.fr r_size
          replace r_k := Mo.fr e178.fr r_k
          replace r_row := Mo.fr e178.fr r_row
          replace r_at := Mo.fr e178.fr r_at
          replace m_rows := m_rows.ex' e178
          replace hT := hT.ex e178
          replace ea := ea.trans (Ex.fr e178)
          replace hI := Re.ex (re_tape (d := p_tape)) hI e178
          replace eb166 := eb166.trans e178.fr
          have hmm179 := cutA_up ((si166).getD (d171).toNat []) d176
          refine call_open ?_
          refine cons_open ?_
          refine x_run (K := K) (T := (Tp T p162)) (ev_var (i := 0) rfl r_tape) fun v180 H180 e180 r180 => ?_
          replace r_tape := Mo.fr e180.fr r_tape
          replace r_many := Mo.fr e180.fr r_many
          replace r_size := Mo.fr e180.fr r_size
          replace r_k := Mo.fr e180.fr r_k
          replace r_row := Mo.fr e180.fr r_row
          replace r_at := Mo.fr e180.fr r_at
          replace r178 := Mo.fr e180.fr r178
          replace m_rows := m_rows.ex' e180
          replace hT := hT.ex e180
          replace ea := ea.trans (Ex.fr e180)
          replace hI := Re.ex (re_tape (d := p_tape)) hI e180
          replace eb166 := eb166.trans e180.fr
          refine cons_open ?_
          refine x_run (K := K) (T := (Tp T p162)) (ev_sub (ev_var (i := 1) rfl r_size) (ev_var (i := 6) rfl r_at)) fun v181 H181 e181 r181 => ?_
          replace r_tape := Mo.fr e181.fr r_tape
          replace r_many := Mo.fr e181.fr r_many
          replace r_size := Mo.fr e181.fr r_size
          replace r_k := Mo.fr e181.fr r_k
          replace r_row := Mo.fr e181.fr r_row
          replace r_at := Mo.fr e181.fr r_at
          replace r178 := Mo.fr e181.fr r178
          replace r180 := Mo.fr e181.fr r180
          replace m_rows := m_rows.ex' e181
          replace hT := hT.ex e181
          replace ea := ea.trans (Ex.fr e181)
          replace hI := Re.ex (re_tape (d := p_tape)) hI e181
          replace eb166 := eb166.trans e181.fr
          refine nil_open ?_
          refine ncall_v (T := (Tp T p162)) (b := (p_tape, ((mn2 d58 (5 : Int)) - d176), ())) (n := (n + (773 + (11 - (i + 1)) * 102)) + 0) hT (fun b hb => (.inl (hW b hb))) ⟨_, _, rfl, r180, ⟨_, _, rfl, r181, rfl⟩⟩ (show 0 ≤ ((mn2 d58 (5 : Int)) - d176) ∧ ((mn2 d58 (5 : Int)) - d176) ≤ 50 from (by first | walk_at "ob" | (have h1 := hinv.2 _ h_row_1; omega) | (refine ⟨rfl, fun w hw => ?_⟩; simp only [List.mem_singleton] at hw; subst hw; omega) | (have h1 := hinv.2 _ h_row_1; refine ⟨by (simp only [List.length_append, List.length_cons, List.length_nil]; omega), fun w hw => ?_⟩; (rcases List.mem_append.mp hw with hw | hw); exact hinv.2 w hw; (simp only [List.mem_singleton] at hw; subst hw; rw [List.length_append]; omega)) | (simp only [rng_len] at *; refine ⟨_, ?_, fun h => ?_, ?_, hinv.2⟩; omega; (have h1 := hinv.1; simp only [h, List.length_nil] at h1; omega); omega) | walk_at "ob1" | walk_at "ob2")) (Re.cut (re_tape (d := p_tape)) hI (by omega)) fun v182 H182 d182 f182 hI182 r182 hp182 => ?_
          replace r182 : zW K (Tp T p162) H182 v182 d182 := r182
          replace r_tape := Mo.fr (Fr.mono f182 (fun b hb => (.inl (hW b hb)))) r_tape
          replace r_many := Mo.fr (Fr.mono f182 (fun b hb => (.inl (hW b hb)))) r_many
          replace r_size := Mo.fr (Fr.mono f182 (fun b hb => (.inl (hW b hb)))) r_size
          replace r_k := Mo.fr (Fr.mono f182 (fun b hb => (.inl (hW b hb)))) r_k
          replace r_row := Mo.fr (Fr.mono f182 (fun b hb => (.inl (hW b hb)))) r_row
          replace r_at := Mo.fr (Fr.mono f182 (fun b hb => (.inl (hW b hb)))) r_at
          replace r178 := Mo.fr (Fr.mono f182 (fun b hb => (.inl (hW b hb)))) r178
          replace r180 := Mo.fr (Fr.mono f182 (fun b hb => (.inl (hW b hb)))) r180
          replace r181 := Mo.fr (Fr.mono f182 (fun b hb => (.inl (hW b hb)))) r181
          replace m_rows := m_rows.fr f182 (fun z => hn_p162 (hW _ z)) (fun b hb => (.inl (hW b hb)))
          replace hT := hT.fr f182
          replace ea := ea.trans f182
          replace eb166 := eb166.trans (f182.mono fun b hb => (.inl hb))
          replace hI := hI182
          have hp182 : (d182.length : Int) = ((mn2 d58 (5 : Int)) - d176) := hp182
          refine of_op ?_
          refine x_run (K := K) (T := (Tp T p162)) (ev_catW (ev_var (i := 0) rfl r178) (ev_var (i := 1) rfl r182) (by first | walk_at "ob" | (have h1 := hinv.2 _ h_row_1; omega) | (refine ⟨rfl, fun w hw => ?_⟩; simp only [List.mem_singleton] at hw; subst hw; omega) | (have h1 := hinv.2 _ h_row_1; refine ⟨by (simp only [List.length_append, List.length_cons, List.length_nil]; omega), fun w hw => ?_⟩; (rcases List.mem_append.mp hw with hw | hw); exact hinv.2 w hw; (simp only [List.mem_singleton] at hw; subst hw; rw [List.length_append]; omega)) | (simp only [rng_len] at *; refine ⟨_, ?_, fun h => ?_, ?_, hinv.2⟩; omega; (have h1 := hinv.1; simp only [h, List.length_nil] at h1; omega); omega) | walk_at "ob1" | walk_at "ob2")) fun v183 H183 e183 r183 => ?_
          replace r_tape := Mo.fr e183.fr r_tape
          replace r_many := Mo.fr e183.fr r_many
          replace r_size := Mo.fr e183.fr r_size
          replace r_k := Mo.fr e183.fr r_k
          replace r_row := Mo.fr e183.fr r_row
          replace r_at := Mo.fr e183.fr r_at
          replace r178 := Mo.fr e183.fr r178
          replace r180 := Mo.fr e183.fr r180
          replace r181 := Mo.fr e183.fr r181
          replace r182 := Mo.fr e183.fr r182
          replace m_rows := m_rows.ex' e183
          replace hT := hT.ex e183
          replace ea := ea.trans (Ex.fr e183)
          replace hI := Re.ex (re_tape (d := p_tape)) hI e183
          replace eb166 := eb166.trans e183.fr
          refine append_v (K := K) (T := (Tp T p162)) (S := fun _ => False) m_rows r183 (by first | walk_at "ob" | (have h1 := hinv.2 _ h_row_1; omega) | (refine ⟨rfl, fun w hw => ?_⟩; simp only [List.mem_singleton] at hw; subst hw; omega) | (have h1 := hinv.2 _ h_row_1; refine ⟨by (simp only [List.length_append, List.length_cons, List.length_nil]; omega), fun w hw => ?_⟩; (rcases List.mem_append.mp hw with hw | hw); exact hinv.2 w hw; (simp only [List.mem_singleton] at hw; subst hw; rw [List.length_append]; omega)) | (simp only [rng_len] at *; refine ⟨_, ?_, fun h => ?_, ?_, hinv.2⟩; omega; (have h1 := hinv.1; simp only [h, List.length_nil] at h1; omega); omega) | walk_at "ob1" | walk_at "ob2") fun H184 v184 ev184 f184 fT184 m184 => ?_
          have e184 := Ex.refl H183
          have hpm184 := m_rows.mem
          have fp184 : Fr (fun b => b = p162) H183 H184 := f184.mono (fun b hb => hb.elim False.elim id)
          replace r_tape := Mo.fr fT184 r_tape
          replace r_many := Mo.fr fT184 r_many
          replace r_size := Mo.fr fT184 r_size
          replace r_k := Mo.fr fT184 r_k
          replace r_row := Mo.fr fT184 r_row
          replace r_at := Mo.fr fT184 r_at
          replace hT := hT.fr fT184
          replace ea := ea.thenFr fp184 (fun b hb => by subst hb; exact .inr h0_p162)
          replace hI := Re.fr (re_tape (d := p_tape)) hI fp184 (fun b hb z => hn_p162 (hW _ (z ▸ hb)))
          replace eb166 := eb166.thenFr fp184 (fun b hb => by subst hb; exact .inl (.inr rfl))
          replace m_rows := m184
          exact (hPv166 _ _ _).mpr ⟨(si166 ++ [((cutA ((si166).getD (d171).toNat []) none (some d176)) ++ d182)]), (by first | walk_at "inv" | walk_at "ob" | (have h1 := hinv.2 _ h_row_1; omega) | (refine ⟨rfl, fun w hw => ?_⟩; simp only [List.mem_singleton] at hw; subst hw; omega) | (have h1 := hinv.2 _ h_row_1; refine ⟨by (simp only [List.length_append, List.length_cons, List.length_nil]; omega), fun w hw => ?_⟩; (rcases List.mem_append.mp hw with hw | hw); exact hinv.2 w hw; (simp only [List.mem_singleton] at hw; subst hw; rw [List.length_append]; omega)) | (simp only [rng_len] at *; refine ⟨_, ?_, fun h => ?_, ?_, hinv.2⟩; omega; (have h1 := hinv.1; simp only [h, List.length_nil] at h1; omega); omega) | (dsimp only; first | walk_at "inv" | walk_at "ob" | (have h1 := hinv.2 _ h_row_1; omega) | (refine ⟨rfl, fun w hw => ?_⟩; simp only [List.mem_singleton] at hw; subst hw; omega) | (have h1 := hinv.2 _ h_row_1; refine ⟨by (simp only [List.length_append, List.length_cons, List.length_nil]; omega), fun w hw => ?_⟩; (rcases List.mem_append.mp hw with hw | hw); exact hinv.2 w hw; (simp only [List.mem_singleton] at hw; subst hw; rw [List.length_append]; omega)) | (simp only [rng_len] at *; refine ⟨_, ?_, fun h => ?_, ?_, hinv.2⟩; omega; (have h1 := hinv.1; simp only [h, List.length_nil] at h1; omega); omega)) | walk_at "ob1" | walk_at "ob2"), eb166, _, _, _, rfl, m_rows, (Re.cut (re_tape (d := p_tape)) hI (by omega))⟩
        · intro σ' H'166 hh
          obtain ⟨si166, hinv166, hF166, y_row, y_at, y_k, rfl, m'_rows, i'_R0⟩ := (hPv166 _ _ _).mp hh
          have hinv166 : (si166).length = 1 + ((rng 0 ((((1 : Int) + d158) - (1 : Int))).toNat)).length ∧ ∀ w ∈ si166, (w.length : Int) = (mn2 d58 (5 : Int)) := hinv166
          have hinv := hinv166
          replace r_tape := Mo.fr (hF166.mono (fun b hb => hb.elim (fun z => .inl (hW _ z)) .inr)) r_tape
          replace r_many := Mo.fr (hF166.mono (fun b hb => hb.elim (fun z => .inl (hW _ z)) .inr)) r_many
          replace r_size := Mo.fr (hF166.mono (fun b hb => hb.elim (fun z => .inl (hW _ z)) .inr)) r_size
          replace m_rows := m'_rows
          replace hI : (TpI p_tape) (n + 773) H'166 := Re.cut (re_tape (d := p_tape)) i'_R0 (by omega)
          replace hT := hT.fr hF166
          replace ea := ea.thenFr hF166 (fun b hb => hb.elim (fun z => .inl z) (fun z => by subst z; exact .inr h0_p162))
          replace r_rows := m_rows.done (T' := T) (fun b hb => (.inl hb)) (fun z => (hn_p162 z))
          replace r_tape := Mo.sub (T' := T) (fun b hb => (.inl hb)) r_tape
          replace r_many := Mo.sub (T' := T) (fun b hb => (.inl hb)) r_many
          replace r_size := Mo.sub (T' := T) (fun b hb => (.inl hb)) r_size
          replace hT := hT.sub (T' := T) (fun b hb => (.inl hb))
          first | refine nx_ ?_ | skip
          exact st_ret (K := K) (T := T) (ev_var (i := 3) rfl r_rows) fun v H9 e r => hQ v H9 _ (ea.trans (Ex.fr e)) (Re.cut (re_tape (d := p_tape)) (Re.ex (re_tape (d := p_tape)) hI e) (by omega)) r (by first | walk_at "ob" | (have h1 := hinv.2 _ h_row_1; omega) | (refine ⟨rfl, fun w hw => ?_⟩; simp only [List.mem_singleton] at hw; subst hw; omega) | (have h1 := hinv.2 _ h_row_1; refine ⟨by (simp only [List.length_append, List.length_cons, List.length_nil]; omega), fun w hw => ?_⟩; (rcases List.mem_append.mp hw with hw | hw); exact hinv.2 w hw; (simp only [List.mem_singleton] at hw; subst hw; rw [List.length_append]; omega)) | (simp only [rng_len] at *; refine ⟨_, ?_, fun h => ?_, ?_, hinv.2⟩; omega; (have h1 := hinv.1; simp only [h, List.length_nil] at h1; omega); omega) | walk_at "ob1" | walk_at "ob2")
      · have h153 : (decide (d150 = (0 : Int))) = false := h153
        first | refine nx_ ?_ | skip
        refine asg_open ?_
        refine lst_open ?_
        refine cons_open ?_
        refine call_open ?_
        refine cons_open ?_
        refine x_run (K := K) (T := T) (ev_var (i := 0) rfl r_tape) fun v187 H187 e187 r187 => ?_
        replace r_tape := Mo.fr e187.fr r_tape
        replace r_size := Mo.fr e187.fr r_size
        replace r_many := Mo.fr e187.fr r_many
        replace hT := hT.ex e187
        replace ea := ea.trans (Ex.fr e187)
        replace hI := Re.ex (re_tape (d := p_tape)) hI e187
        refine cons_open ?_
        refine x_run (K := K) (T := T) (ev_var (i := 1) rfl r_size) fun v188 H188 e188 r188 => ?_
        replace r_tape := Mo.fr e188.fr r_tape
        replace r_size := Mo.fr e188.fr r_size
        replace r_many := Mo.fr e188.fr r_many
        replace r187 := Mo.fr e188.fr r187
        replace hT := hT.ex e188
        replace ea := ea.trans (Ex.fr e188)
        replace hI := Re.ex (re_tape (d := p_tape)) hI e188
        refine nil_open ?_
        refine ncall_v (T := T) (b := (p_tape, d58, ())) (n := n + 1896) hT (fun b hb => (hW b hb)) ⟨_, _, rfl, r187, ⟨_, _, rfl, r188, rfl⟩⟩ (show 0 ≤ d58 ∧ d58 ≤ 50 from (by first | walk_at "ob" | (have h1 := hinv.2 _ h_row_1; omega) | (refine ⟨rfl, fun w hw => ?_⟩; simp only [List.mem_singleton] at hw; subst hw; omega) | (have h1 := hinv.2 _ h_row_1; refine ⟨by (simp only [List.length_append, List.length_cons, List.length_nil]; omega), fun w hw => ?_⟩; (rcases List.mem_append.mp hw with hw | hw); exact hinv.2 w hw; (simp only [List.mem_singleton] at hw; subst hw; rw [List.length_append]; omega)) | (simp only [rng_len] at *; refine ⟨_, ?_, fun h => ?_, ?_, hinv.2⟩; omega; (have h1 := hinv.1; simp only [h, List.length_nil] at h1; omega); omega) | walk_at "ob1" | walk_at "ob2")) (Re.cut (re_tape (d := p_tape)) hI (by omega)) fun v189 H189 d189 f189 hI189 r189 hp189 => ?_
        replace r189 : zW K T H189 v189 d189 := r189
        replace r_tape := Mo.fr (Fr.mono f189 (fun b hb => (hW b hb))) r_tape
        replace r_size := Mo.fr (Fr.mono f189 (fun b hb => (hW b hb))) r_size
        replace r_many := Mo.fr (Fr.mono f189 (fun b hb => (hW b hb))) r_many
        replace r187 := Mo.fr (Fr.mono f189 (fun b hb => (hW b hb))) r187
        replace r188 := Mo.fr (Fr.mono f189 (fun b hb => (hW b hb))) r188
        replace hT := hT.fr f189
        replace ea := ea.trans f189
        replace hI := hI189
        have hp189 : (d189.length : Int) = d58 := hp189
        refine nil_open ?_
        refine ⟨(by rw [sizeLine_eq]; simp), fun p186 n186 => ?_⟩
        obtain ⟨f186, en186, m_rows⟩ := hm_new (K := K) (T := T) (r := zW) (xs := [d189]) n186 (.cons r189 .nil)
        generalize upd H189 p186 (HO.lst [v189]) = H186 at f186 en186 m_rows ⊢
        have hn_p186 : ¬ T p186 := fun z => (hT.new n186) z
        replace r_tape := Mo.fr en186.fr (Mo.lift n186 r_tape)
        replace r_size := Mo.fr en186.fr (Mo.lift n186 r_size)
        replace r_many := Mo.fr en186.fr (Mo.lift n186 r_many)
        replace hT := hT.of_mem (S := T0) en186.fr m_rows.dom
        have h0_p186 := ea.back n186
        replace ea := ea.trans (Ex.fr en186)
        replace hI := Re.ex (re_tape (d := p_tape)) hI en186
        first | refine nx_ ?_ | skip
        refine st_for (K := K) (T := (Tp T p186)) hT (ei_range (ea_cons (ev_sub (ev_var (i := 2) rfl r_many) ev_int) ea_nil) (by first | walk_at "ob" | (have h1 := hinv.2 _ h_row_1; omega) | (refine ⟨rfl, fun w hw => ?_⟩; simp only [List.mem_singleton] at hw; subst hw; omega) | (have h1 := hinv.2 _ h_row_1; refine ⟨by (simp only [List.length_append, List.length_cons, List.length_nil]; omega), fun w hw => ?_⟩; (rcases List.mem_append.mp hw with hw | hw); exact hinv.2 w hw; (simp only [List.mem_singleton] at hw; subst hw; rw [List.length_append]; omega)) | (simp only [rng_len] at *; refine ⟨_, ?_, fun h => ?_, ?_, hinv.2⟩; omega; (have h1 := hinv.1; simp only [h, List.length_nil] at h1; omega); omega) | walk_at "ob1" | walk_at "ob2") (by first | walk_at "ob" | (have h1 := hinv.2 _ h_row_1; omega) | (refine ⟨rfl, fun w hw => ?_⟩; simp only [List.mem_singleton] at hw; subst hw; omega) | (have h1 := hinv.2 _ h_row_1; refine ⟨by (simp only [List.length_append, List.length_cons, List.length_nil]; omega), fun w hw => ?_⟩; (rcases List.mem_append.mp hw with hw | hw); exact hinv.2 w hw; (simp only [List.mem_singleton] at hw; subst hw; rw [List.length_append]; omega)) | (simp only [rng_len] at *; refine ⟨_, ?_, fun h => ?_, ?_, hinv.2⟩; omega; (have h1 := hinv.1; simp only [h, List.length_nil] at h1; omega); omega) | walk_at "ob1" | walk_at "ob2")) fun H190 e190 => ?_
        replace r_tape := Mo.fr e190.fr r_tape
        replace r_size := Mo.fr e190.fr r_size
        replace r_many := Mo.fr e190.fr r_many
        replace m_rows := m_rows.ex' e190
        replace hT := hT.ex e190
        replace ea := ea.trans (Ex.fr e190)
        replace hI := Re.ex (re_tape (d := p_tape)) hI e190
        have hN190 : ((rng 0 ((((1 : Int) + d63) - (1 : Int))).toNat)).length ≤ 11 := (by first | walk_at "ob" | (have h1 := hinv.2 _ h_row_1; omega) | (refine ⟨rfl, fun w hw => ?_⟩; simp only [List.mem_singleton] at hw; subst hw; omega) | (have h1 := hinv.2 _ h_row_1; refine ⟨by (simp only [List.length_append, List.length_cons, List.length_nil]; omega), fun w hw => ?_⟩; (rcases List.mem_append.mp hw with hw | hw); exact hinv.2 w hw; (simp only [List.mem_singleton] at hw; subst hw; rw [List.length_append]; omega)) | (simp only [rng_len] at *; refine ⟨_, ?_, fun h => ?_, ?_, hinv.2⟩; omega; (have h1 := hinv.1; simp only [h, List.length_nil] at h1; omega); omega) | walk_at "ob1" | walk_at "ob2")
        obtain ⟨Pv190, hPv190⟩ : ∃ Pv : Nat → L2.St → Hp → Prop, ∀ i σ' H', Pv i σ' H' ↔ (∃ (si : (List (List Bool))), ((si).length = 1 + i ∧ ∀ w ∈ si, (w.length : Int) = d58) ∧ Fr (Tp (WTp p_tape) p186) H190 H' ∧ ∃ (y_row : Option V) (y_at : Option V) (y_k : Option V), σ' = [some v_tape, some v58, some v64, some (.ref p186), y_k, y_row, y_at] ∧ HM zW K (Tp T p186) H' p186 si ∧ (TpI p_tape) (n + (774 + (11 - i) * 102)) H') := ⟨_, fun _ _ _ => Iff.rfl⟩
        refine ⟨Pv190, (hPv190 _ _ _).mpr ⟨([d189] : (List (List Bool))), (by first | walk_at "inv" | walk_at "ob" | (have h1 := hinv.2 _ h_row_1; omega) | (refine ⟨rfl, fun w hw => ?_⟩; simp only [List.mem_singleton] at hw; subst hw; omega) | (have h1 := hinv.2 _ h_row_1; refine ⟨by (simp only [List.length_append, List.length_cons, List.length_nil]; omega), fun w hw => ?_⟩; (rcases List.mem_append.mp hw with hw | hw); exact hinv.2 w hw; (simp only [List.mem_singleton] at hw; subst hw; rw [List.length_append]; omega)) | (simp only [rng_len] at *; refine ⟨_, ?_, fun h => ?_, ?_, hinv.2⟩; omega; (have h1 := hinv.1; simp only [h, List.length_nil] at h1; omega); omega) | (dsimp only; first | walk_at "inv" | walk_at "ob" | (have h1 := hinv.2 _ h_row_1; omega) | (refine ⟨rfl, fun w hw => ?_⟩; simp only [List.mem_singleton] at hw; subst hw; omega) | (have h1 := hinv.2 _ h_row_1; refine ⟨by (simp only [List.length_append, List.length_cons, List.length_nil]; omega), fun w hw => ?_⟩; (rcases List.mem_append.mp hw with hw | hw); exact hinv.2 w hw; (simp only [List.mem_singleton] at hw; subst hw; rw [List.length_append]; omega)) | (simp only [rng_len] at *; refine ⟨_, ?_, fun h => ?_, ?_, hinv.2⟩; omega; (have h1 := hinv.1; simp only [h, List.length_nil] at h1; omega); omega)) | walk_at "ob1" | walk_at "ob2"), Fr.refl _, _, _, _, rfl, m_rows, (Re.cut (re_tape (d := p_tape)) hI (by omega))⟩, fun i σ' H' _ h => ?_, ?_, ?_⟩
        · obtain ⟨si, _, hF, _⟩ := (hPv190 _ _ _).mp h
          exact hF.mono (fun b hb => hb.elim (fun z => .inl (hW _ z)) .inr)
        · intro i x190 σ' H'190 v190 H''190 hx190 hh eY rv190
          obtain ⟨si190, hinv190, hF190, y_row, y_at, y_k, rfl, m'_rows, i'_R0⟩ := (hPv190 _ _ _).mp hh
          have hinv190 : (si190).length = 1 + i ∧ ∀ w ∈ si190, (w.length : Int) = d58 := hinv190
          have hinv := hinv190
          have hmem190 := List.mem_of_getElem? hx190
          have hi190 := (List.getElem?_eq_some_iff.mp hx190).1
          replace r_tape := Mo.fr ((hF190.mono (fun b hb => hb.elim (fun z => .inl (hW _ z)) .inr)).trans eY.fr) r_tape
          replace r_size := Mo.fr ((hF190.mono (fun b hb => hb.elim (fun z => .inl (hW _ z)) .inr)).trans eY.fr) r_size
          replace r_many := Mo.fr ((hF190.mono (fun b hb => hb.elim (fun z => .inl (hW _ z)) .inr)).trans eY.fr) r_many
          replace m_rows := m'_rows.ex' eY
          replace hT := (hT.fr hF190).ex eY
          replace hI : (TpI p_tape) ((n + (774 + (11 - (i + 1)) * 102)) + 102) H''190 := Re.cut (re_tape (d := p_tape)) (Re.ex (re_tape (d := p_tape)) i'_R0 eY) (by omega)
          replace ea := (ea.thenFr hF190 (fun b hb => hb.elim (fun z => .inl z) (fun z => by subst z; exact .inr h0_p186))).trans eY.fr
          replace eb190 := hF190.trans (Ex.fr (T := (Tp (WTp p_tape) p186)) eY)
          refine gn ?_
          replace r_k := rv190
          first | refine nx_ ?_ | skip
          refine asg_open ?_
          refine op_open ?_
          refine x_run (K := K) (T := (Tp T p186)) (ev_var (i := 3) (r := zA) (v := .ref p186) (d := p186) rfl rfl) fun v192 H192 e192 r192 => ?_
          cases r192
          replace r_tape := Mo.fr e192.fr r_tape
          replace r_size := Mo.fr e192.fr r_size
          replace r_many := Mo.fr e192.fr r_many
          replace r_k := Mo.fr e192.fr r_k
          replace m_rows := m_rows.ex' e192
          replace hT := hT.ex e192
          replace ea := ea.trans (Ex.fr e192)
          replace hI := Re.ex (re_tape (d := p_tape)) hI e192
          replace eb190 := eb190.trans e192.fr
          refine call_open ?_
          refine cons_open ?_
          refine x_run (K := K) (T := (Tp T p186)) (ev_var (i := 0) rfl r_tape) fun v193 H193 e193 r193 => ?_
          replace r_tape := Mo.fr e193.fr r_tape
          replace r_size := Mo.fr e193.fr r_size
          replace r_many := Mo.fr e193.fr r_many
          replace r_k := Mo.fr e193.fr r_k
          replace m_rows := m_rows.ex' e193
          replace hT := hT.ex e193
          replace ea := ea.trans (Ex.fr e193)
          replace hI := Re.ex (re_tape (d := p_tape)) hI e193
          replace eb190 := eb190.trans e193.fr
          refine cons_open ?_
          refine x_run (K := K) (T := T) (ev_lenL (ev_var (i := 3) rfl (m_rows.done (T' := T) (fun b hb => (.inl hb)) (fun z => (hn_p186 z))))) fun v194 H194 e194 r194 => ?_
          replace r_tape := Mo.fr e194.fr r_tape
          replace r_size := Mo.fr e194.fr r_size
          replace r_many := Mo.fr e194.fr r_many
          replace r_k := Mo.fr e194.fr r_k
          replace r193 := Mo.fr e194.fr r193
          replace m_rows := m_rows.ex' e194
          replace hT := hT.ex e194
          replace ea := ea.trans (Ex.fr e194)
          replace hI := Re.ex (re_tape (d := p_tape)) hI e194
          replace eb190 := eb190.trans e194.fr
          replace r194 : zI K (Tp T p186) H194 v194 _ := r194
          refine nil_open ?_
          refine ncall_v (T := (Tp T p186)) (b := (p_tape, ((si190).length : Int), ())) (n := (n + (774 + (11 - (i + 1)) * 102)) + 101) hT (fun b hb => (.inl (hW b hb))) ⟨_, _, rfl, r193, ⟨_, _, rfl, r194, rfl⟩⟩ (show 0 < ((si190).length : Int) ∧ ((si190).length : Int) < 1073741824 from (by first | walk_at "ob" | (have h1 := hinv.2 _ h_row_1; omega) | (refine ⟨rfl, fun w hw => ?_⟩; simp only [List.mem_singleton] at hw; subst hw; omega) | (have h1 := hinv.2 _ h_row_1; refine ⟨by (simp only [List.length_append, List.length_cons, List.length_nil]; omega), fun w hw => ?_⟩; (rcases List.mem_append.mp hw with hw | hw); exact hinv.2 w hw; (simp only [List.mem_singleton] at hw; subst hw; rw [List.length_append]; omega)) | (simp only [rng_len] at *; refine ⟨_, ?_, fun h => ?_, ?_, hinv.2⟩; omega; (have h1 := hinv.1; simp only [h, List.length_nil] at h1; omega); omega) | walk_at "ob1" | walk_at "ob2")) (Re.cut (re_tape (d := p_tape)) hI (by omega)) fun v195 H195 d195 f195 hI195 r195 hp195 => ?_
          replace r195 : zI K (Tp T p186) H195 v195 d195 := r195
          replace r_tape := Mo.fr (Fr.mono f195 (fun b hb => (.inl (hW b hb)))) r_tape
          replace r_size := Mo.fr (Fr.mono f195 (fun b hb => (.inl (hW b hb)))) r_size
          replace r_many := Mo.fr (Fr.mono f195 (fun b hb => (.inl (hW b hb)))) r_many
          replace r_k := Mo.fr (Fr.mono f195 (fun b hb => (.inl (hW b hb)))) r_k
          replace r193 := Mo.fr (Fr.mono f195 (fun b hb => (.inl (hW b hb)))) r193
          replace r194 := Mo.fr (Fr.mono f195 (fun b hb => (.inl (hW b hb)))) r194
          replace m_rows := m_rows.fr f195 (fun z => hn_p186 (hW _ z)) (fun b hb => (.inl (hW b hb)))
          replace hT := hT.fr f195
          replace ea := ea.trans f195
          replace eb190 := eb190.trans (f195.mono fun b hb => (.inl hb))
          replace hI := hI195
          have hp195 : 0 ≤ d195 ∧ d195 < ((si190).length : Int) := hp195
          refine of_op ?_
          refine x_run (K := K) (T := T) (ev_ixL (ev_var (i := 0) rfl (m_rows.done (T' := T) (fun b hb => (.inl hb)) (fun z => (hn_p186 z)))) (ev_var (i := 1) rfl (Mo.sub (T' := T) (fun b hb => (.inl hb)) r195)) (at_get (d0 := []) (by first | walk_at "ob" | (have h1 := hinv.2 _ h_row_1; omega) | (refine ⟨rfl, fun w hw => ?_⟩; simp only [List.mem_singleton] at hw; subst hw; omega) | (have h1 := hinv.2 _ h_row_1; refine ⟨by (simp only [List.length_append, List.length_cons, List.length_nil]; omega), fun w hw => ?_⟩; (rcases List.mem_append.mp hw with hw | hw); exact hinv.2 w hw; (simp only [List.mem_singleton] at hw; subst hw; rw [List.length_append]; omega)) | (simp only [rng_len] at *; refine ⟨_, ?_, fun h => ?_, ?_, hinv.2⟩; omega; (have h1 := hinv.1; simp only [h, List.length_nil] at h1; omega); omega) | walk_at "ob1" | walk_at "ob2") (by first | walk_at "ob" | (have h1 := hinv.2 _ h_row_1; omega) | (refine ⟨rfl, fun w hw => ?_⟩; simp only [List.mem_singleton] at hw; subst hw; omega) | (have h1 := hinv.2 _ h_row_1; refine ⟨by (simp only [List.length_append, List.length_cons, List.length_nil]; omega), fun w hw => ?_⟩; (rcases List.mem_append.mp hw with hw | hw); exact hinv.2 w hw; (simp only [List.mem_singleton] at hw; subst hw; rw [List.length_append]; omega)) | (simp only [rng_len] at *; refine ⟨_, ?_, fun h => ?_, ?_, hinv.2⟩; omega; (have h1 := hinv.1; simp only [h, List.length_nil] at h1; omega); omega) | walk_at "ob1" | walk_at "ob2"))) fun v196 H196 e196 r196 => ?_
          replace r_tape := Mo.fr e196.fr r_tape
          replace r_size := Mo.fr e196.fr r_size
          replace r_many := Mo.fr e196.fr r_many
          replace r_k := Mo.fr e196.fr r_k
          replace r193 := Mo.fr e196.fr r193
          replace r194 := Mo.fr e196.fr r194
          replace r195 := Mo.fr e196.fr r195
          replace m_rows := m_rows.ex' e196
          replace hT := hT.ex e196
          replace ea := ea.trans (Ex.fr e196)
          replace hI := Re.ex (re_tape (d := p_tape)) hI e196
          replace eb190 := eb190.trans e196.fr
          replace r196 : zW K (Tp T p186) H196 v196 _ := r196
          have hm196 : ((si190).getD (d195).toNat []) ∈ si190 := getD_mem (by first | walk_at "ob" | (have h1 := hinv.2 _ h_row_1; omega) | (refine ⟨rfl, fun w hw => ?_⟩; simp only [List.mem_singleton] at hw; subst hw; omega) | (have h1 := hinv.2 _ h_row_1; refine ⟨by (simp only [List.length_append, List.length_cons, List.length_nil]; omega), fun w hw => ?_⟩; (rcases List.mem_append.mp hw with hw | hw); exact hinv.2 w hw; (simp only [List.mem_singleton] at hw; subst hw; rw [List.length_append]; omega)) | (simp only [rng_len] at *; refine ⟨_, ?_, fun h => ?_, ?_, hinv.2⟩; omega; (have h1 := hinv.1; simp only [h, List.length_nil] at h1; omega); omega) | walk_at "ob1" | walk_at "ob2") (by first | walk_at "ob" | (have h1 := hinv.2 _ h_row_1; omega) | (refine ⟨rfl, fun w hw => ?_⟩; simp only [List.mem_singleton] at hw; subst hw; omega) | (have h1 := hinv.2 _ h_row_1; refine ⟨by (simp only [List.length_append, List.length_cons, List.length_nil]; omega), fun w hw => ?_⟩; (rcases List.mem_append.mp hw with hw | hw); exact hinv.2 w hw; (simp only [List.mem_singleton] at hw; subst hw; rw [List.length_append]; omega)) | (simp only [rng_len] at *; refine ⟨_, ?_, fun h => ?_, ?_, hinv.2⟩; omega; (have h1 := hinv.1; simp only [h, List.length_nil] at h1; omega); omega) | walk_at "ob1" | walk_at "ob2")
          have h_row_0 := hp195
          have h_row_1 := hm196
          replace r_row := r196
          first | refine nx_ ?_ | skip
          refine asg_open ?_
          refine call_open ?_
          refine cons_open ?_
          refine x_run (K := K) (T := (Tp T p186)) (ev_var (i := 0) rfl r_tape) fun v198 H198 e198 r198 => ?_
          replace r_tape := Mo.fr e198.fr r_tape
          replace r_size := Mo.fr e198.fr r_size
          replace r_many := Mo.fr e198.fr r_many
          replace r_k := Mo.fr e198.fr r_k
          replace r_row := Mo.fr e198.fr r_row
          replace m_rows := m_rows.ex' e198
          replace hT := hT.ex e198
          replace ea := ea.trans (Ex.fr e198)
          replace hI := Re.ex (re_tape (d := p_tape)) hI e198
          replace eb190 := eb190.trans e198.fr
          refine cons_open ?_
          refine x_run (K := K) (T := (Tp T p186)) (ev_add (ev_var (i := 1) rfl r_size) ev_int) fun v199 H199 e199 r199 => ?_
          replace r_tape := Mo.fr e199.fr r_tape
          replace r_size := Mo.fr e199.fr r_size
          replace r_many := Mo.fr e199.fr r_many
          replace r_k := Mo.fr e199.fr r_k
          replace r_row := Mo.fr e199.fr r_row
          replace r198 := Mo.fr e199.fr r198
          replace m_rows := m_rows.ex' e199
          replace hT := hT.ex e199
          replace ea := ea.trans (Ex.fr e199)
          replace hI := Re.ex (re_tape (d := p_tape)) hI e199
          replace eb190 := eb190.trans e199.fr
          refine nil_open ?_
          refine ncall_v (T := (Tp T p186)) (b := (p_tape, (d58 + (1 : Int)), ())) (n := (n + (774 + (11 - (i + 1)) * 102)) + 100) hT (fun b hb => (.inl (hW b hb))) ⟨_, _, rfl, r198, ⟨_, _, rfl, r199, rfl⟩⟩ (show 0 < (d58 + (1 : Int)) ∧ (d58 + (1 : Int)) < 1073741824 from (by first | walk_at "ob" | (have h1 := hinv.2 _ h_row_1; omega) | (refine ⟨rfl, fun w hw => ?_⟩; simp only [List.mem_singleton] at hw; subst hw; omega) | (have h1 := hinv.2 _ h_row_1; refine ⟨by (simp only [List.length_append, List.length_cons, List.length_nil]; omega), fun w hw => ?_⟩; (rcases List.mem_append.mp hw with hw | hw); exact hinv.2 w hw; (simp only [List.mem_singleton] at hw; subst hw; rw [List.length_append]; omega)) | (simp only [rng_len] at *; refine ⟨_, ?_, fun h => ?_, ?_, hinv.2⟩; omega; (have h1 := hinv.1; simp only [h, List.length_nil] at h1; omega); omega) | walk_at "ob1" | walk_at "ob2")) (Re.cut (re_tape (d := p_tape)) hI (by omega)) fun v200 H200 d200 f200 hI200 r200 hp200 => ?_
          replace r200 : zI K (Tp T p186) H200 v200 d200 := r200
          replace r_tape := Mo.fr (Fr.mono f200 (fun b hb => (.inl (hW b hb)))) r_tape
          replace r_size := Mo.fr (Fr.mono f200 (fun b hb => (.inl (hW b hb)))) r_size
          replace r_many := Mo.fr (Fr.mono f200 (fun b hb => (.inl (hW b hb)))) r_many
          replace r_k := Mo.fr (Fr.mono f200 (fun b hb => (.inl (hW b hb)))) r_k
          replace r_row := Mo.fr (Fr.mono f200 (fun b hb => (.inl (hW b hb)))) r_row
          replace r198 := Mo.fr (Fr.mono f200 (fun b hb => (.inl (hW b hb)))) r198
          replace r199 := Mo.fr (Fr.mono f200 (fun b hb => (.inl (hW b hb)))) r199
          replace m_rows := m_rows.fr f200 (fun z => hn_p186 (hW _ z)) (fun b hb => (.inl (hW b hb)))
          replace hT := hT.fr f200
          replace ea := ea.trans f200
          replace eb190 := eb190.trans (f200.mono fun b hb => (.inl hb))
          replace hI := hI200
          have hp200 : 0 ≤ d200 ∧ d200 < (d58 + (1 : Int)) := hp200
          have h_at_0 := hp200
          replace r_at := r200
          first | refine nx_ ?_ | skip
          refine append_open (K := K) (T := (Tp T p186)) rfl m_rows ?_
          refine op_open ?_
          refine x_run (K := K) (T := (Tp T p186)) (ev_slW (ev_var (i := 5) rfl r_row) eo_none (eo_some (K := K) (ev_var (i := 6) rfl r_at))) fun v202 H202 e202 r202 => ?_
          replace r_tape := Mo.fr e202.fr r_tape
          replace r_size := Mo.fr e202.fr r_size
          replace r_many := Mo.fr e202.fr r_many
          replace r_k := Mo.fr e202.fr r_k
          replace r_row := Mo.fr e202.fr r_row
          replace r_at := Mo.fr e202.fr r_at
          replace m_rows := m_rows.ex' e202
          replace hT := hT.ex e202
          replace ea := ea.trans (Ex.fr e202)
          replace hI := Re.ex (re_tape (d := p_tape)) hI e202
          replace eb190 := eb190.trans e202.fr
          have hmm203 := cutA_up ((si190).getD (d195).toNat []) d200
          refine call_open ?_
          refine cons_open ?_
          refine x_run (K := K) (T := (Tp T p186)) (ev_var (i := 0) rfl r_tape) fun v204 H204 e204 r204 => ?_
          replace r_tape := Mo.fr e204.fr r_tape
          replace r_size := Mo.fr e204.fr r_size
          replace r_many := Mo.fr e204.fr r_many
          replace r_k := Mo.fr e204.fr r_k
          replace r_row := Mo.fr e204.fr r_row
          replace r_at := Mo.fr e204.fr r_at
          replace r202 := Mo.fr e204.fr r202
          replace m_rows := m_rows.ex' e204
          replace hT := hT.ex e204
          replace ea := ea.trans (Ex.fr e204)
          replace hI := Re.ex (re_tape (d := p_tape)) hI e204
          replace eb190 := eb190.trans e204.fr
          refine cons_open ?_
          refine x_run (K := K) (T := (Tp T p186)) (ev_sub (ev_var (i := 1) rfl r_size) (ev_var (i := 6) rfl r_at)) fun v205 H205 e205 r205 => ?_
          replace r_tape := Mo.fr e205.fr r_tape
          replace r_size := Mo.fr e205.fr r_size
          replace r_many := Mo.fr e205.fr r_many
          replace r_k := Mo.fr e205.fr r_k
          replace r_row := Mo.fr e205.fr r_row
          replace r_at := Mo.fr e205.fr r_at
          replace r202 := Mo.fr e205.fr r202
          replace r204 := Mo.fr e205.fr r204
          replace m_rows := m_rows.ex' e205
          replace hT := hT.ex e205
          replace ea := ea.trans (Ex.fr e205)
          replace hI := Re.ex (re_tape (d := p_tape)) hI e205
          replace eb190 := eb190.trans e205.fr
          refine nil_open ?_
          refine ncall_v (T := (Tp T p186)) (b := (p_tape, (d58 - d200), ())) (n := (n + (774 + (11 - (i + 1)) * 102)) + 0) hT (fun b hb => (.inl (hW b hb))) ⟨_, _, rfl, r204, ⟨_, _, rfl, r205, rfl⟩⟩ (show 0 ≤ (d58 - d200) ∧ (d58 - d200) ≤ 50 from (by first | walk_at "ob" | (have h1 := hinv.2 _ h_row_1; omega) | (refine ⟨rfl, fun w hw => ?_⟩; simp only [List.mem_singleton] at hw; subst hw; omega) | (have h1 := hinv.2 _ h_row_1; refine ⟨by (simp only [List.length_append, List.length_cons, List.length_nil]; omega), fun w hw => ?_⟩; (rcases List.mem_append.mp hw with hw | hw); exact hinv.2 w hw; (simp only [List.mem_singleton] at hw; subst hw; rw [List.length_append]; omega)) | (simp only [rng_len] at *; refine ⟨_, ?_, fun h => ?_, ?_, hinv.2⟩; omega; (have h1 := hinv.1; simp only [h, List.length_nil] at h1; omega); omega) | walk_at "ob1" | walk_at "ob2")) (Re.cut (re_tape (d := p_tape)) hI (by omega)) fun v206 H206 d206 f206 hI206 r206 hp206 => ?_
          replace r206 : zW K (Tp T p186) H206 v206 d206 := r206
          replace r_tape := Mo.fr (Fr.mono f206 (fun b hb => (.inl (hW b hb)))) r_tape
          replace r_size := Mo.fr (Fr.mono f206 (fun b hb => (.inl (hW b hb)))) r_size
          replace r_many := Mo.fr (Fr.mono f206 (fun b hb => (.inl (hW b hb)))) r_many
          replace r_k := Mo.fr (Fr.mono f206 (fun b hb => (.inl (hW b hb)))) r_k
          replace r_row := Mo.fr (Fr.mono f206 (fun b hb => (.inl (hW b hb)))) r_row
          replace r_at := Mo.fr (Fr.mono f206 (fun b hb => (.inl (hW b hb)))) r_at
          replace r202 := Mo.fr (Fr.mono f206 (fun b hb => (.inl (hW b hb)))) r202
          replace r204 := Mo.fr (Fr.mono f206 (fun b hb => (.inl (hW b hb)))) r204
          replace r205 := Mo.fr (Fr.mono f206 (fun b hb => (.inl (hW b hb)))) r205
          replace m_rows := m_rows.fr f206 (fun z => hn_p186 (hW _ z)) (fun b hb => (.inl (hW b hb)))
          replace hT := hT.fr f206
          replace ea := ea.trans f206
          replace eb190 := eb190.trans (f206.mono fun b hb => (.inl hb))
          replace hI := hI206
          have hp206 : (d206.length : Int) = (d58 - d200) := hp206
          refine of_op ?_
          refine x_run (K := K) (T := (Tp T p186)) (ev_catW (ev_var (i := 0) rfl r202) (ev_var (i := 1) rfl r206) (by first | walk_at "ob" | (have h1 := hinv.2 _ h_row_1; omega) | (refine ⟨rfl, fun w hw => ?_⟩; simp only [List.mem_singleton] at hw; subst hw; omega) | (have h1 := hinv.2 _ h_row_1; refine ⟨by (simp only [List.length_append, List.length_cons, List.length_nil]; omega), fun w hw => ?_⟩; (rcases List.mem_append.mp hw with hw | hw); exact hinv.2 w hw; (simp only [List.mem_singleton] at hw; subst hw; rw [List.length_append]; omega)) | (simp only [rng_len] at *; refine ⟨_, ?_, fun h => ?_, ?_, hinv.2⟩; omega; (have h1 := hinv.1; simp only [h, List.length_nil] at h1; omega); omega) | walk_at "ob1" | walk_at "ob2")) fun v207 H207 e207 r207 => ?_
          replace r_tape := Mo.fr e207.fr r_tape
          replace r_size := Mo.fr e207.fr r_size
          replace r_many := Mo.fr e207.fr r_many
          replace r_k := Mo.fr e207.fr r_k
          replace r_row := Mo.fr e207.fr r_row
          replace r_at := Mo.fr e207.fr r_at
          replace r202 := Mo.fr e207.fr r202
          replace r204 := Mo.fr e207.fr r204
          replace r205 := Mo.fr e207.fr r205
          replace r206 := Mo.fr e207.fr r206
          replace m_rows := m_rows.ex' e207
          replace hT := hT.ex e207
          replace ea := ea.trans (Ex.fr e207)
          replace hI := Re.ex (re_tape (d := p_tape)) hI e207
          replace eb190 := eb190.trans e207.fr
          refine append_v (K := K) (T := (Tp T p186)) (S := fun _ => False) m_rows r207 (by first | walk_at "ob" | (have h1 := hinv.2 _ h_row_1; omega) | (refine ⟨rfl, fun w hw => ?_⟩; simp only [List.mem_singleton] at hw; subst hw; omega) | (have h1 := hinv.2 _ h_row_1; refine ⟨by (simp only [List.length_append, List.length_cons, List.length_nil]; omega), fun w hw => ?_⟩; (rcases List.mem_append.mp hw with hw | hw); exact hinv.2 w hw; (simp only [List.mem_singleton] at hw; subst hw; rw [List.length_append]; omega)) | (simp only [rng_len] at *; refine ⟨_, ?_, fun h => ?_, ?_, hinv.2⟩; omega; (have h1 := hinv.1; simp only [h, List.length_nil] at h1; omega); omega) | walk_at "ob1" | walk_at "ob2") fun H208 v208 ev208 f208 fT208 m208 => ?_
          have e208 := Ex.refl H207
          have hpm208 := m_rows.mem
          have fp208 : Fr (fun b => b = p186) H207 H208 := f208.mono (fun b hb => hb.elim False.elim id)
          replace r_tape := Mo.fr fT208 r_tape
          replace r_size := Mo.fr fT208 r_size
          replace r_many := Mo.fr fT208 r_many
          replace r_k := Mo.fr fT208 r_k
          replace r_row := Mo.fr fT208 r_row
          replace r_at := Mo.fr fT208 r_at
          replace hT := hT.fr fT208
          replace ea := ea.thenFr fp208 (fun b hb => by subst hb; exact .inr h0_p186)
          replace hI := Re.fr (re_tape (d := p_tape)) hI fp208 (fun b hb z => hn_p186 (hW _ (z ▸ hb)))
          replace eb190 := eb190.thenFr fp208 (fun b hb => by subst hb; exact .inl (.inr rfl))
          replace m_rows := m208
          exact (hPv190 _ _ _).mpr ⟨(si190 ++ [((cutA ((si190).getD (d195).toNat []) none (some d200)) ++ d206)]), (by first | walk_at "inv" | walk_at "ob" | (have h1 := hinv.2 _ h_row_1; omega) | (refine ⟨rfl, fun w hw => ?_⟩; simp only [List.mem_singleton] at hw; subst hw; omega) | (have h1 := hinv.2 _ h_row_1; refine ⟨by (simp only [List.length_append, List.length_cons, List.length_nil]; omega), fun w hw => ?_⟩; (rcases List.mem_append.mp hw with hw | hw); exact hinv.2 w hw; (simp only [List.mem_singleton] at hw; subst hw; rw [List.length_append]; omega)) | (simp only [rng_len] at *; refine ⟨_, ?_, fun h => ?_, ?_, hinv.2⟩; omega; (have h1 := hinv.1; simp only [h, List.length_nil] at h1; omega); omega) | (dsimp only; first | walk_at "inv" | walk_at "ob" | (have h1 := hinv.2 _ h_row_1; omega) | (refine ⟨rfl, fun w hw => ?_⟩; simp only [List.mem_singleton] at hw; subst hw; omega) | (have h1 := hinv.2 _ h_row_1; refine ⟨by (simp only [List.length_append, List.length_cons, List.length_nil]; omega), fun w hw => ?_⟩; (rcases List.mem_append.mp hw with hw | hw); exact hinv.2 w hw; (simp only [List.mem_singleton] at hw; subst hw; rw [List.length_append]; omega)) | (simp only [rng_len] at *; refine ⟨_, ?_, fun h => ?_, ?_, hinv.2⟩; omega; (have h1 := hinv.1; simp only [h, List.length_nil] at h1; omega); omega)) | walk_at "ob1" | walk_at "ob2"), eb190, _, _, _, rfl, m_rows, (Re.cut (re_tape (d := p_tape)) hI (by omega))⟩
        · intro σ' H'190 hh
          obtain ⟨si190, hinv190, hF190, y_row, y_at, y_k, rfl, m'_rows, i'_R0⟩ := (hPv190 _ _ _).mp hh
          have hinv190 : (si190).length = 1 + ((rng 0 ((((1 : Int) + d63) - (1 : Int))).toNat)).length ∧ ∀ w ∈ si190, (w.length : Int) = d58 := hinv190
          have hinv := hinv190
          replace r_tape := Mo.fr (hF190.mono (fun b hb => hb.elim (fun z => .inl (hW _ z)) .inr)) r_tape
          replace r_size := Mo.fr (hF190.mono (fun b hb => hb.elim (fun z => .inl (hW _ z)) .inr)) r_size
          replace r_many := Mo.fr (hF190.mono (fun b hb => hb.elim (fun z => .inl (hW _ z)) .inr)) r_many
          replace m_rows := m'_rows
          replace hI : (TpI p_tape) (n + 774) H'190 := Re.cut (re_tape (d := p_tape)) i'_R0 (by omega)
          replace hT := hT.fr hF190
          replace ea := ea.thenFr hF190 (fun b hb => hb.elim (fun z => .inl z) (fun z => by subst z; exact .inr h0_p186))
          replace r_rows := m_rows.done (T' := T) (fun b hb => (.inl hb)) (fun z => (hn_p186 z))
          replace r_tape := Mo.sub (T' := T) (fun b hb => (.inl hb)) r_tape
          replace r_size := Mo.sub (T' := T) (fun b hb => (.inl hb)) r_size
          replace r_many := Mo.sub (T' := T) (fun b hb => (.inl hb)) r_many
          replace hT := hT.sub (T' := T) (fun b hb => (.inl hb))
          first | refine nx_ ?_ | skip
          exact st_ret (K := K) (T := T) (ev_var (i := 3) rfl r_rows) fun v H9 e r => hQ v H9 _ (ea.trans (Ex.fr e)) (Re.cut (re_tape (d := p_tape)) (Re.ex (re_tape (d := p_tape)) hI e) (by omega)) r (by first | walk_at "ob" | (have h1 := hinv.2 _ h_row_1; omega) | (refine ⟨rfl, fun w hw => ?_⟩; simp only [List.mem_singleton] at hw; subst hw; omega) | (have h1 := hinv.2 _ h_row_1; refine ⟨by (simp only [List.length_append, List.length_cons, List.length_nil]; omega), fun w hw => ?_⟩; (rcases List.mem_append.mp hw with hw | hw); exact hinv.2 w hw; (simp only [List.mem_singleton] at hw; subst hw; rw [List.length_append]; omega)) | (simp only [rng_len] at *; refine ⟨_, ?_, fun h => ?_, ?_, hinv.2⟩; omega; (have h1 := hinv.1; simp only [h, List.length_nil] at h1; omega); omega) | walk_at "ob1" | walk_at "ob2")

end
end EB

set_option Elab.async false
set_option linter.all false
set_option maxRecDepth 100000
set_option maxHeartbeats 4000000

namespace EB
open PySem PySem.Spec PyProof.Rows L2
local macro_rules | `(tactic| walk_at "ob") => `(tactic| first | exact trivial | omega | assumption | exact len_sign ‹_›)
local macro_rules | `(tactic| walk_at "ob1") => `(tactic| first | (have := mem_enL ‹_ ∈ enL _›; omega) | (simp only [List.length_append, List.length_cons, List.length_nil, enL_len, rng_len] at *; omega))
local macro_rules | `(tactic| walk_at "ob2") => `(tactic| (simp_all; done))
local macro_rules | `(tactic| walk_at "inv") => `(tactic| first | exact trivial | (simp only [List.length_append, List.length_cons, List.length_nil, Nat.mul_zero, Nat.add_zero]; omega) | omega | (simp only [List.length_append, List.length_cons, List.length_nil] at *; omega))
local macro_rules | `(tactic| walk_at "fin") => `(tactic| first | (simp; done) | (simp_all [List.all_eq_true]; done))

section
variable {P : Program} {w : World} {K : PySem.W.Frag} {mg : Str → Option Value} {base : Heap}

abbrev sp__law_flips (K : PySem.W.Frag) : Sp := NSp K (aC zTp (aC (zL zW) aN)) (fun (a : (Addr × Addr) × (List (List Bool)) × Unit) => WTp a.1) (fun (a : (Addr × Addr) × (List (List Bool)) × Unit) => TpI a.1) (fun _ => 100) (fun (a : (Addr × Addr) × (List (List Bool)) × Unit) => a.2.1.length ≤ 12) (zL zI) (fun (a : (Addr × Addr) × (List (List Bool)) × Unit) (d : (List Int)) => d.length = a.2.1.length ∧ ∀ f ∈ d, 0 ≤ f ∧ f ≤ 12)
theorem ok__law_flips (S : Tx K mg) (G__law_draw : Ok P w K mg base 1 ("_law_draw", none) ["tape", "limit"] (sp_draw K)) : Ok P w K mg base 2 ("_law_flips", none) ["tape", "rows"] (sp__law_flips K) := by
  obtain ⟨fd, D⟩ := d__law_flips S
  refine mk_ok D sc__law_flips (D.bindsN fun _ _ _ _ _ _ us hl => match us, hl with | [_, _], _ => rfl) (NSp_len len2) (fun cdv A outer s H vs Q E hr h => ?_)
  obtain ⟨T, ⟨p_tape, p_rows, _⟩, n, hT, hW, ⟨v_tape, _, rfl, r_tape, v_rows, _, rfl, r_rows, rfl⟩, hp, hI, hQ⟩ := h
  replace r_tape : zTp K T H v_tape p_tape := r_tape
  replace r_rows : (zL zW) K T H v_rows p_rows := r_rows
  have hp : p_rows.length ≤ 12 := hp
  replace hI : TpI p_tape (n + 100) H := hI
  have hW : ∀ b, WTp p_tape b → T b := hW
  have hQ : ∀ v H' d, Fr (WTp p_tape) H H' → TpI p_tape n H' → (zL zI) K T H' v d → (d.length = p_rows.length ∧ ∀ f ∈ d, 0 ≤ f ∧ f ≤ 12) → Q v H' := hQ
  refine ⟨_, (pss_cons (ps_set (i := 2) sc__law_flips.nd rfl (.inr rfl) (pe_ix (kx_list (K := K)) (pe_lst (pa_cons pe_int (pa_cons pe_int (pa_cons pe_int (pa_cons pe_int (pa_cons pe_int pa_nil)))))) (pe_callG G__law_draw hr (by omega) (by rfl) (g__law_draw S) (pa_cons (pv 0) (pa_cons pe_int pa_nil))) (fun _ _ => rfl))) (pss_one (ps_ret (pe_lc (own := [("row", 3)]) (by rfl) sc__law_flips.nd (kp_list (K := K) (pv 1)) (blkOk_by (N := ["tape", "rows", "high", "row"]) (sc := defScope s__law_flips) (by decide +kernel)) (fun _ _ _ _ _ => pg_name (i := 3) sc__law_flips.nd rfl (.inl rfl)) (fun _ _ _ _ _ => pts_nil) (fun _ _ _ _ _ => (pe_callG G__law_draw hr (by omega) (by rfl) (g__law_draw S) (pa_cons (pv 0) (pa_cons (pv 2) pa_nil)))))))), ?_⟩
  · have ea := Fr.refl (T := WTp p_tape) H
    first | refine nx_ ?_ | skip
    refine asg_open ?_
    refine op_open ?_
    refine x_run (K := K) (T := T) (ev_lst hT (eh_cons ev_int (eh_cons ev_int (eh_cons ev_int (eh_cons ev_int (eh_cons ev_int eh_nil))))) (by decide)) fun v212 H212 e212 r212 => ?_
    replace r_tape := Mo.fr e212.fr r_tape
    replace r_rows := Mo.fr e212.fr r_rows
    replace hT := hT.ex e212
    replace ea := ea.trans (Ex.fr e212)
    replace hI := Re.ex (re_tape (d := p_tape)) hI e212
    refine call_open ?_
    refine cons_open ?_
    refine x_run (K := K) (T := T) (ev_var (i := 0) rfl r_tape) fun v213 H213 e213 r213 => ?_
    replace r_tape := Mo.fr e213.fr r_tape
    replace r_rows := Mo.fr e213.fr r_rows
    replace r212 := Mo.fr e213.fr r212
    replace hT := hT.ex e213
    replace ea := ea.trans (Ex.fr e213)
    replace hI := Re.ex (re_tape (d := p_tape)) hI e213
    refine cons_open ?_
    refine x_run (K := K) (T := T) ev_int fun v214 H214 e214 r214 => ?_
    replace r_tape := Mo.fr e214.fr r_tape
    replace r_rows := Mo.fr e214.fr r_rows
    replace r212 := Mo.fr e214.fr r212
    replace r213 := Mo.fr e214.fr r213
    replace hT := hT.ex e214
    replace ea := ea.trans (Ex.fr e214)
    replace hI := Re.ex (re_tape (d := p_tape)) hI e214
    refine nil_open ?_
    refine ncall_v (T := T) (b := (p_tape, (5 : Int), ())) (n := n + 99) hT (fun b hb => (hW b hb)) ⟨_, _, rfl, r213, ⟨_, _, rfl, r214, rfl⟩⟩ (show 0 < (5 : Int) ∧ (5 : Int) < 1073741824 from (by first | walk_at "ob" | (exact ⟨‹_›, fun f hf => by have h1 := ‹∀ y ∈ _, _› f hf; omega⟩) | walk_at "ob1" | walk_at "ob2")) (Re.cut (re_tape (d := p_tape)) hI (by omega)) fun v215 H215 d215 f215 hI215 r215 hp215 => ?_
    replace r215 : zI K T H215 v215 d215 := r215
    replace r_tape := Mo.fr (Fr.mono f215 (fun b hb => (hW b hb))) r_tape
    replace r_rows := Mo.fr (Fr.mono f215 (fun b hb => (hW b hb))) r_rows
    replace r212 := Mo.fr (Fr.mono f215 (fun b hb => (hW b hb))) r212
    replace r213 := Mo.fr (Fr.mono f215 (fun b hb => (hW b hb))) r213
    replace r214 := Mo.fr (Fr.mono f215 (fun b hb => (hW b hb))) r214
    replace hT := hT.fr f215
    replace ea := ea.trans f215
    replace hI := hI215
    have hp215 : 0 ≤ d215 ∧ d215 < (5 : Int) := hp215
    refine of_op ?_
    refine x_run (K := K) (T := T) (ev_ixL (ev_var (i := 0) rfl r212) (ev_var (i := 1) rfl r215) (at_get (d0 := 0) (by first | walk_at "ob" | (exact ⟨‹_›, fun f hf => by have h1 := ‹∀ y ∈ _, _› f hf; omega⟩) | walk_at "ob1" | walk_at "ob2") (by first | walk_at "ob" | (exact ⟨‹_›, fun f hf => by have h1 := ‹∀ y ∈ _, _› f hf; omega⟩) | walk_at "ob1" | walk_at "ob2"))) fun v216 H216 e216 r216 => ?_
    replace r_tape := Mo.fr e216.fr r_tape
    replace r_rows := Mo.fr e216.fr r_rows
    replace r212 := Mo.fr e216.fr r212
    replace r213 := Mo.fr e216.fr r213
    replace r214 := Mo.fr e216.fr r214
    replace r215 := Mo.fr e216.fr r215
    replace hT := hT.ex e216
    replace ea := ea.trans (Ex.fr e216)
    replace hI := Re.ex (re_tape (d := p_tape)) hI e216
    have hm216 : ((([(1 : Int), (2 : Int), (3 : Int), (3 : Int), (13 : Int)] : (List Int))).getD (d215).toNat 0) ∈ ([(1 : Int), (2 : Int), (3 : Int), (3 : Int), (13 : Int)] : (List Int)) := getD_mem (by first | walk_at "ob" | (exact ⟨‹_›, fun f hf => by have h1 := ‹∀ y ∈ _, _› f hf; omega⟩) | walk_at "ob1" | walk_at "ob2") (by first | walk_at "ob" | (exact ⟨‹_›, fun f hf => by have h1 := ‹∀ y ∈ _, _› f hf; omega⟩) | walk_at "ob1" | walk_at "ob2")
    simp only [List.mem_cons, List.not_mem_nil, or_false] at hm216
    have h_high_0 := hp215
    have h_high_1 := hm216
    replace r_high := r216
    first | refine nx_ ?_ | skip
    refine ret_open ?_
    refine en_lc (c := 1) (s := zI) (φ := fun (x218 : (List Bool)) (y : Int) => 0 ≤ y ∧ y < ((([(1 : Int), (2 : Int), (3 : Int), (3 : Int), (13 : Int)] : (List Int))).getD (d215).toNat 0)) (re_tape (d := p_tape)) hT (fun b hb => (hW b hb)) (ei_list (ev_var (i := 1) rfl r_rows)) (fun T218 Hc218 vc218 x218 L218 hT218 hW218 hx218 rr_row Qc218 qc218 => qc218 _ wipe1 (fun n218 Hs218 fr218 hIs218 Qv218 Q218 => by
        have hx218 : x218 ∈ p_rows := hx218
        replace r_tape := Mo.fr fr218 (L218.ap r_tape)
        replace r_rows := Mo.fr fr218 (L218.ap r_rows)
        replace r_high := Mo.fr fr218 (L218.ap r_high)
        replace rr_row := Mo.fr fr218 rr_row
        replace hT := hT218.fr fr218
        replace ea := Fr.refl (T := WTp p_tape) Hs218
        replace hI := hIs218
        have hW := hW218
        refine call_open ?_
        refine cons_open ?_
        refine x_run (K := K) (T := T218) (ev_var (i := 0) rfl r_tape) fun v219 H219 e219 r219 => ?_
        replace r_tape := Mo.fr e219.fr r_tape
        replace r_rows := Mo.fr e219.fr r_rows
        replace r_high := Mo.fr e219.fr r_high
        replace rr_row := Mo.fr e219.fr rr_row
        replace hT := hT.ex e219
        replace ea := ea.trans (Ex.fr e219)
        replace hI := Re.ex (re_tape (d := p_tape)) hI e219
        refine cons_open ?_
        refine x_run (K := K) (T := T218) (ev_var (i := 2) rfl r_high) fun v220 H220 e220 r220 => ?_
        replace r_tape := Mo.fr e220.fr r_tape
        replace r_rows := Mo.fr e220.fr r_rows
        replace r_high := Mo.fr e220.fr r_high
        replace rr_row := Mo.fr e220.fr rr_row
        replace r219 := Mo.fr e220.fr r219
        replace hT := hT.ex e220
        replace ea := ea.trans (Ex.fr e220)
        replace hI := Re.ex (re_tape (d := p_tape)) hI e220
        refine nil_open ?_
        refine ncall_v (T := T218) (b := (p_tape, ((([(1 : Int), (2 : Int), (3 : Int), (3 : Int), (13 : Int)] : (List Int))).getD (d215).toNat 0), ())) (n := n218 + 0) hT (fun b hb => (hW b hb)) ⟨_, _, rfl, r219, ⟨_, _, rfl, r220, rfl⟩⟩ (show 0 < ((([(1 : Int), (2 : Int), (3 : Int), (3 : Int), (13 : Int)] : (List Int))).getD (d215).toNat 0) ∧ ((([(1 : Int), (2 : Int), (3 : Int), (3 : Int), (13 : Int)] : (List Int))).getD (d215).toNat 0) < 1073741824 from (by first | walk_at "ob" | (exact ⟨‹_›, fun f hf => by have h1 := ‹∀ y ∈ _, _› f hf; omega⟩) | walk_at "ob1" | walk_at "ob2")) (Re.cut (re_tape (d := p_tape)) hI (by omega)) fun v221 H221 d221 f221 hI221 r221 hp221 => ?_
        replace r221 : zI K T218 H221 v221 d221 := r221
        replace r_tape := Mo.fr (Fr.mono f221 (fun b hb => (hW b hb))) r_tape
        replace r_rows := Mo.fr (Fr.mono f221 (fun b hb => (hW b hb))) r_rows
        replace r_high := Mo.fr (Fr.mono f221 (fun b hb => (hW b hb))) r_high
        replace rr_row := Mo.fr (Fr.mono f221 (fun b hb => (hW b hb))) rr_row
        replace r219 := Mo.fr (Fr.mono f221 (fun b hb => (hW b hb))) r219
        replace r220 := Mo.fr (Fr.mono f221 (fun b hb => (hW b hb))) r220
        replace hT := hT.fr f221
        replace ea := ea.trans f221
        replace hI := hI221
        have hp221 : 0 ≤ d221 ∧ d221 < ((([(1 : Int), (2 : Int), (3 : Int), (3 : Int), (13 : Int)] : (List Int))).getD (d215).toNat 0) := hp221
        exact Q218 _ _ _ ea (Re.cut (re_tape (d := p_tape)) hI (by omega)) r221 (by first | walk_at "ob" | (exact ⟨‹_›, fun f hf => by have h1 := ‹∀ y ∈ _, _› f hf; omega⟩) | walk_at "ob1" | walk_at "ob2")
        )) (n + 79) _ (Fr.refl _) (Re.cut (re_tape (d := p_tape)) hI (by have h8 : (p_rows).length ≤ 20 := (by first | walk_at "ob" | (exact ⟨‹_›, fun f hf => by have h1 := ‹∀ y ∈ _, _› f hf; omega⟩) | walk_at "ob1" | walk_at "ob2"); have h7 := Nat.mul_le_mul_right 1 h8; omega)) _ fun v218 H218 d218 f218 hI218 r218 hp218 => ?_
    replace r218 : (zL zI) K T H218 v218 d218 := r218
    replace r_tape := Mo.fr (Fr.mono f218 (fun b hb => (hW b hb))) r_tape
    replace r_rows := Mo.fr (Fr.mono f218 (fun b hb => (hW b hb))) r_rows
    replace r_high := Mo.fr (Fr.mono f218 (fun b hb => (hW b hb))) r_high
    replace hT := hT.fr f218
    replace ea := ea.trans f218
    replace hI := hI218
    have hl218 : d218.length = (p_rows).length := all2_len hp218
    have hp218 : ∀ y ∈ d218, 0 ≤ y ∧ y < ((([(1 : Int), (2 : Int), (3 : Int), (3 : Int), (13 : Int)] : (List Int))).getD (d215).toNat 0) := fun y hy => by
      obtain ⟨x, _, h⟩ := all2_mem hp218 hy
      exact h
    exact hQ _ _ _ ea (Re.cut (re_tape (d := p_tape)) hI (by omega)) r218 (by first | walk_at "ob" | (exact ⟨‹_›, fun f hf => by have h1 := ‹∀ y ∈ _, _› f hf; omega⟩) | walk_at "ob1" | walk_at "ob2")

abbrev sp__law_integer (K : PySem.W.Frag) : Sp := PSp K (aC zI (aC zI aN)) (fun (a : Int × Int × Unit) => True) zB (fun (a : Int × Int × Unit) => (decide (a.1 = a.2.1)))
theorem ok__law_integer (S : Tx K mg)  : Ok P w K mg base 1 ("_law_integer", none) ["told", "due"] (sp__law_integer K) := by
  obtain ⟨fd, D⟩ := d__law_integer S
  refine mk_ok D sc__law_integer (D.bindsN fun _ _ _ _ _ _ us hl => match us, hl with | [_, _], _ => rfl) (PSp_len len2) (fun cdv A outer s H vs Q E hr h => ?_)
  obtain ⟨T, ⟨p_told, p_due, _⟩, hT, ⟨v_told, _, rfl, r_told, v_due, _, rfl, r_due, rfl⟩, hp, hQ⟩ := h
  replace r_told : zI K T H v_told p_told := r_told
  replace r_due : zI K T H v_due p_due := r_due
  have hp : True := hp
  have hQ : ∀ v H', Ex H H' → zB K T H' v (decide (p_told = p_due)) → Q v H' := hQ
  refine ⟨_, (pss_one (ps_ret (pe_and (pe_callB (kc_isi (K := K)) (by rfl) (m_isinstance S) bt_isinstance (pa_cons (pv 0) (pa_cons (pe_cls (by rfl) (m_int S) bt_int) pa_nil))) (pe_and (pe_not (pe_callB (kc_isi (K := K)) (by rfl) (m_isinstance S) bt_isinstance (pa_cons (pv 0) (pa_cons (pe_cls (by rfl) (m_bool S) bt_bool) pa_nil)))) (pe_one (pe_cmpR op_eq (pv 0) (pv 1) (nomark _))))))), ?_⟩
  · have ea := Ex.refl H
    first | refine nx_ ?_ | skip
    exact st_ret (K := K) (T := T) (ev_andV (ev_isi (b := true) (ev_var (i := 0) rfl r_told)) fun hc226 => (ev_andV (ev_notV (ev_isi (b := false) (ev_var (i := 0) rfl r_told))) fun hc225 => (ev_eqI (ev_var (i := 0) rfl r_told) (ev_var (i := 1) rfl r_due)))) fun v H9 e r => hQ v H9 (ea.trans e) (by
      have e9 : (true && ((!false) && (decide (p_told = p_due)))) = (decide (p_told = p_due)) := by first | rfl | (walk_at "fin")
      rw [e9] at r
      exact r)

def lp__law_need_1 (f_rows : (List (List Bool))) (f_budgets : (List Int)) (f_living : (List (Int × Int))) (f_place : Int) (f_rec : ((List (List Bool)) → (List Int) → (List (Int × Int)) → Int → Int)) (si : (List Int)) (xi : (List Bool)) : (List Int) := (if (!((((((f_living).map fun (x228 : (Int × Int)) => ((x228).1, ((x228).2 - (b2 (!decide ([(((f_rows).getD ((x228).1).toNat [])).getD (f_place).toNat false] = xi))))))).filter fun (x229 : (Int × Int)) => (decide ((0 : Int) ≤ (x229).2))).map fun (x229 : (Int × Int)) => x229)).isEmpty) = true then (si ++ [(f_rec f_rows f_budgets (((((f_living).map fun (x228 : (Int × Int)) => ((x228).1, ((x228).2 - (b2 (!decide ([(((f_rows).getD ((x228).1).toNat [])).getD (f_place).toNat false] = xi))))))).filter fun (x229 : (Int × Int)) => (decide ((0 : Int) ≤ (x229).2))).map fun (x229 : (Int × Int)) => x229) (f_place + (1 : Int)))]) else si)
def m__law_need : Nat → (List (List Bool)) → (List Int) → (List (Int × Int)) → Int → Int
  | 0, _, _, _, _ => 0
  | k9 + 1, p_rows, p_budgets, p_living, p_place => (if (decide (p_place = ((((p_rows).getD 0 [])).length : Int))) = true then (mxL ((p_living).map fun (x227 : (Int × Int)) => (-((p_budgets).getD ((x227).1).toNat 0)))) else (if (decide ((((List.foldl (lp__law_need_1 p_rows p_budgets p_living p_place (m__law_need k9)) ([] : (List Int)) ([([false] : List Bool), ([true] : List Bool)] : (List (List Bool))))).length : Int) = (1 : Int))) = true then (((List.foldl (lp__law_need_1 p_rows p_budgets p_living p_place (m__law_need k9)) ([] : (List Int)) ([([false] : List Bool), ([true] : List Bool)] : (List (List Bool))))).getD 0 0) else (mx2 (mx2 (((List.foldl (lp__law_need_1 p_rows p_budgets p_living p_place (m__law_need k9)) ([] : (List Int)) ([([false] : List Bool), ([true] : List Bool)] : (List (List Bool))))).getD 0 0) (((List.foldl (lp__law_need_1 p_rows p_budgets p_living p_place (m__law_need k9)) ([] : (List Int)) ([([false] : List Bool), ([true] : List Bool)] : (List (List Bool))))).getD 1 0)) ((1 : Int) + (mn2 (((List.foldl (lp__law_need_1 p_rows p_budgets p_living p_place (m__law_need k9)) ([] : (List Int)) ([([false] : List Bool), ([true] : List Bool)] : (List (List Bool))))).getD 0 0) (((List.foldl (lp__law_need_1 p_rows p_budgets p_living p_place (m__law_need k9)) ([] : (List Int)) ([([false] : List Bool), ([true] : List Bool)] : (List (List Bool))))).getD 1 0))))))
abbrev sp__law_need (j : Nat) (K : PySem.W.Frag) : Sp := PSp K (aC (zL zW) (aC (zL zI) (aC (zL (zP zI zI)) (aC zI aN)))) (fun (a : (List (List Bool)) × (List Int) × (List (Int × Int)) × Int × Unit) => ((∀ p ∈ a.2.2.1, 0 ≤ p.1 ∧ p.1 < (a.1.length : Int)) ∧ a.2.1.length = a.1.length ∧ (∀ w ∈ a.1, w.length = (a.1.getD 0 []).length) ∧ a.1 ≠ [] ∧ a.2.2.1 ≠ [] ∧ (∀ p ∈ a.2.2.1, 0 ≤ p.2) ∧ 0 ≤ a.2.2.2.1 ∧ a.2.2.2.1 ≤ ((a.1.getD 0 []).length : Int)) ∧ ((a.1.getD 0 []).length + 1 - a.2.2.2.1.toNat) < j) zI (fun (a : (List (List Bool)) × (List Int) × (List (Int × Int)) × Int × Unit) => m__law_need ((a.1.getD 0 []).length + 1 - a.2.2.2.1.toNat) a.1 a.2.1 a.2.2.1 a.2.2.2.1)

def leftB (rows : List (List Bool)) (living : List (Int × Int)) (place : Int) (b : Bool) : List (Int × Int) :=
  (living.map fun x => (x.1, x.2 - b2 (!decide ([(rows.getD x.1.toNat []).getD place.toNat false] = [b])))).filter fun x => decide (0 ≤ x.2)
theorem lp_eq {rows : List (List Bool)} {budgets : List Int} {living : List (Int × Int)} {place : Int} {rec : List (List Bool) → List Int → List (Int × Int) → Int → Int} {si : List Int} {b : Bool} :
    lp__law_need_1 rows budgets living place rec si [b] = if leftB rows living place b = [] then si else si ++ [rec rows budgets (leftB rows living place b) (place + 1)] := by
  have e : List.map (fun x : Int × Int => x) (leftB rows living place b) = leftB rows living place b := List.map_id' _
  unfold lp__law_need_1
  show (if (!(List.map (fun x : Int × Int => x) (leftB rows living place b)).isEmpty) = true then si ++ [rec rows budgets (List.map (fun x : Int × Int => x) (leftB rows living place b)) (place + 1)] else si) = _
  rw [e]
  cases leftB rows living place b with
  | nil => rfl
  | cons a l => rfl
theorem leftB_ne {rows : List (List Bool)} {living : List (Int × Int)} {place : Int} (hl : living ≠ []) (h2 : ∀ p ∈ living, 0 ≤ p.2) : leftB rows living place false ≠ [] ∨ leftB rows living place true ≠ [] := by
  cases living with
  | nil => exact absurd rfl hl
  | cons p rest =>
    have hp2 := h2 p List.mem_cons_self
    have key : leftB rows (p :: rest) place ((rows.getD p.1.toNat []).getD place.toNat false) ≠ [] := by
      have hm : (p.1, p.2) ∈ leftB rows (p :: rest) place ((rows.getD p.1.toNat []).getD place.toNat false) := by
        unfold leftB
        rw [List.mem_filter]
        refine ⟨?_, decide_eq_true hp2⟩
        rw [List.mem_map]
        refine ⟨p, List.mem_cons_self, ?_⟩
        rw [decide_eq_true rfl]
        show (p.1, p.2 - 0) = (p.1, p.2)
        rw [Int.sub_zero]
      exact List.ne_nil_of_mem hm
    cases hb : (rows.getD p.1.toNat []).getD place.toNat false with
    | false => rw [hb] at key; exact .inl key
    | true => rw [hb] at key; exact .inr key
theorem lp_need_len {rows : List (List Bool)} {budgets : List Int} {living : List (Int × Int)} {place : Int} {rec : List (List Bool) → List Int → List (Int × Int) → Int → Int} (hl : living ≠ []) (h2 : ∀ p ∈ living, 0 ≤ p.2) :
    1 ≤ (List.foldl (lp__law_need_1 rows budgets living place rec) ([] : List Int) ([([false] : List Bool), ([true] : List Bool)] : List (List Bool))).length := by
  simp only [List.foldl_cons, List.foldl_nil, lp_eq]
  by_cases h0 : leftB rows living place false = []
  · by_cases h1 : leftB rows living place true = []
    · exact absurd h1 ((leftB_ne hl h2).resolve_left fun z => z h0)
    · rw [if_neg h1, List.length_append]
      simp
  · rw [if_neg h0]
    by_cases h1 : leftB rows living place true = []
    · rw [if_pos h1]; simp
    · rw [if_neg h1]; simp
theorem ok__law_need (S : Tx K mg)  : ∀ j, Ok P w K mg base (0 + j + 1) ("_law_need", none) ["rows", "budgets", "living", "place"] (sp__law_need j K)
  | 0 => by
    obtain ⟨fd, D⟩ := d__law_need S
    refine mk_ok (k := 0 + 0) D sc__law_need (D.bindsN fun _ _ _ _ _ _ us hl => match us, hl with | [_, _, _, _], _ => rfl) (PSp_len len4) (fun cdv A outer s H vs Q E hr h => ?_)
    obtain ⟨T, a, _, _, hp, _⟩ := h
    exact absurd hp.2 (Nat.not_lt_zero _)
  | j + 1 => by
    have IH := ok__law_need S  j
    obtain ⟨fd, D⟩ := d__law_need S
    refine mk_ok (k := 0 + (j + 1)) D sc__law_need (D.bindsN fun _ _ _ _ _ _ us hl => match us, hl with | [_, _, _, _], _ => rfl) (PSp_len len4) (fun cdv A outer s H vs Q E hr h => ?_)
    obtain ⟨T, ⟨p_rows, p_budgets, p_living, p_place, _⟩, hT, ⟨v_rows, _, rfl, r_rows, v_budgets, _, rfl, r_budgets, v_living, _, rfl, r_living, v_place, _, rfl, r_place, rfl⟩, ⟨hp, hj⟩, hQ⟩ := h
    replace r_rows : (zL zW) K T H v_rows p_rows := r_rows
    replace r_budgets : (zL zI) K T H v_budgets p_budgets := r_budgets
    replace r_living : (zL (zP zI zI)) K T H v_living p_living := r_living
    replace r_place : zI K T H v_place p_place := r_place
    have hp : (∀ p ∈ p_living, 0 ≤ p.1 ∧ p.1 < (p_rows.length : Int)) ∧ p_budgets.length = p_rows.length ∧ (∀ w ∈ p_rows, w.length = (p_rows.getD 0 []).length) ∧ p_rows ≠ [] ∧ p_living ≠ [] ∧ (∀ p ∈ p_living, 0 ≤ p.2) ∧ 0 ≤ p_place ∧ p_place ≤ ((p_rows.getD 0 []).length : Int) := hp
    have hj : ((p_rows.getD 0 []).length + 1 - p_place.toNat) < j + 1 := hj
    have hQ : ∀ v H', Ex H H' → zI K T H' v (m__law_need ((p_rows.getD 0 []).length + 1 - p_place.toNat) p_rows p_budgets p_living p_place) → Q v H' := hQ
    obtain ⟨k9, hk9⟩ : ∃ k, ((p_rows.getD 0 []).length + 1 - p_place.toNat) = k + 1 := ⟨((p_rows.getD 0 []).length + 1 - p_place.toNat) - 1, (by first | walk_at "ob" | (have h9 := List.length_pos_iff.mpr hp.2.2.2.1; omega) | (have h9 := hp.1 _ ‹_ ∈ p_living›; omega) | (exact fun h9 => hp.2.2.2.2.1 (List.map_eq_nil_iff.mp h9)) | (have h9 := hp.1 _ ‹_ ∈ p_living›; have h8 := hp.2.2.1 _ (getD_mem (d := []) h9.1 h9.2); have h7 := of_decide_eq_false ‹decide (p_place = _) = false›; omega) | (have h7 := of_decide_eq_false ‹decide (p_place = _) = false›; refine ⟨⟨fun p hpm => ?_, hp.2.1, hp.2.2.1, hp.2.2.2.1, fun h9 => ?_, fun p hpm => ?_, by omega, by omega⟩, by omega⟩; (simp only [List.mem_map, List.mem_filter] at hpm; obtain ⟨q, ⟨⟨r, hr, rfl⟩, hq⟩, rfl⟩ := hpm; exact hp.1 r hr); (have h6 := ‹(!List.isEmpty _) = true›; rw [h9] at h6; cases h6); (simp only [List.mem_map, List.mem_filter] at hpm; obtain ⟨q, ⟨⟨r, hr, rfl⟩, hq⟩, rfl⟩ := hpm; exact of_decide_eq_true hq)) | (have h9 := lp_need_len (rows := p_rows) (budgets := p_budgets) (place := p_place) (rec := m__law_need k9) hp.2.2.2.2.1 hp.2.2.2.2.2.1; rw [‹List.foldl _ _ _ = _›] at h9; have h8 := of_decide_eq_false ‹decide (_ = (1 : Int)) = false›; omega) | walk_at "ob1" | walk_at "ob2")⟩
    rw [hk9] at hQ hj
    refine ⟨_, (pss_cons (ps_if (pt_cmpR op_eq (pv 3) (pe_callB call_lenS (by rfl) (m_len S) bt_len (pa_cons (pe_ix (kx_list (K := K)) (pv 0) pe_int (fun _ _ => rfl)) pa_nil)) (nomark _)) (pss_one (ps_ret (pe_callB (kr_max (K := K) rfl) (by rfl) (m_max S) bt_max (pa_cons (pe_lc (own := [("pair", 7)]) (by rfl) sc__law_need.nd (kp_list (K := K) (pv 2)) (blkOk_by (N := ["rows", "budgets", "living", "place", "needs", "bit", "left", "pair"]) (sc := defScope s__law_need) (by decide +kernel)) (fun _ _ _ _ _ => pg_name (i := 7) sc__law_need.nd rfl (.inl rfl)) (fun _ _ _ _ _ => pts_nil) (fun _ _ _ _ _ => (pe_un un_neg (pe_ix (kx_list (K := K)) (pv 1) (pe_ix (kx_tup (K := K)) (pv 7) pe_int (fun _ _ => rfl)) (fun _ _ => rfl))))) pa_nil)))) pss_nil) (pss_cons (ps_set (i := 4) sc__law_need.nd rfl (.inl rfl) (pe_lst pa_nil)) (pss_cons (ps_for PassesOwn.never rfl (kp_tup (K := K) (pe_tup (pa_cons pe_str (pa_cons pe_str pa_nil)))) (pg_name (i := 5) sc__law_need.nd rfl (.inr rfl)) (pss_cons (ps_setLc (i := 6) (own := [("pair", 7)]) (by rfl) sc__law_need.nd rfl rfl (sw_true rfl rfl rfl (by decide +kernel)) (kp_list (K := K) (pv 2)) (blkOk_by (N := ["rows", "budgets", "living", "place", "needs", "bit", "left", "pair"]) (sc := defScope s__law_need) (by decide +kernel)) (fun _ _ _ _ _ => pg_name (i := 7) sc__law_need.nd rfl (.inl rfl)) (fun _ _ _ _ _ => pts_nil) (fun _ _ _ _ _ => (pe_tup (pa_cons (pe_ix (kx_tup (K := K)) (pv 7) pe_int (fun _ _ => rfl)) (pa_cons (pe_op op_sub (pe_ix (kx_tup (K := K)) (pv 7) pe_int (fun _ _ => rfl)) (pe_callTy call_int1Q (by rfl) (m_int S) bt_int (pa_cons (pe_cmpR op_ne (pe_ix ix_str (pe_ix (kx_list (K := K)) (pv 0) (pe_ix (kx_tup (K := K)) (pv 7) pe_int (fun _ _ => rfl)) (fun _ _ => rfl)) (pv 3) (fun _ _ => rfl)) (pv 5) (nomark _)) pa_nil))) pa_nil))))) (pss_cons (ps_setLc (i := 6) (own := [("pair", 7)]) (by rfl) sc__law_need.nd rfl rfl (sw_true rfl rfl rfl (by decide +kernel)) (kp_list (K := K) (pv 6)) (blkOk_by (N := ["rows", "budgets", "living", "place", "needs", "bit", "left", "pair"]) (sc := defScope s__law_need) (by decide +kernel)) (fun _ _ _ _ _ => pg_name (i := 7) sc__law_need.nd rfl (.inl rfl)) (fun _ _ _ _ _ => pts_one (pt_cmpR op_ge (pe_ix (kx_tup (K := K)) (pv 7) pe_int (fun _ _ => rfl)) pe_int (nomark _))) (fun _ _ _ _ _ => (pv 7))) (pss_one (ps_if (kt_truth (K := K) (pv 6)) (pss_one (ps_expr (pe_bm PySem.F.plainAttrs_list PySem.F.slot_list_append PySem.F.type_list_append mt_append (pv 4) (pa_cons (pe_callG IH hr (by omega) (by rfl) (g__law_need S) (pa_cons (pv 0) (pa_cons (pv 1) (pa_cons (pv 6) (pa_cons (pe_op op_add (pv 3) pe_int) pa_nil))))) pa_nil)))) pss_nil))))) (pss_cons (ps_if (pt_cmpR op_eq (pe_callB (kc_len (K := K)) (by rfl) (m_len S) bt_len (pa_cons (pv 4) pa_nil)) pe_int (nomark _)) (pss_one (ps_ret (pe_ix (kx_list (K := K)) (pv 4) pe_int (fun _ _ => rfl)))) pss_nil) (pss_one (ps_ret (pe_callB call_max3Q (by rfl) (m_max S) bt_max (pa_cons (pe_ix (kx_list (K := K)) (pv 4) pe_int (fun _ _ => rfl)) (pa_cons (pe_ix (kx_list (K := K)) (pv 4) pe_int (fun _ _ => rfl)) (pa_cons (pe_op op_add pe_int (pe_callB call_min2Q (by rfl) (m_min S) bt_min (pa_cons (pe_ix (kx_list (K := K)) (pv 4) pe_int (fun _ _ => rfl)) (pa_cons (pe_ix (kx_list (K := K)) (pv 4) pe_int (fun _ _ => rfl)) pa_nil)))) pa_nil)))))))))), ?_⟩
    · have ea := Ex.refl H
      first | refine nx_ ?_ | skip
      refine st_if (T := T) (et_test (ev_eqI (ev_var (i := 3) rfl r_place) (ev_lenW (ev_ixL (ev_var (i := 0) rfl r_rows) ev_int (at_get (d0 := []) (by first | walk_at "ob" | (have h9 := List.length_pos_iff.mpr hp.2.2.2.1; omega) | (have h9 := hp.1 _ ‹_ ∈ p_living›; omega) | (exact fun h9 => hp.2.2.2.2.1 (List.map_eq_nil_iff.mp h9)) | (have h9 := hp.1 _ ‹_ ∈ p_living›; have h8 := hp.2.2.1 _ (getD_mem (d := []) h9.1 h9.2); have h7 := of_decide_eq_false ‹decide (p_place = _) = false›; omega) | (have h7 := of_decide_eq_false ‹decide (p_place = _) = false›; refine ⟨⟨fun p hpm => ?_, hp.2.1, hp.2.2.1, hp.2.2.2.1, fun h9 => ?_, fun p hpm => ?_, by omega, by omega⟩, by omega⟩; (simp only [List.mem_map, List.mem_filter] at hpm; obtain ⟨q, ⟨⟨r, hr, rfl⟩, hq⟩, rfl⟩ := hpm; exact hp.1 r hr); (have h6 := ‹(!List.isEmpty _) = true›; rw [h9] at h6; cases h6); (simp only [List.mem_map, List.mem_filter] at hpm; obtain ⟨q, ⟨⟨r, hr, rfl⟩, hq⟩, rfl⟩ := hpm; exact of_decide_eq_true hq)) | (have h9 := lp_need_len (rows := p_rows) (budgets := p_budgets) (place := p_place) (rec := m__law_need k9) hp.2.2.2.2.1 hp.2.2.2.2.2.1; rw [‹List.foldl _ _ _ = _›] at h9; have h8 := of_decide_eq_false ‹decide (_ = (1 : Int)) = false›; omega) | walk_at "ob1" | walk_at "ob2") (by first | walk_at "ob" | (have h9 := List.length_pos_iff.mpr hp.2.2.2.1; omega) | (have h9 := hp.1 _ ‹_ ∈ p_living›; omega) | (exact fun h9 => hp.2.2.2.2.1 (List.map_eq_nil_iff.mp h9)) | (have h9 := hp.1 _ ‹_ ∈ p_living›; have h8 := hp.2.2.1 _ (getD_mem (d := []) h9.1 h9.2); have h7 := of_decide_eq_false ‹decide (p_place = _) = false›; omega) | (have h7 := of_decide_eq_false ‹decide (p_place = _) = false›; refine ⟨⟨fun p hpm => ?_, hp.2.1, hp.2.2.1, hp.2.2.2.1, fun h9 => ?_, fun p hpm => ?_, by omega, by omega⟩, by omega⟩; (simp only [List.mem_map, List.mem_filter] at hpm; obtain ⟨q, ⟨⟨r, hr, rfl⟩, hq⟩, rfl⟩ := hpm; exact hp.1 r hr); (have h6 := ‹(!List.isEmpty _) = true›; rw [h9] at h6; cases h6); (simp only [List.mem_map, List.mem_filter] at hpm; obtain ⟨q, ⟨⟨r, hr, rfl⟩, hq⟩, rfl⟩ := hpm; exact of_decide_eq_true hq)) | (have h9 := lp_need_len (rows := p_rows) (budgets := p_budgets) (place := p_place) (rec := m__law_need k9) hp.2.2.2.2.1 hp.2.2.2.2.2.1; rw [‹List.foldl _ _ _ = _›] at h9; have h8 := of_decide_eq_false ‹decide (_ = (1 : Int)) = false›; omega) | walk_at "ob1" | walk_at "ob2")))))) (fun h233 H233 e233 => ?_) (fun h233 H233 e233 => ?_)
      · have h233 : (decide (p_place = ((((p_rows).getD 0 [])).length : Int))) = true := h233
        replace r_rows := Mo.fr e233.fr r_rows
        replace r_budgets := Mo.fr e233.fr r_budgets
        replace r_living := Mo.fr e233.fr r_living
        replace r_place := Mo.fr e233.fr r_place
        replace hT := hT.ex e233
        replace ea := ea.trans e233
        first | refine nx_ ?_ | skip
        exact st_ret (K := K) (T := T) (ev_max (ev_lc1 (f := fun (x235 : (Int × Int)) => (-((p_budgets).getD ((x235).1).toNat 0))) hT (ei_list (ev_var (i := 2) rfl r_living)) (fun T235 H235 v235 x235 L235 hT235 hx235 r235 Q235 q235 => q235 _ wipe1 (ev_neg (ev_ixL (ev_var (i := 1) rfl (L235.ap r_budgets)) (ev_ixP0 (ev_var (i := 7) rfl r235) ev_int) (at_get (d0 := 0) (by first | walk_at "ob" | (have h9 := List.length_pos_iff.mpr hp.2.2.2.1; omega) | (have h9 := hp.1 _ ‹_ ∈ p_living›; omega) | (exact fun h9 => hp.2.2.2.2.1 (List.map_eq_nil_iff.mp h9)) | (have h9 := hp.1 _ ‹_ ∈ p_living›; have h8 := hp.2.2.1 _ (getD_mem (d := []) h9.1 h9.2); have h7 := of_decide_eq_false ‹decide (p_place = _) = false›; omega) | (have h7 := of_decide_eq_false ‹decide (p_place = _) = false›; refine ⟨⟨fun p hpm => ?_, hp.2.1, hp.2.2.1, hp.2.2.2.1, fun h9 => ?_, fun p hpm => ?_, by omega, by omega⟩, by omega⟩; (simp only [List.mem_map, List.mem_filter] at hpm; obtain ⟨q, ⟨⟨r, hr, rfl⟩, hq⟩, rfl⟩ := hpm; exact hp.1 r hr); (have h6 := ‹(!List.isEmpty _) = true›; rw [h9] at h6; cases h6); (simp only [List.mem_map, List.mem_filter] at hpm; obtain ⟨q, ⟨⟨r, hr, rfl⟩, hq⟩, rfl⟩ := hpm; exact of_decide_eq_true hq)) | (have h9 := lp_need_len (rows := p_rows) (budgets := p_budgets) (place := p_place) (rec := m__law_need k9) hp.2.2.2.2.1 hp.2.2.2.2.2.1; rw [‹List.foldl _ _ _ = _›] at h9; have h8 := of_decide_eq_false ‹decide (_ = (1 : Int)) = false›; omega) | walk_at "ob1" | walk_at "ob2") (by first | walk_at "ob" | (have h9 := List.length_pos_iff.mpr hp.2.2.2.1; omega) | (have h9 := hp.1 _ ‹_ ∈ p_living›; omega) | (exact fun h9 => hp.2.2.2.2.1 (List.map_eq_nil_iff.mp h9)) | (have h9 := hp.1 _ ‹_ ∈ p_living›; have h8 := hp.2.2.1 _ (getD_mem (d := []) h9.1 h9.2); have h7 := of_decide_eq_false ‹decide (p_place = _) = false›; omega) | (have h7 := of_decide_eq_false ‹decide (p_place = _) = false›; refine ⟨⟨fun p hpm => ?_, hp.2.1, hp.2.2.1, hp.2.2.2.1, fun h9 => ?_, fun p hpm => ?_, by omega, by omega⟩, by omega⟩; (simp only [List.mem_map, List.mem_filter] at hpm; obtain ⟨q, ⟨⟨r, hr, rfl⟩, hq⟩, rfl⟩ := hpm; exact hp.1 r hr); (have h6 := ‹(!List.isEmpty _) = true›; rw [h9] at h6; cases h6); (simp only [List.mem_map, List.mem_filter] at hpm; obtain ⟨q, ⟨⟨r, hr, rfl⟩, hq⟩, rfl⟩ := hpm; exact of_decide_eq_true hq)) | (have h9 := lp_need_len (rows := p_rows) (budgets := p_budgets) (place := p_place) (rec := m__law_need k9) hp.2.2.2.2.1 hp.2.2.2.2.2.1; rw [‹List.foldl _ _ _ = _›] at h9; have h8 := of_decide_eq_false ‹decide (_ = (1 : Int)) = false›; omega) | walk_at "ob1" | walk_at "ob2")))))) (by first | walk_at "ob" | (have h9 := List.length_pos_iff.mpr hp.2.2.2.1; omega) | (have h9 := hp.1 _ ‹_ ∈ p_living›; omega) | (exact fun h9 => hp.2.2.2.2.1 (List.map_eq_nil_iff.mp h9)) | (have h9 := hp.1 _ ‹_ ∈ p_living›; have h8 := hp.2.2.1 _ (getD_mem (d := []) h9.1 h9.2); have h7 := of_decide_eq_false ‹decide (p_place = _) = false›; omega) | (have h7 := of_decide_eq_false ‹decide (p_place = _) = false›; refine ⟨⟨fun p hpm => ?_, hp.2.1, hp.2.2.1, hp.2.2.2.1, fun h9 => ?_, fun p hpm => ?_, by omega, by omega⟩, by omega⟩; (simp only [List.mem_map, List.mem_filter] at hpm; obtain ⟨q, ⟨⟨r, hr, rfl⟩, hq⟩, rfl⟩ := hpm; exact hp.1 r hr); (have h6 := ‹(!List.isEmpty _) = true›; rw [h9] at h6; cases h6); (simp only [List.mem_map, List.mem_filter] at hpm; obtain ⟨q, ⟨⟨r, hr, rfl⟩, hq⟩, rfl⟩ := hpm; exact of_decide_eq_true hq)) | (have h9 := lp_need_len (rows := p_rows) (budgets := p_budgets) (place := p_place) (rec := m__law_need k9) hp.2.2.2.2.1 hp.2.2.2.2.2.1; rw [‹List.foldl _ _ _ = _›] at h9; have h8 := of_decide_eq_false ‹decide (_ = (1 : Int)) = false›; omega) | walk_at "ob1" | walk_at "ob2")) fun v H9 e r => hQ v H9 (ea.trans e) (by
        have e9 : (m__law_need (k9 + 1) p_rows p_budgets p_living p_place) = (mxL ((p_living).map fun (x235 : (Int × Int)) => (-((p_budgets).getD ((x235).1).toNat 0)))) := by simp only [m__law_need, h233, if_true, if_false, Bool.false_eq_true, reduceIte]
        rw [e9]; exact r)
      · have h233 : (decide (p_place = ((((p_rows).getD 0 [])).length : Int))) = false := h233
        replace r_rows := Mo.fr e233.fr r_rows
        replace r_budgets := Mo.fr e233.fr r_budgets
        replace r_living := Mo.fr e233.fr r_living
        replace r_place := Mo.fr e233.fr r_place
        replace hT := hT.ex e233
        replace ea := ea.trans e233
        first | refine nx_ ?_ | skip
        refine asg_open ?_
        refine f_run (K := K) (T := T) (ef_lst (r := zI) (xs := []) eh_nil (by simp)) fun p236 H236a H236 e236 n236 f236 en236 m_needs => ?_
        replace r_rows := Mo.fr e236.fr r_rows
        replace r_budgets := Mo.fr e236.fr r_budgets
        replace r_living := Mo.fr e236.fr r_living
        replace r_place := Mo.fr e236.fr r_place
        replace hT := hT.ex e236
        replace ea := ea.trans e236
        have hn_p236 : ¬ T p236 := fun z => (hT.new n236) z
        replace r_rows := Mo.fr en236.fr (Mo.lift n236 r_rows)
        replace r_budgets := Mo.fr en236.fr (Mo.lift n236 r_budgets)
        replace r_living := Mo.fr en236.fr (Mo.lift n236 r_living)
        replace r_place := Mo.fr en236.fr (Mo.lift n236 r_place)
        replace hT := hT.of_mem (S := T0) en236.fr m_needs.dom
        have h0_p236 := ea.back n236
        replace ea := ea.trans en236
        first | refine nx_ ?_ | skip
        refine st_for (K := K) (T := (Tp T p236)) hT (ei_tup (ev_tupU hT (eh_cons (ev_word [false] (by decide) (by decide)) (eh_cons (ev_word [true] (by decide) (by decide)) eh_nil)) (by decide))) fun H237 e237 => ?_
        replace r_rows := Mo.fr e237.fr r_rows
        replace r_budgets := Mo.fr e237.fr r_budgets
        replace r_living := Mo.fr e237.fr r_living
        replace r_place := Mo.fr e237.fr r_place
        replace m_needs := m_needs.ex' e237
        replace hT := hT.ex e237
        replace ea := ea.trans e237
        obtain ⟨Pv237, hPv237⟩ : ∃ Pv : Nat → L2.St → Hp → Prop, ∀ i σ' H', Pv i σ' H' ↔ (∃ (si : (List Int)), List.foldl (lp__law_need_1 p_rows p_budgets p_living p_place (m__law_need k9)) ([] : (List Int)) ((([([false] : List Bool), ([true] : List Bool)] : (List (List Bool)))).take i) = si ∧ Fr (Tp T0 p236) H237 H' ∧ ∃ (y_left : Option V) (y_bit : Option V), σ' = [some v_rows, some v_budgets, some v_living, some v_place, some (.ref p236), y_bit, y_left, none] ∧ HM zI K (Tp T p236) H' p236 si ∧ ((si).length ≤ (([] : (List Int))).length + 1 * i)) := ⟨_, fun _ _ _ => Iff.rfl⟩
        refine ⟨Pv237, (hPv237 _ _ _).mpr ⟨([] : (List Int)), rfl, Fr.refl _, _, _, rfl, m_needs, (by walk_at "inv")⟩, fun i σ' H' _ h => ?_, ?_, ?_⟩
        · obtain ⟨si, _, hF, _⟩ := (hPv237 _ _ _).mp h
          exact hF.mono (fun b hb => hb.elim (fun z => .inl (z.elim)) .inr)
        · intro i x237 σ' H'237 v237 H''237 hx237 hh eY rv237
          obtain ⟨si237, hrun237, hF237, y_left, y_bit, rfl, m'_needs, hl_needs_237⟩ := (hPv237 _ _ _).mp hh
          have hmem237 := List.mem_of_getElem? hx237
          replace r_rows := Mo.fr ((hF237.mono (fun b hb => hb.elim (fun z => .inl (z.elim)) .inr)).trans eY.fr) r_rows
          replace r_budgets := Mo.fr ((hF237.mono (fun b hb => hb.elim (fun z => .inl (z.elim)) .inr)).trans eY.fr) r_budgets
          replace r_living := Mo.fr ((hF237.mono (fun b hb => hb.elim (fun z => .inl (z.elim)) .inr)).trans eY.fr) r_living
          replace r_place := Mo.fr ((hF237.mono (fun b hb => hb.elim (fun z => .inl (z.elim)) .inr)).trans eY.fr) r_place
          replace m_needs := m'_needs.ex' eY
          replace hT := (hT.fr hF237).ex eY
          replace ea := (ea.thenFr hF237 (fun b hb => hb.elim (fun z => z.elim) (fun z => by subst z; exact h0_p236))).trans eY
          replace eb237 := hF237.trans (Ex.fr (T := (Tp T0 p236)) eY)
          refine gn ?_
          replace r_bit := rv237
          have hi237 := (List.getElem?_eq_some_iff.mp hx237).1
          first | refine nx_ ?_ | skip
          refine st_asg (K := K) (T := (Tp T p236)) (ev_lc1 (f := fun (x239 : (Int × Int)) => ((x239).1, ((x239).2 - (b2 (!decide ([(((p_rows).getD ((x239).1).toNat [])).getD (p_place).toNat false] = x237)))))) hT (ei_list (ev_var (i := 2) rfl r_living)) (fun T239 H239 v239 x239 L239 hT239 hx239 r239 Q239 q239 => q239 _ wipe1 (ev_tup2 hT239 (ea_cons (ev_ixP0 (ev_var (i := 7) rfl r239) ev_int) (ea_cons (ev_sub (ev_ixP1 (ev_var (i := 7) rfl r239) ev_int) (ev_intB (ev_neW (ev_ixW (ev_ixL (ev_var (i := 0) rfl (L239.ap r_rows)) (ev_ixP0 (ev_var (i := 7) rfl r239) ev_int) (at_get (d0 := []) (by first | walk_at "ob" | (have h9 := List.length_pos_iff.mpr hp.2.2.2.1; omega) | (have h9 := hp.1 _ ‹_ ∈ p_living›; omega) | (exact fun h9 => hp.2.2.2.2.1 (List.map_eq_nil_iff.mp h9)) | (have h9 := hp.1 _ ‹_ ∈ p_living›; have h8 := hp.2.2.1 _ (getD_mem (d := []) h9.1 h9.2); have h7 := of_decide_eq_false ‹decide (p_place = _) = false›; omega) | (have h7 := of_decide_eq_false ‹decide (p_place = _) = false›; refine ⟨⟨fun p hpm => ?_, hp.2.1, hp.2.2.1, hp.2.2.2.1, fun h9 => ?_, fun p hpm => ?_, by omega, by omega⟩, by omega⟩; (simp only [List.mem_map, List.mem_filter] at hpm; obtain ⟨q, ⟨⟨r, hr, rfl⟩, hq⟩, rfl⟩ := hpm; exact hp.1 r hr); (have h6 := ‹(!List.isEmpty _) = true›; rw [h9] at h6; cases h6); (simp only [List.mem_map, List.mem_filter] at hpm; obtain ⟨q, ⟨⟨r, hr, rfl⟩, hq⟩, rfl⟩ := hpm; exact of_decide_eq_true hq)) | (have h9 := lp_need_len (rows := p_rows) (budgets := p_budgets) (place := p_place) (rec := m__law_need k9) hp.2.2.2.2.1 hp.2.2.2.2.2.1; rw [‹List.foldl _ _ _ = _›] at h9; have h8 := of_decide_eq_false ‹decide (_ = (1 : Int)) = false›; omega) | walk_at "ob1" | walk_at "ob2") (by first | walk_at "ob" | (have h9 := List.length_pos_iff.mpr hp.2.2.2.1; omega) | (have h9 := hp.1 _ ‹_ ∈ p_living›; omega) | (exact fun h9 => hp.2.2.2.2.1 (List.map_eq_nil_iff.mp h9)) | (have h9 := hp.1 _ ‹_ ∈ p_living›; have h8 := hp.2.2.1 _ (getD_mem (d := []) h9.1 h9.2); have h7 := of_decide_eq_false ‹decide (p_place = _) = false›; omega) | (have h7 := of_decide_eq_false ‹decide (p_place = _) = false›; refine ⟨⟨fun p hpm => ?_, hp.2.1, hp.2.2.1, hp.2.2.2.1, fun h9 => ?_, fun p hpm => ?_, by omega, by omega⟩, by omega⟩; (simp only [List.mem_map, List.mem_filter] at hpm; obtain ⟨q, ⟨⟨r, hr, rfl⟩, hq⟩, rfl⟩ := hpm; exact hp.1 r hr); (have h6 := ‹(!List.isEmpty _) = true›; rw [h9] at h6; cases h6); (simp only [List.mem_map, List.mem_filter] at hpm; obtain ⟨q, ⟨⟨r, hr, rfl⟩, hq⟩, rfl⟩ := hpm; exact of_decide_eq_true hq)) | (have h9 := lp_need_len (rows := p_rows) (budgets := p_budgets) (place := p_place) (rec := m__law_need k9) hp.2.2.2.2.1 hp.2.2.2.2.2.1; rw [‹List.foldl _ _ _ = _›] at h9; have h8 := of_decide_eq_false ‹decide (_ = (1 : Int)) = false›; omega) | walk_at "ob1" | walk_at "ob2"))) (ev_var (i := 3) rfl (L239.ap r_place)) (at_get (d0 := false) (by first | walk_at "ob" | (have h9 := List.length_pos_iff.mpr hp.2.2.2.1; omega) | (have h9 := hp.1 _ ‹_ ∈ p_living›; omega) | (exact fun h9 => hp.2.2.2.2.1 (List.map_eq_nil_iff.mp h9)) | (have h9 := hp.1 _ ‹_ ∈ p_living›; have h8 := hp.2.2.1 _ (getD_mem (d := []) h9.1 h9.2); have h7 := of_decide_eq_false ‹decide (p_place = _) = false›; omega) | (have h7 := of_decide_eq_false ‹decide (p_place = _) = false›; refine ⟨⟨fun p hpm => ?_, hp.2.1, hp.2.2.1, hp.2.2.2.1, fun h9 => ?_, fun p hpm => ?_, by omega, by omega⟩, by omega⟩; (simp only [List.mem_map, List.mem_filter] at hpm; obtain ⟨q, ⟨⟨r, hr, rfl⟩, hq⟩, rfl⟩ := hpm; exact hp.1 r hr); (have h6 := ‹(!List.isEmpty _) = true›; rw [h9] at h6; cases h6); (simp only [List.mem_map, List.mem_filter] at hpm; obtain ⟨q, ⟨⟨r, hr, rfl⟩, hq⟩, rfl⟩ := hpm; exact of_decide_eq_true hq)) | (have h9 := lp_need_len (rows := p_rows) (budgets := p_budgets) (place := p_place) (rec := m__law_need k9) hp.2.2.2.2.1 hp.2.2.2.2.2.1; rw [‹List.foldl _ _ _ = _›] at h9; have h8 := of_decide_eq_false ‹decide (_ = (1 : Int)) = false›; omega) | walk_at "ob1" | walk_at "ob2") (by first | walk_at "ob" | (have h9 := List.length_pos_iff.mpr hp.2.2.2.1; omega) | (have h9 := hp.1 _ ‹_ ∈ p_living›; omega) | (exact fun h9 => hp.2.2.2.2.1 (List.map_eq_nil_iff.mp h9)) | (have h9 := hp.1 _ ‹_ ∈ p_living›; have h8 := hp.2.2.1 _ (getD_mem (d := []) h9.1 h9.2); have h7 := of_decide_eq_false ‹decide (p_place = _) = false›; omega) | (have h7 := of_decide_eq_false ‹decide (p_place = _) = false›; refine ⟨⟨fun p hpm => ?_, hp.2.1, hp.2.2.1, hp.2.2.2.1, fun h9 => ?_, fun p hpm => ?_, by omega, by omega⟩, by omega⟩; (simp only [List.mem_map, List.mem_filter] at hpm; obtain ⟨q, ⟨⟨r, hr, rfl⟩, hq⟩, rfl⟩ := hpm; exact hp.1 r hr); (have h6 := ‹(!List.isEmpty _) = true›; rw [h9] at h6; cases h6); (simp only [List.mem_map, List.mem_filter] at hpm; obtain ⟨q, ⟨⟨r, hr, rfl⟩, hq⟩, rfl⟩ := hpm; exact of_decide_eq_true hq)) | (have h9 := lp_need_len (rows := p_rows) (budgets := p_budgets) (place := p_place) (rec := m__law_need k9) hp.2.2.2.2.1 hp.2.2.2.2.2.1; rw [‹List.foldl _ _ _ = _›] at h9; have h8 := of_decide_eq_false ‹decide (_ = (1 : Int)) = false›; omega) | walk_at "ob1" | walk_at "ob2"))) (ev_var (i := 5) rfl (L239.ap r_bit))))) ea_nil))))) fun v238 H238 e238 rr238 => ?_
          replace r_rows := Mo.fr e238.fr r_rows
          replace r_budgets := Mo.fr e238.fr r_budgets
          replace r_living := Mo.fr e238.fr r_living
          replace r_place := Mo.fr e238.fr r_place
          replace r_bit := Mo.fr e238.fr r_bit
          replace m_needs := m_needs.ex' e238
          replace hT := hT.ex e238
          replace ea := ea.trans e238
          replace eb237 := eb237.trans e238.fr
          replace r_left := rr238
          first | refine nx_ ?_ | skip
          refine st_asg (K := K) (T := (Tp T p236)) (ev_lc (p := fun (x241 : (Int × Int)) => (decide ((0 : Int) ≤ (x241).2))) (f := fun (x241 : (Int × Int)) => x241) hT (ei_list (ev_var (i := 6) rfl r_left)) (fun T241 H241 v241 x241 L241 hT241 hx241 r241 Q241 q241 => q241 _ wipe1 (et_test (ev_ge (ev_ixP1 (ev_var (i := 7) rfl r241) ev_int) ev_int)) fun hp241 => (ev_var (i := 7) rfl r241))) fun v240 H240 e240 rr240 => ?_
          replace r_rows := Mo.fr e240.fr r_rows
          replace r_budgets := Mo.fr e240.fr r_budgets
          replace r_living := Mo.fr e240.fr r_living
          replace r_place := Mo.fr e240.fr r_place
          replace r_bit := Mo.fr e240.fr r_bit
          replace m_needs := m_needs.ex' e240
          replace hT := hT.ex e240
          replace ea := ea.trans e240
          replace eb237 := eb237.trans e240.fr
          replace r_left := rr240
          first | refine nx_ ?_ | skip
          refine st_if (T := (Tp T p236)) (et_truL (ev_var (i := 6) rfl r_left)) (fun h242 H242 e242 => ?_) (fun h242 H242 e242 => ?_)
          · have h242 : (!((((((p_living).map fun (x239 : (Int × Int)) => ((x239).1, ((x239).2 - (b2 (!decide ([(((p_rows).getD ((x239).1).toNat [])).getD (p_place).toNat false] = x237))))))).filter fun (x241 : (Int × Int)) => (decide ((0 : Int) ≤ (x241).2))).map fun (x241 : (Int × Int)) => x241)).isEmpty) = true := h242
            replace r_rows := Mo.fr e242.fr r_rows
            replace r_budgets := Mo.fr e242.fr r_budgets
            replace r_living := Mo.fr e242.fr r_living
            replace r_place := Mo.fr e242.fr r_place
            replace r_bit := Mo.fr e242.fr r_bit
            replace r_left := Mo.fr e242.fr r_left
            replace m_needs := m_needs.ex' e242
            replace hT := hT.ex e242
            replace ea := ea.trans e242
            replace eb237 := eb237.trans e242.fr
            first | refine nx_ ?_ | skip
            refine st_append (K := K) (T := (Tp T p236)) (S := fun _ => False) rfl m_needs (Ev.to (ev_call hT (ea_cons (ev_var (i := 0) rfl r_rows) (ea_cons (ev_var (i := 1) rfl r_budgets) (ea_cons (ev_var (i := 6) rfl r_left) (ea_cons (ev_add (ev_var (i := 3) rfl r_place) ev_int) ea_nil)))) (show ((∀ p ∈ (((((p_living).map fun (x239 : (Int × Int)) => ((x239).1, ((x239).2 - (b2 (!decide ([(((p_rows).getD ((x239).1).toNat [])).getD (p_place).toNat false] = x237))))))).filter fun (x241 : (Int × Int)) => (decide ((0 : Int) ≤ (x241).2))).map fun (x241 : (Int × Int)) => x241), 0 ≤ p.1 ∧ p.1 < (p_rows.length : Int)) ∧ p_budgets.length = p_rows.length ∧ (∀ w ∈ p_rows, w.length = (p_rows.getD 0 []).length) ∧ p_rows ≠ [] ∧ (((((p_living).map fun (x239 : (Int × Int)) => ((x239).1, ((x239).2 - (b2 (!decide ([(((p_rows).getD ((x239).1).toNat [])).getD (p_place).toNat false] = x237))))))).filter fun (x241 : (Int × Int)) => (decide ((0 : Int) ≤ (x241).2))).map fun (x241 : (Int × Int)) => x241) ≠ [] ∧ (∀ p ∈ (((((p_living).map fun (x239 : (Int × Int)) => ((x239).1, ((x239).2 - (b2 (!decide ([(((p_rows).getD ((x239).1).toNat [])).getD (p_place).toNat false] = x237))))))).filter fun (x241 : (Int × Int)) => (decide ((0 : Int) ≤ (x241).2))).map fun (x241 : (Int × Int)) => x241), 0 ≤ p.2) ∧ 0 ≤ (p_place + (1 : Int)) ∧ (p_place + (1 : Int)) ≤ ((p_rows.getD 0 []).length : Int)) ∧ ((p_rows.getD 0 []).length + 1 - (p_place + (1 : Int)).toNat) < j from (by first | walk_at "ob" | (have h9 := List.length_pos_iff.mpr hp.2.2.2.1; omega) | (have h9 := hp.1 _ ‹_ ∈ p_living›; omega) | (exact fun h9 => hp.2.2.2.2.1 (List.map_eq_nil_iff.mp h9)) | (have h9 := hp.1 _ ‹_ ∈ p_living›; have h8 := hp.2.2.1 _ (getD_mem (d := []) h9.1 h9.2); have h7 := of_decide_eq_false ‹decide (p_place = _) = false›; omega) | (have h7 := of_decide_eq_false ‹decide (p_place = _) = false›; refine ⟨⟨fun p hpm => ?_, hp.2.1, hp.2.2.1, hp.2.2.2.1, fun h9 => ?_, fun p hpm => ?_, by omega, by omega⟩, by omega⟩; (simp only [List.mem_map, List.mem_filter] at hpm; obtain ⟨q, ⟨⟨r, hr, rfl⟩, hq⟩, rfl⟩ := hpm; exact hp.1 r hr); (have h6 := ‹(!List.isEmpty _) = true›; rw [h9] at h6; cases h6); (simp only [List.mem_map, List.mem_filter] at hpm; obtain ⟨q, ⟨⟨r, hr, rfl⟩, hq⟩, rfl⟩ := hpm; exact of_decide_eq_true hq)) | (have h9 := lp_need_len (rows := p_rows) (budgets := p_budgets) (place := p_place) (rec := m__law_need k9) hp.2.2.2.2.1 hp.2.2.2.2.2.1; rw [‹List.foldl _ _ _ = _›] at h9; have h8 := of_decide_eq_false ‹decide (_ = (1 : Int)) = false›; omega) | walk_at "ob1" | walk_at "ob2"))) (congrArg (fun q => m__law_need q p_rows p_budgets (((((p_living).map fun (x239 : (Int × Int)) => ((x239).1, ((x239).2 - (b2 (!decide ([(((p_rows).getD ((x239).1).toNat [])).getD (p_place).toNat false] = x237))))))).filter fun (x241 : (Int × Int)) => (decide ((0 : Int) ≤ (x241).2))).map fun (x241 : (Int × Int)) => x241) (p_place + (1 : Int))) (show ((p_rows.getD 0 []).length + 1 - (p_place + (1 : Int)).toNat) = k9 from (by first | walk_at "ob" | (have h9 := List.length_pos_iff.mpr hp.2.2.2.1; omega) | (have h9 := hp.1 _ ‹_ ∈ p_living›; omega) | (exact fun h9 => hp.2.2.2.2.1 (List.map_eq_nil_iff.mp h9)) | (have h9 := hp.1 _ ‹_ ∈ p_living›; have h8 := hp.2.2.1 _ (getD_mem (d := []) h9.1 h9.2); have h7 := of_decide_eq_false ‹decide (p_place = _) = false›; omega) | (have h7 := of_decide_eq_false ‹decide (p_place = _) = false›; refine ⟨⟨fun p hpm => ?_, hp.2.1, hp.2.2.1, hp.2.2.2.1, fun h9 => ?_, fun p hpm => ?_, by omega, by omega⟩, by omega⟩; (simp only [List.mem_map, List.mem_filter] at hpm; obtain ⟨q, ⟨⟨r, hr, rfl⟩, hq⟩, rfl⟩ := hpm; exact hp.1 r hr); (have h6 := ‹(!List.isEmpty _) = true›; rw [h9] at h6; cases h6); (simp only [List.mem_map, List.mem_filter] at hpm; obtain ⟨q, ⟨⟨r, hr, rfl⟩, hq⟩, rfl⟩ := hpm; exact of_decide_eq_true hq)) | (have h9 := lp_need_len (rows := p_rows) (budgets := p_budgets) (place := p_place) (rec := m__law_need k9) hp.2.2.2.2.1 hp.2.2.2.2.2.1; rw [‹List.foldl _ _ _ = _›] at h9; have h8 := of_decide_eq_false ‹decide (_ = (1 : Int)) = false›; omega) | walk_at "ob1" | walk_at "ob2")))) (by first | walk_at "ob" | (have h9 := List.length_pos_iff.mpr hp.2.2.2.1; omega) | (have h9 := hp.1 _ ‹_ ∈ p_living›; omega) | (exact fun h9 => hp.2.2.2.2.1 (List.map_eq_nil_iff.mp h9)) | (have h9 := hp.1 _ ‹_ ∈ p_living›; have h8 := hp.2.2.1 _ (getD_mem (d := []) h9.1 h9.2); have h7 := of_decide_eq_false ‹decide (p_place = _) = false›; omega) | (have h7 := of_decide_eq_false ‹decide (p_place = _) = false›; refine ⟨⟨fun p hpm => ?_, hp.2.1, hp.2.2.1, hp.2.2.2.1, fun h9 => ?_, fun p hpm => ?_, by omega, by omega⟩, by omega⟩; (simp only [List.mem_map, List.mem_filter] at hpm; obtain ⟨q, ⟨⟨r, hr, rfl⟩, hq⟩, rfl⟩ := hpm; exact hp.1 r hr); (have h6 := ‹(!List.isEmpty _) = true›; rw [h9] at h6; cases h6); (simp only [List.mem_map, List.mem_filter] at hpm; obtain ⟨q, ⟨⟨r, hr, rfl⟩, hq⟩, rfl⟩ := hpm; exact of_decide_eq_true hq)) | (have h9 := lp_need_len (rows := p_rows) (budgets := p_budgets) (place := p_place) (rec := m__law_need k9) hp.2.2.2.2.1 hp.2.2.2.2.2.1; rw [‹List.foldl _ _ _ = _›] at h9; have h8 := of_decide_eq_false ‹decide (_ = (1 : Int)) = false›; omega) | walk_at "ob1" | walk_at "ob2") fun H243a H243 v243 ev243 e243 f243 fT243 m243 => ?_
            have hpm243 := m_needs.mem
            have fp243 : Fr (fun b => b = p236) H243a H243 := f243.mono (fun b hb => hb.elim False.elim id)
            replace r_rows := Mo.fr (e243.fr.trans fT243) r_rows
            replace r_budgets := Mo.fr (e243.fr.trans fT243) r_budgets
            replace r_living := Mo.fr (e243.fr.trans fT243) r_living
            replace r_place := Mo.fr (e243.fr.trans fT243) r_place
            replace r_bit := Mo.fr (e243.fr.trans fT243) r_bit
            replace r_left := Mo.fr (e243.fr.trans fT243) r_left
            replace hT := (hT.ex e243).fr fT243
            replace ea := (ea.trans e243).thenFr fp243 (fun b hb => by subst hb; exact h0_p236)
            replace eb237 := (eb237.trans e243.fr).thenFr fp243 (fun b hb => by subst hb; exact .inl (.inr rfl))
            replace m_needs := m243
            exact (hPv237 _ _ _).mpr ⟨(si237 ++ [((m__law_need k9) p_rows p_budgets (((((p_living).map fun (x239 : (Int × Int)) => ((x239).1, ((x239).2 - (b2 (!decide ([(((p_rows).getD ((x239).1).toNat [])).getD (p_place).toNat false] = x237))))))).filter fun (x241 : (Int × Int)) => (decide ((0 : Int) ≤ (x241).2))).map fun (x241 : (Int × Int)) => x241) (p_place + (1 : Int)))]), ((foldl_take hx237).trans (by rw [hrun237])).trans (show (lp__law_need_1 p_rows p_budgets p_living p_place (m__law_need k9)) si237 x237 = (si237 ++ [((m__law_need k9) p_rows p_budgets (((((p_living).map fun (x239 : (Int × Int)) => ((x239).1, ((x239).2 - (b2 (!decide ([(((p_rows).getD ((x239).1).toNat [])).getD (p_place).toNat false] = x237))))))).filter fun (x241 : (Int × Int)) => (decide ((0 : Int) ≤ (x241).2))).map fun (x241 : (Int × Int)) => x241) (p_place + (1 : Int)))]) by simp only [lp__law_need_1, h242, if_true, if_false, Bool.false_eq_true, reduceIte]), eb237, _, _, rfl, m_needs, (by walk_at "inv")⟩
          · have h242 : (!((((((p_living).map fun (x239 : (Int × Int)) => ((x239).1, ((x239).2 - (b2 (!decide ([(((p_rows).getD ((x239).1).toNat [])).getD (p_place).toNat false] = x237))))))).filter fun (x241 : (Int × Int)) => (decide ((0 : Int) ≤ (x241).2))).map fun (x241 : (Int × Int)) => x241)).isEmpty) = false := h242
            replace r_rows := Mo.fr e242.fr r_rows
            replace r_budgets := Mo.fr e242.fr r_budgets
            replace r_living := Mo.fr e242.fr r_living
            replace r_place := Mo.fr e242.fr r_place
            replace r_bit := Mo.fr e242.fr r_bit
            replace r_left := Mo.fr e242.fr r_left
            replace m_needs := m_needs.ex' e242
            replace hT := hT.ex e242
            replace ea := ea.trans e242
            replace eb237 := eb237.trans e242.fr
            exact (hPv237 _ _ _).mpr ⟨si237, ((foldl_take hx237).trans (by rw [hrun237])).trans (show (lp__law_need_1 p_rows p_budgets p_living p_place (m__law_need k9)) si237 x237 = si237 by simp only [lp__law_need_1, h242, if_true, if_false, Bool.false_eq_true, reduceIte]), eb237, _, _, rfl, m_needs, (by walk_at "inv")⟩
        · intro σ' H'237 hh
          obtain ⟨si237, hrun237, hF237, y_left, y_bit, rfl, m'_needs, hl_needs_237⟩ := (hPv237 _ _ _).mp hh
          rw [List.take_length] at hrun237
          replace r_rows := Mo.fr (hF237.mono (fun b hb => hb.elim (fun z => .inl (z.elim)) .inr)) r_rows
          replace r_budgets := Mo.fr (hF237.mono (fun b hb => hb.elim (fun z => .inl (z.elim)) .inr)) r_budgets
          replace r_living := Mo.fr (hF237.mono (fun b hb => hb.elim (fun z => .inl (z.elim)) .inr)) r_living
          replace r_place := Mo.fr (hF237.mono (fun b hb => hb.elim (fun z => .inl (z.elim)) .inr)) r_place
          replace m_needs := m'_needs
          replace hT := hT.fr hF237
          replace ea := ea.thenFr hF237 (fun b hb => hb.elim (fun z => z.elim) (fun z => by subst z; exact h0_p236))
          replace r_needs := m_needs.done (T' := T) (fun b hb => (.inl hb)) (fun z => (hn_p236 z))
          replace r_rows := Mo.sub (T' := T) (fun b hb => (.inl hb)) r_rows
          replace r_budgets := Mo.sub (T' := T) (fun b hb => (.inl hb)) r_budgets
          replace r_living := Mo.sub (T' := T) (fun b hb => (.inl hb)) r_living
          replace r_place := Mo.sub (T' := T) (fun b hb => (.inl hb)) r_place
          replace hT := hT.sub (T' := T) (fun b hb => (.inl hb))
          first | refine nx_ ?_ | skip
          refine st_if (T := T) (et_test (ev_eqI (ev_lenL (ev_var (i := 4) rfl r_needs)) ev_int)) (fun h244 H244 e244 => ?_) (fun h244 H244 e244 => ?_)
          · have h244 : (decide (((si237).length : Int) = (1 : Int))) = true := h244
            replace r_rows := Mo.fr e244.fr r_rows
            replace r_budgets := Mo.fr e244.fr r_budgets
            replace r_living := Mo.fr e244.fr r_living
            replace r_place := Mo.fr e244.fr r_place
            replace r_needs := Mo.fr e244.fr r_needs
            replace hT := hT.ex e244
            replace ea := ea.trans e244
            first | refine nx_ ?_ | skip
            exact st_ret (K := K) (T := T) (ev_ixL (ev_var (i := 4) rfl r_needs) ev_int (at_get (d0 := 0) (by first | walk_at "ob" | (have h9 := List.length_pos_iff.mpr hp.2.2.2.1; omega) | (have h9 := hp.1 _ ‹_ ∈ p_living›; omega) | (exact fun h9 => hp.2.2.2.2.1 (List.map_eq_nil_iff.mp h9)) | (have h9 := hp.1 _ ‹_ ∈ p_living›; have h8 := hp.2.2.1 _ (getD_mem (d := []) h9.1 h9.2); have h7 := of_decide_eq_false ‹decide (p_place = _) = false›; omega) | (have h7 := of_decide_eq_false ‹decide (p_place = _) = false›; refine ⟨⟨fun p hpm => ?_, hp.2.1, hp.2.2.1, hp.2.2.2.1, fun h9 => ?_, fun p hpm => ?_, by omega, by omega⟩, by omega⟩; (simp only [List.mem_map, List.mem_filter] at hpm; obtain ⟨q, ⟨⟨r, hr, rfl⟩, hq⟩, rfl⟩ := hpm; exact hp.1 r hr); (have h6 := ‹(!List.isEmpty _) = true›; rw [h9] at h6; cases h6); (simp only [List.mem_map, List.mem_filter] at hpm; obtain ⟨q, ⟨⟨r, hr, rfl⟩, hq⟩, rfl⟩ := hpm; exact of_decide_eq_true hq)) | (have h9 := lp_need_len (rows := p_rows) (budgets := p_budgets) (place := p_place) (rec := m__law_need k9) hp.2.2.2.2.1 hp.2.2.2.2.2.1; rw [‹List.foldl _ _ _ = _›] at h9; have h8 := of_decide_eq_false ‹decide (_ = (1 : Int)) = false›; omega) | walk_at "ob1" | walk_at "ob2") (by first | walk_at "ob" | (have h9 := List.length_pos_iff.mpr hp.2.2.2.1; omega) | (have h9 := hp.1 _ ‹_ ∈ p_living›; omega) | (exact fun h9 => hp.2.2.2.2.1 (List.map_eq_nil_iff.mp h9)) | (have h9 := hp.1 _ ‹_ ∈ p_living›; have h8 := hp.2.2.1 _ (getD_mem (d := []) h9.1 h9.2); have h7 := of_decide_eq_false ‹decide (p_place = _) = false›; omega) | (have h7 := of_decide_eq_false ‹decide (p_place = _) = false›; refine ⟨⟨fun p hpm => ?_, hp.2.1, hp.2.2.1, hp.2.2.2.1, fun h9 => ?_, fun p hpm => ?_, by omega, by omega⟩, by omega⟩; (simp only [List.mem_map, List.mem_filter] at hpm; obtain ⟨q, ⟨⟨r, hr, rfl⟩, hq⟩, rfl⟩ := hpm; exact hp.1 r hr); (have h6 := ‹(!List.isEmpty _) = true›; rw [h9] at h6; cases h6); (simp only [List.mem_map, List.mem_filter] at hpm; obtain ⟨q, ⟨⟨r, hr, rfl⟩, hq⟩, rfl⟩ := hpm; exact of_decide_eq_true hq)) | (have h9 := lp_need_len (rows := p_rows) (budgets := p_budgets) (place := p_place) (rec := m__law_need k9) hp.2.2.2.2.1 hp.2.2.2.2.2.1; rw [‹List.foldl _ _ _ = _›] at h9; have h8 := of_decide_eq_false ‹decide (_ = (1 : Int)) = false›; omega) | walk_at "ob1" | walk_at "ob2"))) fun v H9 e r => hQ v H9 (ea.trans e) (by
        have e9 : (m__law_need (k9 + 1) p_rows p_budgets p_living p_place) = ((si237).getD 0 0) := by simp only [m__law_need, h233, hrun237, h244, if_true, if_false, Bool.false_eq_true, reduceIte]
        rw [e9]; exact r)
          · have h244 : (decide (((si237).length : Int) = (1 : Int))) = false := h244
            replace r_rows := Mo.fr e244.fr r_rows
            replace r_budgets := Mo.fr e244.fr r_budgets
            replace r_living := Mo.fr e244.fr r_living
            replace r_place := Mo.fr e244.fr r_place
            replace r_needs := Mo.fr e244.fr r_needs
            replace hT := hT.ex e244
            replace ea := ea.trans e244
            first | refine nx_ ?_ | skip
            exact st_ret (K := K) (T := T) (ev_max3 (ev_ixL (ev_var (i := 4) rfl r_needs) ev_int (at_get (d0 := 0) (by first | walk_at "ob" | (have h9 := List.length_pos_iff.mpr hp.2.2.2.1; omega) | (have h9 := hp.1 _ ‹_ ∈ p_living›; omega) | (exact fun h9 => hp.2.2.2.2.1 (List.map_eq_nil_iff.mp h9)) | (have h9 := hp.1 _ ‹_ ∈ p_living›; have h8 := hp.2.2.1 _ (getD_mem (d := []) h9.1 h9.2); have h7 := of_decide_eq_false ‹decide (p_place = _) = false›; omega) | (have h7 := of_decide_eq_false ‹decide (p_place = _) = false›; refine ⟨⟨fun p hpm => ?_, hp.2.1, hp.2.2.1, hp.2.2.2.1, fun h9 => ?_, fun p hpm => ?_, by omega, by omega⟩, by omega⟩; (simp only [List.mem_map, List.mem_filter] at hpm; obtain ⟨q, ⟨⟨r, hr, rfl⟩, hq⟩, rfl⟩ := hpm; exact hp.1 r hr); (have h6 := ‹(!List.isEmpty _) = true›; rw [h9] at h6; cases h6); (simp only [List.mem_map, List.mem_filter] at hpm; obtain ⟨q, ⟨⟨r, hr, rfl⟩, hq⟩, rfl⟩ := hpm; exact of_decide_eq_true hq)) | (have h9 := lp_need_len (rows := p_rows) (budgets := p_budgets) (place := p_place) (rec := m__law_need k9) hp.2.2.2.2.1 hp.2.2.2.2.2.1; rw [‹List.foldl _ _ _ = _›] at h9; have h8 := of_decide_eq_false ‹decide (_ = (1 : Int)) = false›; omega) | walk_at "ob1" | walk_at "ob2") (by first | walk_at "ob" | (have h9 := List.length_pos_iff.mpr hp.2.2.2.1; omega) | (have h9 := hp.1 _ ‹_ ∈ p_living›; omega) | (exact fun h9 => hp.2.2.2.2.1 (List.map_eq_nil_iff.mp h9)) | (have h9 := hp.1 _ ‹_ ∈ p_living›; have h8 := hp.2.2.1 _ (getD_mem (d := []) h9.1 h9.2); have h7 := of_decide_eq_false ‹decide (p_place = _) = false›; omega) | (have h7 := of_decide_eq_false ‹decide (p_place = _) = false›; refine ⟨⟨fun p hpm => ?_, hp.2.1, hp.2.2.1, hp.2.2.2.1, fun h9 => ?_, fun p hpm => ?_, by omega, by omega⟩, by omega⟩; (simp only [List.mem_map, List.mem_filter] at hpm; obtain ⟨q, ⟨⟨r, hr, rfl⟩, hq⟩, rfl⟩ := hpm; exact hp.1 r hr); (have h6 := ‹(!List.isEmpty _) = true›; rw [h9] at h6; cases h6); (simp only [List.mem_map, List.mem_filter] at hpm; obtain ⟨q, ⟨⟨r, hr, rfl⟩, hq⟩, rfl⟩ := hpm; exact of_decide_eq_true hq)) | (have h9 := lp_need_len (rows := p_rows) (budgets := p_budgets) (place := p_place) (rec := m__law_need k9) hp.2.2.2.2.1 hp.2.2.2.2.2.1; rw [‹List.foldl _ _ _ = _›] at h9; have h8 := of_decide_eq_false ‹decide (_ = (1 : Int)) = false›; omega) | walk_at "ob1" | walk_at "ob2"))) (ev_ixL (ev_var (i := 4) rfl r_needs) ev_int (at_get (d0 := 0) (by first | walk_at "ob" | (have h9 := List.length_pos_iff.mpr hp.2.2.2.1; omega) | (have h9 := hp.1 _ ‹_ ∈ p_living›; omega) | (exact fun h9 => hp.2.2.2.2.1 (List.map_eq_nil_iff.mp h9)) | (have h9 := hp.1 _ ‹_ ∈ p_living›; have h8 := hp.2.2.1 _ (getD_mem (d := []) h9.1 h9.2); have h7 := of_decide_eq_false ‹decide (p_place = _) = false›; omega) | (have h7 := of_decide_eq_false ‹decide (p_place = _) = false›; refine ⟨⟨fun p hpm => ?_, hp.2.1, hp.2.2.1, hp.2.2.2.1, fun h9 => ?_, fun p hpm => ?_, by omega, by omega⟩, by omega⟩; (simp only [List.mem_map, List.mem_filter] at hpm; obtain ⟨q, ⟨⟨r, hr, rfl⟩, hq⟩, rfl⟩ := hpm; exact hp.1 r hr); (have h6 := ‹(!List.isEmpty _) = true›; rw [h9] at h6; cases h6); (simp only [List.mem_map, List.mem_filter] at hpm; obtain ⟨q, ⟨⟨r, hr, rfl⟩, hq⟩, rfl⟩ := hpm; exact of_decide_eq_true hq)) | (have h9 := lp_need_len (rows := p_rows) (budgets := p_budgets) (place := p_place) (rec := m__law_need k9) hp.2.2.2.2.1 hp.2.2.2.2.2.1; rw [‹List.foldl _ _ _ = _›] at h9; have h8 := of_decide_eq_false ‹decide (_ = (1 : Int)) = false›; omega) | walk_at "ob1" | walk_at "ob2") (by first | walk_at "ob" | (have h9 := List.length_pos_iff.mpr hp.2.2.2.1; omega) | (have h9 := hp.1 _ ‹_ ∈ p_living›; omega) | (exact fun h9 => hp.2.2.2.2.1 (List.map_eq_nil_iff.mp h9)) | (have h9 := hp.1 _ ‹_ ∈ p_living›; have h8 := hp.2.2.1 _ (getD_mem (d := []) h9.1 h9.2); have h7 := of_decide_eq_false ‹decide (p_place = _) = false›; omega) | (have h7 := of_decide_eq_false ‹decide (p_place = _) = false›; refine ⟨⟨fun p hpm => ?_, hp.2.1, hp.2.2.1, hp.2.2.2.1, fun h9 => ?_, fun p hpm => ?_, by omega, by omega⟩, by omega⟩; (simp only [List.mem_map, List.mem_filter] at hpm; obtain ⟨q, ⟨⟨r, hr, rfl⟩, hq⟩, rfl⟩ := hpm; exact hp.1 r hr); (have h6 := ‹(!List.isEmpty _) = true›; rw [h9] at h6; cases h6); (simp only [List.mem_map, List.mem_filter] at hpm; obtain ⟨q, ⟨⟨r, hr, rfl⟩, hq⟩, rfl⟩ := hpm; exact of_decide_eq_true hq)) | (have h9 := lp_need_len (rows := p_rows) (budgets := p_budgets) (place := p_place) (rec := m__law_need k9) hp.2.2.2.2.1 hp.2.2.2.2.2.1; rw [‹List.foldl _ _ _ = _›] at h9; have h8 := of_decide_eq_false ‹decide (_ = (1 : Int)) = false›; omega) | walk_at "ob1" | walk_at "ob2"))) (ev_add ev_int (ev_min2 (ev_ixL (ev_var (i := 4) rfl r_needs) ev_int (at_get (d0 := 0) (by first | walk_at "ob" | (have h9 := List.length_pos_iff.mpr hp.2.2.2.1; omega) | (have h9 := hp.1 _ ‹_ ∈ p_living›; omega) | (exact fun h9 => hp.2.2.2.2.1 (List.map_eq_nil_iff.mp h9)) | (have h9 := hp.1 _ ‹_ ∈ p_living›; have h8 := hp.2.2.1 _ (getD_mem (d := []) h9.1 h9.2); have h7 := of_decide_eq_false ‹decide (p_place = _) = false›; omega) | (have h7 := of_decide_eq_false ‹decide (p_place = _) = false›; refine ⟨⟨fun p hpm => ?_, hp.2.1, hp.2.2.1, hp.2.2.2.1, fun h9 => ?_, fun p hpm => ?_, by omega, by omega⟩, by omega⟩; (simp only [List.mem_map, List.mem_filter] at hpm; obtain ⟨q, ⟨⟨r, hr, rfl⟩, hq⟩, rfl⟩ := hpm; exact hp.1 r hr); (have h6 := ‹(!List.isEmpty _) = true›; rw [h9] at h6; cases h6); (simp only [List.mem_map, List.mem_filter] at hpm; obtain ⟨q, ⟨⟨r, hr, rfl⟩, hq⟩, rfl⟩ := hpm; exact of_decide_eq_true hq)) | (have h9 := lp_need_len (rows := p_rows) (budgets := p_budgets) (place := p_place) (rec := m__law_need k9) hp.2.2.2.2.1 hp.2.2.2.2.2.1; rw [‹List.foldl _ _ _ = _›] at h9; have h8 := of_decide_eq_false ‹decide (_ = (1 : Int)) = false›; omega) | walk_at "ob1" | walk_at "ob2") (by first | walk_at "ob" | (have h9 := List.length_pos_iff.mpr hp.2.2.2.1; omega) | (have h9 := hp.1 _ ‹_ ∈ p_living›; omega) | (exact fun h9 => hp.2.2.2.2.1 (List.map_eq_nil_iff.mp h9)) | (have h9 := hp.1 _ ‹_ ∈ p_living›; have h8 := hp.2.2.1 _ (getD_mem (d := []) h9.1 h9.2); have h7 := of_decide_eq_false ‹decide (p_place = _) = false›; omega) | (have h7 := of_decide_eq_false ‹decide (p_place = _) = false›; refine ⟨⟨fun p hpm => ?_, hp.2.1, hp.2.2.1, hp.2.2.2.1, fun h9 => ?_, fun p hpm => ?_, by omega, by omega⟩, by omega⟩; (simp only [List.mem_map, List.mem_filter] at hpm; obtain ⟨q, ⟨⟨r, hr, rfl⟩, hq⟩, rfl⟩ := hpm; exact hp.1 r hr); (have h6 := ‹(!List.isEmpty _) = true›; rw [h9] at h6; cases h6); (simp only [List.mem_map, List.mem_filter] at hpm; obtain ⟨q, ⟨⟨r, hr, rfl⟩, hq⟩, rfl⟩ := hpm; exact of_decide_eq_true hq)) | (have h9 := lp_need_len (rows := p_rows) (budgets := p_budgets) (place := p_place) (rec := m__law_need k9) hp.2.2.2.2.1 hp.2.2.2.2.2.1; rw [‹List.foldl _ _ _ = _›] at h9; have h8 := of_decide_eq_false ‹decide (_ = (1 : Int)) = false›; omega) | walk_at "ob1" | walk_at "ob2"))) (ev_ixL (ev_var (i := 4) rfl r_needs) ev_int (at_get (d0 := 0) (by first | walk_at "ob" | (have h9 := List.length_pos_iff.mpr hp.2.2.2.1; omega) | (have h9 := hp.1 _ ‹_ ∈ p_living›; omega) | (exact fun h9 => hp.2.2.2.2.1 (List.map_eq_nil_iff.mp h9)) | (have h9 := hp.1 _ ‹_ ∈ p_living›; have h8 := hp.2.2.1 _ (getD_mem (d := []) h9.1 h9.2); have h7 := of_decide_eq_false ‹decide (p_place = _) = false›; omega) | (have h7 := of_decide_eq_false ‹decide (p_place = _) = false›; refine ⟨⟨fun p hpm => ?_, hp.2.1, hp.2.2.1, hp.2.2.2.1, fun h9 => ?_, fun p hpm => ?_, by omega, by omega⟩, by omega⟩; (simp only [List.mem_map, List.mem_filter] at hpm; obtain ⟨q, ⟨⟨r, hr, rfl⟩, hq⟩, rfl⟩ := hpm; exact hp.1 r hr); (have h6 := ‹(!List.isEmpty _) = true›; rw [h9] at h6; cases h6); (simp only [List.mem_map, List.mem_filter] at hpm; obtain ⟨q, ⟨⟨r, hr, rfl⟩, hq⟩, rfl⟩ := hpm; exact of_decide_eq_true hq)) | (have h9 := lp_need_len (rows := p_rows) (budgets := p_budgets) (place := p_place) (rec := m__law_need k9) hp.2.2.2.2.1 hp.2.2.2.2.2.1; rw [‹List.foldl _ _ _ = _›] at h9; have h8 := of_decide_eq_false ‹decide (_ = (1 : Int)) = false›; omega) | walk_at "ob1" | walk_at "ob2") (by first | walk_at "ob" | (have h9 := List.length_pos_iff.mpr hp.2.2.2.1; omega) | (have h9 := hp.1 _ ‹_ ∈ p_living›; omega) | (exact fun h9 => hp.2.2.2.2.1 (List.map_eq_nil_iff.mp h9)) | (have h9 := hp.1 _ ‹_ ∈ p_living›; have h8 := hp.2.2.1 _ (getD_mem (d := []) h9.1 h9.2); have h7 := of_decide_eq_false ‹decide (p_place = _) = false›; omega) | (have h7 := of_decide_eq_false ‹decide (p_place = _) = false›; refine ⟨⟨fun p hpm => ?_, hp.2.1, hp.2.2.1, hp.2.2.2.1, fun h9 => ?_, fun p hpm => ?_, by omega, by omega⟩, by omega⟩; (simp only [List.mem_map, List.mem_filter] at hpm; obtain ⟨q, ⟨⟨r, hr, rfl⟩, hq⟩, rfl⟩ := hpm; exact hp.1 r hr); (have h6 := ‹(!List.isEmpty _) = true›; rw [h9] at h6; cases h6); (simp only [List.mem_map, List.mem_filter] at hpm; obtain ⟨q, ⟨⟨r, hr, rfl⟩, hq⟩, rfl⟩ := hpm; exact of_decide_eq_true hq)) | (have h9 := lp_need_len (rows := p_rows) (budgets := p_budgets) (place := p_place) (rec := m__law_need k9) hp.2.2.2.2.1 hp.2.2.2.2.2.1; rw [‹List.foldl _ _ _ = _›] at h9; have h8 := of_decide_eq_false ‹decide (_ = (1 : Int)) = false›; omega) | walk_at "ob1" | walk_at "ob2")))))) fun v H9 e r => hQ v H9 (ea.trans e) (by
        have e9 : (m__law_need (k9 + 1) p_rows p_budgets p_living p_place) = (mx2 (mx2 ((si237).getD 0 0) ((si237).getD 1 0)) ((1 : Int) + (mn2 ((si237).getD 0 0) ((si237).getD 1 0)))) := by simp only [m__law_need, h233, hrun237, h244, if_true, if_false, Bool.false_eq_true, reduceIte]
        rw [e9]; exact r)

def m__law_due (p_rows : (List (List Bool))) (p_budgets : (List Int)) (p_flips : (List Int)) : Int := (m__law_need ((p_rows.getD 0 []).length + 1 - (0 : Int).toNat) p_rows p_budgets (((rng 0 (((p_rows).length : Int)).toNat)).map fun (x247 : Int) => (x247, ((p_flips).getD (x247).toNat 0))) (0 : Int))
abbrev sp__law_due (K : PySem.W.Frag) : Sp := PSp K (aC (zL zW) (aC (zL zI) (aC (zL zI) aN))) (fun (a : (List (List Bool)) × (List Int) × (List Int) × Unit) => a.2.1.length = a.1.length ∧ a.2.2.1.length = a.1.length ∧ (∀ w ∈ a.1, w.length = (a.1.getD 0 []).length) ∧ a.1 ≠ [] ∧ (∀ x ∈ a.2.2.1, 0 ≤ x) ∧ a.1.length ≤ 1000 ∧ (a.1.getD 0 []).length ≤ 10) zI (fun (a : (List (List Bool)) × (List Int) × (List Int) × Unit) => (m__law_due a.1 a.2.1 a.2.2.1))
theorem ok__law_due (S : Tx K mg) (G__law_need : Ok P w K mg base 13 ("_law_need", none) ["rows", "budgets", "living", "place"] ((sp__law_need 12) K)) : Ok P w K mg base 14 ("_law_due", none) ["rows", "budgets", "flips"] (sp__law_due K) := by
  obtain ⟨fd, D⟩ := d__law_due S
  refine mk_ok D sc__law_due (D.bindsN fun _ _ _ _ _ _ us hl => match us, hl with | [_, _, _], _ => rfl) (PSp_len len3) (fun cdv A outer s H vs Q E hr h => ?_)
  obtain ⟨T, ⟨p_rows, p_budgets, p_flips, _⟩, hT, ⟨v_rows, _, rfl, r_rows, v_budgets, _, rfl, r_budgets, v_flips, _, rfl, r_flips, rfl⟩, hp, hQ⟩ := h
  replace r_rows : (zL zW) K T H v_rows p_rows := r_rows
  replace r_budgets : (zL zI) K T H v_budgets p_budgets := r_budgets
  replace r_flips : (zL zI) K T H v_flips p_flips := r_flips
  have hp : p_budgets.length = p_rows.length ∧ p_flips.length = p_rows.length ∧ (∀ w ∈ p_rows, w.length = (p_rows.getD 0 []).length) ∧ p_rows ≠ [] ∧ (∀ x ∈ p_flips, 0 ≤ x) ∧ p_rows.length ≤ 1000 ∧ (p_rows.getD 0 []).length ≤ 10 := hp
  have hQ : ∀ v H', Ex H H' → zI K T H' v (m__law_due p_rows p_budgets p_flips) → Q v H' := hQ
  refine ⟨_, (pss_one (ps_ret (pe_callG G__law_need hr (by omega) (by rfl) (g__law_need S) (pa_cons (pv 0) (pa_cons (pv 1) (pa_cons (pe_lc (own := [("q", 3)]) (by rfl) sc__law_due.nd (pi_range1 (by rfl) (m_range S) (pa_cons (pe_callB (kc_len (K := K)) (by rfl) (m_len S) bt_len (pa_cons (pv 0) pa_nil)) pa_nil)) (blkOk_by (N := ["rows", "budgets", "flips", "q"]) (sc := defScope s__law_due) (by decide +kernel)) (fun _ _ _ _ _ => pg_name (i := 3) sc__law_due.nd rfl (.inl rfl)) (fun _ _ _ _ _ => pts_nil) (fun _ _ _ _ _ => (pe_tup (pa_cons (pv 3) (pa_cons (pe_ix (kx_list (K := K)) (pv 2) (pv 3) (fun _ _ => rfl)) pa_nil))))) (pa_cons pe_int pa_nil))))))), ?_⟩
  · have ea := Ex.refl H
    first | refine nx_ ?_ | skip
    exact st_ret (K := K) (T := T) (ev_call hT (ea_cons (ev_var (i := 0) rfl r_rows) (ea_cons (ev_var (i := 1) rfl r_budgets) (ea_cons (ev_lc1 (f := fun (x250 : Int) => (x250, ((p_flips).getD (x250).toNat 0))) hT (ei_range (ea_cons (ev_lenL (ev_var (i := 0) rfl r_rows)) ea_nil) (by first | walk_at "ob" | (have h9 := mem_rng ‹_ ∈ rng _ _›; omega) | (refine ⟨⟨fun p h => ?_, hp.1, hp.2.2.1, hp.2.2.2.1, fun h9 => ?_, fun p h => ?_, by omega, by omega⟩, by omega⟩; (simp only [List.mem_map] at h; obtain ⟨q, hq, rfl⟩ := h; have h9 := mem_rng hq; dsimp only; omega); (rw [List.map_eq_nil_iff] at h9; have h8 := List.length_pos_iff.mpr hp.2.2.2.1; have h7 := congrArg List.length h9; simp only [rng_len, List.length_nil] at h7; omega); (simp only [List.mem_map] at h; obtain ⟨q, hq, rfl⟩ := h; have h9 := mem_rng hq; exact hp.2.2.2.2.1 _ (getD_mem (d := 0) (by omega) (by omega)))) | walk_at "ob1" | walk_at "ob2") (by first | walk_at "ob" | (have h9 := mem_rng ‹_ ∈ rng _ _›; omega) | (refine ⟨⟨fun p h => ?_, hp.1, hp.2.2.1, hp.2.2.2.1, fun h9 => ?_, fun p h => ?_, by omega, by omega⟩, by omega⟩; (simp only [List.mem_map] at h; obtain ⟨q, hq, rfl⟩ := h; have h9 := mem_rng hq; dsimp only; omega); (rw [List.map_eq_nil_iff] at h9; have h8 := List.length_pos_iff.mpr hp.2.2.2.1; have h7 := congrArg List.length h9; simp only [rng_len, List.length_nil] at h7; omega); (simp only [List.mem_map] at h; obtain ⟨q, hq, rfl⟩ := h; have h9 := mem_rng hq; exact hp.2.2.2.2.1 _ (getD_mem (d := 0) (by omega) (by omega)))) | walk_at "ob1" | walk_at "ob2")) (fun T250 H250 v250 x250 L250 hT250 hx250 r250 Q250 q250 => q250 _ wipe1 (ev_tup2 hT250 (ea_cons (ev_var (i := 3) rfl r250) (ea_cons (ev_ixL (ev_var (i := 2) rfl (L250.ap r_flips)) (ev_var (i := 3) rfl r250) (at_get (d0 := 0) (by first | walk_at "ob" | (have h9 := mem_rng ‹_ ∈ rng _ _›; omega) | (refine ⟨⟨fun p h => ?_, hp.1, hp.2.2.1, hp.2.2.2.1, fun h9 => ?_, fun p h => ?_, by omega, by omega⟩, by omega⟩; (simp only [List.mem_map] at h; obtain ⟨q, hq, rfl⟩ := h; have h9 := mem_rng hq; dsimp only; omega); (rw [List.map_eq_nil_iff] at h9; have h8 := List.length_pos_iff.mpr hp.2.2.2.1; have h7 := congrArg List.length h9; simp only [rng_len, List.length_nil] at h7; omega); (simp only [List.mem_map] at h; obtain ⟨q, hq, rfl⟩ := h; have h9 := mem_rng hq; exact hp.2.2.2.2.1 _ (getD_mem (d := 0) (by omega) (by omega)))) | walk_at "ob1" | walk_at "ob2") (by first | walk_at "ob" | (have h9 := mem_rng ‹_ ∈ rng _ _›; omega) | (refine ⟨⟨fun p h => ?_, hp.1, hp.2.2.1, hp.2.2.2.1, fun h9 => ?_, fun p h => ?_, by omega, by omega⟩, by omega⟩; (simp only [List.mem_map] at h; obtain ⟨q, hq, rfl⟩ := h; have h9 := mem_rng hq; dsimp only; omega); (rw [List.map_eq_nil_iff] at h9; have h8 := List.length_pos_iff.mpr hp.2.2.2.1; have h7 := congrArg List.length h9; simp only [rng_len, List.length_nil] at h7; omega); (simp only [List.mem_map] at h; obtain ⟨q, hq, rfl⟩ := h; have h9 := mem_rng hq; exact hp.2.2.2.2.1 _ (getD_mem (d := 0) (by omega) (by omega)))) | walk_at "ob1" | walk_at "ob2"))) ea_nil))))) (ea_cons ev_int ea_nil)))) (show ((∀ p ∈ (((rng 0 (((p_rows).length : Int)).toNat)).map fun (x250 : Int) => (x250, ((p_flips).getD (x250).toNat 0))), 0 ≤ p.1 ∧ p.1 < (p_rows.length : Int)) ∧ p_budgets.length = p_rows.length ∧ (∀ w ∈ p_rows, w.length = (p_rows.getD 0 []).length) ∧ p_rows ≠ [] ∧ (((rng 0 (((p_rows).length : Int)).toNat)).map fun (x250 : Int) => (x250, ((p_flips).getD (x250).toNat 0))) ≠ [] ∧ (∀ p ∈ (((rng 0 (((p_rows).length : Int)).toNat)).map fun (x250 : Int) => (x250, ((p_flips).getD (x250).toNat 0))), 0 ≤ p.2) ∧ 0 ≤ (0 : Int) ∧ (0 : Int) ≤ ((p_rows.getD 0 []).length : Int)) ∧ ((p_rows.getD 0 []).length + 1 - (0 : Int).toNat) < 12 from (by first | walk_at "ob" | (have h9 := mem_rng ‹_ ∈ rng _ _›; omega) | (refine ⟨⟨fun p h => ?_, hp.1, hp.2.2.1, hp.2.2.2.1, fun h9 => ?_, fun p h => ?_, by omega, by omega⟩, by omega⟩; (simp only [List.mem_map] at h; obtain ⟨q, hq, rfl⟩ := h; have h9 := mem_rng hq; dsimp only; omega); (rw [List.map_eq_nil_iff] at h9; have h8 := List.length_pos_iff.mpr hp.2.2.2.1; have h7 := congrArg List.length h9; simp only [rng_len, List.length_nil] at h7; omega); (simp only [List.mem_map] at h; obtain ⟨q, hq, rfl⟩ := h; have h9 := mem_rng hq; exact hp.2.2.2.2.1 _ (getD_mem (d := 0) (by omega) (by omega)))) | walk_at "ob1" | walk_at "ob2"))) fun v H9 e r => hQ v H9 (ea.trans e) (by
      have e9 : (m__law_due p_rows p_budgets p_flips) = (m__law_need ((p_rows.getD 0 []).length + 1 - (0 : Int).toNat) p_rows p_budgets (((rng 0 (((p_rows).length : Int)).toNat)).map fun (x250 : Int) => (x250, ((p_flips).getD (x250).toNat 0))) (0 : Int)) := by simp only [m__law_due, if_true, if_false, Bool.false_eq_true, reduceIte]
      rw [e9]; exact r)

end
end EB

set_option Elab.async false
set_option linter.all false
set_option maxRecDepth 100000
set_option maxHeartbeats 4000000

namespace EB
open PySem PySem.Spec PyProof.Rows L2
local macro_rules | `(tactic| walk_at "ob") => `(tactic| first | exact trivial | omega | assumption | exact len_sign ‹_›)
local macro_rules | `(tactic| walk_at "ob1") => `(tactic| first | (have := mem_enL ‹_ ∈ enL _›; omega) | (simp only [List.length_append, List.length_cons, List.length_nil, enL_len, rng_len] at *; omega))
local macro_rules | `(tactic| walk_at "ob2") => `(tactic| (simp_all; done))
local macro_rules | `(tactic| walk_at "inv") => `(tactic| first | exact trivial | (simp only [List.length_append, List.length_cons, List.length_nil, Nat.mul_zero, Nat.add_zero]; omega) | omega | (simp only [List.length_append, List.length_cons, List.length_nil] at *; omega))
local macro_rules | `(tactic| walk_at "fin") => `(tactic| first | (simp; done) | (simp_all [List.all_eq_true]; done))

section
variable {P : Program} {w : World} {K : PySem.W.Frag} {mg : Str → Option Value} {base : Heap}

def m_Game_open_bits (p_self : DGame) (p_word : (List Bool)) : (List (List Bool)) := (if (decide (((p_word).length : Int) = (((((p_self).1).getD 0 [])).length : Int))) = true then ([] : (List (List Bool))) else (((([[false], [true]] : (List (List Bool)))).filter fun (x251 : (List Bool)) => (decide ((0 : Int) < (((m_Game_living_at p_self (p_word ++ x251))).length : Int)))).map fun (x251 : (List Bool)) => x251))
abbrev sp_Game_open_bits (K : PySem.W.Frag) : Sp := PSp K (aC zGame (aC zW aN)) (fun (a : DGame × (List Bool) × Unit) => (a.1.1 ≠ [] ∧ a.1.1.length ≤ 1000 ∧ a.1.2.1.length = a.1.1.length ∧ a.1.2.2.1.length = a.1.1.length ∧ (a.1.1.getD 0 []).length ≤ 10) ∧ a.2.1.length ≤ 1000) (zL zW) (fun (a : DGame × (List Bool) × Unit) => (m_Game_open_bits a.1 a.2.1))
theorem ok_Game_open_bits (S : Tx K mg) (G_Game_living_at : Ok P w K mg base 2 ("Game", some "living_at") ["self", "word"] (sp_Game_living_at K)) : Ok P w K mg base 3 ("Game", some "open_bits") ["self", "word"] (sp_Game_open_bits K) := by
  obtain ⟨fd, D⟩ := d_Game_open_bits S
  refine mk_ok D sc_Game_open_bits (D.bindsN fun _ _ _ _ _ _ us hl => match us, hl with | [_, _], _ => rfl) (PSp_len len2) (fun cdv A outer s H vs Q E hr h => ?_)
  obtain ⟨T, ⟨p_self, p_word, _⟩, hT, ⟨v_self, _, rfl, r_self, v_word, _, rfl, r_word, rfl⟩, hp, hQ⟩ := h
  replace r_self : zGame K T H v_self p_self := r_self
  replace r_word : zW K T H v_word p_word := r_word
  have hp : (p_self.1 ≠ [] ∧ p_self.1.length ≤ 1000 ∧ p_self.2.1.length = p_self.1.length ∧ p_self.2.2.1.length = p_self.1.length ∧ (p_self.1.getD 0 []).length ≤ 10) ∧ p_word.length ≤ 1000 := hp
  have hQ : ∀ v H', Ex H H' → (zL zW) K T H' v (m_Game_open_bits p_self p_word) → Q v H' := hQ
  refine ⟨_, (pss_cons (ps_if (pt_cmpR op_eq (pe_callB call_lenS (by rfl) (m_len S) bt_len (pa_cons (pv 1) pa_nil)) (pe_callB call_lenS (by rfl) (m_len S) bt_len (pa_cons (pe_ix (kx_tup (K := K)) (ke_fld (K := K) (pv 0)) pe_int (fun _ _ => rfl)) pa_nil)) (nomark _)) (pss_one (ps_ret (pe_lst pa_nil))) pss_nil) (pss_one (ps_ret (pe_lc (own := [("bit", 2)]) (by rfl) sc_Game_open_bits.nd (kp_tup (K := K) (pe_glob (v := .ref (He.ga K "BITS")) (by rfl) (g_BITS S) rfl)) (blkOk_by (N := ["self", "word", "bit"]) (sc := defScope s_Game_open_bits) (by decide +kernel)) (fun _ _ _ _ _ => pg_name (i := 2) sc_Game_open_bits.nd rfl (.inl rfl)) (fun _ _ _ _ _ => pts_one (pt_cmpR op_gt (pe_callB (kc_len (K := K)) (by rfl) (m_len S) bt_len (pa_cons (ke_meth (K := K) (pv 0) (c_Game S) (mm_Game_living_at S) G_Game_living_at hr (by omega) (pa_cons (pe_op op_addS (pv 1) (pv 2)) pa_nil)) pa_nil)) pe_int (nomark _))) (fun _ _ _ _ _ => (pv 2)))))), ?_⟩
  · have ea := Ex.refl H
    first | refine nx_ ?_ | skip
    refine st_if (T := T) (et_test (ev_eqI (ev_lenW (ev_var (i := 1) rfl r_word)) (ev_lenW (ev_ixU (fd_Game_rows S (ev_var (i := 0) rfl r_self)) ev_int (at_get (d0 := []) (by first | walk_at "ob" | (have h9 := List.length_pos_iff.mpr hp.1.1; omega) | (exact ⟨hp.1.2.2.2.1, hp.1.2.1⟩) | (have h9 := mem_bits ‹_ ∈ ([[false], [true]] : List (List Bool))›; omega) | walk_at "ob1" | walk_at "ob2") (by first | walk_at "ob" | (have h9 := List.length_pos_iff.mpr hp.1.1; omega) | (exact ⟨hp.1.2.2.2.1, hp.1.2.1⟩) | (have h9 := mem_bits ‹_ ∈ ([[false], [true]] : List (List Bool))›; omega) | walk_at "ob1" | walk_at "ob2")))))) (fun h253 H253 e253 => ?_) (fun h253 H253 e253 => ?_)
    · have h253 : (decide (((p_word).length : Int) = (((((p_self).1).getD 0 [])).length : Int))) = true := h253
      replace r_self := Mo.fr e253.fr r_self
      replace r_word := Mo.fr e253.fr r_word
      replace hT := hT.ex e253
      replace ea := ea.trans e253
      first | refine nx_ ?_ | skip
      exact st_ret (K := K) (T := T) (ev_lst (r := zW) (xs := []) hT eh_nil (by decide)) fun v H9 e r => hQ v H9 (ea.trans e) (by
      have e9 : (m_Game_open_bits p_self p_word) = ([] : (List (List Bool))) := by simp only [m_Game_open_bits, h253, if_true, if_false, Bool.false_eq_true, reduceIte]
      rw [e9]; exact r)
    · have h253 : (decide (((p_word).length : Int) = (((((p_self).1).getD 0 [])).length : Int))) = false := h253
      replace r_self := Mo.fr e253.fr r_self
      replace r_word := Mo.fr e253.fr r_word
      replace hT := hT.ex e253
      replace ea := ea.trans e253
      first | refine nx_ ?_ | skip
      exact st_ret (K := K) (T := T) (ev_lc (p := fun (x256 : (List Bool)) => (decide ((0 : Int) < (((m_Game_living_at p_self (p_word ++ x256))).length : Int)))) (f := fun (x256 : (List Bool)) => x256) hT (ei_tup (ev_BITS S)) (fun T256 H256 v256 x256 L256 hT256 hx256 r256 Q256 q256 => q256 _ wipe1 (et_test (ev_gt (ev_lenL (ev_meth hT256 (by decide) (ev_var (i := 0) rfl (L256.ap r_self)) (ea_cons (ev_catW (ev_var (i := 1) rfl (L256.ap r_word)) (ev_var (i := 2) rfl r256) (by first | walk_at "ob" | (have h9 := List.length_pos_iff.mpr hp.1.1; omega) | (exact ⟨hp.1.2.2.2.1, hp.1.2.1⟩) | (have h9 := mem_bits ‹_ ∈ ([[false], [true]] : List (List Bool))›; omega) | walk_at "ob1" | walk_at "ob2")) ea_nil) (show p_self.2.2.1.length = p_self.1.length ∧ p_self.1.length ≤ 1000 from (by first | walk_at "ob" | (have h9 := List.length_pos_iff.mpr hp.1.1; omega) | (exact ⟨hp.1.2.2.2.1, hp.1.2.1⟩) | (have h9 := mem_bits ‹_ ∈ ([[false], [true]] : List (List Bool))›; omega) | walk_at "ob1" | walk_at "ob2")))) ev_int)) fun hp256 => (ev_var (i := 2) rfl r256))) fun v H9 e r => hQ v H9 (ea.trans e) (by
      have e9 : (m_Game_open_bits p_self p_word) = (((([[false], [true]] : (List (List Bool)))).filter fun (x256 : (List Bool)) => (decide ((0 : Int) < (((m_Game_living_at p_self (p_word ++ x256))).length : Int)))).map fun (x256 : (List Bool)) => x256) := by simp only [m_Game_open_bits, h253, if_true, if_false, Bool.false_eq_true, reduceIte]
      rw [e9]; exact r)


theorem living_eq (g : DGame) (w : List Bool) : m_Game_living_at g w = ((enL g.1).filter fun x => decide (m_differences x.2 w ≤ g.2.2.1.getD x.1.toNat 0)).map (·.1) := by
  unfold m_Game_living_at
  exact foldl_filter (fun x : Int × List Bool => decide (m_differences x.2 w ≤ g.2.2.1.getD x.1.toNat 0)) (fun x => x.1) _ []
theorem living_mem {g : DGame} {w : List Bool} {p : Int} (h : p ∈ m_Game_living_at g w) : 0 ≤ p ∧ p < (g.1.length : Int) := by
  rw [living_eq, List.mem_map] at h
  obtain ⟨x, hx, rfl⟩ := h
  have := mem_enL (List.mem_filter.mp hx).1
  exact ⟨this.1, this.2.1⟩
theorem open_mem {g : DGame} {w b : List Bool} (h : b ∈ m_Game_open_bits g w) : b.length = 1 ∧ w.length ≠ (g.1.getD 0 []).length ∧ m_Game_living_at g (w ++ b) ≠ [] := by
  unfold m_Game_open_bits at h
  by_cases e : w.length = (g.1.getD 0 []).length
  · rw [if_pos (decide_eq_true (by rw [e]))] at h; cases h
  · rw [if_neg (by rw [decide_eq_false (by omega)]; decide)] at h
    rw [List.map_id'', List.mem_filter] at h
    · refine ⟨mem_bits h.1, e, fun z => ?_⟩
      have h2 := of_decide_eq_true h.2
      rw [z] at h2
      exact absurd h2 (by decide)
    · intro x; rfl
theorem open_len (g : DGame) (w : List Bool) : (m_Game_open_bits g w).length ≤ 2 := by
  unfold m_Game_open_bits
  split
  · simp
  · rw [List.length_map]
    exact List.length_filter_le _ _

def m_Game_need_at : Nat → DGame → (List Bool) → Int
  | 0, _, _ => 0
  | k9 + 1, p_self, p_word => (if (decide ((((((m_Game_open_bits p_self p_word)).map fun (x257 : (List Bool)) => (m_Game_need_at k9 p_self (p_word ++ x257)))).length : Int) = (0 : Int))) = true then (if (decide (((([(mxL (((m_Game_living_at p_self p_word)).map fun (x258 : Int) => (-(((p_self).2.1).getD (x258).toNat 0))))] : (List Int))).length : Int) = (2 : Int))) = true then (mxL (([(mxL (((m_Game_living_at p_self p_word)).map fun (x258 : Int) => (-(((p_self).2.1).getD (x258).toNat 0))))] : (List Int)) ++ [((1 : Int) + (mnL ([(mxL (((m_Game_living_at p_self p_word)).map fun (x258 : Int) => (-(((p_self).2.1).getD (x258).toNat 0))))] : (List Int))))])) else (mxL ([(mxL (((m_Game_living_at p_self p_word)).map fun (x258 : Int) => (-(((p_self).2.1).getD (x258).toNat 0))))] : (List Int)))) else (if (decide ((((((m_Game_open_bits p_self p_word)).map fun (x257 : (List Bool)) => (m_Game_need_at k9 p_self (p_word ++ x257)))).length : Int) = (2 : Int))) = true then (mxL ((((m_Game_open_bits p_self p_word)).map fun (x257 : (List Bool)) => (m_Game_need_at k9 p_self (p_word ++ x257))) ++ [((1 : Int) + (mnL (((m_Game_open_bits p_self p_word)).map fun (x257 : (List Bool)) => (m_Game_need_at k9 p_self (p_word ++ x257)))))])) else (mxL (((m_Game_open_bits p_self p_word)).map fun (x257 : (List Bool)) => (m_Game_need_at k9 p_self (p_word ++ x257))))))
abbrev IGame (g : DGame) : Nat → Hp → Prop := MmI g.2.2.2.1 kW (wordsTo (g.1.getD 0 []).length) (fun (w : (List Bool)) i => i = m_Game_need_at ((g.1.getD 0 []).length + 1 - w.length) g w)
abbrev sp_Game_need_at (j : Nat) (K : PySem.W.Frag) : Sp := NSp K (aC zGame (aC zW aN)) (fun (a : DGame × (List Bool) × Unit) => W1 (a.1).2.2.2.1) (fun (a : DGame × (List Bool) × Unit) => IGame a.1) (fun _ => 0) (fun (a : DGame × (List Bool) × Unit) => ((a.1.1 ≠ [] ∧ a.1.1.length ≤ 1000 ∧ a.1.2.1.length = a.1.1.length ∧ a.1.2.2.1.length = a.1.1.length ∧ (a.1.1.getD 0 []).length ≤ 10) ∧ a.2.1.length ≤ (a.1.1.getD 0 []).length ∧ m_Game_living_at a.1 a.2.1 ≠ []) ∧ ((a.1.1.getD 0 []).length + 1 - a.2.1.length) < j) zI (fun (a : DGame × (List Bool) × Unit) (d : Int) => d = m_Game_need_at ((a.1.1.getD 0 []).length + 1 - a.2.1.length) a.1 a.2.1)
theorem ok_Game_need_at (S : Tx K mg) (G_Game_living_at : Ok P w K mg base 2 ("Game", some "living_at") ["self", "word"] (sp_Game_living_at K)) (G_Game_open_bits : Ok P w K mg base 3 ("Game", some "open_bits") ["self", "word"] (sp_Game_open_bits K)) : ∀ j, Ok P w K mg base (3 + j + 1) ("Game", some "need_at") ["self", "word"] (sp_Game_need_at j K)
  | 0 => by
    obtain ⟨fd, D⟩ := d_Game_need_at S
    refine mk_ok (k := 3 + 0) D sc_Game_need_at (D.bindsN fun _ _ _ _ _ _ us hl => match us, hl with | [_, _], _ => rfl) (NSp_len len2) (fun cdv A outer s H vs Q E hr h => ?_)
    obtain ⟨T, a, n, _, _, _, hp, _⟩ := h
    exact absurd hp.2 (Nat.not_lt_zero _)
  | j + 1 => by
    have IH := ok_Game_need_at S G_Game_living_at G_Game_open_bits j
    obtain ⟨fd, D⟩ := d_Game_need_at S
    refine mk_ok (k := 3 + (j + 1)) D sc_Game_need_at (D.bindsN fun _ _ _ _ _ _ us hl => match us, hl with | [_, _], _ => rfl) (NSp_len len2) (fun cdv A outer s H vs Q E hr h => ?_)
    obtain ⟨T, ⟨p_self, p_word, _⟩, n, hT, hW, ⟨v_self, _, rfl, r_self, v_word, _, rfl, r_word, rfl⟩, ⟨hp, hj⟩, hI, hQ⟩ := h
    replace r_self : zGame K T H v_self p_self := r_self
    replace r_word : zW K T H v_word p_word := r_word
    have hp : (p_self.1 ≠ [] ∧ p_self.1.length ≤ 1000 ∧ p_self.2.1.length = p_self.1.length ∧ p_self.2.2.1.length = p_self.1.length ∧ (p_self.1.getD 0 []).length ≤ 10) ∧ p_word.length ≤ (p_self.1.getD 0 []).length ∧ m_Game_living_at p_self p_word ≠ [] := hp
    have hj : ((p_self.1.getD 0 []).length + 1 - p_word.length) < j + 1 := hj
    replace hI : IGame p_self (n + 0) H := hI
    have hW : ∀ b, W1 (p_self).2.2.2.1 b → T b := hW
    have hQ : ∀ v H' d, Fr (W1 (p_self).2.2.2.1) H H' → IGame p_self n H' → zI K T H' v d → d = m_Game_need_at ((p_self.1.getD 0 []).length + 1 - p_word.length) p_self p_word → Q v H' := hQ
    obtain ⟨k9, hk9⟩ : ∃ k, ((p_self.1.getD 0 []).length + 1 - p_word.length) = k + 1 := ⟨((p_self.1.getD 0 []).length + 1 - p_word.length) - 1, (by first | walk_at "ob" | (exact ⟨hp.1, by omega⟩) | (have h9 := open_mem (g := p_self) (w := p_word) ‹_ ∈ m_Game_open_bits _ _›; omega) | (have h9 := open_mem (g := p_self) (w := p_word) ‹_ ∈ m_Game_open_bits _ _›; rw [List.length_append]; omega) | (have h9 := open_mem (g := p_self) (w := p_word) ‹_ ∈ m_Game_open_bits _ _›; refine ⟨⟨hp.1, ?_, h9.2.2⟩, ?_⟩ <;> (rw [List.length_append]; omega)) | (exact ⟨hp.1.2.2.2.1, hp.1.2.1⟩) | (have h9 := living_mem (g := p_self) (w := p_word) ‹_ ∈ m_Game_living_at _ _›; omega) | (exact mem_wordsTo hp.2.1) | (have h9 := open_len p_self p_word; simp only [List.length_map]; omega) | (exact fun h9 => hp.2.2 (List.map_eq_nil_iff.mp h9)) | walk_at "ob1" | walk_at "ob2")⟩
    rw [hk9] at hj
    refine ⟨_, (pss_cons (ps_if (pt_cmp (pc_dnotin (room_1 hr) (pv 1) (ke_fld (K := K) (pv 0)))) (pss_cons (ps_setLc (i := 2) (own := [("bit", 3)]) (by rfl) sc_Game_need_at.nd rfl rfl (sw_true rfl rfl rfl (by decide +kernel)) (kp_list (K := K) (ke_meth (K := K) (pv 0) (c_Game S) (mm_Game_open_bits S) G_Game_open_bits hr (by omega) (pa_cons (pv 1) pa_nil))) (blkOk_by (N := ["self", "word", "needs", "bit", "program"]) (sc := defScope s_Game_need_at) (by decide +kernel)) (fun _ _ _ _ _ => pg_name (i := 3) sc_Game_need_at.nd rfl (.inl rfl)) (fun _ _ _ _ _ => pts_nil) (fun _ _ _ _ _ => (ke_meth (K := K) (pv 0) (c_Game S) (mm_Game_need_at S) IH hr (by omega) (pa_cons (pe_op op_addS (pv 1) (pv 3)) pa_nil)))) (pss_cons (ps_if (pt_cmpR op_eq (pe_callB (kc_len (K := K)) (by rfl) (m_len S) bt_len (pa_cons (pv 2) pa_nil)) pe_int (nomark _)) (pss_one (ps_set (i := 2) sc_Game_need_at.nd rfl (.inl rfl) (pe_lst (pa_cons (pe_callB (kr_max (K := K) rfl) (by rfl) (m_max S) bt_max (pa_cons (pe_lc (own := [("program", 4)]) (by rfl) sc_Game_need_at.nd (kp_list (K := K) (ke_meth (K := K) (pv 0) (c_Game S) (mm_Game_living_at S) G_Game_living_at hr (by omega) (pa_cons (pv 1) pa_nil))) (blkOk_by (N := ["self", "word", "needs", "bit", "program"]) (sc := defScope s_Game_need_at) (by decide +kernel)) (fun _ _ _ _ _ => pg_name (i := 4) sc_Game_need_at.nd rfl (.inl rfl)) (fun _ _ _ _ _ => pts_nil) (fun _ _ _ _ _ => (pe_un un_neg (pe_ix (kx_tup (K := K)) (ke_fld (K := K) (pv 0)) (pv 4) (fun _ _ => rfl))))) pa_nil)) pa_nil)))) pss_nil) (pss_cons (ps_if (pt_cmpR op_eq (pe_callB (kc_len (K := K)) (by rfl) (m_len S) bt_len (pa_cons (pv 2) pa_nil)) pe_int (nomark _)) (pss_one (ps_expr (pe_bm PySem.F.plainAttrs_list PySem.F.slot_list_append PySem.F.type_list_append mt_append (pv 2) (pa_cons (pe_op op_add pe_int (pe_callB (kr_min (K := K) rfl) (by rfl) (m_min S) bt_min (pa_cons (pv 2) pa_nil))) pa_nil)))) pss_nil) (pss_one (ps_dput (room_1 hr) (ke_fld (K := K) (pv 0)) (pv 1) (pe_callB (kr_max (K := K) rfl) (by rfl) (m_max S) bt_max (pa_cons (pv 2) pa_nil)) (by rfl)))))) pss_nil) (pss_one (ps_ret (pe_dget (room_1 hr) (ke_fld (K := K) (pv 0)) (pv 1) (fun _ _ => rfl))))), ?_⟩
    · have ea := Fr.refl (T := W1 (p_self).2.2.2.1) H
      first | refine nx_ ?_ | skip
      refine ifs_open ?_
      refine tB_open ?_
      refine dni_open ?_
      refine x_run (K := K) (T := T) (ev_var (i := 1) rfl r_word) fun v262 H262 e262 r262 => ?_
      replace r_self := Mo.fr e262.fr r_self
      replace r_word := Mo.fr e262.fr r_word
      replace hT := hT.ex e262
      replace ea := ea.trans (Ex.fr e262)
      replace hI := Re.ex (re_memo) hI e262
      refine x_run (K := K) (T := T) (fd_Game_known S (ev_var (i := 0) rfl r_self)) fun v263 H263 e263 r263 => ?_
      replace r_self := Mo.fr e263.fr r_self
      replace r_word := Mo.fr e263.fr r_word
      replace r262 := Mo.fr e263.fr r262
      replace hT := hT.ex e263
      replace ea := ea.trans (Ex.fr e263)
      replace hI := Re.ex (re_memo) hI e263
      cases r263
      refine notin_if (w := p_word) hI ((by have h9 := r262; exact h9.1)) (fun hne261 => ?_) (fun i261 ok261 has261 => ?_)
      · skip
        first | refine nx_ ?_ | skip
        refine asg_open ?_
        refine en_lcF (c := 0) (s := zI) (φ := fun (x265 : (List Bool)) (y : Int) => y = (m_Game_need_at k9 p_self (p_word ++ x265))) (re_memo) hT (fun b hb => (hW b hb)) (ei_list (ev_meth hT (by decide) (ev_var (i := 0) rfl r_self) (ea_cons (ev_var (i := 1) rfl r_word) ea_nil) (show (p_self.1 ≠ [] ∧ p_self.1.length ≤ 1000 ∧ p_self.2.1.length = p_self.1.length ∧ p_self.2.2.1.length = p_self.1.length ∧ (p_self.1.getD 0 []).length ≤ 10) ∧ p_word.length ≤ 1000 from (by first | walk_at "ob" | (exact ⟨hp.1, by omega⟩) | (have h9 := open_mem (g := p_self) (w := p_word) ‹_ ∈ m_Game_open_bits _ _›; omega) | (have h9 := open_mem (g := p_self) (w := p_word) ‹_ ∈ m_Game_open_bits _ _›; rw [List.length_append]; omega) | (have h9 := open_mem (g := p_self) (w := p_word) ‹_ ∈ m_Game_open_bits _ _›; refine ⟨⟨hp.1, ?_, h9.2.2⟩, ?_⟩ <;> (rw [List.length_append]; omega)) | (exact ⟨hp.1.2.2.2.1, hp.1.2.1⟩) | (have h9 := living_mem (g := p_self) (w := p_word) ‹_ ∈ m_Game_living_at _ _›; omega) | (exact mem_wordsTo hp.2.1) | (have h9 := open_len p_self p_word; simp only [List.length_map]; omega) | (exact fun h9 => hp.2.2 (List.map_eq_nil_iff.mp h9)) | walk_at "ob1" | walk_at "ob2")))) (fun T265 Hc265 vc265 x265 L265 hT265 hW265 hx265 rr_bit Qc265 qc265 => qc265 _ wipe1 (fun n265 Hs265 fr265 hIs265 Qv265 Q265 => by
            have hx265 : x265 ∈ (m_Game_open_bits p_self p_word) := hx265
            replace r_self := Mo.fr fr265 (L265.ap r_self)
            replace r_word := Mo.fr fr265 (L265.ap r_word)
            replace rr_bit := Mo.fr fr265 rr_bit
            replace hT := hT265.fr fr265
            replace ea := Fr.refl (T := W1 (p_self).2.2.2.1) Hs265
            replace hI := hIs265
            have hW := hW265
            refine meth_open ?_
            refine x_run (K := K) (T := T265) (ev_var (i := 0) rfl r_self) fun v266 H266 e266 r266 => ?_
            replace r_self := Mo.fr e266.fr r_self
            replace r_word := Mo.fr e266.fr r_word
            replace rr_bit := Mo.fr e266.fr rr_bit
            replace hT := hT.ex e266
            replace ea := ea.trans (Ex.fr e266)
            replace hI := Re.ex (re_memo) hI e266
            refine meth_v r266 (by decide) ?_
            refine cons_open ?_
            refine x_run (K := K) (T := T265) (ev_catW (ev_var (i := 1) rfl r_word) (ev_var (i := 3) rfl rr_bit) (by first | walk_at "ob" | (exact ⟨hp.1, by omega⟩) | (have h9 := open_mem (g := p_self) (w := p_word) ‹_ ∈ m_Game_open_bits _ _›; omega) | (have h9 := open_mem (g := p_self) (w := p_word) ‹_ ∈ m_Game_open_bits _ _›; rw [List.length_append]; omega) | (have h9 := open_mem (g := p_self) (w := p_word) ‹_ ∈ m_Game_open_bits _ _›; refine ⟨⟨hp.1, ?_, h9.2.2⟩, ?_⟩ <;> (rw [List.length_append]; omega)) | (exact ⟨hp.1.2.2.2.1, hp.1.2.1⟩) | (have h9 := living_mem (g := p_self) (w := p_word) ‹_ ∈ m_Game_living_at _ _›; omega) | (exact mem_wordsTo hp.2.1) | (have h9 := open_len p_self p_word; simp only [List.length_map]; omega) | (exact fun h9 => hp.2.2 (List.map_eq_nil_iff.mp h9)) | walk_at "ob1" | walk_at "ob2")) fun v267 H267 e267 r267 => ?_
            replace r_self := Mo.fr e267.fr r_self
            replace r_word := Mo.fr e267.fr r_word
            replace rr_bit := Mo.fr e267.fr rr_bit
            replace r266 := Mo.fr e267.fr r266
            replace hT := hT.ex e267
            replace ea := ea.trans (Ex.fr e267)
            replace hI := Re.ex (re_memo) hI e267
            refine nil_open ?_
            refine ncallm_v (T := T265) (b := (p_self, (p_word ++ x265), ())) (n := n265 + 0) hT (fun b hb => (hW b hb)) ⟨_, _, rfl, r266, ⟨_, _, rfl, r267, rfl⟩⟩ (show ((p_self.1 ≠ [] ∧ p_self.1.length ≤ 1000 ∧ p_self.2.1.length = p_self.1.length ∧ p_self.2.2.1.length = p_self.1.length ∧ (p_self.1.getD 0 []).length ≤ 10) ∧ (p_word ++ x265).length ≤ (p_self.1.getD 0 []).length ∧ m_Game_living_at p_self (p_word ++ x265) ≠ []) ∧ ((p_self.1.getD 0 []).length + 1 - (p_word ++ x265).length) < j from (by first | walk_at "ob" | (exact ⟨hp.1, by omega⟩) | (have h9 := open_mem (g := p_self) (w := p_word) ‹_ ∈ m_Game_open_bits _ _›; omega) | (have h9 := open_mem (g := p_self) (w := p_word) ‹_ ∈ m_Game_open_bits _ _›; rw [List.length_append]; omega) | (have h9 := open_mem (g := p_self) (w := p_word) ‹_ ∈ m_Game_open_bits _ _›; refine ⟨⟨hp.1, ?_, h9.2.2⟩, ?_⟩ <;> (rw [List.length_append]; omega)) | (exact ⟨hp.1.2.2.2.1, hp.1.2.1⟩) | (have h9 := living_mem (g := p_self) (w := p_word) ‹_ ∈ m_Game_living_at _ _›; omega) | (exact mem_wordsTo hp.2.1) | (have h9 := open_len p_self p_word; simp only [List.length_map]; omega) | (exact fun h9 => hp.2.2 (List.map_eq_nil_iff.mp h9)) | walk_at "ob1" | walk_at "ob2")) (Re.cut (re_memo) hI (by omega)) fun v268 H268 d268 f268 hI268 r268 hp268 => ?_
            replace r268 : zI K T265 H268 v268 d268 := r268
            replace r_self := Mo.fr (Fr.mono f268 (fun b hb => (hW b hb))) r_self
            replace r_word := Mo.fr (Fr.mono f268 (fun b hb => (hW b hb))) r_word
            replace rr_bit := Mo.fr (Fr.mono f268 (fun b hb => (hW b hb))) rr_bit
            replace r266 := Mo.fr (Fr.mono f268 (fun b hb => (hW b hb))) r266
            replace r267 := Mo.fr (Fr.mono f268 (fun b hb => (hW b hb))) r267
            replace hT := hT.fr f268
            replace ea := ea.trans f268
            replace hI := hI268
            have hp268 : d268 = (m_Game_need_at k9 p_self (p_word ++ x265)) := hp268.trans (congrArg (fun q => m_Game_need_at q p_self (p_word ++ x265)) (show ((p_self.1.getD 0 []).length + 1 - (p_word ++ x265).length) = k9 from (by first | walk_at "ob" | (exact ⟨hp.1, by omega⟩) | (have h9 := open_mem (g := p_self) (w := p_word) ‹_ ∈ m_Game_open_bits _ _›; omega) | (have h9 := open_mem (g := p_self) (w := p_word) ‹_ ∈ m_Game_open_bits _ _›; rw [List.length_append]; omega) | (have h9 := open_mem (g := p_self) (w := p_word) ‹_ ∈ m_Game_open_bits _ _›; refine ⟨⟨hp.1, ?_, h9.2.2⟩, ?_⟩ <;> (rw [List.length_append]; omega)) | (exact ⟨hp.1.2.2.2.1, hp.1.2.1⟩) | (have h9 := living_mem (g := p_self) (w := p_word) ‹_ ∈ m_Game_living_at _ _›; omega) | (exact mem_wordsTo hp.2.1) | (have h9 := open_len p_self p_word; simp only [List.length_map]; omega) | (exact fun h9 => hp.2.2 (List.map_eq_nil_iff.mp h9)) | walk_at "ob1" | walk_at "ob2")))
            subst hp268
            exact Q265 _ _ _ ea (Re.cut (re_memo) hI (by omega)) r268 rfl
            )) (n + 0) _ (Fr.refl _) (Re.cut (re_memo) hI (by omega)) _ fun p265 H265 d265 f265 n265 hI265 m_needs hp265 => ?_
        have hp265 := all2_eqmap hp265
        subst hp265
        have hn_p265 : ¬ T p265 := fun z => (hT.new n265) z
        replace r_self := Mo.lift n265 r_self
        replace r_word := Mo.lift n265 r_word
        have h0_p265 := ea.back n265
        replace r_self := Mo.fr (Fr.mono f265 (fun b hb => (.inl (hW b hb)))) r_self
        replace r_word := Mo.fr (Fr.mono f265 (fun b hb => (.inl (hW b hb)))) r_word
        replace hT := hT.fr f265
        replace ea := ea.trans f265
        replace hI := hI265
        replace hT := hT.of_mem (S := T0) (Fr.refl _) m_needs.dom
        first | refine nx_ ?_ | skip
        refine st_if (T := T) (et_test (ev_eqI (ev_lenL (ev_var (i := 2) rfl (m_needs.done (T' := T) (fun b hb => (.inl hb)) (fun z => (hn_p265 z))))) ev_int)) (fun h269 H269 e269 => ?_) (fun h269 H269 e269 => ?_)
        · have h269 : (decide (((((((m_Game_open_bits p_self p_word)).map fun (x265 : (List Bool)) => (m_Game_need_at k9 p_self (p_word ++ x265))) : (List Int))).length : Int) = (0 : Int))) = true := h269
          replace r_self := Mo.fr e269.fr r_self
          replace r_word := Mo.fr e269.fr r_word
          replace m_needs := m_needs.ex' e269
          replace hT := hT.ex e269
          replace ea := ea.trans (Ex.fr e269)
          replace hI := Re.ex (re_memo) hI e269
          first | refine nx_ ?_ | skip
          refine asg_open ?_
          refine f_run (K := K) (T := (Tp T p265)) (ef_lst (r := zI) (xs := [(mxL (((m_Game_living_at p_self p_word)).map fun (x271 : Int) => (-(((p_self).2.1).getD (x271).toNat 0))))]) (eh_cons (ev_max (ev_lc1 (f := fun (x271 : Int) => (-(((p_self).2.1).getD (x271).toNat 0))) hT (ei_list (ev_meth hT (by decide) (ev_var (i := 0) rfl r_self) (ea_cons (ev_var (i := 1) rfl r_word) ea_nil) (show p_self.2.2.1.length = p_self.1.length ∧ p_self.1.length ≤ 1000 from (by first | walk_at "ob" | (exact ⟨hp.1, by omega⟩) | (have h9 := open_mem (g := p_self) (w := p_word) ‹_ ∈ m_Game_open_bits _ _›; omega) | (have h9 := open_mem (g := p_self) (w := p_word) ‹_ ∈ m_Game_open_bits _ _›; rw [List.length_append]; omega) | (have h9 := open_mem (g := p_self) (w := p_word) ‹_ ∈ m_Game_open_bits _ _›; refine ⟨⟨hp.1, ?_, h9.2.2⟩, ?_⟩ <;> (rw [List.length_append]; omega)) | (exact ⟨hp.1.2.2.2.1, hp.1.2.1⟩) | (have h9 := living_mem (g := p_self) (w := p_word) ‹_ ∈ m_Game_living_at _ _›; omega) | (exact mem_wordsTo hp.2.1) | (have h9 := open_len p_self p_word; simp only [List.length_map]; omega) | (exact fun h9 => hp.2.2 (List.map_eq_nil_iff.mp h9)) | walk_at "ob1" | walk_at "ob2")))) (fun T271 H271 v271 x271 L271 hT271 hx271 r271 Q271 q271 => q271 _ wipe1 (ev_neg (ev_ixU (fd_Game_budgets S (ev_var (i := 0) rfl (L271.ap r_self))) (ev_var (i := 4) rfl r271) (at_get (d0 := 0) (by first | walk_at "ob" | (exact ⟨hp.1, by omega⟩) | (have h9 := open_mem (g := p_self) (w := p_word) ‹_ ∈ m_Game_open_bits _ _›; omega) | (have h9 := open_mem (g := p_self) (w := p_word) ‹_ ∈ m_Game_open_bits _ _›; rw [List.length_append]; omega) | (have h9 := open_mem (g := p_self) (w := p_word) ‹_ ∈ m_Game_open_bits _ _›; refine ⟨⟨hp.1, ?_, h9.2.2⟩, ?_⟩ <;> (rw [List.length_append]; omega)) | (exact ⟨hp.1.2.2.2.1, hp.1.2.1⟩) | (have h9 := living_mem (g := p_self) (w := p_word) ‹_ ∈ m_Game_living_at _ _›; omega) | (exact mem_wordsTo hp.2.1) | (have h9 := open_len p_self p_word; simp only [List.length_map]; omega) | (exact fun h9 => hp.2.2 (List.map_eq_nil_iff.mp h9)) | walk_at "ob1" | walk_at "ob2") (by first | walk_at "ob" | (exact ⟨hp.1, by omega⟩) | (have h9 := open_mem (g := p_self) (w := p_word) ‹_ ∈ m_Game_open_bits _ _›; omega) | (have h9 := open_mem (g := p_self) (w := p_word) ‹_ ∈ m_Game_open_bits _ _›; rw [List.length_append]; omega) | (have h9 := open_mem (g := p_self) (w := p_word) ‹_ ∈ m_Game_open_bits _ _›; refine ⟨⟨hp.1, ?_, h9.2.2⟩, ?_⟩ <;> (rw [List.length_append]; omega)) | (exact ⟨hp.1.2.2.2.1, hp.1.2.1⟩) | (have h9 := living_mem (g := p_self) (w := p_word) ‹_ ∈ m_Game_living_at _ _›; omega) | (exact mem_wordsTo hp.2.1) | (have h9 := open_len p_self p_word; simp only [List.length_map]; omega) | (exact fun h9 => hp.2.2 (List.map_eq_nil_iff.mp h9)) | walk_at "ob1" | walk_at "ob2")))))) (by first | walk_at "ob" | (exact ⟨hp.1, by omega⟩) | (have h9 := open_mem (g := p_self) (w := p_word) ‹_ ∈ m_Game_open_bits _ _›; omega) | (have h9 := open_mem (g := p_self) (w := p_word) ‹_ ∈ m_Game_open_bits _ _›; rw [List.length_append]; omega) | (have h9 := open_mem (g := p_self) (w := p_word) ‹_ ∈ m_Game_open_bits _ _›; refine ⟨⟨hp.1, ?_, h9.2.2⟩, ?_⟩ <;> (rw [List.length_append]; omega)) | (exact ⟨hp.1.2.2.2.1, hp.1.2.1⟩) | (have h9 := living_mem (g := p_self) (w := p_word) ‹_ ∈ m_Game_living_at _ _›; omega) | (exact mem_wordsTo hp.2.1) | (have h9 := open_len p_self p_word; simp only [List.length_map]; omega) | (exact fun h9 => hp.2.2 (List.map_eq_nil_iff.mp h9)) | walk_at "ob1" | walk_at "ob2")) eh_nil) (by simp)) fun p270 H270a H270 e270 n270 f270 en270 m_needs => ?_
          replace r_self := Mo.fr e270.fr r_self
          replace r_word := Mo.fr e270.fr r_word
          replace hT := hT.ex e270
          replace ea := ea.trans (Ex.fr e270)
          replace hI := Re.ex (re_memo) hI e270
          have hn_p270 : ¬ T p270 := fun z => (hT.new n270) (.inl z)
          have ne_p265_p270 : p265 ≠ p270 := fun z => (hT.new n270) (z ▸ (show (Tp T p265) p265 from (.inr rfl)))
          have ne_p270_p265 := ne_p265_p270.symm
          replace r_self := Mo.fr en270.fr (Mo.lift n270 r_self)
          replace r_word := Mo.fr en270.fr (Mo.lift n270 r_word)
          replace hT := hT.of_mem (S := T0) en270.fr m_needs.dom
          have h0_p270 := ea.back n270
          replace ea := ea.trans (Ex.fr en270)
          replace hI := Re.ex (re_memo) hI en270
          first | refine nx_ ?_ | skip
          refine st_if (T := (Tp T p265)) (et_test (ev_eqI (ev_lenL (ev_var (i := 2) rfl (m_needs.done (T' := (Tp T p265)) (fun b hb => (.inl (hb.elim (fun z => .inl z) .inr))) (fun z => (z.elim (fun z => (hn_p270 z)) (fun z => ne_p270_p265 z)))))) ev_int)) (fun h272 H272 e272 => ?_) (fun h272 H272 e272 => ?_)
          · have h272 : (decide (((([(mxL (((m_Game_living_at p_self p_word)).map fun (x271 : Int) => (-(((p_self).2.1).getD (x271).toNat 0))))] : (List Int))).length : Int) = (2 : Int))) = true := h272
            replace r_self := Mo.fr e272.fr r_self
            replace r_word := Mo.fr e272.fr r_word
            replace m_needs := m_needs.ex' e272
            replace hT := hT.ex e272
            replace ea := ea.trans (Ex.fr e272)
            replace hI := Re.ex (re_memo) hI e272
            first | refine nx_ ?_ | skip
            refine append_open (K := K) (T := (Tp (Tp T p265) p270)) rfl m_needs ?_
            refine x_run (K := K) (T := (Tp T p265)) (ev_add ev_int (ev_min (ev_var (i := 2) rfl (m_needs.done (T' := (Tp T p265)) (fun b hb => (.inl (hb.elim (fun z => .inl z) .inr))) (fun z => (z.elim (fun z => (hn_p270 z)) (fun z => ne_p270_p265 z))))) (by first | walk_at "ob" | (exact ⟨hp.1, by omega⟩) | (have h9 := open_mem (g := p_self) (w := p_word) ‹_ ∈ m_Game_open_bits _ _›; omega) | (have h9 := open_mem (g := p_self) (w := p_word) ‹_ ∈ m_Game_open_bits _ _›; rw [List.length_append]; omega) | (have h9 := open_mem (g := p_self) (w := p_word) ‹_ ∈ m_Game_open_bits _ _›; refine ⟨⟨hp.1, ?_, h9.2.2⟩, ?_⟩ <;> (rw [List.length_append]; omega)) | (exact ⟨hp.1.2.2.2.1, hp.1.2.1⟩) | (have h9 := living_mem (g := p_self) (w := p_word) ‹_ ∈ m_Game_living_at _ _›; omega) | (exact mem_wordsTo hp.2.1) | (have h9 := open_len p_self p_word; simp only [List.length_map]; omega) | (exact fun h9 => hp.2.2 (List.map_eq_nil_iff.mp h9)) | walk_at "ob1" | walk_at "ob2"))) fun v274 H274 e274 r274 => ?_
            replace r_self := Mo.fr e274.fr r_self
            replace r_word := Mo.fr e274.fr r_word
            replace m_needs := m_needs.ex' e274
            replace hT := hT.ex e274
            replace ea := ea.trans (Ex.fr e274)
            replace hI := Re.ex (re_memo) hI e274
            replace r274 : zI K (Tp (Tp T p265) p270) H274 v274 _ := r274
            refine append_v (K := K) (T := (Tp (Tp T p265) p270)) (S := fun _ => False) m_needs r274 (by first | walk_at "ob" | (exact ⟨hp.1, by omega⟩) | (have h9 := open_mem (g := p_self) (w := p_word) ‹_ ∈ m_Game_open_bits _ _›; omega) | (have h9 := open_mem (g := p_self) (w := p_word) ‹_ ∈ m_Game_open_bits _ _›; rw [List.length_append]; omega) | (have h9 := open_mem (g := p_self) (w := p_word) ‹_ ∈ m_Game_open_bits _ _›; refine ⟨⟨hp.1, ?_, h9.2.2⟩, ?_⟩ <;> (rw [List.length_append]; omega)) | (exact ⟨hp.1.2.2.2.1, hp.1.2.1⟩) | (have h9 := living_mem (g := p_self) (w := p_word) ‹_ ∈ m_Game_living_at _ _›; omega) | (exact mem_wordsTo hp.2.1) | (have h9 := open_len p_self p_word; simp only [List.length_map]; omega) | (exact fun h9 => hp.2.2 (List.map_eq_nil_iff.mp h9)) | walk_at "ob1" | walk_at "ob2") fun H275 v275 ev275 f275 fT275 m275 => ?_
            have e275 := Ex.refl H274
            have hpm275 := m_needs.mem
            have fp275 : Fr (fun b => b = p270) H274 H275 := f275.mono (fun b hb => hb.elim False.elim id)
            replace r_self := Mo.fr fT275 r_self
            replace r_word := Mo.fr fT275 r_word
            replace hT := hT.fr fT275
            replace ea := ea.thenFr fp275 (fun b hb => by subst hb; exact .inr h0_p270)
            replace hI := Re.fr (re_memo) hI fp275 (fun b hb z => hn_p270 (hW _ (z ▸ hb)))
            replace m_needs := m275
            replace r_needs := m_needs.done (T' := (Tp T p265)) (fun b hb => (.inl (hb.elim (fun z => .inl z) .inr))) (fun z => (z.elim (fun z => (hn_p270 z)) (fun z => ne_p270_p265 z)))
            replace r_self := Mo.sub (T' := (Tp T p265)) (fun b hb => (.inl (hb.elim (fun z => .inl z) .inr))) r_self
            replace r_word := Mo.sub (T' := (Tp T p265)) (fun b hb => (.inl (hb.elim (fun z => .inl z) .inr))) r_word
            replace hT := hT.sub (T' := (Tp T p265)) (fun b hb => (.inl (hb.elim (fun z => .inl z) .inr)))
            first | refine nx_ ?_ | skip
            refine dput_open ?_
            refine x_run (K := K) (T := (Tp T p265)) (ev_max (ev_var (i := 2) rfl r_needs) (by first | walk_at "ob" | (exact ⟨hp.1, by omega⟩) | (have h9 := open_mem (g := p_self) (w := p_word) ‹_ ∈ m_Game_open_bits _ _›; omega) | (have h9 := open_mem (g := p_self) (w := p_word) ‹_ ∈ m_Game_open_bits _ _›; rw [List.length_append]; omega) | (have h9 := open_mem (g := p_self) (w := p_word) ‹_ ∈ m_Game_open_bits _ _›; refine ⟨⟨hp.1, ?_, h9.2.2⟩, ?_⟩ <;> (rw [List.length_append]; omega)) | (exact ⟨hp.1.2.2.2.1, hp.1.2.1⟩) | (have h9 := living_mem (g := p_self) (w := p_word) ‹_ ∈ m_Game_living_at _ _›; omega) | (exact mem_wordsTo hp.2.1) | (have h9 := open_len p_self p_word; simp only [List.length_map]; omega) | (exact fun h9 => hp.2.2 (List.map_eq_nil_iff.mp h9)) | walk_at "ob1" | walk_at "ob2")) fun v277 H277 e277 r277 => ?_
            replace r_self := Mo.fr e277.fr r_self
            replace r_word := Mo.fr e277.fr r_word
            replace r_needs := Mo.fr e277.fr r_needs
            replace hT := hT.ex e277
            replace ea := ea.trans (Ex.fr e277)
            replace hI := Re.ex (re_memo) hI e277
            refine x_run (K := K) (T := (Tp T p265)) (fd_Game_known S (ev_var (i := 0) rfl r_self)) fun v278 H278 e278 r278 => ?_
            replace r_self := Mo.fr e278.fr r_self
            replace r_word := Mo.fr e278.fr r_word
            replace r_needs := Mo.fr e278.fr r_needs
            replace r277 := Mo.fr e278.fr r277
            replace hT := hT.ex e278
            replace ea := ea.trans (Ex.fr e278)
            replace hI := Re.ex (re_memo) hI e278
            refine x_run (K := K) (T := (Tp T p265)) (ev_var (i := 1) rfl r_word) fun v279 H279 e279 r279 => ?_
            replace r_self := Mo.fr e279.fr r_self
            replace r_word := Mo.fr e279.fr r_word
            replace r_needs := Mo.fr e279.fr r_needs
            replace r277 := Mo.fr e279.fr r277
            replace r278 := Mo.fr e279.fr r278
            replace hT := hT.ex e279
            replace ea := ea.trans (Ex.fr e279)
            replace hI := Re.ex (re_memo) hI e279
            cases r278
            have hok276 : (mxL (([(mxL (((m_Game_living_at p_self p_word)).map fun (x271 : Int) => (-(((p_self).2.1).getD (x271).toNat 0))))] : (List Int)) ++ [((1 : Int) + (mnL ([(mxL (((m_Game_living_at p_self p_word)).map fun (x271 : Int) => (-(((p_self).2.1).getD (x271).toNat 0))))] : (List Int))))])) = m_Game_need_at ((p_self.1.getD 0 []).length + 1 - p_word.length) p_self p_word := (by
              rw [hk9]
              simp only [m_Game_need_at, h269, h272, if_true, if_false, Bool.false_eq_true, reduceIte])
            cases r277
            refine put_v (w := p_word) (i := (mxL (([(mxL (((m_Game_living_at p_self p_word)).map fun (x271 : Int) => (-(((p_self).2.1).getD (x271).toNat 0))))] : (List Int)) ++ [((1 : Int) + (mnL ([(mxL (((m_Game_living_at p_self p_word)).map fun (x271 : Int) => (-(((p_self).2.1).getD (x271).toNat 0))))] : (List Int))))]))) hI ((by have h9 := r279; exact h9.1)) (by first | walk_at "ob" | (exact ⟨hp.1, by omega⟩) | (have h9 := open_mem (g := p_self) (w := p_word) ‹_ ∈ m_Game_open_bits _ _›; omega) | (have h9 := open_mem (g := p_self) (w := p_word) ‹_ ∈ m_Game_open_bits _ _›; rw [List.length_append]; omega) | (have h9 := open_mem (g := p_self) (w := p_word) ‹_ ∈ m_Game_open_bits _ _›; refine ⟨⟨hp.1, ?_, h9.2.2⟩, ?_⟩ <;> (rw [List.length_append]; omega)) | (exact ⟨hp.1.2.2.2.1, hp.1.2.1⟩) | (have h9 := living_mem (g := p_self) (w := p_word) ‹_ ∈ m_Game_living_at _ _›; omega) | (exact mem_wordsTo hp.2.1) | (have h9 := open_len p_self p_word; simp only [List.length_map]; omega) | (exact fun h9 => hp.2.2 (List.map_eq_nil_iff.mp h9)) | walk_at "ob1" | walk_at "ob2") hok276 fun H276 f276 hI276 has276 => ?_
            replace r_self := Mo.fr (Fr.mono f276 (fun b hb => (.inl (hW b hb)))) r_self
            replace r_word := Mo.fr (Fr.mono f276 (fun b hb => (.inl (hW b hb)))) r_word
            replace r_needs := Mo.fr (Fr.mono f276 (fun b hb => (.inl (hW b hb)))) r_needs
            replace hT := hT.fr f276
            replace ea := ea.trans f276
            replace hI := hI276
            first | refine nx_ ?_ | skip
            refine ret_open ?_
            refine dget_open ?_
            refine x_run (K := K) (T := (Tp T p265)) (fd_Game_known S (ev_var (i := 0) rfl r_self)) fun v281 H281 e281 r281 => ?_
            replace r_self := Mo.fr e281.fr r_self
            replace r_word := Mo.fr e281.fr r_word
            replace r_needs := Mo.fr e281.fr r_needs
            replace hT := hT.ex e281
            replace ea := ea.trans (Ex.fr e281)
            replace hI := Re.ex (re_memo) hI e281
            replace has276 := has276.ex e281
            cases r281
            refine x_run (K := K) (T := (Tp T p265)) (ev_var (i := 1) rfl r_word) fun v282 H282 e282 r282 => ?_
            replace r_self := Mo.fr e282.fr r_self
            replace r_word := Mo.fr e282.fr r_word
            replace r_needs := Mo.fr e282.fr r_needs
            replace hT := hT.ex e282
            replace ea := ea.trans (Ex.fr e282)
            replace hI := Re.ex (re_memo) hI e282
            replace has276 := has276.ex e282
            refine get_v has276 ((by have h9 := r282; exact h9.1)) ?_
            exact hQ _ _ _ ea (Re.cut (re_memo) hI (by omega)) rfl hok276
          · have h272 : (decide (((([(mxL (((m_Game_living_at p_self p_word)).map fun (x271 : Int) => (-(((p_self).2.1).getD (x271).toNat 0))))] : (List Int))).length : Int) = (2 : Int))) = false := h272
            replace r_self := Mo.fr e272.fr r_self
            replace r_word := Mo.fr e272.fr r_word
            replace m_needs := m_needs.ex' e272
            replace hT := hT.ex e272
            replace ea := ea.trans (Ex.fr e272)
            replace hI := Re.ex (re_memo) hI e272
            replace r_needs := m_needs.done (T' := (Tp T p265)) (fun b hb => (.inl (hb.elim (fun z => .inl z) .inr))) (fun z => (z.elim (fun z => (hn_p270 z)) (fun z => ne_p270_p265 z)))
            replace r_self := Mo.sub (T' := (Tp T p265)) (fun b hb => (.inl (hb.elim (fun z => .inl z) .inr))) r_self
            replace r_word := Mo.sub (T' := (Tp T p265)) (fun b hb => (.inl (hb.elim (fun z => .inl z) .inr))) r_word
            replace hT := hT.sub (T' := (Tp T p265)) (fun b hb => (.inl (hb.elim (fun z => .inl z) .inr)))
            first | refine nx_ ?_ | skip
            refine dput_open ?_
            refine x_run (K := K) (T := (Tp T p265)) (ev_max (ev_var (i := 2) rfl r_needs) (by first | walk_at "ob" | (exact ⟨hp.1, by omega⟩) | (have h9 := open_mem (g := p_self) (w := p_word) ‹_ ∈ m_Game_open_bits _ _›; omega) | (have h9 := open_mem (g := p_self) (w := p_word) ‹_ ∈ m_Game_open_bits _ _›; rw [List.length_append]; omega) | (have h9 := open_mem (g := p_self) (w := p_word) ‹_ ∈ m_Game_open_bits _ _›; refine ⟨⟨hp.1, ?_, h9.2.2⟩, ?_⟩ <;> (rw [List.length_append]; omega)) | (exact ⟨hp.1.2.2.2.1, hp.1.2.1⟩) | (have h9 := living_mem (g := p_self) (w := p_word) ‹_ ∈ m_Game_living_at _ _›; omega) | (exact mem_wordsTo hp.2.1) | (have h9 := open_len p_self p_word; simp only [List.length_map]; omega) | (exact fun h9 => hp.2.2 (List.map_eq_nil_iff.mp h9)) | walk_at "ob1" | walk_at "ob2")) fun v284 H284 e284 r284 => ?_
            replace r_self := Mo.fr e284.fr r_self
            replace r_word := Mo.fr e284.fr r_word
            replace r_needs := Mo.fr e284.fr r_needs
            replace hT := hT.ex e284
            replace ea := ea.trans (Ex.fr e284)
            replace hI := Re.ex (re_memo) hI e284
            refine x_run (K := K) (T := (Tp T p265)) (fd_Game_known S (ev_var (i := 0) rfl r_self)) fun v285 H285 e285 r285 => ?_
            replace r_self := Mo.fr e285.fr r_self
            replace r_word := Mo.fr e285.fr r_word
            replace r_needs := Mo.fr e285.fr r_needs
            replace r284 := Mo.fr e285.fr r284
            replace hT := hT.ex e285
            replace ea := ea.trans (Ex.fr e285)
            replace hI := Re.ex (re_memo) hI e285
            refine x_run (K := K) (T := (Tp T p265)) (ev_var (i := 1) rfl r_word) fun v286 H286 e286 r286 => ?_
            replace r_self := Mo.fr e286.fr r_self
            replace r_word := Mo.fr e286.fr r_word
            replace r_needs := Mo.fr e286.fr r_needs
            replace r284 := Mo.fr e286.fr r284
            replace r285 := Mo.fr e286.fr r285
            replace hT := hT.ex e286
            replace ea := ea.trans (Ex.fr e286)
            replace hI := Re.ex (re_memo) hI e286
            cases r285
            have hok283 : (mxL ([(mxL (((m_Game_living_at p_self p_word)).map fun (x271 : Int) => (-(((p_self).2.1).getD (x271).toNat 0))))] : (List Int))) = m_Game_need_at ((p_self.1.getD 0 []).length + 1 - p_word.length) p_self p_word := (by
              rw [hk9]
              simp only [m_Game_need_at, h269, h272, if_true, if_false, Bool.false_eq_true, reduceIte])
            cases r284
            refine put_v (w := p_word) (i := (mxL ([(mxL (((m_Game_living_at p_self p_word)).map fun (x271 : Int) => (-(((p_self).2.1).getD (x271).toNat 0))))] : (List Int)))) hI ((by have h9 := r286; exact h9.1)) (by first | walk_at "ob" | (exact ⟨hp.1, by omega⟩) | (have h9 := open_mem (g := p_self) (w := p_word) ‹_ ∈ m_Game_open_bits _ _›; omega) | (have h9 := open_mem (g := p_self) (w := p_word) ‹_ ∈ m_Game_open_bits _ _›; rw [List.length_append]; omega) | (have h9 := open_mem (g := p_self) (w := p_word) ‹_ ∈ m_Game_open_bits _ _›; refine ⟨⟨hp.1, ?_, h9.2.2⟩, ?_⟩ <;> (rw [List.length_append]; omega)) | (exact ⟨hp.1.2.2.2.1, hp.1.2.1⟩) | (have h9 := living_mem (g := p_self) (w := p_word) ‹_ ∈ m_Game_living_at _ _›; omega) | (exact mem_wordsTo hp.2.1) | (have h9 := open_len p_self p_word; simp only [List.length_map]; omega) | (exact fun h9 => hp.2.2 (List.map_eq_nil_iff.mp h9)) | walk_at "ob1" | walk_at "ob2") hok283 fun H283 f283 hI283 has283 => ?_
            replace r_self := Mo.fr (Fr.mono f283 (fun b hb => (.inl (hW b hb)))) r_self
            replace r_word := Mo.fr (Fr.mono f283 (fun b hb => (.inl (hW b hb)))) r_word
            replace r_needs := Mo.fr (Fr.mono f283 (fun b hb => (.inl (hW b hb)))) r_needs
            replace hT := hT.fr f283
            replace ea := ea.trans f283
            replace hI := hI283
            first | refine nx_ ?_ | skip
            refine ret_open ?_
            refine dget_open ?_
            refine x_run (K := K) (T := (Tp T p265)) (fd_Game_known S (ev_var (i := 0) rfl r_self)) fun v288 H288 e288 r288 => ?_
            replace r_self := Mo.fr e288.fr r_self
            replace r_word := Mo.fr e288.fr r_word
            replace r_needs := Mo.fr e288.fr r_needs
            replace hT := hT.ex e288
            replace ea := ea.trans (Ex.fr e288)
            replace hI := Re.ex (re_memo) hI e288
            replace has283 := has283.ex e288
            cases r288
            refine x_run (K := K) (T := (Tp T p265)) (ev_var (i := 1) rfl r_word) fun v289 H289 e289 r289 => ?_
            replace r_self := Mo.fr e289.fr r_self
            replace r_word := Mo.fr e289.fr r_word
            replace r_needs := Mo.fr e289.fr r_needs
            replace hT := hT.ex e289
            replace ea := ea.trans (Ex.fr e289)
            replace hI := Re.ex (re_memo) hI e289
            replace has283 := has283.ex e289
            refine get_v has283 ((by have h9 := r289; exact h9.1)) ?_
            exact hQ _ _ _ ea (Re.cut (re_memo) hI (by omega)) rfl hok283
        · have h269 : (decide (((((((m_Game_open_bits p_self p_word)).map fun (x265 : (List Bool)) => (m_Game_need_at k9 p_self (p_word ++ x265))) : (List Int))).length : Int) = (0 : Int))) = false := h269
          replace r_self := Mo.fr e269.fr r_self
          replace r_word := Mo.fr e269.fr r_word
          replace m_needs := m_needs.ex' e269
          replace hT := hT.ex e269
          replace ea := ea.trans (Ex.fr e269)
          replace hI := Re.ex (re_memo) hI e269
          first | refine nx_ ?_ | skip
          refine st_if (T := T) (et_test (ev_eqI (ev_lenL (ev_var (i := 2) rfl (m_needs.done (T' := T) (fun b hb => (.inl hb)) (fun z => (hn_p265 z))))) ev_int)) (fun h290 H290 e290 => ?_) (fun h290 H290 e290 => ?_)
          · have h290 : (decide (((((((m_Game_open_bits p_self p_word)).map fun (x265 : (List Bool)) => (m_Game_need_at k9 p_self (p_word ++ x265))) : (List Int))).length : Int) = (2 : Int))) = true := h290
            replace r_self := Mo.fr e290.fr r_self
            replace r_word := Mo.fr e290.fr r_word
            replace m_needs := m_needs.ex' e290
            replace hT := hT.ex e290
            replace ea := ea.trans (Ex.fr e290)
            replace hI := Re.ex (re_memo) hI e290
            first | refine nx_ ?_ | skip
            refine append_open (K := K) (T := (Tp T p265)) rfl m_needs ?_
            refine x_run (K := K) (T := T) (ev_add ev_int (ev_min (ev_var (i := 2) rfl (m_needs.done (T' := T) (fun b hb => (.inl hb)) (fun z => (hn_p265 z)))) (by first | walk_at "ob" | (exact ⟨hp.1, by omega⟩) | (have h9 := open_mem (g := p_self) (w := p_word) ‹_ ∈ m_Game_open_bits _ _›; omega) | (have h9 := open_mem (g := p_self) (w := p_word) ‹_ ∈ m_Game_open_bits _ _›; rw [List.length_append]; omega) | (have h9 := open_mem (g := p_self) (w := p_word) ‹_ ∈ m_Game_open_bits _ _›; refine ⟨⟨hp.1, ?_, h9.2.2⟩, ?_⟩ <;> (rw [List.length_append]; omega)) | (exact ⟨hp.1.2.2.2.1, hp.1.2.1⟩) | (have h9 := living_mem (g := p_self) (w := p_word) ‹_ ∈ m_Game_living_at _ _›; omega) | (exact mem_wordsTo hp.2.1) | (have h9 := open_len p_self p_word; simp only [List.length_map]; omega) | (exact fun h9 => hp.2.2 (List.map_eq_nil_iff.mp h9)) | walk_at "ob1" | walk_at "ob2"))) fun v292 H292 e292 r292 => ?_
            replace r_self := Mo.fr e292.fr r_self
            replace r_word := Mo.fr e292.fr r_word
            replace m_needs := m_needs.ex' e292
            replace hT := hT.ex e292
            replace ea := ea.trans (Ex.fr e292)
            replace hI := Re.ex (re_memo) hI e292
            replace r292 : zI K (Tp T p265) H292 v292 _ := r292
            refine append_v (K := K) (T := (Tp T p265)) (S := fun _ => False) m_needs r292 (by first | walk_at "ob" | (exact ⟨hp.1, by omega⟩) | (have h9 := open_mem (g := p_self) (w := p_word) ‹_ ∈ m_Game_open_bits _ _›; omega) | (have h9 := open_mem (g := p_self) (w := p_word) ‹_ ∈ m_Game_open_bits _ _›; rw [List.length_append]; omega) | (have h9 := open_mem (g := p_self) (w := p_word) ‹_ ∈ m_Game_open_bits _ _›; refine ⟨⟨hp.1, ?_, h9.2.2⟩, ?_⟩ <;> (rw [List.length_append]; omega)) | (exact ⟨hp.1.2.2.2.1, hp.1.2.1⟩) | (have h9 := living_mem (g := p_self) (w := p_word) ‹_ ∈ m_Game_living_at _ _›; omega) | (exact mem_wordsTo hp.2.1) | (have h9 := open_len p_self p_word; simp only [List.length_map]; omega) | (exact fun h9 => hp.2.2 (List.map_eq_nil_iff.mp h9)) | walk_at "ob1" | walk_at "ob2") fun H293 v293 ev293 f293 fT293 m293 => ?_
            have e293 := Ex.refl H292
            have hpm293 := m_needs.mem
            have fp293 : Fr (fun b => b = p265) H292 H293 := f293.mono (fun b hb => hb.elim False.elim id)
            replace r_self := Mo.fr fT293 r_self
            replace r_word := Mo.fr fT293 r_word
            replace hT := hT.fr fT293
            replace ea := ea.thenFr fp293 (fun b hb => by subst hb; exact .inr h0_p265)
            replace hI := Re.fr (re_memo) hI fp293 (fun b hb z => hn_p265 (hW _ (z ▸ hb)))
            replace m_needs := m293
            replace r_needs := m_needs.done (T' := T) (fun b hb => (.inl hb)) (fun z => (hn_p265 z))
            replace r_self := Mo.sub (T' := T) (fun b hb => (.inl hb)) r_self
            replace r_word := Mo.sub (T' := T) (fun b hb => (.inl hb)) r_word
            replace hT := hT.sub (T' := T) (fun b hb => (.inl hb))
            first | refine nx_ ?_ | skip
            refine dput_open ?_
            refine x_run (K := K) (T := T) (ev_max (ev_var (i := 2) rfl r_needs) (by first | walk_at "ob" | (exact ⟨hp.1, by omega⟩) | (have h9 := open_mem (g := p_self) (w := p_word) ‹_ ∈ m_Game_open_bits _ _›; omega) | (have h9 := open_mem (g := p_self) (w := p_word) ‹_ ∈ m_Game_open_bits _ _›; rw [List.length_append]; omega) | (have h9 := open_mem (g := p_self) (w := p_word) ‹_ ∈ m_Game_open_bits _ _›; refine ⟨⟨hp.1, ?_, h9.2.2⟩, ?_⟩ <;> (rw [List.length_append]; omega)) | (exact ⟨hp.1.2.2.2.1, hp.1.2.1⟩) | (have h9 := living_mem (g := p_self) (w := p_word) ‹_ ∈ m_Game_living_at _ _›; omega) | (exact mem_wordsTo hp.2.1) | (have h9 := open_len p_self p_word; simp only [List.length_map]; omega) | (exact fun h9 => hp.2.2 (List.map_eq_nil_iff.mp h9)) | walk_at "ob1" | walk_at "ob2")) fun v295 H295 e295 r295 => ?_
            replace r_self := Mo.fr e295.fr r_self
            replace r_word := Mo.fr e295.fr r_word
            replace r_needs := Mo.fr e295.fr r_needs
            replace hT := hT.ex e295
            replace ea := ea.trans (Ex.fr e295)
            replace hI := Re.ex (re_memo) hI e295
            refine x_run (K := K) (T := T) (fd_Game_known S (ev_var (i := 0) rfl r_self)) fun v296 H296 e296 r296 => ?_
            replace r_self := Mo.fr e296.fr r_self
            replace r_word := Mo.fr e296.fr r_word
            replace r_needs := Mo.fr e296.fr r_needs
            replace r295 := Mo.fr e296.fr r295
            replace hT := hT.ex e296
            replace ea := ea.trans (Ex.fr e296)
            replace hI := Re.ex (re_memo) hI e296
            refine x_run (K := K) (T := T) (ev_var (i := 1) rfl r_word) fun v297 H297 e297 r297 => ?_
            replace r_self := Mo.fr e297.fr r_self
            replace r_word := Mo.fr e297.fr r_word
            replace r_needs := Mo.fr e297.fr r_needs
            replace r295 := Mo.fr e297.fr r295
            replace r296 := Mo.fr e297.fr r296
            replace hT := hT.ex e297
            replace ea := ea.trans (Ex.fr e297)
            replace hI := Re.ex (re_memo) hI e297
            cases r296
            have hok294 : (mxL (((((m_Game_open_bits p_self p_word)).map fun (x265 : (List Bool)) => (m_Game_need_at k9 p_self (p_word ++ x265))) : (List Int)) ++ [((1 : Int) + (mnL ((((m_Game_open_bits p_self p_word)).map fun (x265 : (List Bool)) => (m_Game_need_at k9 p_self (p_word ++ x265))) : (List Int))))])) = m_Game_need_at ((p_self.1.getD 0 []).length + 1 - p_word.length) p_self p_word := (by
              rw [hk9]
              simp only [m_Game_need_at, h269, h290, if_true, if_false, Bool.false_eq_true, reduceIte])
            cases r295
            refine put_v (w := p_word) (i := (mxL (((((m_Game_open_bits p_self p_word)).map fun (x265 : (List Bool)) => (m_Game_need_at k9 p_self (p_word ++ x265))) : (List Int)) ++ [((1 : Int) + (mnL ((((m_Game_open_bits p_self p_word)).map fun (x265 : (List Bool)) => (m_Game_need_at k9 p_self (p_word ++ x265))) : (List Int))))]))) hI ((by have h9 := r297; exact h9.1)) (by first | walk_at "ob" | (exact ⟨hp.1, by omega⟩) | (have h9 := open_mem (g := p_self) (w := p_word) ‹_ ∈ m_Game_open_bits _ _›; omega) | (have h9 := open_mem (g := p_self) (w := p_word) ‹_ ∈ m_Game_open_bits _ _›; rw [List.length_append]; omega) | (have h9 := open_mem (g := p_self) (w := p_word) ‹_ ∈ m_Game_open_bits _ _›; refine ⟨⟨hp.1, ?_, h9.2.2⟩, ?_⟩ <;> (rw [List.length_append]; omega)) | (exact ⟨hp.1.2.2.2.1, hp.1.2.1⟩) | (have h9 := living_mem (g := p_self) (w := p_word) ‹_ ∈ m_Game_living_at _ _›; omega) | (exact mem_wordsTo hp.2.1) | (have h9 := open_len p_self p_word; simp only [List.length_map]; omega) | (exact fun h9 => hp.2.2 (List.map_eq_nil_iff.mp h9)) | walk_at "ob1" | walk_at "ob2") hok294 fun H294 f294 hI294 has294 => ?_
            replace r_self := Mo.fr (Fr.mono f294 (fun b hb => (hW b hb))) r_self
            replace r_word := Mo.fr (Fr.mono f294 (fun b hb => (hW b hb))) r_word
            replace r_needs := Mo.fr (Fr.mono f294 (fun b hb => (hW b hb))) r_needs
            replace hT := hT.fr f294
            replace ea := ea.trans f294
            replace hI := hI294
            first | refine nx_ ?_ | skip
            refine ret_open ?_
            refine dget_open ?_
            refine x_run (K := K) (T := T) (fd_Game_known S (ev_var (i := 0) rfl r_self)) fun v299 H299 e299 r299 => ?_
            replace r_self := Mo.fr e299.fr r_self
            replace r_word := Mo.fr e299.fr r_word
            replace r_needs := Mo.fr e299.fr r_needs
            replace hT := hT.ex e299
            replace ea := ea.trans (Ex.fr e299)
            replace hI := Re.ex (re_memo) hI e299
            replace has294 := has294.ex e299
            cases r299
            refine x_run (K := K) (T := T) (ev_var (i := 1) rfl r_word) fun v300 H300 e300 r300 => ?_
            replace r_self := Mo.fr e300.fr r_self
            replace r_word := Mo.fr e300.fr r_word
            replace r_needs := Mo.fr e300.fr r_needs
            replace hT := hT.ex e300
            replace ea := ea.trans (Ex.fr e300)
            replace hI := Re.ex (re_memo) hI e300
            replace has294 := has294.ex e300
            refine get_v has294 ((by have h9 := r300; exact h9.1)) ?_
            exact hQ _ _ _ ea (Re.cut (re_memo) hI (by omega)) rfl hok294
          · have h290 : (decide (((((((m_Game_open_bits p_self p_word)).map fun (x265 : (List Bool)) => (m_Game_need_at k9 p_self (p_word ++ x265))) : (List Int))).length : Int) = (2 : Int))) = false := h290
            replace r_self := Mo.fr e290.fr r_self
            replace r_word := Mo.fr e290.fr r_word
            replace m_needs := m_needs.ex' e290
            replace hT := hT.ex e290
            replace ea := ea.trans (Ex.fr e290)
            replace hI := Re.ex (re_memo) hI e290
            replace r_needs := m_needs.done (T' := T) (fun b hb => (.inl hb)) (fun z => (hn_p265 z))
            replace r_self := Mo.sub (T' := T) (fun b hb => (.inl hb)) r_self
            replace r_word := Mo.sub (T' := T) (fun b hb => (.inl hb)) r_word
            replace hT := hT.sub (T' := T) (fun b hb => (.inl hb))
            first | refine nx_ ?_ | skip
            refine dput_open ?_
            refine x_run (K := K) (T := T) (ev_max (ev_var (i := 2) rfl r_needs) (by first | walk_at "ob" | (exact ⟨hp.1, by omega⟩) | (have h9 := open_mem (g := p_self) (w := p_word) ‹_ ∈ m_Game_open_bits _ _›; omega) | (have h9 := open_mem (g := p_self) (w := p_word) ‹_ ∈ m_Game_open_bits _ _›; rw [List.length_append]; omega) | (have h9 := open_mem (g := p_self) (w := p_word) ‹_ ∈ m_Game_open_bits _ _›; refine ⟨⟨hp.1, ?_, h9.2.2⟩, ?_⟩ <;> (rw [List.length_append]; omega)) | (exact ⟨hp.1.2.2.2.1, hp.1.2.1⟩) | (have h9 := living_mem (g := p_self) (w := p_word) ‹_ ∈ m_Game_living_at _ _›; omega) | (exact mem_wordsTo hp.2.1) | (have h9 := open_len p_self p_word; simp only [List.length_map]; omega) | (exact fun h9 => hp.2.2 (List.map_eq_nil_iff.mp h9)) | walk_at "ob1" | walk_at "ob2")) fun v302 H302 e302 r302 => ?_
            replace r_self := Mo.fr e302.fr r_self
            replace r_word := Mo.fr e302.fr r_word
            replace r_needs := Mo.fr e302.fr r_needs
            replace hT := hT.ex e302
            replace ea := ea.trans (Ex.fr e302)
            replace hI := Re.ex (re_memo) hI e302
            refine x_run (K := K) (T := T) (fd_Game_known S (ev_var (i := 0) rfl r_self)) fun v303 H303 e303 r303 => ?_
            replace r_self := Mo.fr e303.fr r_self
            replace r_word := Mo.fr e303.fr r_word
            replace r_needs := Mo.fr e303.fr r_needs
            replace r302 := Mo.fr e303.fr r302
            replace hT := hT.ex e303
            replace ea := ea.trans (Ex.fr e303)
            replace hI := Re.ex (re_memo) hI e303
            refine x_run (K := K) (T := T) (ev_var (i := 1) rfl r_word) fun v304 H304 e304 r304 => ?_
            replace r_self := Mo.fr e304.fr r_self
            replace r_word := Mo.fr e304.fr r_word
            replace r_needs := Mo.fr e304.fr r_needs
            replace r302 := Mo.fr e304.fr r302
            replace r303 := Mo.fr e304.fr r303
            replace hT := hT.ex e304
            replace ea := ea.trans (Ex.fr e304)
            replace hI := Re.ex (re_memo) hI e304
            cases r303
            have hok301 : (mxL ((((m_Game_open_bits p_self p_word)).map fun (x265 : (List Bool)) => (m_Game_need_at k9 p_self (p_word ++ x265))) : (List Int))) = m_Game_need_at ((p_self.1.getD 0 []).length + 1 - p_word.length) p_self p_word := (by
              rw [hk9]
              simp only [m_Game_need_at, h269, h290, if_true, if_false, Bool.false_eq_true, reduceIte])
            cases r302
            refine put_v (w := p_word) (i := (mxL ((((m_Game_open_bits p_self p_word)).map fun (x265 : (List Bool)) => (m_Game_need_at k9 p_self (p_word ++ x265))) : (List Int)))) hI ((by have h9 := r304; exact h9.1)) (by first | walk_at "ob" | (exact ⟨hp.1, by omega⟩) | (have h9 := open_mem (g := p_self) (w := p_word) ‹_ ∈ m_Game_open_bits _ _›; omega) | (have h9 := open_mem (g := p_self) (w := p_word) ‹_ ∈ m_Game_open_bits _ _›; rw [List.length_append]; omega) | (have h9 := open_mem (g := p_self) (w := p_word) ‹_ ∈ m_Game_open_bits _ _›; refine ⟨⟨hp.1, ?_, h9.2.2⟩, ?_⟩ <;> (rw [List.length_append]; omega)) | (exact ⟨hp.1.2.2.2.1, hp.1.2.1⟩) | (have h9 := living_mem (g := p_self) (w := p_word) ‹_ ∈ m_Game_living_at _ _›; omega) | (exact mem_wordsTo hp.2.1) | (have h9 := open_len p_self p_word; simp only [List.length_map]; omega) | (exact fun h9 => hp.2.2 (List.map_eq_nil_iff.mp h9)) | walk_at "ob1" | walk_at "ob2") hok301 fun H301 f301 hI301 has301 => ?_
            replace r_self := Mo.fr (Fr.mono f301 (fun b hb => (hW b hb))) r_self
            replace r_word := Mo.fr (Fr.mono f301 (fun b hb => (hW b hb))) r_word
            replace r_needs := Mo.fr (Fr.mono f301 (fun b hb => (hW b hb))) r_needs
            replace hT := hT.fr f301
            replace ea := ea.trans f301
            replace hI := hI301
            first | refine nx_ ?_ | skip
            refine ret_open ?_
            refine dget_open ?_
            refine x_run (K := K) (T := T) (fd_Game_known S (ev_var (i := 0) rfl r_self)) fun v306 H306 e306 r306 => ?_
            replace r_self := Mo.fr e306.fr r_self
            replace r_word := Mo.fr e306.fr r_word
            replace r_needs := Mo.fr e306.fr r_needs
            replace hT := hT.ex e306
            replace ea := ea.trans (Ex.fr e306)
            replace hI := Re.ex (re_memo) hI e306
            replace has301 := has301.ex e306
            cases r306
            refine x_run (K := K) (T := T) (ev_var (i := 1) rfl r_word) fun v307 H307 e307 r307 => ?_
            replace r_self := Mo.fr e307.fr r_self
            replace r_word := Mo.fr e307.fr r_word
            replace r_needs := Mo.fr e307.fr r_needs
            replace hT := hT.ex e307
            replace ea := ea.trans (Ex.fr e307)
            replace hI := Re.ex (re_memo) hI e307
            replace has301 := has301.ex e307
            refine get_v has301 ((by have h9 := r307; exact h9.1)) ?_
            exact hQ _ _ _ ea (Re.cut (re_memo) hI (by omega)) rfl hok301
      · skip
        first | refine nx_ ?_ | skip
        refine ret_open ?_
        refine dget_open ?_
        refine x_run (K := K) (T := T) (fd_Game_known S (ev_var (i := 0) rfl r_self)) fun v309 H309 e309 r309 => ?_
        replace r_self := Mo.fr e309.fr r_self
        replace r_word := Mo.fr e309.fr r_word
        replace hT := hT.ex e309
        replace ea := ea.trans (Ex.fr e309)
        replace hI := Re.ex (re_memo) hI e309
        replace has261 := has261.ex e309
        cases r309
        refine x_run (K := K) (T := T) (ev_var (i := 1) rfl r_word) fun v310 H310 e310 r310 => ?_
        replace r_self := Mo.fr e310.fr r_self
        replace r_word := Mo.fr e310.fr r_word
        replace hT := hT.ex e310
        replace ea := ea.trans (Ex.fr e310)
        replace hI := Re.ex (re_memo) hI e310
        replace has261 := has261.ex e310
        refine get_v has261 ((by have h9 := r310; exact h9.1)) ?_
        exact hQ _ _ _ ea (Re.cut (re_memo) hI (by omega)) rfl ok261

abbrev sp_Game_need (K : PySem.W.Frag) : Sp := NSp K (aC zGame aN) (fun (a : DGame × Unit) => W1 (a.1).2.2.2.1) (fun (a : DGame × Unit) => IGame a.1) (fun _ => 0) (fun (a : DGame × Unit) => (a.1.1 ≠ [] ∧ a.1.1.length ≤ 1000 ∧ a.1.2.1.length = a.1.1.length ∧ a.1.2.2.1.length = a.1.1.length ∧ (a.1.1.getD 0 []).length ≤ 10) ∧ m_Game_living_at a.1 [] ≠ []) zI (fun (a : DGame × Unit) (d : Int) => d = (m_Game_need_at ((a.1.1.getD 0 []).length + 1 - 0) a.1 []))
theorem ok_Game_need (S : Tx K mg) (G_Game_need_at : Ok P w K mg base 16 ("Game", some "need_at") ["self", "word"] ((sp_Game_need_at 12) K)) : Ok P w K mg base 17 ("Game", some "need") ["self"] (sp_Game_need K) := by
  obtain ⟨fd, D⟩ := d_Game_need S
  refine mk_ok D sc_Game_need (D.bindsN fun _ _ _ _ _ _ us hl => match us, hl with | [_], _ => rfl) (NSp_len len1) (fun cdv A outer s H vs Q E hr h => ?_)
  obtain ⟨T, ⟨p_self, _⟩, n, hT, hW, ⟨v_self, _, rfl, r_self, rfl⟩, hp, hI, hQ⟩ := h
  replace r_self : zGame K T H v_self p_self := r_self
  have hp : (p_self.1 ≠ [] ∧ p_self.1.length ≤ 1000 ∧ p_self.2.1.length = p_self.1.length ∧ p_self.2.2.1.length = p_self.1.length ∧ (p_self.1.getD 0 []).length ≤ 10) ∧ m_Game_living_at p_self [] ≠ [] := hp
  replace hI : IGame p_self (n + 0) H := hI
  have hW : ∀ b, W1 (p_self).2.2.2.1 b → T b := hW
  have hQ : ∀ v H' d, Fr (W1 (p_self).2.2.2.1) H H' → IGame p_self n H' → zI K T H' v d → (d = (m_Game_need_at ((p_self.1.getD 0 []).length + 1 - 0) p_self [])) → Q v H' := hQ
  refine ⟨_, (pss_one (ps_ret (ke_meth (K := K) (pv 0) (c_Game S) (mm_Game_need_at S) G_Game_need_at hr (by omega) (pa_cons pe_str pa_nil)))), ?_⟩
  · have ea := Fr.refl (T := W1 (p_self).2.2.2.1) H
    first | refine nx_ ?_ | skip
    refine ret_open ?_
    refine meth_open ?_
    refine x_run (K := K) (T := T) (ev_var (i := 0) rfl r_self) fun v312 H312 e312 r312 => ?_
    replace r_self := Mo.fr e312.fr r_self
    replace hT := hT.ex e312
    replace ea := ea.trans (Ex.fr e312)
    replace hI := Re.ex (re_memo) hI e312
    refine meth_v r312 (by decide) ?_
    refine cons_open ?_
    refine x_run (K := K) (T := T) (ev_word [] (by decide) (by decide)) fun v313 H313 e313 r313 => ?_
    replace r_self := Mo.fr e313.fr r_self
    replace r312 := Mo.fr e313.fr r312
    replace hT := hT.ex e313
    replace ea := ea.trans (Ex.fr e313)
    replace hI := Re.ex (re_memo) hI e313
    refine nil_open ?_
    refine ncallm_v (T := T) (b := (p_self, ([] : List Bool), ())) (n := n + 0) hT (fun b hb => (hW b hb)) ⟨_, _, rfl, r312, ⟨_, _, rfl, r313, rfl⟩⟩ (show ((p_self.1 ≠ [] ∧ p_self.1.length ≤ 1000 ∧ p_self.2.1.length = p_self.1.length ∧ p_self.2.2.1.length = p_self.1.length ∧ (p_self.1.getD 0 []).length ≤ 10) ∧ ([] : List Bool).length ≤ (p_self.1.getD 0 []).length ∧ m_Game_living_at p_self ([] : List Bool) ≠ []) ∧ ((p_self.1.getD 0 []).length + 1 - ([] : List Bool).length) < 12 from (by first | walk_at "ob" | (refine ⟨⟨hp.1, by simp, hp.2⟩, ?_⟩; simp only [List.length_nil]; omega) | walk_at "ob1" | walk_at "ob2")) (Re.cut (re_memo) hI (by omega)) fun v314 H314 d314 f314 hI314 r314 hp314 => ?_
    replace r314 : zI K T H314 v314 d314 := r314
    replace r_self := Mo.fr (Fr.mono f314 (fun b hb => (hW b hb))) r_self
    replace r312 := Mo.fr (Fr.mono f314 (fun b hb => (hW b hb))) r312
    replace r313 := Mo.fr (Fr.mono f314 (fun b hb => (hW b hb))) r313
    replace hT := hT.fr f314
    replace ea := ea.trans f314
    replace hI := hI314
    have hp314 : d314 = (m_Game_need_at ((p_self.1.getD 0 []).length + 1 - ([] : List Bool).length) p_self ([] : List Bool)) := hp314
    subst hp314
    exact hQ _ _ _ ea (Re.cut (re_memo) hI (by omega)) r314 (by first | walk_at "ob" | (refine ⟨⟨hp.1, by simp, hp.2⟩, ?_⟩; simp only [List.length_nil]; omega) | walk_at "ob1" | walk_at "ob2")

abbrev sp_Game_is_kept (K : PySem.W.Frag) : Sp := NSp K (aC zGame aN) (fun (a : DGame × Unit) => W1 (a.1).2.2.2.1) (fun (a : DGame × Unit) => IGame a.1) (fun _ => 0) (fun (a : DGame × Unit) => (a.1.1 ≠ [] ∧ a.1.1.length ≤ 1000 ∧ a.1.2.1.length = a.1.1.length ∧ a.1.2.2.1.length = a.1.1.length ∧ (a.1.1.getD 0 []).length ≤ 10) ∧ m_Game_living_at a.1 [] ≠ []) zB (fun (a : DGame × Unit) (d : Bool) => d = decide ((m_Game_need_at ((a.1.1.getD 0 []).length + 1 - 0) a.1 []) ≤ 0))
theorem ok_Game_is_kept (S : Tx K mg) (G_Game_need : Ok P w K mg base 17 ("Game", some "need") ["self"] (sp_Game_need K)) : Ok P w K mg base 18 ("Game", some "is_kept") ["self"] (sp_Game_is_kept K) := by
  obtain ⟨fd, D⟩ := d_Game_is_kept S
  refine mk_ok D sc_Game_is_kept (D.bindsN fun _ _ _ _ _ _ us hl => match us, hl with | [_], _ => rfl) (NSp_len len1) (fun cdv A outer s H vs Q E hr h => ?_)
  obtain ⟨T, ⟨p_self, _⟩, n, hT, hW, ⟨v_self, _, rfl, r_self, rfl⟩, hp, hI, hQ⟩ := h
  replace r_self : zGame K T H v_self p_self := r_self
  have hp : (p_self.1 ≠ [] ∧ p_self.1.length ≤ 1000 ∧ p_self.2.1.length = p_self.1.length ∧ p_self.2.2.1.length = p_self.1.length ∧ (p_self.1.getD 0 []).length ≤ 10) ∧ m_Game_living_at p_self [] ≠ [] := hp
  replace hI : IGame p_self (n + 0) H := hI
  have hW : ∀ b, W1 (p_self).2.2.2.1 b → T b := hW
  have hQ : ∀ v H' d, Fr (W1 (p_self).2.2.2.1) H H' → IGame p_self n H' → zB K T H' v d → (d = decide ((m_Game_need_at ((p_self.1.getD 0 []).length + 1 - 0) p_self []) ≤ 0)) → Q v H' := hQ
  refine ⟨_, (pss_one (ps_ret (pe_cmpR op_le (ke_meth0 (K := K) (pv 0) (c_Game S) (mm_Game_need S) G_Game_need hr (by omega)) pe_int (nomark _)))), ?_⟩
  · have ea := Fr.refl (T := W1 (p_self).2.2.2.1) H
    first | refine nx_ ?_ | skip
    refine ret_open ?_
    refine op_open ?_
    refine meth_open ?_
    refine x_run (K := K) (T := T) (ev_var (i := 0) rfl r_self) fun v316 H316 e316 r316 => ?_
    replace r_self := Mo.fr e316.fr r_self
    replace hT := hT.ex e316
    replace ea := ea.trans (Ex.fr e316)
    replace hI := Re.ex (re_memo) hI e316
    refine meth_v r316 (by decide) ?_
    refine nil_open ?_
    refine ncallm_v (T := T) (b := (p_self, ())) (n := n + 0) hT (fun b hb => (hW b hb)) ⟨_, _, rfl, r316, rfl⟩ (show (p_self.1 ≠ [] ∧ p_self.1.length ≤ 1000 ∧ p_self.2.1.length = p_self.1.length ∧ p_self.2.2.1.length = p_self.1.length ∧ (p_self.1.getD 0 []).length ≤ 10) ∧ m_Game_living_at p_self [] ≠ [] from (by first | walk_at "ob" | walk_at "ob1" | walk_at "ob2")) (Re.cut (re_memo) hI (by omega)) fun v317 H317 d317 f317 hI317 r317 hp317 => ?_
    replace r317 : zI K T H317 v317 d317 := r317
    replace r_self := Mo.fr (Fr.mono f317 (fun b hb => (hW b hb))) r_self
    replace r316 := Mo.fr (Fr.mono f317 (fun b hb => (hW b hb))) r316
    replace hT := hT.fr f317
    replace ea := ea.trans f317
    replace hI := hI317
    have hp317 : d317 = (m_Game_need_at ((p_self.1.getD 0 []).length + 1 - 0) p_self []) := hp317
    subst hp317
    refine x_run (K := K) (T := T) ev_int fun v318 H318 e318 r318 => ?_
    replace r_self := Mo.fr e318.fr r_self
    replace r316 := Mo.fr e318.fr r316
    replace r317 := Mo.fr e318.fr r317
    replace hT := hT.ex e318
    replace ea := ea.trans (Ex.fr e318)
    replace hI := Re.ex (re_memo) hI e318
    refine of_op ?_
    refine x_run (K := K) (T := T) (ev_le (ev_var (i := 0) rfl r317) (ev_var (i := 1) rfl r318)) fun v319 H319 e319 r319 => ?_
    replace r_self := Mo.fr e319.fr r_self
    replace r316 := Mo.fr e319.fr r316
    replace r317 := Mo.fr e319.fr r317
    replace r318 := Mo.fr e319.fr r318
    replace hT := hT.ex e319
    replace ea := ea.trans (Ex.fr e319)
    replace hI := Re.ex (re_memo) hI e319
    exact hQ _ _ _ ea (Re.cut (re_memo) hI (by omega)) r319 (by first | walk_at "ob" | walk_at "ob1" | walk_at "ob2")

abbrev sp__law_asked (K : PySem.W.Frag) : Sp := NSp K (aC zGame (aC zI aN)) (fun (a : DGame × Int × Unit) => W1 (a.1).2.2.2.1) (fun (a : DGame × Int × Unit) => IGame a.1) (fun _ => 0) (fun (a : DGame × Int × Unit) => ((a.1.1 ≠ [] ∧ a.1.1.length ≤ 1000 ∧ a.1.2.1.length = a.1.1.length ∧ a.1.2.2.1.length = a.1.1.length ∧ (a.1.1.getD 0 []).length ≤ 10) ∧ m_Game_living_at a.1 [] ≠ []) ∧ a.2.1 = (m_Game_need_at ((a.1.1.getD 0 []).length + 1 - 0) a.1 [])) zB (fun (a : DGame × Int × Unit) (d : Bool) => d = true)
theorem ok__law_asked (S : Tx K mg) (G_Game_is_kept : Ok P w K mg base 18 ("Game", some "is_kept") ["self"] (sp_Game_is_kept K)) (G_Game_need : Ok P w K mg base 17 ("Game", some "need") ["self"] (sp_Game_need K)) (G__law_integer : Ok P w K mg base 1 ("_law_integer", none) ["told", "due"] (sp__law_integer K)) : Ok P w K mg base 19 ("_law_asked", none) ["game", "need"] (sp__law_asked K) := by
  obtain ⟨fd, D⟩ := d__law_asked S
  refine mk_ok D sc__law_asked (D.bindsN fun _ _ _ _ _ _ us hl => match us, hl with | [_, _], _ => rfl) (NSp_len len2) (fun cdv A outer s H vs Q E hr h => ?_)
  obtain ⟨T, ⟨p_game, p_need, _⟩, n, hT, hW, ⟨v_game, _, rfl, r_game, v_need, _, rfl, r_need, rfl⟩, hp, hI, hQ⟩ := h
  replace r_game : zGame K T H v_game p_game := r_game
  replace r_need : zI K T H v_need p_need := r_need
  have hp : ((p_game.1 ≠ [] ∧ p_game.1.length ≤ 1000 ∧ p_game.2.1.length = p_game.1.length ∧ p_game.2.2.1.length = p_game.1.length ∧ (p_game.1.getD 0 []).length ≤ 10) ∧ m_Game_living_at p_game [] ≠ []) ∧ p_need = (m_Game_need_at ((p_game.1.getD 0 []).length + 1 - 0) p_game []) := hp
  replace hI : IGame p_game (n + 0) H := hI
  have hW : ∀ b, W1 (p_game).2.2.2.1 b → T b := hW
  have hQ : ∀ v H' d, Fr (W1 (p_game).2.2.2.1) H H' → IGame p_game n H' → zB K T H' v d → (d = true) → Q v H' := hQ
  refine ⟨_, (pss_cons (ps_if (pt_not (pt_val (pe_callG G__law_integer hr (by omega) (by rfl) (g__law_integer S) (pa_cons (ke_meth0 (K := K) (pv 0) (c_Game S) (mm_Game_need S) G_Game_need hr (by omega)) (pa_cons (pv 1) pa_nil))))) (pss_one (ps_ret pe_bl)) pss_nil) (pss_cons (ps_set (i := 2) sc__law_asked.nd rfl (.inl rfl) (ke_meth0 (K := K) (pv 0) (c_Game S) (mm_Game_is_kept S) G_Game_is_kept hr (by omega))) (pss_one (ps_ret (pe_ifExp (pt_cmpR op_le (pv 1) pe_int (nomark _)) (pe_cmpR op_isBl (pv 2) pe_bl (nomark _)) (pe_cmpR op_isBl (pv 2) pe_bl (nomark _))))))), ?_⟩
  · have ea := Fr.refl (T := W1 (p_game).2.2.2.1) H
    first | refine nx_ ?_ | skip
    refine ifs_open ?_
    refine not_open ?_
    refine tB_open ?_
    refine call_open ?_
    refine cons_open ?_
    refine meth_open ?_
    refine x_run (K := K) (T := T) (ev_var (i := 0) rfl r_game) fun v322 H322 e322 r322 => ?_
    replace r_game := Mo.fr e322.fr r_game
    replace r_need := Mo.fr e322.fr r_need
    replace hT := hT.ex e322
    replace ea := ea.trans (Ex.fr e322)
    replace hI := Re.ex (re_memo) hI e322
    refine meth_v r322 (by decide) ?_
    refine nil_open ?_
    refine ncallm_v (T := T) (b := (p_game, ())) (n := n + 0) hT (fun b hb => (hW b hb)) ⟨_, _, rfl, r322, rfl⟩ (show (p_game.1 ≠ [] ∧ p_game.1.length ≤ 1000 ∧ p_game.2.1.length = p_game.1.length ∧ p_game.2.2.1.length = p_game.1.length ∧ (p_game.1.getD 0 []).length ≤ 10) ∧ m_Game_living_at p_game [] ≠ [] from (by first | walk_at "ob" | (exact hp.1) | (simp_all; done) | walk_at "ob1" | walk_at "ob2")) (Re.cut (re_memo) hI (by omega)) fun v323 H323 d323 f323 hI323 r323 hp323 => ?_
    replace r323 : zI K T H323 v323 d323 := r323
    replace r_game := Mo.fr (Fr.mono f323 (fun b hb => (hW b hb))) r_game
    replace r_need := Mo.fr (Fr.mono f323 (fun b hb => (hW b hb))) r_need
    replace r322 := Mo.fr (Fr.mono f323 (fun b hb => (hW b hb))) r322
    replace hT := hT.fr f323
    replace ea := ea.trans f323
    replace hI := hI323
    have hp323 : d323 = (m_Game_need_at ((p_game.1.getD 0 []).length + 1 - 0) p_game []) := hp323
    subst hp323
    refine cons_open ?_
    refine x_run (K := K) (T := T) (ev_var (i := 1) rfl r_need) fun v324 H324 e324 r324 => ?_
    replace r_game := Mo.fr e324.fr r_game
    replace r_need := Mo.fr e324.fr r_need
    replace r322 := Mo.fr e324.fr r322
    replace r323 := Mo.fr e324.fr r323
    replace hT := hT.ex e324
    replace ea := ea.trans (Ex.fr e324)
    replace hI := Re.ex (re_memo) hI e324
    refine nil_open ?_
    refine call_v (T := T) (b := ((m_Game_need_at ((p_game.1.getD 0 []).length + 1 - 0) p_game []), p_need, ())) hT ⟨_, _, rfl, r323, ⟨_, _, rfl, r324, rfl⟩⟩ (by first | walk_at "ob" | (exact hp.1) | (simp_all; done) | walk_at "ob1" | walk_at "ob2") fun v325 H325 e325 r325 => ?_
    replace r_game := Mo.fr e325.fr r_game
    replace r_need := Mo.fr e325.fr r_need
    replace r322 := Mo.fr e325.fr r322
    replace r323 := Mo.fr e325.fr r323
    replace r324 := Mo.fr e325.fr r324
    replace hT := hT.ex e325
    replace ea := ea.trans (Ex.fr e325)
    replace hI := Re.ex (re_memo) hI e325
    replace r325 : zB K T H325 v325 (decide ((m_Game_need_at ((p_game.1.getD 0 []).length + 1 - 0) p_game []) = p_need)) := r325
    refine ⟨_, r325, ?_⟩
    refine iteB (fun h326 => ?_) (fun h326 => ?_)
    · have h326 : (!(decide ((m_Game_need_at ((p_game.1.getD 0 []).length + 1 - 0) p_game []) = p_need))) = true := h326
      first | refine nx_ ?_ | skip
      exact st_ret (K := K) (T := T) ev_bl fun v H9 e r => hQ v H9 _ (ea.trans (Ex.fr e)) (Re.cut (re_memo) (Re.ex (re_memo) hI e) (by omega)) r (by first | walk_at "ob" | (exact hp.1) | (simp_all; done) | walk_at "ob1" | walk_at "ob2")
    · have h326 : (!(decide ((m_Game_need_at ((p_game.1.getD 0 []).length + 1 - 0) p_game []) = p_need))) = false := h326
      first | refine nx_ ?_ | skip
      refine asg_open ?_
      refine meth_open ?_
      refine x_run (K := K) (T := T) (ev_var (i := 0) rfl r_game) fun v329 H329 e329 r329 => ?_
      replace r_game := Mo.fr e329.fr r_game
      replace r_need := Mo.fr e329.fr r_need
      replace hT := hT.ex e329
      replace ea := ea.trans (Ex.fr e329)
      replace hI := Re.ex (re_memo) hI e329
      refine meth_v r329 (by decide) ?_
      refine nil_open ?_
      refine ncallm_v (T := T) (b := (p_game, ())) (n := n + 0) hT (fun b hb => (hW b hb)) ⟨_, _, rfl, r329, rfl⟩ (show (p_game.1 ≠ [] ∧ p_game.1.length ≤ 1000 ∧ p_game.2.1.length = p_game.1.length ∧ p_game.2.2.1.length = p_game.1.length ∧ (p_game.1.getD 0 []).length ≤ 10) ∧ m_Game_living_at p_game [] ≠ [] from (by first | walk_at "ob" | (exact hp.1) | (simp_all; done) | walk_at "ob1" | walk_at "ob2")) (Re.cut (re_memo) hI (by omega)) fun v330 H330 d330 f330 hI330 r330 hp330 => ?_
      replace r330 : zB K T H330 v330 d330 := r330
      replace r_game := Mo.fr (Fr.mono f330 (fun b hb => (hW b hb))) r_game
      replace r_need := Mo.fr (Fr.mono f330 (fun b hb => (hW b hb))) r_need
      replace r329 := Mo.fr (Fr.mono f330 (fun b hb => (hW b hb))) r329
      replace hT := hT.fr f330
      replace ea := ea.trans f330
      replace hI := hI330
      have hp330 : d330 = (decide ((m_Game_need_at ((p_game.1.getD 0 []).length + 1 - 0) p_game []) ≤ 0)) := hp330
      subst hp330
      replace r_told := r330
      first | refine nx_ ?_ | skip
      exact st_ret (K := K) (T := T) (ev_ite (et_test (ev_le (ev_var (i := 1) rfl r_need) ev_int)) (fun hc332 => (ev_isB (ev_var (i := 2) rfl r_told) ev_bl)) (fun hc332 => (ev_isB (ev_var (i := 2) rfl r_told) ev_bl))) fun v H9 e r => hQ v H9 _ (ea.trans (Ex.fr e)) (Re.cut (re_memo) (Re.ex (re_memo) hI e) (by omega)) r (by first | walk_at "ob" | (exact hp.1) | (simp_all; done) | walk_at "ob1" | walk_at "ob2")

end
end EB

set_option Elab.async false
set_option linter.all false
set_option maxRecDepth 100000
set_option maxHeartbeats 4000000

namespace EB
open PySem PySem.Spec PyProof.Rows L2
local macro_rules | `(tactic| walk_at "ob") => `(tactic| first | exact trivial | omega | assumption | exact len_sign ‹_›)
local macro_rules | `(tactic| walk_at "ob1") => `(tactic| first | (have := mem_enL ‹_ ∈ enL _›; omega) | (simp only [List.length_append, List.length_cons, List.length_nil, enL_len, rng_len] at *; omega))
local macro_rules | `(tactic| walk_at "ob2") => `(tactic| (simp_all; done))
local macro_rules | `(tactic| walk_at "inv") => `(tactic| first | exact trivial | (simp only [List.length_append, List.length_cons, List.length_nil, Nat.mul_zero, Nat.add_zero]; omega) | omega | (simp only [List.length_append, List.length_cons, List.length_nil] at *; omega))
local macro_rules | `(tactic| walk_at "fin") => `(tactic| first | (simp; done) | (simp_all [List.all_eq_true]; done))

section
variable {P : Program} {w : World} {K : PySem.W.Frag} {mg : Str → Option Value} {base : Heap}


def flipsOf (o : Option (List Int)) (n : Nat) : List Int := match o with
  | none => List.replicate n 0
  | some f => f
abbrev sp_Game___init__ (K : PySem.W.Frag) : Sp := ISp K "Game" ["rows", "budgets", "flips", "known"] (aC (zQ zW) (aC (zQ zI) (aC (zO (zQ zI)) aN)))
  (fun (a : List (List Bool) × List Int × Option (List Int) × Unit) => ((a.1 ≠ [] ∧ ∀ x ∈ a.1, x.length = (a.1.getD 0 []).length) ∧ (∀ x ∈ a.2.1, (0 : Int) ≤ x) ∧ a.2.1.length = a.1.length) ∧ a.1.length ≤ 1000)
  (aC (zU zW) (aC (zU zI) (aC (zU zI) (aC zA aN)))) (fun (a : List (List Bool) × List Int × Option (List Int) × Unit) kk => (a.1, a.2.1, flipsOf a.2.2.1 a.1.length, kk, ()))
theorem ISp_len {K : PySem.W.Frag} {α β : Type} {Cn : Str} {fs : List Str} {ra : Rpl α} {pre : α → Prop} {rf : Rpl β} {Fd : α → Addr → β} {n : Nat} (h : ∀ K T H vs a, ra K T H vs a → vs.length = n) : ∀ vs H Q E, ISp K Cn fs ra pre rf Fd vs H Q E → vs.length = n + 1 :=
  fun vs H Q E ⟨T, a, x, dx, ws, _, _, e, _, hr, _⟩ => by rw [e, List.length_cons, h _ _ _ _ _ hr]
theorem rep_flat (n : Nat) : (List.replicate n ([0] : List Int)).flatten = List.replicate n 0 := by
  induction n with
  | zero => rfl
  | succ n ih => rw [List.replicate_succ, List.flatten_cons, ih, List.replicate_succ]; rfl
theorem flips_ev {K : PySem.W.Frag} {T : AS} {σ : L2.St} {H : Hp} {fo : Option (List Int)} {rs : List (List Bool)} {v_rows v_flips : V} (h1 : σ[1]? = some (some v_rows)) (h3 : σ[3]? = some (some v_flips)) (hT : TD T H) (r_rows : zQ zW K T H v_rows rs) (r_flips : zO (zQ zI) K T H v_flips fo) (hl : 1 ≤ rs.length) (hl2 : rs.length ≤ 1000) :
    Ev K T (tIf (tTest (tOp rIsN (tVar 3) (tC .non))) (tOp (rRepC K) (tTup (tCons (tC (.int 0)) tNil)) (tCB (rLenQ K) (tCons (tVar 1) tNil))) (tCB (rTupleQ K) (tCons (tVar 3) tNil))) σ H (zU zI) (flipsOf fo rs.length) := by
  cases fo with
  | none =>
    refine ev_if (et_test (ev_isNO (ev_var (i := 3) h3 r_flips))) (fun h => ?_) (fun h => by cases h)
    show Ev K T _ _ H (zU zI) (List.replicate rs.length 0)
    rw [← rep_flat]
    exact ev_repU (k := (rs.length : Int)) hT (ev_tupU (r := zI) (xs := [0]) hT (eh_cons ev_int eh_nil) (by decide)) (ev_lenQ (ev_var (i := 1) h1 r_rows)) (by decide) (by omega) (by omega) (by decide)
  | some f =>
    refine ev_if (et_test (ev_isNO (ev_var (i := 3) h3 r_flips))) (fun h => by cases h) (fun h => ?_)
    exact ev_tupQ hT (ev_O (ev_var (i := 3) h3 r_flips))
theorem putF_le {f : Str} {v : V} : ∀ {fs : List (Str × V)} {k : Nat}, fs.length ≤ k → (putF f v fs).length ≤ k + 1
  | [], k, _ => by simp [putF]
  | (g, x) :: r, k, h => by
    unfold putF
    split
    · simp only [List.length_cons] at h ⊢; omega
    · simp only [List.length_cons] at h ⊢
      have := putF_le (f := f) (v := v) (fs := r) (k := k - 1) (by omega)
      omega
theorem ok_Game___init__ (S : Tx K mg) (G_check_rows : Ok P w K mg base 4 ("check_rows", none) ["rows", "budgets"] (sp_check_rows K)) :
    OkD P w K mg base 5 ("Game", some "__init__") ["self", "rows", "budgets", "flips"] (sp_Game___init__ K) "__init__" "Game.__init__" (defArgs s_Game___init__) (defBody s_Game___init__) (defScope s_Game___init__) [] [("flips", V.non)] := by
  obtain ⟨fd, D⟩ := d_Game___init__ S
  refine mk_okD D sc_Game___init__ (ISp_len len3) (fun cdv A outer s H vs Q E hr h => ?_)
  obtain ⟨T, ⟨rs, bs, fo, _⟩, x, dx, ws, hT, nx, rfl, hx, ⟨v_rows, _, rfl, r_rows, v_budgets, _, rfl, r_budgets, v_flips, _, rfl, r_flips, rfl⟩, hp, hQ⟩ := h
  replace r_rows : zQ zW K (Tp T x) H v_rows rs := r_rows
  replace r_budgets : zQ zI K (Tp T x) H v_budgets bs := r_budgets
  replace r_flips : zO (zQ zI) K (Tp T x) H v_flips fo := r_flips
  have hp : ((rs ≠ [] ∧ ∀ x ∈ rs, x.length = (rs.getD 0 []).length) ∧ (∀ x ∈ bs, (0 : Int) ≤ x) ∧ bs.length = rs.length) ∧ rs.length ≤ 1000 := hp
  refine ⟨_, (pss_cons (ps_expr (pe_callG G_check_rows hr (by omega) (by rfl) (g_check_rows S) (pa_cons (pv 1) (pa_cons (pv 2) pa_nil)))) (pss_cons (ps_fld (pv 0) (pe_callTy (kc_tuple (K := K)) (by rfl) (m_tuple S) bt_tuple (pa_cons (pv 1) pa_nil)) (by rfl)) (pss_cons (ps_fld (pv 0) (pe_callTy (kc_tuple (K := K)) (by rfl) (m_tuple S) bt_tuple (pa_cons (pv 2) pa_nil)) (by rfl))
    (pss_cons (ps_fld (pv 0) (pe_ifExp (pt_cmpR op_isN1 (pv 3) pe_non (nomark _)) (pe_op (op_repC (K := K)) (pe_tup (pa_cons pe_int pa_nil)) (pe_callB (kc_len (K := K)) (by rfl) (m_len S) bt_len (pa_cons (pv 1) pa_nil))) (pe_callTy (kc_tuple (K := K)) (by rfl) (m_tuple S) bt_tuple (pa_cons (pv 3) pa_nil))) (by rfl)) (pss_one (ps_fld (pv 0) pe_dnewK (by rfl))))))), ?_⟩
  refine drop_open (x_run (K := K) (T := Tp T x) (ev_call hT (ea_cons (ev_var (i := 1) rfl r_rows) (ea_cons (ev_var (i := 2) rfl r_budgets) ea_nil)) hp.1) fun v1 H1 e1 r1 => ?_)
  replace r_rows := Mo.fr e1.fr r_rows
  replace r_budgets := Mo.fr e1.fr r_budgets
  replace r_flips := Mo.fr e1.fr r_flips
  replace hT := hT.ex e1
  have hx := e1 _ _ hx
  have mx : ∀ b, b = x → Tp T x b := fun b hb => .inr hb
  refine st_fld (K := K) (T := Tp T x) (i := 0) (ev_tupQ hT (ev_var (i := 1) rfl r_rows)) rfl hx (c_Game S) (na_Game_rows S) (by decide) fun y2 H2a H2 e2 q_rows f2 hx => ?_
  have F2 := (e2.fr (T := Tp T x)).trans (f2.mono mx)
  have q_rows := Mo.fr (f2.mono mx) q_rows
  replace r_rows := Mo.fr F2 r_rows
  replace r_budgets := Mo.fr F2 r_budgets
  replace r_flips := Mo.fr F2 r_flips
  replace hT := hT.fr F2
  refine st_fld (K := K) (T := Tp T x) (i := 0) (ev_tupQ hT (ev_var (i := 2) rfl r_budgets)) rfl hx (c_Game S) (na_Game_budgets S) (Nat.lt_of_le_of_lt (putF_le (Nat.zero_le 0)) (show 1 < 1000 by decide)) fun y3 H3a H3 e3 q_budgets f3 hx => ?_
  have F3 := (e3.fr (T := Tp T x)).trans (f3.mono mx)
  have q_budgets := Mo.fr (f3.mono mx) q_budgets
  have q_rows := Mo.fr F3 q_rows
  replace r_rows := Mo.fr F3 r_rows
  replace r_flips := Mo.fr F3 r_flips
  replace hT := hT.fr F3
  have hl := List.length_pos_iff.mpr hp.1.1.1
  have hfl := flips_ev (K := K) (T := Tp T x) (σ := start ["self", "rows", "budgets", "flips"] [.ref x, v_rows, v_budgets, v_flips]) (rs := rs) rfl rfl hT r_rows r_flips (by omega) (by omega)
  refine st_fld (K := K) (T := Tp T x) (i := 0) hfl rfl hx (c_Game S) (na_Game_flips S) (Nat.lt_of_le_of_lt (putF_le (putF_le (Nat.zero_le 0))) (show 2 < 1000 by decide)) fun y4 H4a H4 e4 q_flips f4 hx => ?_
  have F4 := (e4.fr (T := Tp T x)).trans (f4.mono mx)
  have q_flips := Mo.fr (f4.mono mx) q_flips
  have q_rows := Mo.fr F4 q_rows
  have q_budgets := Mo.fr F4 q_budgets
  replace hT := hT.fr F4
  refine st_fldD (i := 0) rfl hx (c_Game S) (na_Game_known S) (Nat.lt_of_le_of_lt (putF_le (putF_le (putF_le (Nat.zero_le 0)))) (show 3 < 1000 by decide)) fun kk H5a H5 hk ev5 f5 hx => ?_
  subst ev5
  have hkx : kk ≠ x := fun z => hT.new hk (.inr z)
  have F5 : Fr (Tp (Tp T x) kk) H4 H5 := (Ex.new hk).fr.trans (f5.mono fun b hb => .inl (.inr hb))
  have q_rows := Mo.fr F5 (Mo.lift hk q_rows)
  have q_budgets := Mo.fr F5 (Mo.lift hk q_budgets)
  have q_flips := Mo.fr F5 (Mo.lift hk q_flips)
  have fx : Fr (fun b => b = x) H H5 := (((((e1.fr.trans e2.fr).trans f2).trans (e3.fr.trans f3)).trans (e4.fr.trans f4)).trans (Ex.new hk).fr).trans f5
  have hk0 : H kk = none := ((((((e1.fr (T := fun b => b = x)).trans e2.fr).trans f2).trans (e3.fr.trans f3)).trans (e4.fr.trans f4))).back hk
  refine hQ H5 kk [y2, y3, y4, .ref kk] fx hk0 (f5.keep _ _ (fun z => hkx z) upd_same) hx ⟨y2, _, rfl, q_rows, y3, _, rfl, q_budgets, y4, _, rfl, q_flips, .ref kk, _, rfl, rfl, rfl⟩

theorem ok__law_tape (S : Tx K mg) : Ok P w K mg base 1 ("_law_tape", none) ["script"] (TSp K) := by
  obtain ⟨fd, D⟩ := d__law_tape S
  refine mk_ok D sc__law_tape (D.bindsN fun _ _ _ _ _ _ us hl => match us, hl with | [_], _ => rfl) (fun vs H Q E h => by obtain ⟨T, v, ns, _, e, _⟩ := h; rw [e]; rfl) (fun cdv A outer s H vs Q E hr h => ?_)
  obtain ⟨T, v_script, p_script, hT, rfl, r_script, hp, hQ⟩ := h
  refine ⟨_, (pss_cons (ps_set (i := 1) sc__law_tape.nd rfl (.inl rfl) (pe_lst pa_nil)) (pss_cons (ps_set (i := 2) sc__law_tape.nd rfl (.inl rfl) pe_int) (pss_cons (ps_for PassesOwn.never rfl (kp_list (K := K) (pe_slice (ks_list (K := K)) (pv 0) po_none (po_some pe_int))) (pg_name (i := 3) sc__law_tape.nd rfl (.inl rfl)) (pss_cons (ps_set (i := 2) sc__law_tape.nd rfl (.inl rfl) (pe_op op_mod (pe_callTy call_int1Q (by rfl) (m_int S) bt_int (pa_cons (pe_op op_add (pe_op op_mul (pv 2) pe_int) (pe_callTy call_int1Q (by rfl) (m_int S) bt_int (pa_cons (pv 3) pa_nil))) pa_nil)) pe_int)) (pss_one (ps_if (pt_cmpR op_ge (pe_callB call_absQ (by rfl) (m_abs S) bt_abs (pa_cons (pe_callTy call_int1Q (by rfl) (m_int S) bt_int (pa_cons (pv 3) pa_nil)) pa_nil)) (pe_op op_pow pe_int pe_int) (nomark _)) (pss_one (ps_expr (pe_bm PySem.F.plainAttrs_list PySem.F.slot_list_append PySem.F.type_list_append mt_append (pv 1) (pa_cons (pe_callB call_absQ (by rfl) (m_abs S) bt_abs (pa_cons (pe_callTy call_int1Q (by rfl) (m_int S) bt_int (pa_cons (pv 3) pa_nil)) pa_nil)) pa_nil)))) pss_nil)))) (pss_cons (ps_expr (pe_bm0 PySem.F.plainAttrs_list PySem.F.slot_list_reverse PySem.F.type_list_reverse mt_reverse (pv 1))) (pss_one (ps_ret (pe_lst (pa_cons (pv 1) (pa_cons (pv 2) (pa_cons pe_int pa_nil)))))))))), ?_⟩
  · have ea := Ex.refl H
    first | refine nx_ ?_ | skip
    refine asg_open ?_
    refine f_run (K := K) (T := T) (ef_lst (r := zI) (xs := []) eh_nil (by simp)) fun p333 H333a H333 e333 n333 f333 en333 m_great => ?_
    replace r_script := Mo.fr e333.fr r_script
    replace hT := hT.ex e333
    replace ea := ea.trans e333
    have hn_p333 : ¬ T p333 := fun z => (hT.new n333) z
    replace r_script := Mo.fr en333.fr (Mo.lift n333 r_script)
    replace hT := hT.of_mem (S := T0) en333.fr m_great.dom
    have h0_p333 := ea.back n333
    replace ea := ea.trans en333
    first | refine nx_ ?_ | skip
    refine st_asg (K := K) (T := (Tp T p333)) ev_int fun v334 H334 e334 rr334 => ?_
    replace r_script := Mo.fr e334.fr r_script
    replace m_great := m_great.ex' e334
    replace hT := hT.ex e334
    replace ea := ea.trans e334
    replace r_seed := rr334
    first | refine nx_ ?_ | skip
    refine st_for (K := K) (T := (Tp T p333)) hT (ei_list (ev_slL hT (ev_var (i := 0) rfl r_script) eo_none (eo_some (K := K) ev_int))) fun H335 e335 => ?_
    replace r_script := Mo.fr e335.fr r_script
    replace r_seed := Mo.fr e335.fr r_seed
    replace m_great := m_great.ex' e335
    replace hT := hT.ex e335
    replace ea := ea.trans e335
    obtain ⟨Pv335, hPv335⟩ : ∃ Pv : Nat → L2.St → Hp → Prop, ∀ i σ' H', Pv i σ' H' ↔ (∃ (si : Int × (List Int)), ((∀ g ∈ si.2, 0 ≤ g) ∧ (si.2).length ≤ i) ∧ Fr (Tp T0 p333) H335 H' ∧ ∃ (w_seed : V) (y_cell : Option V), σ' = [some v_script, some (.ref p333), some w_seed, y_cell] ∧ HM zI K (Tp T p333) H' p333 si.2 ∧ zI K (Tp T p333) H' w_seed si.1) := ⟨_, fun _ _ _ => Iff.rfl⟩
    refine ⟨Pv335, (hPv335 _ _ _).mpr ⟨((113 : Int), ([] : (List Int))), (by first | walk_at "inv" | walk_at "ob" | (exact Or.inr ⟨by decide, by decide⟩) | (exact ⟨by decide, by decide, by decide⟩) | (exact Nat.le_trans (cutA_len _ _ _) hp) | (exact ⟨fun g hg => by cases hg, Nat.zero_le _⟩) | (refine ⟨fun g hg => ?_, by (simp only [List.length_append, List.length_cons, List.length_nil]; omega)⟩; (rcases List.mem_append.mp hg with hg | hg); exact hinv.1 g hg; (simp only [List.mem_singleton] at hg; subst hg; exact ab_nn _)) | (exact ⟨hinv.1, by omega⟩) | (exact fun g hg => hinv.1 g (List.mem_reverse.mp hg)) | (have h9 := hinv.2; have h8 := cutA_len p_script none (some 63); omega) | (rw [List.length_reverse]; have h9 := hinv.2; have h8 := cutA_len p_script none (some 63); omega) | (dsimp only; first | walk_at "inv" | walk_at "ob" | (exact Or.inr ⟨by decide, by decide⟩) | (exact ⟨by decide, by decide, by decide⟩) | (exact Nat.le_trans (cutA_len _ _ _) hp) | (exact ⟨fun g hg => by cases hg, Nat.zero_le _⟩) | (refine ⟨fun g hg => ?_, by (simp only [List.length_append, List.length_cons, List.length_nil]; omega)⟩; (rcases List.mem_append.mp hg with hg | hg); exact hinv.1 g hg; (simp only [List.mem_singleton] at hg; subst hg; exact ab_nn _)) | (exact ⟨hinv.1, by omega⟩) | (exact fun g hg => hinv.1 g (List.mem_reverse.mp hg)) | (have h9 := hinv.2; have h8 := cutA_len p_script none (some 63); omega) | (rw [List.length_reverse]; have h9 := hinv.2; have h8 := cutA_len p_script none (some 63); omega)) | walk_at "ob1" | walk_at "ob2"), Fr.refl _, _, _, rfl, m_great, r_seed⟩, fun i σ' H' _ h => ?_, ?_, ?_⟩
    · obtain ⟨si, _, hF, _⟩ := (hPv335 _ _ _).mp h
      exact hF.mono (fun b hb => hb.elim (fun z => .inl (z.elim)) .inr)
    · intro i x335 σ' H'335 v335 H''335 hx335 hh eY rv335
      obtain ⟨si335, hinv335, hF335, w_seed, y_cell, rfl, m'_great, r'_seed⟩ := (hPv335 _ _ _).mp hh
      have hinv335 : (∀ g ∈ si335.2, 0 ≤ g) ∧ (si335.2).length ≤ i := hinv335
      have hinv := hinv335
      have hmem335 := List.mem_of_getElem? hx335
      have hi335 := (List.getElem?_eq_some_iff.mp hx335).1
      replace r_script := Mo.fr ((hF335.mono (fun b hb => hb.elim (fun z => .inl (z.elim)) .inr)).trans eY.fr) r_script
      replace r_seed := Mo.fr eY.fr r'_seed
      replace m_great := m'_great.ex' eY
      replace hT := (hT.fr hF335).ex eY
      replace ea := (ea.thenFr hF335 (fun b hb => hb.elim (fun z => z.elim) (fun z => by subst z; exact h0_p333))).trans eY
      replace eb335 := hF335.trans (Ex.fr (T := (Tp T0 p333)) eY)
      refine gn ?_
      replace r_cell := rv335
      first | refine nx_ ?_ | skip
      refine st_asg (K := K) (T := (Tp T p333)) (ev_mod (ev_intI (ev_add (ev_mul (ev_var (i := 2) rfl r_seed) ev_int (by first | walk_at "ob" | (exact Or.inr ⟨by decide, by decide⟩) | (exact ⟨by decide, by decide, by decide⟩) | (exact Nat.le_trans (cutA_len _ _ _) hp) | (exact ⟨fun g hg => by cases hg, Nat.zero_le _⟩) | (refine ⟨fun g hg => ?_, by (simp only [List.length_append, List.length_cons, List.length_nil]; omega)⟩; (rcases List.mem_append.mp hg with hg | hg); exact hinv.1 g hg; (simp only [List.mem_singleton] at hg; subst hg; exact ab_nn _)) | (exact ⟨hinv.1, by omega⟩) | (exact fun g hg => hinv.1 g (List.mem_reverse.mp hg)) | (have h9 := hinv.2; have h8 := cutA_len p_script none (some 63); omega) | (rw [List.length_reverse]; have h9 := hinv.2; have h8 := cutA_len p_script none (some 63); omega) | walk_at "ob1" | walk_at "ob2")) (ev_intI (ev_var (i := 3) rfl r_cell)))) ev_int (by first | walk_at "ob" | (exact Or.inr ⟨by decide, by decide⟩) | (exact ⟨by decide, by decide, by decide⟩) | (exact Nat.le_trans (cutA_len _ _ _) hp) | (exact ⟨fun g hg => by cases hg, Nat.zero_le _⟩) | (refine ⟨fun g hg => ?_, by (simp only [List.length_append, List.length_cons, List.length_nil]; omega)⟩; (rcases List.mem_append.mp hg with hg | hg); exact hinv.1 g hg; (simp only [List.mem_singleton] at hg; subst hg; exact ab_nn _)) | (exact ⟨hinv.1, by omega⟩) | (exact fun g hg => hinv.1 g (List.mem_reverse.mp hg)) | (have h9 := hinv.2; have h8 := cutA_len p_script none (some 63); omega) | (rw [List.length_reverse]; have h9 := hinv.2; have h8 := cutA_len p_script none (some 63); omega) | walk_at "ob1" | walk_at "ob2")) fun v336 H336 e336 rr336 => ?_
      replace r_script := Mo.fr e336.fr r_script
      replace r_cell := Mo.fr e336.fr r_cell
      replace m_great := m_great.ex' e336
      replace hT := hT.ex e336
      replace ea := ea.trans e336
      replace eb335 := eb335.trans e336.fr
      replace r_seed := rr336
      first | refine nx_ ?_ | skip
      refine st_if (T := (Tp T p333)) (et_test (ev_ge (ev_abs (ev_intI (ev_var (i := 3) rfl r_cell))) (ev_pow ev_int ev_int (by first | walk_at "ob" | (exact Or.inr ⟨by decide, by decide⟩) | (exact ⟨by decide, by decide, by decide⟩) | (exact Nat.le_trans (cutA_len _ _ _) hp) | (exact ⟨fun g hg => by cases hg, Nat.zero_le _⟩) | (refine ⟨fun g hg => ?_, by (simp only [List.length_append, List.length_cons, List.length_nil]; omega)⟩; (rcases List.mem_append.mp hg with hg | hg); exact hinv.1 g hg; (simp only [List.mem_singleton] at hg; subst hg; exact ab_nn _)) | (exact ⟨hinv.1, by omega⟩) | (exact fun g hg => hinv.1 g (List.mem_reverse.mp hg)) | (have h9 := hinv.2; have h8 := cutA_len p_script none (some 63); omega) | (rw [List.length_reverse]; have h9 := hinv.2; have h8 := cutA_len p_script none (some 63); omega) | walk_at "ob1" | walk_at "ob2")))) (fun h337 H337 e337 => ?_) (fun h337 H337 e337 => ?_)
      · have h337 : (decide (((10 : Int) ^ ((18 : Int)).toNat) ≤ (ab x335))) = true := h337
        replace r_script := Mo.fr e337.fr r_script
        replace r_cell := Mo.fr e337.fr r_cell
        replace r_seed := Mo.fr e337.fr r_seed
        replace m_great := m_great.ex' e337
        replace hT := hT.ex e337
        replace ea := ea.trans e337
        replace eb335 := eb335.trans e337.fr
        first | refine nx_ ?_ | skip
        refine st_append (K := K) (T := (Tp T p333)) (S := fun _ => False) rfl m_great (ev_abs (ev_intI (ev_var (i := 3) rfl r_cell))) (by first | walk_at "ob" | (exact Or.inr ⟨by decide, by decide⟩) | (exact ⟨by decide, by decide, by decide⟩) | (exact Nat.le_trans (cutA_len _ _ _) hp) | (exact ⟨fun g hg => by cases hg, Nat.zero_le _⟩) | (refine ⟨fun g hg => ?_, by (simp only [List.length_append, List.length_cons, List.length_nil]; omega)⟩; (rcases List.mem_append.mp hg with hg | hg); exact hinv.1 g hg; (simp only [List.mem_singleton] at hg; subst hg; exact ab_nn _)) | (exact ⟨hinv.1, by omega⟩) | (exact fun g hg => hinv.1 g (List.mem_reverse.mp hg)) | (have h9 := hinv.2; have h8 := cutA_len p_script none (some 63); omega) | (rw [List.length_reverse]; have h9 := hinv.2; have h8 := cutA_len p_script none (some 63); omega) | walk_at "ob1" | walk_at "ob2") fun H338a H338 v338 ev338 e338 f338 fT338 m338 => ?_
        have hpm338 := m_great.mem
        have fp338 : Fr (fun b => b = p333) H338a H338 := f338.mono (fun b hb => hb.elim False.elim id)
        replace r_script := Mo.fr (e338.fr.trans fT338) r_script
        replace r_cell := Mo.fr (e338.fr.trans fT338) r_cell
        replace r_seed := Mo.fr (e338.fr.trans fT338) r_seed
        replace hT := (hT.ex e338).fr fT338
        replace ea := (ea.trans e338).thenFr fp338 (fun b hb => by subst hb; exact h0_p333)
        replace eb335 := (eb335.trans e338.fr).thenFr fp338 (fun b hb => by subst hb; exact .inl (.inr rfl))
        replace m_great := m338
        exact (hPv335 _ _ _).mpr ⟨((((si335.1 * (48271 : Int)) + x335) % (2147483647 : Int)), (si335.2 ++ [(ab x335)])), (by first | walk_at "inv" | walk_at "ob" | (exact Or.inr ⟨by decide, by decide⟩) | (exact ⟨by decide, by decide, by decide⟩) | (exact Nat.le_trans (cutA_len _ _ _) hp) | (exact ⟨fun g hg => by cases hg, Nat.zero_le _⟩) | (refine ⟨fun g hg => ?_, by (simp only [List.length_append, List.length_cons, List.length_nil]; omega)⟩; (rcases List.mem_append.mp hg with hg | hg); exact hinv.1 g hg; (simp only [List.mem_singleton] at hg; subst hg; exact ab_nn _)) | (exact ⟨hinv.1, by omega⟩) | (exact fun g hg => hinv.1 g (List.mem_reverse.mp hg)) | (have h9 := hinv.2; have h8 := cutA_len p_script none (some 63); omega) | (rw [List.length_reverse]; have h9 := hinv.2; have h8 := cutA_len p_script none (some 63); omega) | (dsimp only; first | walk_at "inv" | walk_at "ob" | (exact Or.inr ⟨by decide, by decide⟩) | (exact ⟨by decide, by decide, by decide⟩) | (exact Nat.le_trans (cutA_len _ _ _) hp) | (exact ⟨fun g hg => by cases hg, Nat.zero_le _⟩) | (refine ⟨fun g hg => ?_, by (simp only [List.length_append, List.length_cons, List.length_nil]; omega)⟩; (rcases List.mem_append.mp hg with hg | hg); exact hinv.1 g hg; (simp only [List.mem_singleton] at hg; subst hg; exact ab_nn _)) | (exact ⟨hinv.1, by omega⟩) | (exact fun g hg => hinv.1 g (List.mem_reverse.mp hg)) | (have h9 := hinv.2; have h8 := cutA_len p_script none (some 63); omega) | (rw [List.length_reverse]; have h9 := hinv.2; have h8 := cutA_len p_script none (some 63); omega)) | walk_at "ob1" | walk_at "ob2"), eb335, _, _, rfl, m_great, r_seed⟩
      · have h337 : (decide (((10 : Int) ^ ((18 : Int)).toNat) ≤ (ab x335))) = false := h337
        replace r_script := Mo.fr e337.fr r_script
        replace r_cell := Mo.fr e337.fr r_cell
        replace r_seed := Mo.fr e337.fr r_seed
        replace m_great := m_great.ex' e337
        replace hT := hT.ex e337
        replace ea := ea.trans e337
        replace eb335 := eb335.trans e337.fr
        exact (hPv335 _ _ _).mpr ⟨((((si335.1 * (48271 : Int)) + x335) % (2147483647 : Int)), si335.2), (by first | walk_at "inv" | walk_at "ob" | (exact Or.inr ⟨by decide, by decide⟩) | (exact ⟨by decide, by decide, by decide⟩) | (exact Nat.le_trans (cutA_len _ _ _) hp) | (exact ⟨fun g hg => by cases hg, Nat.zero_le _⟩) | (refine ⟨fun g hg => ?_, by (simp only [List.length_append, List.length_cons, List.length_nil]; omega)⟩; (rcases List.mem_append.mp hg with hg | hg); exact hinv.1 g hg; (simp only [List.mem_singleton] at hg; subst hg; exact ab_nn _)) | (exact ⟨hinv.1, by omega⟩) | (exact fun g hg => hinv.1 g (List.mem_reverse.mp hg)) | (have h9 := hinv.2; have h8 := cutA_len p_script none (some 63); omega) | (rw [List.length_reverse]; have h9 := hinv.2; have h8 := cutA_len p_script none (some 63); omega) | (dsimp only; first | walk_at "inv" | walk_at "ob" | (exact Or.inr ⟨by decide, by decide⟩) | (exact ⟨by decide, by decide, by decide⟩) | (exact Nat.le_trans (cutA_len _ _ _) hp) | (exact ⟨fun g hg => by cases hg, Nat.zero_le _⟩) | (refine ⟨fun g hg => ?_, by (simp only [List.length_append, List.length_cons, List.length_nil]; omega)⟩; (rcases List.mem_append.mp hg with hg | hg); exact hinv.1 g hg; (simp only [List.mem_singleton] at hg; subst hg; exact ab_nn _)) | (exact ⟨hinv.1, by omega⟩) | (exact fun g hg => hinv.1 g (List.mem_reverse.mp hg)) | (have h9 := hinv.2; have h8 := cutA_len p_script none (some 63); omega) | (rw [List.length_reverse]; have h9 := hinv.2; have h8 := cutA_len p_script none (some 63); omega)) | walk_at "ob1" | walk_at "ob2"), eb335, _, _, rfl, m_great, r_seed⟩
    · intro σ' H'335 hh
      obtain ⟨si335, hinv335, hF335, w_seed, y_cell, rfl, m'_great, r'_seed⟩ := (hPv335 _ _ _).mp hh
      have hinv335 : (∀ g ∈ si335.2, 0 ≤ g) ∧ (si335.2).length ≤ ((cutA p_script none (some (63 : Int)))).length := hinv335
      have hinv := hinv335
      replace r_script := Mo.fr (hF335.mono (fun b hb => hb.elim (fun z => .inl (z.elim)) .inr)) r_script
      replace r_seed := r'_seed
      replace m_great := m'_great
      replace hT := hT.fr hF335
      replace ea := ea.thenFr hF335 (fun b hb => hb.elim (fun z => z.elim) (fun z => by subst z; exact h0_p333))
      first | refine nx_ ?_ | skip
      refine st_reverse (K := K) (T := (Tp T p333)) (S := fun _ => False) rfl m_great fun H339 v339 ev339 f339 fT339 m339 => ?_
      have hpm339 := m_great.mem
      have fp339 : Fr (fun b => b = p333) _ H339 := f339.mono (fun b hb => hb.elim False.elim id)
      replace r_script := Mo.fr fT339 r_script
      replace r_seed := Mo.fr fT339 r_seed
      replace hT := hT.fr fT339
      replace ea := ea.thenFr fp339 (fun b hb => by subst hb; exact h0_p333)
      replace m_great := m339
      first | refine nx_ ?_ | skip
      refine ret_open ?_
      refine lst_open ?_
      refine cons_open ?_
      refine x_run (K := K) (T := (Tp T p333)) (ev_var (i := 1) (r := zA) (v := .ref p333) (d := p333) rfl rfl) fun v342 H342 e342 r342 => ?_
      cases r342
      replace r_script := Mo.fr e342.fr r_script
      replace r_seed := Mo.fr e342.fr r_seed
      replace m_great := m_great.ex' e342
      replace hT := hT.ex e342
      replace ea := ea.trans e342
      refine cons_open ?_
      refine x_run (K := K) (T := (Tp T p333)) (ev_var (i := 2) rfl r_seed) fun v343 H343 e343 r343 => ?_
      replace r_script := Mo.fr e343.fr r_script
      replace r_seed := Mo.fr e343.fr r_seed
      replace m_great := m_great.ex' e343
      replace hT := hT.ex e343
      replace ea := ea.trans e343
      refine cons_open ?_
      refine x_run (K := K) (T := (Tp T p333)) ev_int fun v344 H344 e344 r344 => ?_
      replace r_script := Mo.fr e344.fr r_script
      replace r_seed := Mo.fr e344.fr r_seed
      replace r343 := Mo.fr e344.fr r343
      replace m_great := m_great.ex' e344
      replace hT := hT.ex e344
      replace ea := ea.trans e344
      refine nil_open ?_
      refine ⟨(by rw [sizeLine_eq]; simp), fun ta nta => ?_⟩
      have ne9 : p333 ≠ ta := fun z => (hT.new nta) (z ▸ (show (Tp T p333) p333 from (.inr rfl)))
      cases r343
      cases r344
      obtain ⟨vs9, hm9, ha9⟩ := m_great.ex
      rw [all2_int ha9] at hm9
      exact hQ ta p333 _ (ea.trans (Ex.new nta)) (ea.back nta) h0_p333 ⟨_, _, _, upd_same, (Ex.new nta) _ _ hm9, (by first | walk_at "ob" | (exact Or.inr ⟨by decide, by decide⟩) | (exact ⟨by decide, by decide, by decide⟩) | (exact Nat.le_trans (cutA_len _ _ _) hp) | (exact ⟨fun g hg => by cases hg, Nat.zero_le _⟩) | (refine ⟨fun g hg => ?_, by (simp only [List.length_append, List.length_cons, List.length_nil]; omega)⟩; (rcases List.mem_append.mp hg with hg | hg); exact hinv.1 g hg; (simp only [List.mem_singleton] at hg; subst hg; exact ab_nn _)) | (exact ⟨hinv.1, by omega⟩) | (exact fun g hg => hinv.1 g (List.mem_reverse.mp hg)) | (have h9 := hinv.2; have h8 := cutA_len p_script none (some 63); omega) | (rw [List.length_reverse]; have h9 := hinv.2; have h8 := cutA_len p_script none (some 63); omega) | walk_at "ob1" | walk_at "ob2"), by decide, by decide, ne9.symm, (by first | walk_at "ob" | (exact Or.inr ⟨by decide, by decide⟩) | (exact ⟨by decide, by decide, by decide⟩) | (exact Nat.le_trans (cutA_len _ _ _) hp) | (exact ⟨fun g hg => by cases hg, Nat.zero_le _⟩) | (refine ⟨fun g hg => ?_, by (simp only [List.length_append, List.length_cons, List.length_nil]; omega)⟩; (rcases List.mem_append.mp hg with hg | hg); exact hinv.1 g hg; (simp only [List.mem_singleton] at hg; subst hg; exact ab_nn _)) | (exact ⟨hinv.1, by omega⟩) | (exact fun g hg => hinv.1 g (List.mem_reverse.mp hg)) | (have h9 := hinv.2; have h8 := cutA_len p_script none (some 63); omega) | (rw [List.length_reverse]; have h9 := hinv.2; have h8 := cutA_len p_script none (some 63); omega) | walk_at "ob1" | walk_at "ob2")⟩

end
end EB

set_option Elab.async false
set_option linter.all false
set_option maxRecDepth 100000
set_option maxHeartbeats 4000000

namespace EB
open PySem PySem.Spec PyProof.Rows L2
local macro_rules | `(tactic| walk_at "ob") => `(tactic| first | exact trivial | omega | assumption | exact len_sign ‹_›)
local macro_rules | `(tactic| walk_at "ob1") => `(tactic| first | (have := mem_enL ‹_ ∈ enL _›; omega) | (simp only [List.length_append, List.length_cons, List.length_nil, enL_len, rng_len] at *; omega))
local macro_rules | `(tactic| walk_at "ob2") => `(tactic| (simp_all; done))
local macro_rules | `(tactic| walk_at "inv") => `(tactic| first | exact trivial | (simp only [List.length_append, List.length_cons, List.length_nil, Nat.mul_zero, Nat.add_zero]; omega) | omega | (simp only [List.length_append, List.length_cons, List.length_nil] at *; omega))
local macro_rules | `(tactic| walk_at "fin") => `(tactic| first | (simp; done) | (simp_all [List.all_eq_true]; done))

section
variable {P : Program} {w : World} {K : PySem.W.Frag} {mg : Str → Option Value} {base : Heap}

theorem mem_zip_rng {α : Type} : ∀ {lo : Int} {xs : List α} {x : Int × α}, x ∈ (rng lo xs.length).zip xs → 0 ≤ x.1 - lo ∧ xs.getD (x.1 - lo).toNat x.2 = x.2
  | lo, xs, x, h => by
    obtain ⟨i, hi⟩ := List.mem_iff_getElem?.mp h
    rw [List.getElem?_zip_eq_some] at hi
    obtain ⟨h1, h2⟩ := hi
    unfold rng at h1
    rw [List.getElem?_map] at h1
    cases h3 : (List.range xs.length)[i]? with
    | none => rw [h3] at h1; cases h1
    | some j =>
      rw [h3] at h1
      have h4 : j = i := by
        have := List.getElem?_eq_some_iff.mp h3
        obtain ⟨hl, e⟩ := this
        rw [List.getElem_range] at e
        exact e.symm
      subst h4
      have h5 : lo + (j : Int) = x.1 := by simpa using h1
      have h6 : (x.1 - lo).toNat = j := by omega
      refine ⟨by omega, ?_⟩
      rw [h6, List.getD_eq_getElem?_getD, h2]; rfl
def dfN : List Bool → List Bool → Nat
  | b :: w, r :: row => (if b = r then 0 else 1) + dfN w row
  | _, _ => 0
theorem diff_eq (row : List Bool) : ∀ w : List Bool, m_differences row w = (dfN w row : Int)
  | w => by
    have key : ∀ w row : List Bool, ((((w.map fun b => [b]).zip (row.map fun b => [b])).filter fun (x : List Bool × List Bool) => !decide (x.1 = x.2)).length) = dfN w row := by
      intro w
      induction w with
      | nil => intro row; simp [dfN]
      | cons b w ih =>
        intro row
        cases row with
        | nil => simp [dfN]
        | cons r row =>
          rw [List.map_cons, List.map_cons, List.zip_cons_cons, List.filter_cons]
          by_cases e : b = r
          · subst e
            rw [decide_eq_true rfl, Bool.not_true, if_neg (by decide), ih row]
            simp [dfN]
          · have e' : ¬ ([b] : List Bool) = [r] := fun z => e (List.cons.inj z).1
            rw [decide_eq_false e', Bool.not_false, if_pos rfl, List.length_cons, ih row]
            simp only [dfN, if_neg e]
            omega
    unfold m_differences
    rw [List.length_map, key w row]
theorem dfN_snoc {b : Bool} : ∀ {w row : List Bool}, w.length < row.length → dfN (w ++ [b]) row = dfN w row + (if row.getD w.length false = b then 0 else 1)
  | [], r :: row, _ => by
    simp only [List.nil_append, dfN, List.length_nil, List.getD_cons_zero]
    by_cases e : b = r
    · subst e; simp
    · rw [if_neg e, if_neg (fun z => e z.symm)]
  | c :: w, r :: row, h => by
    have h' : w.length < row.length := by simpa using h
    simp only [List.cons_append, dfN, List.length_cons, List.getD_cons_succ]
    rw [dfN_snoc h']
    omega
  | [], [], h => by simp at h
  | _ :: _, [], h => by simp at h
/-- the programs that live behind w, with the flips they have left -/
def Lw (g : DGame) (w : List Bool) : List (Int × Int) := ((enL g.1).filter fun x => decide (m_differences x.2 w ≤ g.2.2.1.getD x.1.toNat 0)).map fun x => (x.1, g.2.2.1.getD x.1.toNat 0 - m_differences x.2 w)
theorem Lw_nil {g : DGame} {w : List Bool} : Lw g w = [] ↔ m_Game_living_at g w = [] := by
  rw [living_eq]
  unfold Lw
  rw [List.map_eq_nil_iff, List.map_eq_nil_iff]
theorem Lw_fst (g : DGame) (w : List Bool) (f : Int → Int) : (Lw g w).map (fun x => f x.1) = (m_Game_living_at g w).map f := by
  rw [living_eq]
  unfold Lw
  rw [List.map_map, List.map_map]
  rfl
theorem leftB_Lw {g : DGame} {w : List Bool} {b : Bool} (hr : ∀ x ∈ g.1, x.length = (g.1.getD 0 []).length) (hl : w.length < (g.1.getD 0 []).length) : leftB g.1 (Lw g w) (w.length : Int) b = Lw g (w ++ [b]) := by
  unfold leftB Lw
  rw [List.map_map, List.filter_map, List.filter_filter]
  have hm : ∀ x ∈ enL g.1, g.1.getD x.1.toNat [] = x.2 ∧ m_differences x.2 (w ++ [b]) = m_differences x.2 w + b2 (!decide ([x.2.getD w.length false] = [b])) := by
    intro x hx
    have h1 := mem_enL hx
    have h2 : x.2 ∈ g.1 := List.mem_of_getElem? h1.2.2
    refine ⟨by rw [List.getD_eq_getElem?_getD, h1.2.2]; rfl, ?_⟩
    rw [diff_eq, diff_eq, dfN_snoc (by rw [hr _ h2]; exact hl)]
    by_cases e : x.2.getD w.length false = b
    · rw [if_pos e, decide_eq_true (by rw [e])]; simp [b2]
    · rw [if_neg e, decide_eq_false (fun z => e (List.cons.inj z).1)]; simp [b2]
  have hn : ∀ c : Bool, 0 ≤ b2 c := fun c => by cases c <;> decide
  have e1 : ∀ x ∈ enL g.1, (((fun x : Int × Int => decide (0 ≤ x.2)) ∘ (fun x : Int × Int => (x.1, x.2 - b2 (!decide ([(g.1.getD x.1.toNat []).getD ((w.length : Int)).toNat false] = [b])))) ∘ fun x : Int × List Bool => (x.1, g.2.2.1.getD x.1.toNat 0 - m_differences x.2 w)) x && decide (m_differences x.2 w ≤ g.2.2.1.getD x.1.toNat 0)) = decide (m_differences x.2 (w ++ [b]) ≤ g.2.2.1.getD x.1.toNat 0) := by
    intro x hx
    obtain ⟨h1, h2⟩ := hm x hx
    rw [Bool.eq_iff_iff, Bool.and_eq_true]
    simp only [Function.comp, decide_eq_true_eq]
    rw [h1, h2, Int.toNat_natCast]
    have := hn (!decide ([x.2.getD w.length false] = [b]))
    generalize b2 (!decide ([x.2.getD w.length false] = [b])) = q at this ⊢
    omega
  rw [List.filter_congr e1]
  apply List.map_congr_left
  intro x hx
  obtain ⟨h1, h2⟩ := hm x (List.mem_filter.mp hx).1
  simp only [Function.comp]
  rw [h1, h2, Int.toNat_natCast, Int.sub_sub]
theorem Lw_nn {g : DGame} {w : List Bool} : ∀ p ∈ Lw g w, 0 ≤ p.2 := by
  intro p hp
  unfold Lw at hp
  rw [List.mem_map] at hp
  obtain ⟨x, hx, rfl⟩ := hp
  have := of_decide_eq_true (List.mem_filter.mp hx).2
  show 0 ≤ _ - _
  omega
theorem mxL_one (a : Int) : mxL [a] = a := by simp [mxL]
theorem open_eq {g : DGame} {w : List Bool} (h : w.length ≠ (g.1.getD 0 []).length) : m_Game_open_bits g w = ([[false], [true]] : List (List Bool)).filter fun b => !(Lw g (w ++ b)).isEmpty := by
  unfold m_Game_open_bits
  rw [if_neg (by rw [decide_eq_false (by omega)]; decide), List.map_id'']
  · apply List.filter_congr
    intro b _
    cases hL : m_Game_living_at g (w ++ b) with
    | nil => rw [Lw_nil.mpr hL]; rfl
    | cons a l =>
      have : Lw g (w ++ b) ≠ [] := fun z => by rw [Lw_nil.mp z] at hL; cases hL
      cases hL2 : Lw g (w ++ b) with
      | nil => exact absurd hL2 this
      | cons c l2 =>
        simp only [List.isEmpty_cons, Bool.not_false]
        rw [decide_eq_true]
        simp only [List.length_cons]; omega
  · intro x; rfl
theorem need_eq {g : DGame} (hr : ∀ x ∈ g.1, x.length = (g.1.getD 0 []).length) : ∀ (k : Nat) (w : List Bool), (g.1.getD 0 []).length + 1 - w.length = k → w.length ≤ (g.1.getD 0 []).length → m_Game_living_at g w ≠ [] →
    m__law_need k g.1 g.2.1 (Lw g w) (w.length : Int) = m_Game_need_at k g w
  | 0, w, hk, hl, _ => by omega
  | k + 1, w, hk, hl, hn => by
    by_cases e : w.length = (g.1.getD 0 []).length
    · have ho : m_Game_open_bits g w = [] := by
        unfold m_Game_open_bits
        rw [if_pos (decide_eq_true (by rw [e]))]
      unfold m__law_need m_Game_need_at
      rw [if_pos (decide_eq_true (by rw [e])), ho]
      simp only [List.map_nil, List.length_nil, List.length_cons]
      rw [if_pos (by simp), if_neg (by simp), mxL_one, Lw_fst g w (fun p => -(g.2.1.getD p.toNat 0))]
    · have hlt : w.length < (g.1.getD 0 []).length := by omega
      have ih : ∀ b : Bool, Lw g (w ++ [b]) ≠ [] → m__law_need k g.1 g.2.1 (Lw g (w ++ [b])) ((w.length : Int) + 1) = m_Game_need_at k g (w ++ [b]) := fun b hb => by
        have h1 := need_eq hr k (w ++ [b]) (by rw [List.length_append, List.length_singleton]; omega) (by rw [List.length_append, List.length_singleton]; omega) (fun z => hb (Lw_nil.mpr z))
        rw [List.length_append, List.length_singleton] at h1
        exact h1
      have hne := leftB_ne (rows := g.1) (place := (w.length : Int)) (fun z => hn (Lw_nil.mp z)) (Lw_nn (g := g) (w := w))
      rw [leftB_Lw hr hlt, leftB_Lw hr hlt] at hne
      unfold m__law_need m_Game_need_at
      rw [if_neg (by rw [decide_eq_false (by show ¬ ((w.length : Int) = (((g.1.getD ((0 : Int)).toNat []).length : Nat) : Int)); intro z; apply e; have : ((0 : Int)).toNat = 0 := rfl; rw [this] at z; omega)]; decide), open_eq e]
      simp only [List.foldl_cons, List.foldl_nil, lp_eq, leftB_Lw hr hlt, List.filter_cons, List.filter_nil]
      by_cases h0 : Lw g (w ++ [false]) = []
      · by_cases h1 : Lw g (w ++ [true]) = []
        · exact absurd h1 (hne.resolve_left fun z => z h0)
        · have h1' : (!(Lw g (w ++ [true])).isEmpty) = true := by
            cases h : Lw g (w ++ [true]) with
            | nil => exact absurd h h1
            | cons a l => rfl
          simp only [h0, h1', h1, if_true, if_false, List.isEmpty_nil, Bool.not_true, Bool.false_eq_true, List.nil_append, List.map_cons, List.map_nil, List.length_cons, List.length_nil, ih true h1, mxL_one]
          rfl
      · have h0' : (!(Lw g (w ++ [false])).isEmpty) = true := by
          cases h : Lw g (w ++ [false]) with
          | nil => exact absurd h h0
          | cons a l => rfl
        by_cases h1 : Lw g (w ++ [true]) = []
        · simp only [h1, h0', h0, if_true, if_false, List.isEmpty_nil, Bool.not_true, Bool.false_eq_true, List.nil_append, List.map_cons, List.map_nil, List.length_cons, List.length_nil, ih false h0, mxL_one]
          rfl
        · have h1' : (!(Lw g (w ++ [true])).isEmpty) = true := by
            cases h : Lw g (w ++ [true]) with
            | nil => exact absurd h h1
            | cons a l => rfl
          simp only [h1, h0', h0, h1', if_true, if_false, List.nil_append, List.map_cons, List.map_nil, List.length_cons, List.length_nil, ih false h0, ih true h1]
          simp only [List.cons_append, List.nil_append, List.length_cons, List.length_nil]
          rw [if_neg (by simp), if_neg (by simp), if_pos (by simp)]
          simp only [mxL, mnL, mx2, mn2, List.foldl_cons, List.foldl_nil, List.headD_cons, List.getD_cons_zero, List.getD_cons_succ]
          generalize m_Game_need_at k g (w ++ [false]) = A
          generalize m_Game_need_at k g (w ++ [true]) = B
          have hAA : ¬ A < A := by omega
          simp only [gt_iff_lt, hAA, if_false]

theorem Lw_root {rows : List (List Bool)} {budgets flips : List Int} {kk : Addr} (hf : flips.length = rows.length) (hn : ∀ x ∈ flips, 0 ≤ x) : Lw (rows, budgets, flips, kk, ()) [] = (rng 0 ((rows.length : Int)).toNat).map fun (x : Int) => (x, flips.getD x.toNat 0) := by
  have hd : ∀ row : List Bool, m_differences row [] = 0 := fun row => by rw [diff_eq]; cases row <;> rfl
  unfold Lw
  rw [List.filter_eq_self.mpr]
  · have e : ((enL rows).map fun x => (x.1, flips.getD x.1.toNat 0 - m_differences x.2 [])) = ((enL rows).map Prod.fst).map fun (x : Int) => (x, flips.getD x.toNat 0) := by
      rw [List.map_map]
      apply List.map_congr_left
      intro x _
      simp only [Function.comp, hd, Int.sub_zero]
    show ((enL rows).map fun x => (x.1, flips.getD x.1.toNat 0 - m_differences x.2 [])) = _
    rw [e]
    unfold enL
    rw [List.map_fst_zip (by rw [rng_len]; exact Nat.le_refl _), Int.toNat_natCast]
  · intro x hx
    have h1 := mem_enL hx
    have h2 : flips.getD x.1.toNat 0 ∈ flips := getD_mem h1.1 (by rw [hf]; exact h1.2.1)
    apply decide_eq_true
    rw [hd]
    exact hn _ h2
theorem root_ne {rows : List (List Bool)} {budgets flips : List Int} {kk : Addr} (h0 : rows ≠ []) (hf : flips.length = rows.length) (hn : ∀ x ∈ flips, 0 ≤ x) : m_Game_living_at (rows, budgets, flips, kk, ()) [] ≠ [] := fun z => by
  have h1 := Lw_nil.mpr z
  rw [Lw_root hf hn, List.map_eq_nil_iff] at h1
  have h2 := congrArg List.length h1
  rw [rng_len] at h2
  have h3 := List.length_pos_iff.mpr h0
  simp only [List.length_nil] at h2
  omega
theorem due_eq {rows : List (List Bool)} {budgets flips : List Int} {kk : Addr} (hr : ∀ x ∈ rows, x.length = (rows.getD 0 []).length) (h0 : rows ≠ []) (hf : flips.length = rows.length) (hn : ∀ x ∈ flips, 0 ≤ x) :
    m__law_due rows budgets flips = m_Game_need_at ((rows.getD 0 []).length + 1 - 0) (rows, budgets, flips, kk, ()) [] := by
  have h := need_eq (g := (rows, budgets, flips, kk, ())) hr ((rows.getD 0 []).length + 1 - 0) [] rfl (Nat.zero_le _) (root_ne h0 hf hn)
  rw [Lw_root hf hn] at h
  exact h
theorem rows_ok {d : List (List Bool)} (h : ∃ m : Int, m ≤ 8 ∧ d ≠ [] ∧ d.length ≤ 12 ∧ ∀ w ∈ d, (w.length : Int) = m) : d ≠ [] ∧ d.length ≤ 12 ∧ (∀ w ∈ d, w.length = (d.getD 0 []).length) ∧ (d.getD 0 []).length ≤ 8 := by
  obtain ⟨m, h1, h2, h3, h4⟩ := h
  have h5 : d.getD 0 [] ∈ d := by
    cases d with
    | nil => exact absurd rfl h2
    | cons a l => simp
  have h6 := h4 _ h5
  exact ⟨h2, h3, fun w hw => by have := h4 w hw; omega, by omega⟩
theorem bmap_nn {l : List Int} {e : Int} : ∀ x ∈ l.map (fun q => mn2 10 (mx2 0 (q + e))), (0 : Int) ≤ x := by
  intro x hx
  rw [List.mem_map] at hx
  obtain ⟨q, _, rfl⟩ := hx
  have h1 := mx2_spec 0 (q + e)
  have h2 := mn2_spec 10 (mx2 0 (q + e))
  omega
theorem due_pre {rows : List (List Bool)} {budgets flips : List Int} (h : ∃ m : Int, m ≤ 8 ∧ rows ≠ [] ∧ rows.length ≤ 12 ∧ ∀ w ∈ rows, (w.length : Int) = m) (hb : budgets.length = rows.length) (hf : flips.length = rows.length) (hn : ∀ x ∈ flips, 0 ≤ x) :
    budgets.length = rows.length ∧ flips.length = rows.length ∧ (∀ w ∈ rows, w.length = (rows.getD 0 []).length) ∧ rows ≠ [] ∧ (∀ x ∈ flips, 0 ≤ x) ∧ rows.length ≤ 1000 ∧ (rows.getD 0 []).length ≤ 10 := by
  have R := rows_ok h
  exact ⟨hb, hf, R.2.2.1, R.1, hn, by omega, by omega⟩
theorem game_pre {rows : List (List Bool)} {budgets flips : List Int} {kk : Addr} (h : ∃ m : Int, m ≤ 8 ∧ rows ≠ [] ∧ rows.length ≤ 12 ∧ ∀ w ∈ rows, (w.length : Int) = m) (hb : budgets.length = rows.length) (hf : flips.length = rows.length) (hn : ∀ x ∈ flips, 0 ≤ x) :
    (((rows, budgets, flips, kk, ()) : DGame).1 ≠ [] ∧ ((rows, budgets, flips, kk, ()) : DGame).1.length ≤ 1000 ∧ ((rows, budgets, flips, kk, ()) : DGame).2.1.length = ((rows, budgets, flips, kk, ()) : DGame).1.length ∧ ((rows, budgets, flips, kk, ()) : DGame).2.2.1.length = ((rows, budgets, flips, kk, ()) : DGame).1.length ∧ (((rows, budgets, flips, kk, ()) : DGame).1.getD 0 []).length ≤ 10) ∧ m_Game_living_at (rows, budgets, flips, kk, ()) [] ≠ [] := by
  have R := rows_ok h
  exact ⟨⟨R.1, by show rows.length ≤ 1000; omega, hb, hf, by show (rows.getD 0 []).length ≤ 10; omega⟩, root_ne R.1 hf hn⟩
theorem wInt_bd (w : List Bool) : 0 ≤ wInt w ∧ wInt w < 2 := by
  unfold wInt
  split
  · rename_i b
    cases b <;> decide
  · decide
theorem flat_one {α : Type} {l : List α} {f : α → Bool} : ((l.map fun x => [f x]).flatten).length = l.length := by
  rw [flat_len (k := 1) (fun w hw => by rw [List.mem_map] at hw; obtain ⟨x, _, rfl⟩ := hw; rfl), List.length_map, Nat.mul_one]

end
end EB

set_option Elab.async false
set_option linter.all false
set_option maxRecDepth 100000
set_option maxHeartbeats 4000000

namespace EB
open PySem PySem.Spec PyProof.Rows L2
local macro_rules | `(tactic| walk_at "f") => `(tactic| first | exact (‹En _ _ _ _ _ _›).rd 0 rfl | exact (‹En _ _ _ _ _ _›).rd 1 rfl | exact (‹En _ _ _ _ _ _›).rd 2 rfl | exact (‹En _ _ _ _ _ _›).rd 3 rfl | exact (‹En _ _ _ _ _ _›).rd 4 rfl | exact (‹En _ _ _ _ _ _›).rd 5 rfl | exact (‹En _ _ _ _ _ _›).rd 6 rfl | exact (‹En _ _ _ _ _ _›).rd 7 rfl | exact (‹En _ _ _ _ _ _›).rd 8 rfl | exact (‹En _ _ _ _ _ _›).rd 9 rfl | exact (‹En _ _ _ _ _ _›).rd 10 rfl | exact (‹En _ _ _ _ _ _›).rd 11 rfl | exact (‹En _ _ _ _ _ _›).rd 12 rfl | exact (‹En _ _ _ _ _ _›).rd 13 rfl | exact (‹En _ _ _ _ _ _›).rd 14 rfl | exact (‹En _ _ _ _ _ _›).rd 15 rfl | exact (‹En _ _ _ _ _ _›).rd 16 rfl | exact (‹En _ _ _ _ _ _›).rd 17 rfl | exact (‹En _ _ _ _ _ _›).rd 18 rfl | exact (‹En _ _ _ _ _ _›).rd 19 rfl | exact (‹En _ _ _ _ _ _›).rd 20 rfl | exact (‹En _ _ _ _ _ _›).rd 21 rfl | exact (‹En _ _ _ _ _ _›).rd 22 rfl | exact (‹En _ _ _ _ _ _›).rd 23 rfl)
local macro_rules | `(tactic| walk_at "fb") => `(tactic| first | exact (‹En _ _ _ _ _ _›).rdB 0 rfl | exact (‹En _ _ _ _ _ _›).rdB 1 rfl | exact (‹En _ _ _ _ _ _›).rdB 2 rfl | exact (‹En _ _ _ _ _ _›).rdB 3 rfl | exact (‹En _ _ _ _ _ _›).rdB 4 rfl | exact (‹En _ _ _ _ _ _›).rdB 5 rfl | exact (‹En _ _ _ _ _ _›).rdB 6 rfl | exact (‹En _ _ _ _ _ _›).rdB 7 rfl | exact (‹En _ _ _ _ _ _›).rdB 8 rfl | exact (‹En _ _ _ _ _ _›).rdB 9 rfl | exact (‹En _ _ _ _ _ _›).rdB 10 rfl | exact (‹En _ _ _ _ _ _›).rdB 11 rfl | exact (‹En _ _ _ _ _ _›).rdB 12 rfl | exact (‹En _ _ _ _ _ _›).rdB 13 rfl | exact (‹En _ _ _ _ _ _›).rdB 14 rfl | exact (‹En _ _ _ _ _ _›).rdB 15 rfl | exact (‹En _ _ _ _ _ _›).rdB 16 rfl | exact (‹En _ _ _ _ _ _›).rdB 17 rfl | exact (‹En _ _ _ _ _ _›).rdB 18 rfl | exact (‹En _ _ _ _ _ _›).rdB 19 rfl | exact (‹En _ _ _ _ _ _›).rdB 20 rfl | exact (‹En _ _ _ _ _ _›).rdB 21 rfl | exact (‹En _ _ _ _ _ _›).rdB 22 rfl | exact (‹En _ _ _ _ _ _›).rdB 23 rfl)
section
variable {P : Program} {w : World} {K : PySem.W.Frag} {mg : Str → Option Value} {base : Heap}

@[reducible] def cGame (g : DGame) : Cel K := cMemo g.2.2.2.1 kW (wordsTo (g.1.getD 0 []).length) (fun (w : List Bool) i => i = m_Game_need_at ((g.1.getD 0 []).length + 1 - w.length) g w)
abbrev sp__law_asks (K : PySem.W.Frag) : Sp := PSp K (aC (zL zI) aN) (fun (a : (List Int) × Unit) => a.1.length ≤ 63) zB (fun (a : (List Int) × Unit) => true)
theorem ok__law_asks (S : Tx K mg) (G_Game___init__ : OkD P w K mg base 5 ("Game", some "__init__") ["self", "rows", "budgets", "flips"] (sp_Game___init__ K) "__init__" "Game.__init__" (defArgs s_Game___init__) (defBody s_Game___init__) (defScope s_Game___init__) [] [("flips", V.non)]) (G__law_asked : Ok P w K mg base 19 ("_law_asked", none) ["game", "need"] (sp__law_asked K)) (G__law_draw : Ok P w K mg base 1 ("_law_draw", none) ["tape", "limit"] (sp_draw K)) (G__law_due : Ok P w K mg base 14 ("_law_due", none) ["rows", "budgets", "flips"] (sp__law_due K)) (G__law_flips : Ok P w K mg base 2 ("_law_flips", none) ["tape", "rows"] (sp__law_flips K)) (G__law_rows : Ok P w K mg base 3 ("_law_rows", none) ["tape"] (sp__law_rows K)) (G__law_tape : Ok P w K mg base 1 ("_law_tape", none) ["script"] (TSp K)) : Ok P w K mg base 20 ("_law_asks", none) ["script"] (sp__law_asks K) := by
  obtain ⟨fd, D⟩ := d__law_asks S
  refine mk_ok D sc__law_asks (D.bindsN fun _ _ _ _ _ _ us hl => match us, hl with | [_], _ => rfl) (PSp_len len1) (fun cdv A outer s H00 vs Q E0 hr h => ?_)
  obtain ⟨T00, ⟨p_script, _⟩, hT, ⟨v_script, _, rfl, r_script, rfl⟩, hp, hQ⟩ := h
  have r_script : zL zI K T00 H00 v_script p_script := r_script
  have hp : p_script.length ≤ 63 := hp
  have hQ : ∀ v H', Ex H00 H' → zB K T00 H' v true → Q v H' := hQ
  refine ⟨_, (pss_cons (ps_set (i := 1) sc__law_asks.nd rfl (.inr rfl) (pe_callG G__law_tape hr (by omega) (by rfl) (g__law_tape S) (pa_cons (pv 0) pa_nil))) (pss_cons (ps_set (i := 2) sc__law_asks.nd rfl (.inl rfl) (pe_callG G__law_rows hr (by omega) (by rfl) (g__law_rows S) (pa_cons (pv 1) pa_nil))) (pss_cons (ps_set (i := 3) sc__law_asks.nd rfl (.inl rfl) (pe_callG G__law_flips hr (by omega) (by rfl) (g__law_flips S) (pa_cons (pv 1) (pa_cons (pv 2) pa_nil)))) (pss_cons (ps_set (i := 4) sc__law_asks.nd rfl (.inr rfl) (pe_ix (kx_list (K := K)) (pe_lst (pa_cons pe_int (pa_cons pe_int (pa_cons pe_int (pa_cons pe_int pa_nil))))) (pe_callG G__law_draw hr (by omega) (by rfl) (g__law_draw S) (pa_cons (pv 1) (pa_cons pe_int pa_nil))) (fun _ _ => rfl))) (pss_cons (ps_setLc (i := 5) (own := [("row", 16)]) (by rfl) sc__law_asks.nd rfl rfl (sw_true rfl rfl rfl (by decide +kernel)) (kp_list (K := K) (pv 2)) (blkOk_by (N := ["script", "tape", "rows", "flips", "high", "budgets", "need", "passed", "late", "others", "at", "other_need", "other", "plain", "shift", "game", "row", "part", "sign"]) (sc := defScope s__law_asks) (by decide +kernel)) (fun _ _ _ _ _ => pg_name (i := 16) sc__law_asks.nd rfl (.inl rfl)) (fun _ _ _ _ _ => pts_nil) (fun _ _ _ _ _ => (pe_callG G__law_draw hr (by omega) (by rfl) (g__law_draw S) (pa_cons (pv 1) (pa_cons (pv 4) pa_nil))))) (pss_cons (ps_set (i := 6) sc__law_asks.nd rfl (.inl rfl) (pe_callG G__law_due hr (by omega) (by rfl) (g__law_due S) (pa_cons (pv 2) (pa_cons (pv 5) (pa_cons (pv 3) pa_nil))))) (pss_cons (ps_if (pt_cmpR op_eq (pe_callG G__law_draw hr (by omega) (by rfl) (g__law_draw S) (pa_cons (pv 1) (pa_cons pe_int pa_nil))) pe_int (nomark _)) (pss_cons (ps_set (i := 14) sc__law_asks.nd rfl (.inr rfl) (pe_op op_sub (pv 6) (pe_callG G__law_draw hr (by omega) (by rfl) (g__law_draw S) (pa_cons (pv 1) (pa_cons pe_int pa_nil))))) (pss_cons (ps_setLc (i := 5) (own := [("part", 17)]) (by rfl) sc__law_asks.nd rfl rfl (sw_true rfl rfl rfl (by decide +kernel)) (kp_list (K := K) (pv 5)) (blkOk_by (N := ["script", "tape", "rows", "flips", "high", "budgets", "need", "passed", "late", "others", "at", "other_need", "other", "plain", "shift", "game", "row", "part", "sign"]) (sc := defScope s__law_asks) (by decide +kernel)) (fun _ _ _ _ _ => pg_name (i := 17) sc__law_asks.nd rfl (.inl rfl)) (fun _ _ _ _ _ => pts_nil) (fun _ _ _ _ _ => (pe_callB call_min2Q (by rfl) (m_min S) bt_min (pa_cons pe_int (pa_cons (pe_callB call_max2Q (by rfl) (m_max S) bt_max (pa_cons pe_int (pa_cons (pe_op op_add (pv 17) (pv 14)) pa_nil))) pa_nil))))) (pss_one (ps_set (i := 6) sc__law_asks.nd rfl (.inl rfl) (pe_callG G__law_due hr (by omega) (by rfl) (g__law_due S) (pa_cons (pv 2) (pa_cons (pv 5) (pa_cons (pv 3) pa_nil)))))))) pss_nil) (pss_cons (ps_set (i := 7) sc__law_asks.nd rfl (.inl rfl) (pe_lst (pa_cons (pe_callTy (kc_list (K := K)) (by rfl) (m_list S) bt_list (pa_cons (pv 2) pa_nil)) (pa_cons (pe_callTy (kc_list (K := K)) (by rfl) (m_list S) bt_list (pa_cons (pv 5) pa_nil)) (pa_cons (pe_callTy (kc_list (K := K)) (by rfl) (m_list S) bt_list (pa_cons (pv 3) pa_nil)) pa_nil))))) (pss_cons (ps_if (pt_cmpR op_eq (pe_callG G__law_draw hr (by omega) (by rfl) (g__law_draw S) (pa_cons (pv 1) (pa_cons pe_int pa_nil))) pe_int (nomark _)) (pss_one (ps_set (i := 15) sc__law_asks.nd rfl (.inl rfl) (pe_mkA G_Game___init__ (k_Game S) hr (by omega) (by rfl) (g_Game S) (by decide) 2 ["flips"] (fun _ _ _ _ _ _ us ws h1 h2 => match us, ws, h1, h2 with | [_, _, _], [_], _, _ => rfl) (pa_cons (pe_ix (kx_list (K := K)) (pv 7) pe_int (fun _ _ => rfl)) (pa_cons (pe_ix (kx_list (K := K)) (pv 7) pe_int (fun _ _ => rfl)) pa_nil)) (pk_cons (pe_ix (kx_list (K := K)) (pv 7) pe_int (fun _ _ => rfl)) pk_nil)))) (pss_one (ps_set (i := 15) sc__law_asks.nd rfl (.inl rfl) (pe_mkA G_Game___init__ (k_Game S) hr (by omega) (by rfl) (g_Game S) (by decide) 1 ["budgets", "flips"] (fun _ _ _ _ _ _ us ws h1 h2 => match us, ws, h1, h2 with | [_, _], [_, _], _, _ => rfl) (pa_cons (pe_callTy (kc_tuple (K := K)) (by rfl) (m_tuple S) bt_tuple (pa_cons (pv 2) pa_nil)) pa_nil) (pk_cons (pe_callTy (kc_tuple (K := K)) (by rfl) (m_tuple S) bt_tuple (pa_cons (pv 5) pa_nil)) (pk_cons (pe_callTy (kc_tuple (K := K)) (by rfl) (m_tuple S) bt_tuple (pa_cons (pv 3) pa_nil)) pk_nil)))))) (pss_cons (ps_if (pt_cmpR (op_neDQ (K := K) (room_64 hr)) (pv 7) (pe_lst (pa_cons (pv 2) (pa_cons (pv 5) (pa_cons (pv 3) pa_nil)))) (nomark _)) (pss_one (ps_ret pe_bl)) pss_nil) (pss_cons (ps_set (i := 8) sc__law_asks.nd rfl (.inl rfl) (pe_ix (kx_list (K := K)) (pv 7) pe_int (fun _ _ => rfl))) (pss_cons (ps_asg (pe_op op_sub pe_int (pe_ix (kx_list (K := K)) (pv 8) pe_int (fun _ _ => rfl))) (pg_sub (pv 8) pe_int set_list)) (pss_cons (ps_expr (pe_bm PySem.F.plainAttrs_list PySem.F.slot_list_append PySem.F.type_list_append mt_append (pv 8) (pa_cons pe_int pa_nil))) (pss_cons (ps_set (i := 8) sc__law_asks.nd rfl (.inl rfl) (pe_ix (kx_list (K := K)) (pv 7) pe_int (fun _ _ => rfl))) (pss_cons (ps_asg (ke_join (K := K) pe_str (pe_lc (own := [("sign", 18)]) (by rfl) sc__law_asks.nd (pi_str (pe_ix (kx_list (K := K)) (pv 2) pe_int (fun _ _ => rfl))) (blkOk_by (N := ["script", "tape", "rows", "flips", "high", "budgets", "need", "passed", "late", "others", "at", "other_need", "other", "plain", "shift", "game", "row", "part", "sign"]) (sc := defScope s__law_asks) (by decide +kernel)) (fun _ _ _ _ _ => pg_name (i := 18) sc__law_asks.nd rfl (.inl rfl)) (fun _ _ _ _ _ => pts_nil) (fun _ _ _ _ _ => (pe_ix ix_str pe_str (pe_callTy call_intS (by rfl) (m_int S) bt_int (pa_cons (pv 18) pa_nil)) (fun _ _ => rfl))))) (pg_sub (pv 8) pe_int set_list)) (pss_cons (ps_set (i := 9) sc__law_asks.nd rfl (.inl rfl) (pe_callTy (kc_list (K := K)) (by rfl) (m_list S) bt_list (pa_cons (pv 3) pa_nil))) (pss_cons (ps_set (i := 10) sc__law_asks.nd rfl (.inl rfl) (pe_callG G__law_draw hr (by omega) (by rfl) (g__law_draw S) (pa_cons (pv 1) (pa_cons (pe_callB (kc_len (K := K)) (by rfl) (m_len S) bt_len (pa_cons (pv 2) pa_nil)) pa_nil)))) (pss_cons (ps_asg (pe_ix (kx_list (K := K)) (pe_lst (pa_cons (pe_op op_add (pe_ix (kx_list (K := K)) (pv 9) (pv 10) (fun _ _ => rfl)) pe_int) (pa_cons pe_int (pa_cons pe_int pa_nil)))) (pe_callG G__law_draw hr (by omega) (by rfl) (g__law_draw S) (pa_cons (pv 1) (pa_cons pe_int pa_nil))) (fun _ _ => rfl)) (pg_sub (pv 9) (pv 10) set_list)) (pss_cons (ps_asg (pe_callB call_min2Q (by rfl) (m_min S) bt_min (pa_cons pe_int (pa_cons (pe_ix (kx_list (K := K)) (pv 9) (pv 10) (fun _ _ => rfl)) pa_nil))) (pg_sub (pv 9) (pv 10) set_list)) (pss_cons (ps_set (i := 11) sc__law_asks.nd rfl (.inl rfl) (pe_callG G__law_due hr (by omega) (by rfl) (g__law_due S) (pa_cons (pv 2) (pa_cons (pv 5) (pa_cons (pv 9) pa_nil))))) (pss_cons (ps_set (i := 12) sc__law_asks.nd rfl (.inl rfl) (pe_mkA G_Game___init__ (k_Game S) hr (by omega) (by rfl) (g_Game S) (by decide) 2 ["flips"] (fun _ _ _ _ _ _ us ws h1 h2 => match us, ws, h1, h2 with | [_, _, _], [_], _, _ => rfl) (pa_cons (pe_callTy (kc_list (K := K)) (by rfl) (m_list S) bt_list (pa_cons (pv 2) pa_nil)) (pa_cons (pe_callTy (kc_list (K := K)) (by rfl) (m_list S) bt_list (pa_cons (pv 5) pa_nil)) pa_nil)) (pk_cons (pe_callTy (kc_list (K := K)) (by rfl) (m_list S) bt_list (pa_cons (pv 9) pa_nil)) pk_nil))) (pss_cons (ps_set (i := 13) sc__law_asks.nd rfl (.inl rfl) (pe_mkB G_Game___init__ (k_Game S) hr (by omega) (by rfl) (g_Game S) (by decide) 2 (by decide) (fun _ _ _ _ _ _ us ks h1 h2 => match us, ks, h1, h2 with | [_, _, _], [_], _, _ => ⟨_, _, _, _, _, _, rfl, rfl, rfl⟩) (pa_cons (pe_callTy (kc_tuple (K := K)) (by rfl) (m_tuple S) bt_tuple (pa_cons (pv 2) pa_nil)) (pa_cons (pe_callTy (kc_tuple (K := K)) (by rfl) (m_tuple S) bt_tuple (pa_cons (pv 5) pa_nil)) pa_nil)))) (pss_cons (ps_if (PW.pt (pw_or (pt_not (pt_val (pe_callG G__law_asked hr (by omega) (by rfl) (g__law_asked S) (pa_cons (pv 15) (pa_cons (pv 6) pa_nil))))) (pw_or1 (pt_not (pt_val (pe_callG G__law_asked hr (by omega) (by rfl) (g__law_asked S) (pa_cons (pv 12) (pa_cons (pv 11) pa_nil)))))))) (pss_one (ps_ret pe_bl)) pss_nil) (pss_one (ps_ret (pe_and (pe_callG G__law_asked hr (by omega) (by rfl) (g__law_asked S) (pa_cons (pv 13) (pa_cons (pe_callG G__law_due hr (by omega) (by rfl) (g__law_due S) (pa_cons (pv 2) (pa_cons (pv 5) (pa_cons (pe_lc (own := [("row", 16)]) (by rfl) sc__law_asks.nd (kp_list (K := K) (pv 2)) (blkOk_by (N := ["script", "tape", "rows", "flips", "high", "budgets", "need", "passed", "late", "others", "at", "other_need", "other", "plain", "shift", "game", "row", "part", "sign"]) (sc := defScope s__law_asks) (by decide +kernel)) (fun _ _ _ _ _ => pg_name (i := 16) sc__law_asks.nd rfl (.inl rfl)) (fun _ _ _ _ _ => pts_nil) (fun _ _ _ _ _ => pe_int)) pa_nil)))) pa_nil))) (pe_one (pe_callG G__law_asked hr (by omega) (by rfl) (g__law_asked S) (pa_cons (pv 15) (pa_cons (pv 6) pa_nil)))))))))))))))))))))))))))))), ?_⟩
  have E : En K ⟨T00, [], H00⟩ [fR (zL zI) v_script p_script] [] T00 H00 := En.start hT ⟨r_script, trivial⟩
  refine asg_open ?_
  refine En.tape E (ea_cons (ev_var (i := 0) rfl (E.rd (r := zL zI) 0 rfl)) ea_nil) hp fun d H E => ?_
  first | refine nx_ ?_ | skip
  refine asg_open ?_
  refine En.runT E 0 rfl 900000000 (by decide) (fun hW => en_call (W := fun (a : (Addr × Addr) × Unit) => WTp a.1) (I := fun (a : (Addr × Addr) × Unit) => TpI a.1) (cc := fun _ => 2000) (b := (d, ())) re_tape E.td hW (ea_cons (ev_var (i := 1) rfl (E.rd (r := zTp) (d := d) 0 rfl)) ea_nil) trivial) fun v_rows H rows h_rows E => ?_
  replace h_rows : ∃ m : Int, m ≤ 8 ∧ rows ≠ [] ∧ rows.length ≤ 12 ∧ ∀ w ∈ rows, (w.length : Int) = m := h_rows
  have R := rows_ok h_rows
  have hpos := List.length_pos_iff.mpr R.1
  first | refine nx_ ?_ | skip
  refine asg_open ?_
  refine En.runT E 0 rfl 890000000 (by decide) (fun hW => en_call (W := fun (a : (Addr × Addr) × List (List Bool) × Unit) => WTp a.1) (I := fun (a : (Addr × Addr) × List (List Bool) × Unit) => TpI a.1) (cc := fun _ => 100) (b := (d, rows, ())) re_tape E.td hW (ea_cons (ev_var (i := 1) rfl (E.rd (r := zTp) (d := d) 1 rfl)) (ea_cons (ev_var (i := 2) rfl (E.rd (r := zL zW) (d := rows) 0 rfl)) ea_nil)) R.2.1) fun v_flips H flips h_flips E => ?_
  replace h_flips : flips.length = rows.length ∧ ∀ f ∈ flips, 0 ≤ f ∧ f ≤ 12 := h_flips
  have hfn : ∀ x ∈ flips, (0 : Int) ≤ x := fun x hx => (h_flips.2 x hx).1
  first | refine nx_ ?_ | skip
  refine asg_open ?_
  refine En.runT E 0 rfl 880000000 (by decide) (fun hW => en_ixL (θ := fun (d : Int) => 1 ≤ d ∧ d ≤ 11) hW re_tape (en_of re_tape (ev_lst E.td (eh_cons ev_int (eh_cons ev_int (eh_cons ev_int (eh_cons ev_int eh_nil)))) (by decide))) (en_call (W := fun (a : (Addr × Addr) × Int × Unit) => WTp a.1) (I := fun (a : (Addr × Addr) × Int × Unit) => TpI a.1) (cc := fun _ => 1) (b := (d, (4 : Int), ())) re_tape E.td hW (ea_cons (ev_var (i := 1) rfl (E.rd (r := zTp) (d := d) 2 rfl)) (ea_cons ev_int ea_nil)) (show 0 < (4 : Int) ∧ (4 : Int) < 1073741824 from ⟨by decide, by decide⟩)) (fun xs i hx hi => by
      subst hx
      obtain ⟨h0, h1⟩ := (hi : 0 ≤ i ∧ i < 4)
      have h1' : i < (([1, 2, 5, 11] : List Int).length : Int) := h1
      refine ⟨_, at_get (d0 := 0) h0 h1', ?_⟩
      have hm := getD_mem (d := 0) h0 h1'
      simp only [List.mem_cons, List.not_mem_nil, or_false] at hm
      omega)) fun v_high H high h_high E => ?_
  first | refine nx_ ?_ | skip
  refine asg_open ?_
  refine En.runT E 0 rfl 870000000 (by omega) (fun hW => en_lc (c := 1) (s := zI) (φ := fun (x : List Bool) (y : Int) => 0 ≤ y ∧ y < high) re_tape E.td hW (ei_list (ev_var (i := 2) rfl (E.rd (r := zL zW) (d := rows) 2 rfl))) (fun T' H' v x L hT' hW' hx r Q1 q1 => q1 _ wipe1 (en_call (W := fun (a : (Addr × Addr) × Int × Unit) => WTp a.1) (I := fun (a : (Addr × Addr) × Int × Unit) => TpI a.1) (cc := fun _ => 1) (b := (d, high, ())) re_tape hT' hW' (ea_cons (ev_var (i := 1) rfl (L.ap (E.rd (r := zTp) (d := d) 3 rfl))) (ea_cons (ev_var (i := 4) rfl (L.ap (E.rd (r := zI) (d := high) 0 rfl))) ea_nil)) (show 0 < high ∧ high < 1073741824 from ⟨by omega, by omega⟩)))) fun v_budgets H budgets h_budgets E => ?_
  have hb0 : budgets.length = rows.length := all2_len h_budgets
  have hb1 : ∀ x ∈ budgets, (0 : Int) ≤ x := fun x hx => by
    obtain ⟨y, _, h9⟩ := all2_mem h_budgets hx
    exact h9.1
  first | refine nx_ ?_ | skip
  refine asg_open ?_
  refine En.run E (ev_call E.td (ea_cons (ev_var (i := 2) rfl (E.rd (r := zL zW) (d := rows) 3 rfl)) (ea_cons (ev_var (i := 5) rfl (E.rd (r := zL zI) (d := budgets) 0 rfl)) (ea_cons (ev_var (i := 3) rfl (E.rd (r := zL zI) (d := flips) 2 rfl)) ea_nil))) (due_pre h_rows hb0 h_flips.1 hfn)) fun v_need H E => ?_
  first | refine nx_ ?_ | skip
  refine seq_open ?_
  refine cut_ (fun σ9 H9 => ∃ (T : AS) (budgets : List Int) (v_budgets v_need : V) (u0 u4 u7 u8 u9 u10 u11 u12 u13 u14 u15 u16 u17 u18 : Option V), budgets.length = rows.length ∧ (∀ x ∈ budgets, (0 : Int) ≤ x) ∧ σ9 = [u0, some (.ref d.1), some v_rows, some v_flips, u4, some v_budgets, some v_need, u7, u8, u9, u10, u11, u12, u13, u14, u15, u16, u17, u18] ∧ En K ⟨T00, [], H00⟩ [fR zI v_need (m__law_due rows budgets flips), fR (zL zI) v_budgets budgets, fR (zL zI) v_flips flips, fR (zL zW) v_rows rows, fR zTp (.ref d.1) d] [cTape d 700000000] T H9) ?_ fun rest => ?_
  · clear E hb0 hb1 h_budgets
    rintro _ H ⟨T, budgets, v_budgets, v_need, u0, u4, u7, u8, u9, u10, u11, u12, u13, u14, u15, u16, u17, u18, hb0, hb1, rfl, E⟩
    first | refine nx_ ?_ | skip
    refine asg_open ?_
    refine lst_open ?_
    refine cons_open ?_
    refine En.newL (r := zW) E (ef_listL (ev_var (i := 2) rfl (E.rd (r := zL zW) (d := rows) 3 rfl))) fun p0 H E => ?_
    refine cons_open ?_
    refine En.newL (r := zI) E (ef_listL (ev_var (i := 5) rfl (E.rd (r := zL zI) (d := budgets) 2 rfl))) fun p1 H E => ?_
    refine cons_open ?_
    refine En.newL (r := zI) E (ef_listL (ev_var (i := 3) rfl (E.rd (r := zL zI) (d := flips) 4 rfl))) fun p2 H E => ?_
    refine nil_open ?_
    refine ⟨(by rw [sizeLine_eq]; simp), fun pp hpp => ?_⟩
    replace E := En.newR (vs := [.ref p0, .ref p1, .ref p2]) E hpp
    generalize upd _ pp (HO.lst [.ref p0, .ref p1, .ref p2]) = H at E ⊢
    first | refine nx_ ?_ | skip
    refine seq_open ?_
    refine cut_ (fun σ9 H9 => ∃ (T : AS) (v_game : V) (kk : Addr) (u0 u4 u8 u9 u10 u11 u12 u13 u14 u16 u17 u18 : Option V), σ9 = [u0, some (.ref d.1), some v_rows, some v_flips, u4, some v_budgets, some v_need, some (.ref pp), u8, u9, u10, u11, u12, u13, u14, some v_game, u16, u17, u18] ∧ En K ⟨T00, [], H00⟩ [fR zGame v_game (rows, budgets, flips, kk, ()), fR zA (.ref pp) pp, fR zI v_need (m__law_due rows budgets flips), fR (zL zI) v_budgets budgets, fR (zL zI) v_flips flips, fR (zL zW) v_rows rows, fR zTp (.ref d.1) d] [cGame (rows, budgets, flips, kk, ()), cV pp (.lst [.ref p0, .ref p1, .ref p2]), cL zI p2 flips, cL zI p1 budgets, cL zW p0 rows, cTape d 600000000] T H9) ?_ fun rest => ?_
    · clear E
      rintro _ H ⟨T, v_game, kk, u0, u4, u8, u9, u10, u11, u12, u13, u14, u16, u17, u18, rfl, E⟩
      first | refine nx_ ?_ | skip
      refine ifs_open ?_
      refine En.testB E (et_test (K := K) (ev_neD (r := zH (aC (zL zW) (aC (zL zI) (aC (zL zI) aN)))) (a := (rows, budgets, flips, ())) (b := (rows, budgets, flips, ())) (ev_var (i := 7) rfl (up3 (p := p0) (q := p1) (u := p2) ⟨pp, _, rfl, E.cvB 1 rfl, ⟨_, _, rfl, rfl, ⟨_, _, rfl, rfl, ⟨_, _, rfl, rfl, rfl⟩⟩⟩⟩ (E.clB (r := zW) (p := p0) (xs := rows) 4 rfl) (E.clB (r := zI) (p := p1) (xs := budgets) 3 rfl) (E.clB (r := zI) (p := p2) (xs := flips) 2 rfl))) (ev_lstH E.tdB (ea_cons (ev_var (i := 2) rfl (E.rdB (r := zL zW) (d := rows) 5 rfl)) (ea_cons (ev_var (i := 5) rfl (E.rdB (r := zL zI) (d := budgets) 3 rfl)) (ea_cons (ev_var (i := 3) rfl (E.rdB (r := zL zI) (d := flips) 4 rfl)) ea_nil))) (fun H vs ⟨_, _, e, _, _, _, e2, _, _, _, e3, _, e4⟩ => by rw [e, e2, e3, show _ = [] from e4]; simp)))) fun H E => ?_
      refine iteB (fun hc => by simp at hc) (fun hc => ?_)
      first | refine nx_ ?_ | skip
      refine asg_open ?_
      refine En.runB E (ev_ixV (r := zA) (v := .ref p2) (d := p2) (ev_var (i := 7) rfl (E.rdB (r := zA) (d := pp) 1 rfl)) ev_int (E.cvB 1 rfl) rfl rfl) fun v H E => ?_
      obtain rfl : v = .ref p2 := E.rd (r := zA) (d := p2) 0 rfl
      first | refine nx_ ?_ | skip
      refine asgt_open ?_
      refine En.runB E (ev_sub ev_int (ev_ixL (ev_var (i := 8) rfl (E.clB (r := zI) (p := p2) (xs := flips) 2 rfl)) ev_int (at_get (d0 := 0) (Int.le_refl 0) (by omega)))) fun v H E => ?_
      refine En.setitem (r := zI) (p := p2) (xs := flips) E rfl 2 rfl (E.rd (r := zI) 0 rfl) ev_int (setO_ok (Int.le_refl 0) (by omega)) fun H E => ?_
      first | refine nx_ ?_ | skip
      refine drop_open ?_
      refine En.bm (r := zI) (p := p2) E rfl 2 rfl ?_
      refine cons_open ?_
      refine En.run E ev_int fun v H E => ?_
      refine nil_open ?_
      refine En.append (r := zI) (p := p2) E 2 rfl (E.rd (r := zI) 0 rfl) (by rw [List.length_set]; omega) fun H E => ?_
      first | refine nx_ ?_ | skip
      refine asg_open ?_
      refine En.runB E (ev_ixV (r := zA) (v := .ref p0) (d := p0) (ev_var (i := 7) rfl (E.rdB (r := zA) (d := pp) 4 rfl)) ev_int (E.cvB 1 rfl) rfl rfl) fun v H E => ?_
      obtain rfl : v = .ref p0 := E.rd (r := zA) (d := p0) 0 rfl
      first | refine nx_ ?_ | skip
      refine asgt_open ?_
      refine En.run E (ev_joinW (ev_word [] (by decide) (by decide)) (ev_lc1 (f := fun (x : List Bool) => [([true, false] : List Bool).getD (wInt x).toNat false]) E.td (ei_word (ev_ixL (ev_var (i := 2) rfl (E.rd (r := zL zW) (d := rows) 9 rfl)) ev_int (at_get (d0 := []) (Int.le_refl 0) (by omega)))) (fun T' H' v x L hT' hx r Q1 q1 => q1 _ wipe1 (ev_ixW (ev_word [true, false] (by decide) (by decide)) (ev_intW (ev_var (i := 18) rfl r) (len_sign hx)) (at_get (d0 := false) (wInt_bd _).1 (wInt_bd _).2)))) (by rw [flat_one, List.length_map]; exact Nat.le_trans R.2.2.2 (by decide))) fun v H E => ?_
      refine En.setitem (r := zW) (p := p0) (xs := rows) E rfl 4 rfl (E.rd (r := zW) 0 rfl) ev_int (setO_ok (Int.le_refl 0) (by omega)) fun H E => ?_
      first | refine nx_ ?_ | skip
      refine asg_open ?_
      refine En.newL (r := zI) E (ef_listL (ev_var (i := 3) rfl (E.rd (r := zL zI) (d := flips) 9 rfl))) fun po H E => ?_
      first | refine nx_ ?_ | skip
      refine asg_open ?_
      refine En.runT (d := d) E 6 rfl 500000000 (by decide) (fun hW => en_call (W := fun (a : (Addr × Addr) × Int × Unit) => WTp a.1) (I := fun (a : (Addr × Addr) × Int × Unit) => TpI a.1) (cc := fun _ => 1) (b := (d, (rows.length : Int), ())) re_tape E.td hW (ea_cons (ev_var (i := 1) rfl (E.rd (r := zTp) (d := d) 12 rfl)) (ea_cons (ev_lenL (ev_var (i := 2) rfl (E.rd (r := zL zW) (d := rows) 11 rfl))) ea_nil)) (show 0 < (rows.length : Int) ∧ (rows.length : Int) < 1073741824 from ⟨by omega, by omega⟩)) fun v_at H at_ h_at E => ?_
      replace h_at : 0 ≤ at_ ∧ at_ < (rows.length : Int) := h_at
      first | refine nx_ ?_ | skip
      refine asgt_open ?_
      refine op_open ?_
      refine En.newLB (r := zI) E (ef_lst (eh_cons (ev_add (ev_ixL (ev_var (i := 9) rfl (E.clB (r := zI) (p := po) (xs := flips) 0 rfl)) (ev_var (i := 10) rfl (E.rdB (r := zI) (d := at_) 0 rfl)) (at_get (d0 := 0) h_at.1 (by omega))) ev_int) (eh_cons ev_int (eh_cons ev_int eh_nil))) (by simp)) fun q H E => ?_
      refine En.runT (d := d) E 7 rfl 400000000 (by decide) (fun hW => en_call (W := fun (a : (Addr × Addr) × Int × Unit) => WTp a.1) (I := fun (a : (Addr × Addr) × Int × Unit) => TpI a.1) (cc := fun _ => 1) (b := (d, (3 : Int), ())) re_tape E.td hW (ea_cons (ev_var (i := 1) rfl (E.rd (r := zTp) (d := d) 14 rfl)) (ea_cons ev_int ea_nil)) (show 0 < (3 : Int) ∧ (3 : Int) < 1073741824 from ⟨by decide, by decide⟩)) fun v_j H j h_j E => ?_
      replace h_j : 0 ≤ j ∧ j < 3 := h_j
      refine of_op ?_
      refine En.runB E (ev_ixL (ev_var (i := 0) rfl (E.clB (r := zI) (p := q) 0 rfl)) (ev_var (i := 1) rfl (E.rdB (r := zI) (d := j) 0 rfl)) (at_get (d0 := 0) h_j.1 (by simpa using h_j.2))) fun v H E => ?_
      generalize hx1 : ([flips.getD at_.toNat 0 + 1, 0, 12] : List Int).getD j.toNat 0 = x1 at E
      have hx1n : 0 ≤ x1 := by
        have hm := getD_mem (d := 0) (xs := ([flips.getD at_.toNat 0 + 1, 0, 12] : List Int)) h_j.1 (by simpa using h_j.2)
        rw [hx1] at hm
        have h9 := hfn _ (getD_mem (d := 0) (xs := flips) h_at.1 (by omega))
        simp only [List.mem_cons, List.not_mem_nil, or_false] at hm
        omega
      refine En.setitem (r := zI) (p := po) (xs := flips) E rfl 1 rfl (E.rd (r := zI) (d := x1) 0 rfl) (ev_var (i := 10) rfl (E.rd (r := zI) (d := at_) 3 rfl)) (setO_ok h_at.1 (by omega)) fun H E => ?_
      first | refine nx_ ?_ | skip
      refine asgt_open ?_
      refine En.runB E (ev_min2 ev_int (ev_ixL (ev_var (i := 9) rfl (E.clB (r := zI) (p := po) (xs := flips.set at_.toNat x1) 1 rfl)) (ev_var (i := 10) rfl (E.rdB (r := zI) (d := at_) 3 rfl)) (at_get (d0 := 0) h_at.1 (by rw [List.length_set]; omega)))) fun v H E => ?_
      generalize hx2 : mn2 12 ((flips.set at_.toNat x1).getD at_.toNat 0) = x2 at E
      have hx2n : 0 ≤ x2 := by
        have h9 : ∀ x ∈ flips.set at_.toNat x1, (0 : Int) ≤ x := fun x hx => by
          rcases List.mem_or_eq_of_mem_set hx with h | h
          · exact hfn x h
          · rw [h]; exact hx1n
        have h8 := h9 _ (getD_mem (d := 0) (xs := flips.set at_.toNat x1) h_at.1 (by rw [List.length_set]; omega))
        have h7 := mn2_spec 12 ((flips.set at_.toNat x1).getD at_.toNat 0)
        omega
      refine En.setitem (r := zI) (p := po) (xs := flips.set at_.toNat x1) E rfl 1 rfl (E.rd (r := zI) (d := x2) 0 rfl) (ev_var (i := 10) rfl (E.rd (r := zI) (d := at_) 4 rfl)) (setO_ok h_at.1 (by rw [List.length_set]; omega)) fun H E => ?_
      have ho1 : ((flips.set at_.toNat x1).set at_.toNat x2).length = rows.length := by rw [List.length_set, List.length_set]; exact h_flips.1
      have ho2 : ∀ x ∈ (flips.set at_.toNat x1).set at_.toNat x2, (0 : Int) ≤ x := fun x hx => by
        rcases List.mem_or_eq_of_mem_set hx with h | h
        · rcases List.mem_or_eq_of_mem_set h with h | h
          · exact hfn x h
          · rw [h]; exact hx1n
        · rw [h]; exact hx2n
      generalize ((flips.set at_.toNat x1).set at_.toNat x2) = others at ho1 ho2 E
      first | refine nx_ ?_ | skip
      refine asg_open ?_
      refine En.runB E (ev_call E.tdB (ea_cons (ev_var (i := 2) rfl (E.rdB (r := zL zW) (d := rows) 16 rfl)) (ea_cons (ev_var (i := 5) rfl (E.rdB (r := zL zI) (d := budgets) 14 rfl)) (ea_cons (ev_var (i := 9) rfl (E.clB (r := zI) (p := po) (xs := others) 1 rfl)) ea_nil))) (due_pre h_rows hb0 ho1 ho2)) fun v_oneed H E => ?_
      -- the facts and cells that are told on
      have E : En K ⟨T00, [], H00⟩ [fR zI v_oneed (m__law_due rows budgets others), fR zGame v_game (rows, budgets, flips, kk, ()), fR zI v_need (m__law_due rows budgets flips), fR (zL zI) v_budgets budgets, fR (zL zW) v_rows rows] [cL zI po others, cGame (rows, budgets, flips, kk, ())] _ H := En.facts (En.pick E [1, 2] (by decide) rfl) ⟨E.rd 0 rfl, E.rd 12 rfl, E.rd 14 rfl, E.rd 15 rfl, E.rd 17 rfl, trivial⟩
      first | refine nx_ ?_ | skip
      refine asg_open ?_
      refine mkK_open ?_
      have E1 : En K ⟨T00, [], H00⟩ _ [cL zI po others] _ H := En.pick E [0] (by decide) rfl
      refine cons_open ?_
      refine En.runTb E1 (ev_QL (ev_listL E1.tdB (ev_var (i := 2) rfl (E1.rdB (r := zL zW) (d := rows) 4 rfl)))) fun v1 H e1 E1 r1 => ?_
      replace E := E.ex e1
      refine cons_open ?_
      refine En.runTb E1 (ev_QL (ev_listL E1.tdB (ev_var (i := 5) rfl (E1.rdB (r := zL zI) (d := budgets) 3 rfl)))) fun v2 H e2 E1 r2 => ?_
      replace E := E.ex e2
      replace r1 := Mo.fr e2.fr r1
      refine nil_open ?_
      refine cons_open ?_
      refine En.runTb E1 (ev_some (ev_QL (ev_listL E1.tdB (ev_var (i := 9) rfl (E1.clB (r := zI) (p := po) (xs := others) 0 rfl))))) fun v3 H e3 E1 r3 => ?_
      replace E := E.ex e3
      replace r1 := Mo.fr e3.fr r1
      replace r2 := Mo.fr e3.fr r2
      refine nil_open ?_
      refine ⟨rfl, rfl, ?_⟩
      refine make_v (Cn := "Game") (fs := ["rows", "budgets", "flips", "known"]) (ra := aC (zQ zW) (aC (zQ zI) (aC (zO (zQ zI)) aN))) (pre := fun (a : List (List Bool) × List Int × Option (List Int) × Unit) => ((a.1 ≠ [] ∧ ∀ x ∈ a.1, x.length = (a.1.getD 0 []).length) ∧ (∀ x ∈ a.2.1, (0 : Int) ≤ x) ∧ a.2.1.length = a.1.length) ∧ a.1.length ≤ 1000) (rf := aC (zU zW) (aC (zU zI) (aC (zU zI) (aC zA aN)))) (Fd := fun (a : List (List Bool) × List Int × Option (List Int) × Unit) kk => (a.1, a.2.1, flipsOf a.2.2.1 a.1.length, kk, ())) (ws := [v1, v2, v3]) (a := (rows, budgets, some others, ())) E1.tdB ⟨_, _, rfl, r1, ⟨_, _, rfl, r2, ⟨_, _, rfl, r3, rfl⟩⟩⟩ ⟨⟨⟨R.1, R.2.2.1⟩, hb1, hb0⟩, by show rows.length ≤ 1000; omega⟩ fun p_o ko H e4 h0 h1 ob => ?_
      replace E := En.made (kf := kW) (U := wordsTo (((rows, budgets, others, ko, ()) : DGame).1.getD 0 []).length) (ok := fun (w : List Bool) i => i = m_Game_need_at ((((rows, budgets, others, ko, ()) : DGame).1.getD 0 []).length + 1 - w.length) (rows, budgets, others, ko, ()) w) (x := (rows, budgets, others, ko, ())) (ks := [cL zI po others]) E e4 h0 h1 kW_inj (few_wordsTo (by show (rows.getD 0 []).length ≤ 15; omega)) ob (fun a ha => by
        simp [owns] at ha
        subst ha
        exact E1.isL (r := zI) 0 rfl)
      clear E1 r1 r2 r3
      first | refine nx_ ?_ | skip
      refine asg_open ?_
      refine mk_open ?_
      refine cons_open ?_
      refine En.run E (ev_QU (ev_tupL E.td (ev_var (i := 2) rfl (E.rd (r := zL zW) (d := rows) 5 rfl)))) fun v1 H E => ?_
      refine cons_open ?_
      refine En.run E (ev_QU (ev_tupL E.td (ev_var (i := 5) rfl (E.rd (r := zL zI) (d := budgets) 5 rfl)))) fun v2 H E => ?_
      refine nil_open ?_
      refine make_v (Cn := "Game") (fs := ["rows", "budgets", "flips", "known"]) (ra := aC (zQ zW) (aC (zQ zI) (aC (zO (zQ zI)) aN))) (pre := fun (a : List (List Bool) × List Int × Option (List Int) × Unit) => ((a.1 ≠ [] ∧ ∀ x ∈ a.1, x.length = (a.1.getD 0 []).length) ∧ (∀ x ∈ a.2.1, (0 : Int) ≤ x) ∧ a.2.1.length = a.1.length) ∧ a.1.length ≤ 1000) (rf := aC (zU zW) (aC (zU zI) (aC (zU zI) (aC zA aN)))) (Fd := fun (a : List (List Bool) × List Int × Option (List Int) × Unit) kk => (a.1, a.2.1, flipsOf a.2.2.1 a.1.length, kk, ())) (ws := [v1, v2, .non]) (a := (rows, budgets, none, ())) E.td ⟨_, _, rfl, E.rd (r := zQ zW) (d := rows) 1 rfl, ⟨_, _, rfl, E.rd (r := zQ zI) (d := budgets) 0 rfl, ⟨_, _, rfl, .inl ⟨rfl, rfl⟩, rfl⟩⟩⟩ ⟨⟨⟨R.1, R.2.2.1⟩, hb1, hb0⟩, by show rows.length ≤ 1000; omega⟩ fun p_p kp H e4 h0 h1 ob => ?_
      replace E := En.made (kf := kW) (U := wordsTo (((rows, budgets, List.replicate rows.length 0, kp, ()) : DGame).1.getD 0 []).length) (ok := fun (w : List Bool) i => i = m_Game_need_at ((((rows, budgets, List.replicate rows.length 0, kp, ()) : DGame).1.getD 0 []).length + 1 - w.length) (rows, budgets, List.replicate rows.length 0, kp, ()) w) (x := (rows, budgets, List.replicate rows.length 0, kp, ())) (ks := []) E e4 h0 h1 kW_inj (few_wordsTo (by show (rows.getD 0 []).length ≤ 15; omega)) (Mo.sub (fun b hb => hb.elim (fun z => .inl z.1) .inr) ob) (fun a ha => by simp [owns] at ha)
      first | refine nx_ ?_ | skip
      refine ifs_open ?_
      refine or_open ?_
      refine not_open ?_
      refine tB_open ?_
      refine En.runM E 3 rfl (fun hW => en_call (W := fun (a : DGame × Int × Unit) => W1 a.1.2.2.2.1) (I := fun (a : DGame × Int × Unit) => IGame a.1) (cc := fun _ => 0) (b := (((rows, budgets, flips, kk, ()) : DGame), m__law_due rows budgets flips, ())) re_memo E.td hW (ea_cons (ev_var (i := 15) rfl (E.rd (r := zGame) (d := (rows, budgets, flips, kk, ())) 5 rfl)) (ea_cons (ev_var (i := 6) rfl (E.rd (r := zI) (d := m__law_due rows budgets flips) 6 rfl)) ea_nil)) ⟨game_pre h_rows hb0 h_flips.1 hfn, due_eq R.2.2.1 R.1 h_flips.1 hfn⟩) fun v H x hx E => ?_
      replace hx : x = true := hx
      subst hx
      refine ⟨true, E.rd (r := zB) (d := true) 0 rfl, ?_⟩
      rw [if_neg (by decide)]
      refine not_open ?_
      refine tB_open ?_
      refine En.runM E 1 rfl (fun hW => en_call (W := fun (a : DGame × Int × Unit) => W1 a.1.2.2.2.1) (I := fun (a : DGame × Int × Unit) => IGame a.1) (cc := fun _ => 0) (b := (((rows, budgets, others, ko, ()) : DGame), m__law_due rows budgets others, ())) re_memo E.td hW (ea_cons (ev_var (i := 12) rfl (E.rd (r := zGame) (d := (rows, budgets, others, ko, ())) 4 rfl)) (ea_cons (ev_var (i := 11) rfl (E.rd (r := zI) (d := m__law_due rows budgets others) 5 rfl)) ea_nil)) ⟨game_pre h_rows hb0 ho1 ho2, due_eq R.2.2.1 R.1 ho1 ho2⟩) fun v H x hx E => ?_
      replace hx : x = true := hx
      subst hx
      refine ⟨true, E.rd (r := zB) (d := true) 0 rfl, ?_⟩
      rw [if_neg (by decide)]
      first | refine nx_ ?_ | skip
      refine ret_open ?_
      refine andv_open ?_
      have hz : (rows.map fun (_ : List Bool) => (0 : Int)) = List.replicate rows.length 0 := List.map_const'
      have hz1 : (List.replicate rows.length (0 : Int)).length = rows.length := by simp
      have hz2 : ∀ x ∈ List.replicate rows.length (0 : Int), (0 : Int) ≤ x := fun x hx => by rw [List.eq_of_mem_replicate hx]; decide
      refine En.runM E 0 rfl (fun hW => en_call (W := fun (a : DGame × Int × Unit) => W1 a.1.2.2.2.1) (I := fun (a : DGame × Int × Unit) => IGame a.1) (cc := fun _ => 0) (b := (((rows, budgets, List.replicate rows.length 0, kp, ()) : DGame), m__law_due rows budgets (rows.map fun (_ : List Bool) => (0 : Int)), ())) re_memo E.td hW (ea_cons (ev_var (i := 13) rfl (E.rd (r := zGame) (d := (rows, budgets, List.replicate rows.length 0, kp, ())) 2 rfl)) (ea_cons (ev_call E.td (ea_cons (ev_var (i := 2) rfl (E.rd (r := zL zW) (d := rows) 10 rfl)) (ea_cons (ev_var (i := 5) rfl (E.rd (r := zL zI) (d := budgets) 9 rfl)) (ea_cons (ev_lc1 (f := fun (_ : List Bool) => (0 : Int)) E.td (ei_list (ev_var (i := 2) rfl (E.rd (r := zL zW) (d := rows) 10 rfl))) (fun T' H' v x L hT' hx r Q1 q1 => q1 _ wipe1 ev_int)) ea_nil))) (due_pre h_rows hb0 (by rw [hz]; exact hz1) (by rw [hz]; exact hz2))) ea_nil)) ⟨game_pre h_rows hb0 hz1 hz2, by rw [hz]; exact due_eq R.2.2.1 R.1 hz1 hz2⟩) fun v H x hx E => ?_
      replace hx : x = true := hx
      subst hx
      refine ⟨true, E.rd (r := zB) (d := true) 0 rfl, ?_⟩
      rw [if_pos rfl]
      refine En.runM E 3 rfl (fun hW => en_call (W := fun (a : DGame × Int × Unit) => W1 a.1.2.2.2.1) (I := fun (a : DGame × Int × Unit) => IGame a.1) (cc := fun _ => 0) (b := (((rows, budgets, flips, kk, ()) : DGame), m__law_due rows budgets flips, ())) re_memo E.td hW (ea_cons (ev_var (i := 15) rfl (E.rd (r := zGame) (d := (rows, budgets, flips, kk, ())) 8 rfl)) (ea_cons (ev_var (i := 6) rfl (E.rd (r := zI) (d := m__law_due rows budgets flips) 9 rfl)) ea_nil)) ⟨game_pre h_rows hb0 h_flips.1 hfn, due_eq R.2.2.1 R.1 h_flips.1 hfn⟩) fun v H x hx E => ?_
      replace hx : x = true := hx
      subst hx
      exact hQ _ _ E.isEx (E.rd (r := zB) (d := true) 0 rfl)
    · refine ifs_open ?_
      refine test_open ?_
      refine En.runT E 4 rfl 600000000 (by decide) (fun hW => en_eqI hW re_tape (en_call (W := fun (a : (Addr × Addr) × Int × Unit) => WTp a.1) (I := fun (a : (Addr × Addr) × Int × Unit) => TpI a.1) (cc := fun _ => 1) (b := (d, (2 : Int), ())) re_tape E.td hW (ea_cons (ev_var (i := 1) rfl (E.rd (r := zTp) (d := d) 8 rfl)) (ea_cons ev_int ea_nil)) (show 0 < (2 : Int) ∧ (2 : Int) < 1073741824 from ⟨by decide, by decide⟩)) (en_of re_tape ev_int)) fun v H x hx E => ?_
      refine ⟨x, E.rd (r := zB) (d := x) 0 rfl, ?_⟩
      refine iteB (fun hc => ?_) (fun hc => ?_)
      · refine asg_open ?_
        refine mkK_open ?_
        refine cons_open ?_
        refine En.runTb E (ev_QL (ev_fromL (ev_ixV (r := zA) (v := .ref p0) (d := p0) (ev_var (i := 7) rfl (E.rdB (r := zA) (d := pp) 1 rfl)) ev_int (E.cvB 0 rfl) rfl rfl) (E.clB (r := zW) (p := p0) (xs := rows) 3 rfl))) fun v1 H e1 E r1 => ?_
        refine cons_open ?_
        refine En.runTb E (ev_QL (ev_fromL (ev_ixV (r := zA) (v := .ref p1) (d := p1) (ev_var (i := 7) rfl (E.rdB (r := zA) (d := pp) 1 rfl)) ev_int (E.cvB 0 rfl) rfl rfl) (E.clB (r := zI) (p := p1) (xs := budgets) 2 rfl))) fun v2 H e2 E r2 => ?_
        replace r1 := Mo.fr e2.fr r1
        refine nil_open ?_
        refine cons_open ?_
        refine En.runTb E (ev_some (ev_QL (ev_fromL (ev_ixV (r := zA) (v := .ref p2) (d := p2) (ev_var (i := 7) rfl (E.rdB (r := zA) (d := pp) 1 rfl)) ev_int (E.cvB 0 rfl) rfl rfl) (E.clB (r := zI) (p := p2) (xs := flips) 1 rfl)))) fun v3 H e3 E r3 => ?_
        replace r1 := Mo.fr e3.fr r1
        replace r2 := Mo.fr e3.fr r2
        refine nil_open ?_
        refine ⟨rfl, rfl, ?_⟩
        refine make_v (Cn := "Game") (fs := ["rows", "budgets", "flips", "known"]) (ra := aC (zQ zW) (aC (zQ zI) (aC (zO (zQ zI)) aN))) (pre := fun (a : List (List Bool) × List Int × Option (List Int) × Unit) => ((a.1 ≠ [] ∧ ∀ x ∈ a.1, x.length = (a.1.getD 0 []).length) ∧ (∀ x ∈ a.2.1, (0 : Int) ≤ x) ∧ a.2.1.length = a.1.length) ∧ a.1.length ≤ 1000) (rf := aC (zU zW) (aC (zU zI) (aC (zU zI) (aC zA aN)))) (Fd := fun (a : List (List Bool) × List Int × Option (List Int) × Unit) kk => (a.1, a.2.1, flipsOf a.2.2.1 a.1.length, kk, ())) (ws := [v1, v2, v3]) (a := (rows, budgets, some flips, ())) E.tdB ⟨_, _, rfl, r1, ⟨_, _, rfl, r2, ⟨_, _, rfl, r3, rfl⟩⟩⟩ ⟨⟨⟨R.1, R.2.2.1⟩, hb1, hb0⟩, by show rows.length ≤ 1000; omega⟩ fun p_g kg H e4 h0 h1 ob => ?_
        have E2 := En.made (kf := kW) (U := wordsTo (((rows, budgets, flips, kg, ()) : DGame).1.getD 0 []).length) (ok := fun (w : List Bool) i => i = m_Game_need_at ((((rows, budgets, flips, kg, ()) : DGame).1.getD 0 []).length + 1 - w.length) (rows, budgets, flips, kg, ()) w) (x := (rows, budgets, flips, kg, ())) E e4 h0 h1 kW_inj (few_wordsTo (by show (rows.getD 0 []).length ≤ 15; omega)) ob (fun a ha => by
          simp [owns] at ha
          rcases ha with rfl | rfl | rfl | rfl | rfl | rfl
          · exact E.isV 0 rfl
          · exact E.isL (r := zI) 1 rfl
          · exact E.isL (r := zI) 2 rfl
          · exact E.isL (r := zW) 3 rfl
          · exact E.isT 4 rfl _ (by simp)
          · exact E.isT 4 rfl _ (by simp))
        exact rest _ _ ⟨_, _, kg, _, _, _, _, _, _, _, _, _, _, _, _, rfl, En.facts E2 ⟨E2.rd 0 rfl, E2.rd 2 rfl, E2.rd 6 rfl, E2.rd 7 rfl, E2.rd 8 rfl, E2.rd 9 rfl, E2.rd 10 rfl, trivial⟩⟩
      · refine asg_open ?_
        refine mkK_open ?_
        refine cons_open ?_
        refine En.run E (ev_QU (ev_tupL E.td (ev_var (i := 2) rfl (E.rd (r := zL zW) (d := rows) 8 rfl)))) fun v1 H E => ?_
        refine nil_open ?_
        refine cons_open ?_
        refine En.run E (ev_QU (ev_tupL E.td (ev_var (i := 5) rfl (E.rd (r := zL zI) (d := budgets) 7 rfl)))) fun v2 H E => ?_
        refine cons_open ?_
        refine En.run E (ev_some (ev_QU (ev_tupL E.td (ev_var (i := 3) rfl (E.rd (r := zL zI) (d := flips) 9 rfl))))) fun v3 H E => ?_
        refine nil_open ?_
        refine ⟨rfl, rfl, ?_⟩
        refine make_v (Cn := "Game") (fs := ["rows", "budgets", "flips", "known"]) (ra := aC (zQ zW) (aC (zQ zI) (aC (zO (zQ zI)) aN))) (pre := fun (a : List (List Bool) × List Int × Option (List Int) × Unit) => ((a.1 ≠ [] ∧ ∀ x ∈ a.1, x.length = (a.1.getD 0 []).length) ∧ (∀ x ∈ a.2.1, (0 : Int) ≤ x) ∧ a.2.1.length = a.1.length) ∧ a.1.length ≤ 1000) (rf := aC (zU zW) (aC (zU zI) (aC (zU zI) (aC zA aN)))) (Fd := fun (a : List (List Bool) × List Int × Option (List Int) × Unit) kk => (a.1, a.2.1, flipsOf a.2.2.1 a.1.length, kk, ())) (ws := [v1, v2, v3]) (a := (rows, budgets, some flips, ())) E.td ⟨_, _, rfl, E.rd (r := zQ zW) (d := rows) 2 rfl, ⟨_, _, rfl, E.rd (r := zQ zI) (d := budgets) 1 rfl, ⟨_, _, rfl, E.rd (r := zO (zQ zI)) (d := some flips) 0 rfl, rfl⟩⟩⟩ ⟨⟨⟨R.1, R.2.2.1⟩, hb1, hb0⟩, by show rows.length ≤ 1000; omega⟩ fun p_g kg H e4 h0 h1 ob => ?_
        have E2 := En.made (kf := kW) (U := wordsTo (((rows, budgets, flips, kg, ()) : DGame).1.getD 0 []).length) (ok := fun (w : List Bool) i => i = m_Game_need_at ((((rows, budgets, flips, kg, ()) : DGame).1.getD 0 []).length + 1 - w.length) (rows, budgets, flips, kg, ()) w) (x := (rows, budgets, flips, kg, ())) (ks := []) E e4 h0 h1 kW_inj (few_wordsTo (by show (rows.getD 0 []).length ≤ 15; omega)) (Mo.sub (fun b hb => hb.elim (fun z => .inl z.1) .inr) ob) (fun a ha => by simp [owns] at ha)
        exact rest _ _ ⟨_, _, kg, _, _, _, _, _, _, _, _, _, _, _, _, rfl, En.facts E2 ⟨E2.rd 0 rfl, E2.rd 5 rfl, E2.rd 9 rfl, E2.rd 10 rfl, E2.rd 11 rfl, E2.rd 12 rfl, E2.rd 13 rfl, trivial⟩⟩
  · refine ifs_open ?_
    refine test_open ?_
    refine En.runT E 0 rfl 800000000 (by decide) (fun hW => en_eqI hW re_tape (en_call (W := fun (a : (Addr × Addr) × Int × Unit) => WTp a.1) (I := fun (a : (Addr × Addr) × Int × Unit) => TpI a.1) (cc := fun _ => 1) (b := (d, (2 : Int), ())) re_tape E.td hW (ea_cons (ev_var (i := 1) rfl (E.rd (r := zTp) (d := d) 5 rfl)) (ea_cons ev_int ea_nil)) (show 0 < (2 : Int) ∧ (2 : Int) < 1073741824 from ⟨by decide, by decide⟩)) (en_of re_tape ev_int)) fun v H x hx E => ?_
    refine ⟨x, E.rd (r := zB) (d := x) 0 rfl, ?_⟩
    refine iteB (fun hc => ?_) (fun hc => ?_)
    · refine asg_open ?_
      refine En.runT E 0 rfl 700000000 (by decide) (fun hW => en_I0 (g := fun i j => i - j) hW re_tape (en_of re_tape (ev_var (i := 6) rfl (E.rd (r := zI) (d := m__law_due rows budgets flips) 1 rfl))) (en_call (W := fun (a : (Addr × Addr) × Int × Unit) => WTp a.1) (I := fun (a : (Addr × Addr) × Int × Unit) => TpI a.1) (cc := fun _ => 1) (b := (d, (2 : Int), ())) re_tape E.td hW (ea_cons (ev_var (i := 1) rfl (E.rd (r := zTp) (d := d) 6 rfl)) (ea_cons ev_int ea_nil)) (show 0 < (2 : Int) ∧ (2 : Int) < 1073741824 from ⟨by decide, by decide⟩))) fun v_shift H shift h_shift E => ?_
      first | refine nx_ ?_ | skip
      refine asg_open ?_
      refine En.run E (ev_lc1 (f := fun (x : Int) => mn2 10 (mx2 0 (x + shift))) E.td (ei_list (ev_var (i := 5) rfl (E.rd (r := zL zI) (d := budgets) 3 rfl))) (fun T' H' v x L hT' hx r Q1 q1 => q1 _ wipe1 (ev_min2 ev_int (ev_max2 ev_int (ev_add (ev_var (i := 17) rfl r) (ev_var (i := 14) rfl (L.ap (E.rd (r := zI) (d := shift) 0 rfl)))))))) fun v_b2 H E => ?_
      first | refine nx_ ?_ | skip
      refine asg_open ?_
      refine En.run E (ev_call E.td (ea_cons (ev_var (i := 2) rfl (E.rd (r := zL zW) (d := rows) 7 rfl)) (ea_cons (ev_var (i := 5) rfl (E.rd (r := zL zI) (d := budgets.map fun (x : Int) => mn2 10 (mx2 0 (x + shift))) 0 rfl)) (ea_cons (ev_var (i := 3) rfl (E.rd (r := zL zI) (d := flips) 6 rfl)) ea_nil))) (due_pre h_rows (by rw [List.length_map]; exact hb0) h_flips.1 hfn)) fun v_n2 H E => ?_
      exact rest _ _ ⟨_, _, _, _, _, _, _, _, _, _, _, _, _, _, _, _, _, _, by rw [List.length_map]; exact hb0, bmap_nn, rfl, En.facts E ⟨E.rd 0 rfl, E.rd 1 rfl, E.rd 7 rfl, E.rd 8 rfl, E.rd 9 rfl, trivial⟩⟩
    · exact rest _ _ ⟨_, _, _, _, _, _, _, _, _, _, _, _, _, _, _, _, _, _, hb0, hb1, rfl, En.facts (En.retell E (c' := cTape d 700000000) 0 rfl (fun i => tp_less i (by decide)) rfl) ⟨E.rd 1 rfl, E.rd 2 rfl, E.rd 4 rfl, E.rd 5 rfl, E.rd 6 rfl, trivial⟩⟩

end
end EB

set_option Elab.async false
set_option linter.all false
set_option maxRecDepth 100000
set_option maxHeartbeats 4000000

namespace EB
open PySem PySem.Spec PyProof.Rows L2
local macro_rules | `(tactic| walk_at "ob") => `(tactic| first | exact trivial | omega | assumption | exact len_sign ‹_›)
local macro_rules | `(tactic| walk_at "ob1") => `(tactic| first | (have := mem_enL ‹_ ∈ enL _›; omega) | (simp only [List.length_append, List.length_cons, List.length_nil, enL_len, rng_len] at *; omega))
local macro_rules | `(tactic| walk_at "ob2") => `(tactic| (simp_all; done))
local macro_rules | `(tactic| walk_at "inv") => `(tactic| first | exact trivial | (simp only [List.length_append, List.length_cons, List.length_nil, Nat.mul_zero, Nat.add_zero]; omega) | omega | (simp only [List.length_append, List.length_cons, List.length_nil] at *; omega))
local macro_rules | `(tactic| walk_at "fin") => `(tactic| first | (simp; done) | (simp_all [List.all_eq_true]; done))

section

abbrev R9 : PySem.W.OpenRow := PySem.W.OpenLaw.row PySem.Challenge.rw_everybudget_k28_need_with_flips
abbrev hk : PySem.W.Hook := He.hookX 6 fa fn [] [] ex
def ob (s : PySem.W.SharedT) : He.AlX := He.obsX 6 fa fn [] [] ex (HandSHeadRun.getT s)
theorem ob_eq (s : PySem.W.SharedT) : ob s = hk.obs s.abs := He.obsX_eq (HandSHeadRun.getT_eq s)
def loose : List PySem.Str := ["_wall", "BudgetError", "InvalidBudgets", "InvalidRows", "is_integer", "is_number", "is_row", "is_word", "are_budgets", "are_rows", "check_rows", "BITS", "differences", "Game", "_law_tape", "_law_draw", "_law_bits", "_law_integer", "_law_rows", "_law_flips", "_law_need", "_law_due", "_law_asked", "_law_asks"]
theorem run9 (w : World) : HandSHeadRun.RunEq R9 (PySem.W.view R9.prog [29]) hk ob 6000 loose w := by
  intro os
  kernel_rfl
def spLaw (K : PySem.W.Frag) : Sp := fun vs H Q _ => ∃ (a : Addr) (ns : List Int), vs = [.ref a] ∧ SqL K H a (ns.map V.int) ∧ ns.length ≤ 63 ∧ ∀ H', Q (.bl true) H'
theorem facts {P : Program} {w : World} {K : PySem.W.Frag} {h : Heap} {mg : Str → Option Value} {f : Addr} (X : K.In h) (G : h.Ns mainGlobals mg) (hfa : mg ("law" : Str) = some (.ref f)) (c : He.SaysX fa fn [] [] ex w h K) :
    ∃ fd : FuncData, (∀ (s : Shared) (v : Value), BindsTo s fd ⟨[v], []⟩ [("script", v)]) ∧ ∀ base : Heap, K.In base → base.Ns mainGlobals mg → FnOk P w K mg base CX0 100 f fd ["script"] (spLaw K) := by
  have S := tx_of X G c
  have ef : He.fAd K ("law", none) = f := by
    have h1 := g_law S
    rw [hfa] at h1
    injection h1 with h2
    injection h2 with h3
    exact h3.symm
  obtain ⟨fd, D⟩ := d_law S
  refine ⟨fd, fun s v => D.bindsA (ps := ["script"]) (fun _ _ _ _ _ _ us hl => match us, hl with | [_], _ => rfl) s [v] rfl, fun base hb hG => ?_⟩
  have G_is_integer := (ok_is_integer (P := P) (w := w) (base := base) S  : Ok P w K mg base 1 ("is_integer", none) ["value"] (sp_is_integer K))
  have G_is_number := (ok_is_number (P := P) (w := w) (base := base) S G_is_integer : Ok P w K mg base 2 ("is_number", none) ["value"] (sp_is_number K))
  have G_is_row_w := (ok_is_row_w (P := P) (w := w) (base := base) S  : Ok P w K mg base 1 ("is_row", none) ["value"] (sp_is_row_w K))
  have G_is_row_i := (ok_is_row_i (P := P) (w := w) (base := base) S  : Ok P w K mg base 1 ("is_row", none) ["value"] (sp_is_row_i K))
  have G_is_word := (ok_is_word (P := P) (w := w) (base := base) S  : Ok P w K mg base 1 ("is_word", none) ["value"] (sp_is_word K))
  have G_are_budgets := (ok_are_budgets (P := P) (w := w) (base := base) S G_is_number G_is_row_i : Ok P w K mg base 3 ("are_budgets", none) ["value"] (sp_are_budgets K))
  have G_are_rows := (ok_are_rows (P := P) (w := w) (base := base) S G_is_row_w G_is_word : Ok P w K mg base 2 ("are_rows", none) ["value"] (sp_are_rows K))
  have G_check_rows := (ok_check_rows (P := P) (w := w) (base := base) S G_are_budgets G_are_rows : Ok P w K mg base 4 ("check_rows", none) ["rows", "budgets"] (sp_check_rows K))
  have G_differences := (ok_differences (P := P) (w := w) (base := base) S  : Ok P w K mg base 1 ("differences", none) ["row", "word"] (sp_differences K))
  have G_Game_living_at := (ok_Game_living_at (P := P) (w := w) (base := base) S G_differences : Ok P w K mg base 2 ("Game", some "living_at") ["self", "word"] (sp_Game_living_at K))
  have G__law_draw := (ok__law_draw (P := P) (w := w) (base := base) S : Ok P w K mg base 1 ("_law_draw", none) ["tape", "limit"] (sp_draw K))
  have G__law_bits := (ok__law_bits (P := P) (w := w) (base := base) S G__law_draw : Ok P w K mg base 2 ("_law_bits", none) ["tape", "many"] (sp__law_bits K))
  have G__law_rows := (ok__law_rows (P := P) (w := w) (base := base) S G__law_bits G__law_draw : Ok P w K mg base 3 ("_law_rows", none) ["tape"] (sp__law_rows K))
  have G__law_flips := (ok__law_flips (P := P) (w := w) (base := base) S G__law_draw : Ok P w K mg base 2 ("_law_flips", none) ["tape", "rows"] (sp__law_flips K))
  have G__law_integer := (ok__law_integer (P := P) (w := w) (base := base) S  : Ok P w K mg base 1 ("_law_integer", none) ["told", "due"] (sp__law_integer K))
  have G__law_need := (ok__law_need (P := P) (w := w) (base := base) S  12 : Ok P w K mg base 13 ("_law_need", none) ["rows", "budgets", "living", "place"] ((sp__law_need 12) K))
  have G__law_due := (ok__law_due (P := P) (w := w) (base := base) S G__law_need : Ok P w K mg base 14 ("_law_due", none) ["rows", "budgets", "flips"] (sp__law_due K))
  have G_Game_open_bits := (ok_Game_open_bits (P := P) (w := w) (base := base) S G_Game_living_at : Ok P w K mg base 3 ("Game", some "open_bits") ["self", "word"] (sp_Game_open_bits K))
  have G_Game_need_at := (ok_Game_need_at (P := P) (w := w) (base := base) S G_Game_living_at G_Game_open_bits 12 : Ok P w K mg base 16 ("Game", some "need_at") ["self", "word"] ((sp_Game_need_at 12) K))
  have G_Game_need := (ok_Game_need (P := P) (w := w) (base := base) S G_Game_need_at : Ok P w K mg base 17 ("Game", some "need") ["self"] (sp_Game_need K))
  have G_Game_is_kept := (ok_Game_is_kept (P := P) (w := w) (base := base) S G_Game_need : Ok P w K mg base 18 ("Game", some "is_kept") ["self"] (sp_Game_is_kept K))
  have G__law_asked := (ok__law_asked (P := P) (w := w) (base := base) S G_Game_is_kept G_Game_need G__law_integer : Ok P w K mg base 19 ("_law_asked", none) ["game", "need"] (sp__law_asked K))
  have G__law_tape := (ok__law_tape (P := P) (w := w) (base := base) S : Ok P w K mg base 1 ("_law_tape", none) ["script"] (TSp K))
  have G_Game___init__ := (ok_Game___init__ (P := P) (w := w) (base := base) S G_check_rows : OkD P w K mg base 5 ("Game", some "__init__") ["self", "rows", "budgets", "flips"] (sp_Game___init__ K) "__init__" "Game.__init__" (defArgs s_Game___init__) (defBody s_Game___init__) (defScope s_Game___init__) [] [("flips", V.non)])
  have G__law_asks := (ok__law_asks (P := P) (w := w) (base := base) S G_Game___init__ G__law_asked G__law_draw G__law_due G__law_flips G__law_rows G__law_tape : Ok P w K mg base 20 ("_law_asks", none) ["script"] (sp__law_asks K))
  rw [← ef]
  refine (D.ok (k := 99) sc_law (fun vs H Q E h => by obtain ⟨a, ns, e, _⟩ := h; rw [e]; rfl) fun cdv A outer s H vs Q E hr h => ?_).mono (by omega)
  obtain ⟨a, ns, rfl, hs, hl, hQ⟩ := h
  replace r_script : zL zI K T0 H (.ref a) ns := ⟨a, _, rfl, hs.elim (fun z => .inl ⟨id, z⟩) .inr, all2_ints⟩
  have hr : Room 99 (A.deeper (envOfC "law" (defScope s_law) s.heap.objs.size (He.fAd K ("law", none)) cdv)) := hr
  refine ⟨_, ((pss_one (ps_try_thru0 (pss_one (ps_ret (pe_callG G__law_asks hr (by omega) (by rfl) (g__law_asks S) (pa_cons (pv 0) pa_nil)))))) : PSs (cxOf CX0 P w K mg base ["script"] "law" (defScope s_law) (He.fAd K ("law", none)) cdv A outer s H E).nox (defBody s_law) _).nox, ?_⟩
  exact st_ret (K := K) (T := T0) (ev_call td0 (ea_cons (ev_var (i := 0) rfl r_script) ea_nil) hl) fun v H9 e r => by cases r; exact hQ H9

end
end EB
open PySem PySem.W PySem.Calls PyProof.Rows
theorem PySem.Challenge.cw_everybudget_k28_need_with_flips_holds : PySem.Challenge.rw_everybudget_k28_need_with_flips.Holds := by
  w_on; o_law
  refine HandSHeadRun.head_any (r := OpenLaw.row PySem.Challenge.rw_everybudget_k28_need_with_flips) (q := view (OpenLaw.row PySem.Challenge.rw_everybudget_k28_need_with_flips).prog [29]) (H := EB.hk) (ob := EB.ob) (M := 6000) (loose := EB.loose) (d := HandSHeadRun.topDef (OpenLaw.row PySem.Challenge.rw_everybudget_k28_need_with_flips).prog 29) (kwd := []) EB.ob_eq
    (by kernel_rfl) (fun s => by kernel_rfl) EB.run9 (by kernel_rfl) (by kernel_rfl) (by kernel_rfl) (by rfl) (by first | assumption | decide +kernel) (by decide +kernel) ⟨rfl, rfl, rfl, rfl, rfl, by decide +kernel⟩ ?hw ?hc
  case hw => w_witness2
  case hc =>
    refine L2.walk_ofE (l := PySem.Challenge.rw_everybudget_k28_need_with_flips) (n := 63) (k := 100) (x := "script") (CX := L2.CX0) rfl (by decide) (by kernel_rfl) ⟨rfl, by decide, by decide⟩ ?F (fun _ _ _ _ z => z)
    intro w mg fa h Y G hmg0
    obtain ⟨K, KX, c⟩ := Y
    have hmg : mg ("law" : PySem.Str) = some (.ref fa) := by
      have e : (HandSHeadRun.topDef (OpenLaw.row PySem.Challenge.rw_everybudget_k28_need_with_flips).prog 29).name = ("law" : PySem.Str) := by kernel_rfl
      rw [← e]
      exact hmg0
    obtain ⟨fd, hb, hF⟩ := EB.facts (P := (PySem.Challenge.rw_everybudget_k28_need_with_flips).prog) (w := w) KX G hmg c
    exact ⟨K, fd, EB.spLaw K, KX, hb, fun H a ns hl _ hS => ⟨a, ns, rfl, hS, hl, fun _ => rfl⟩, hF⟩

