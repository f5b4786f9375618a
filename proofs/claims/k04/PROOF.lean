import PyProof.Rows.All
import Wide.All
import OpenK.AllK
import Wide.FinOn
import KE.KStateDown
import Lean
import HandS.ForMost
import HandS.ForExc
import HandS.More
import HandS.Conv
import HandS.Defaults
import HandS.IsInst
import HandS.Flow
import HandS.Style
import HandS.StrMore
import HandS.TupMul
import HandS.TupAny
import HandS.Walk
import HandS.Zip
import HandS.Head0
import HandS.Head1
import HandS.Head2
import HandS.HeadEnd
import HandS.HeadHook1
import HandS.HeadHook2
import HandS.HeadHook3
import HandS.HeadHook4
import KE.GoesEnum
import HandS.Flt
import HandS.Steps
import HandS.MakeKw
import HandS.MakeKwOnly
import HandS.Wide
import HandS.ExcInit
import HandS.ExcField
import HandS.ExcOwn
import HandS.ExcIs
import KE.KExcIs
import PySem.Challenge.RW_everybudget_k04_whole_schedules_and_coun
set_option Elab.async false
set_option linter.all false
set_option maxRecDepth 100000
set_option maxHeartbeats 4000000
/-! EB: typed representations of values, frames, readings that evaluate. -/
namespace EB
open PySem PySem.Spec PyProof.Rows L2

/-! ### sets of addresses, frames -/
abbrev AS := Addr → Prop
def Ex (H H' : Hp) : Prop := ∀ a o, H a = some o → H' a = some o
theorem Ex.refl (H : Hp) : Ex H H := fun _ _ h => h
theorem Ex.trans {H H1 H2 : Hp} (a : Ex H H1) (b : Ex H1 H2) : Ex H H2 := fun x o h => b x o (a x o h)
theorem Ex.new {H : Hp} {p : Addr} {o : HO} (h : H p = none) : Ex H (upd H p o) := fun a u e => by
  rw [upd_ne (ne_of_none e h)]
  exact e
theorem Ex.back {H H' : Hp} {p : Addr} (e : Ex H H') (h : H' p = none) : H p = none := by
  cases h1 : H p with
  | none => rfl
  | some o => rw [e p o h1] at h; cases h
/-- T may have changed; what was tracked is -/
structure Fr (T : AS) (H H' : Hp) : Prop where
  keep : ∀ a o, ¬ T a → H a = some o → H' a = some o
  dom : ∀ a o, H a = some o → ∃ o', H' a = some o'
theorem Fr.refl {T : AS} (H : Hp) : Fr T H H := ⟨fun _ _ _ h => h, fun _ o h => ⟨o, h⟩⟩
theorem Fr.trans {T : AS} {H H1 H2 : Hp} (a : Fr T H H1) (b : Fr T H1 H2) : Fr T H H2 :=
  ⟨fun x o n h => b.keep x o n (a.keep x o n h), fun x o h => let ⟨o1, h1⟩ := a.dom x o h; b.dom x o1 h1⟩
theorem Ex.fr {T : AS} {H H' : Hp} (e : Ex H H') : Fr T H H' := ⟨fun a o _ h => e a o h, fun a o h => ⟨o, e a o h⟩⟩
theorem Fr.mono {S T : AS} {H H' : Hp} (f : Fr S H H') (h : ∀ b, S b → T b) : Fr T H H' := ⟨fun a o n e => f.keep a o (fun z => n (h a z)) e, f.dom⟩
theorem Fr.back {T : AS} {H H' : Hp} {p : Addr} (e : Fr T H H') (h : H' p = none) : H p = none := by
  cases h1 : H p with
  | none => rfl
  | some o => obtain ⟨o', h2⟩ := e.dom p o h1; rw [h2] at h; cases h
theorem Fr.upd {T : AS} {H : Hp} {p : Addr} {o : HO} (h : T p ∨ H p = none) : Fr T H (upd H p o) := by
  refine ⟨fun a u n e => ?_, fun a u e => ?_⟩
  · have ne : a ≠ p := fun z => by
      subst z
      rcases h with h | h
      · exact n h
      · rw [h] at e; cases e
    rw [upd_ne ne]; exact e
  · by_cases z : a = p
    · subst z; exact ⟨o, upd_same⟩
    · rw [upd_ne z]; exact ⟨u, e⟩
theorem Fr.ex {T : AS} {H H' : Hp} (f : Fr T H H') (h : ∀ b, ¬ T b) : Ex H H' := fun a o e => f.keep a o (h a) e
/-- T is tracked -/
def TD (T : AS) (H : Hp) : Prop := ∀ b, T b → ∃ o, H b = some o
theorem TD.fr {S T : AS} {H H' : Hp} (h : TD T H) (f : Fr S H H') : TD T H' := fun b t => let ⟨o, e⟩ := h b t; f.dom b o e
theorem TD.ex {T : AS} {H H' : Hp} (h : TD T H) (e : Ex H H') : TD T H' := fun b t => let ⟨o, q⟩ := h b t; ⟨o, e b o q⟩
theorem TD.new {T : AS} {H : Hp} {p : Addr} (h : TD T H) (n : H p = none) : ¬ T p := fun t => by
  obtain ⟨o, e⟩ := h p t
  rw [n] at e; cases e
def T0 : AS := fun _ => False
theorem td0 {H : Hp} : TD T0 H := fun _ h => h.elim
/-- T and p -/
def Tp (T : AS) (p : Addr) : AS := fun b => T b ∨ b = p
theorem TD.tp {T : AS} {H : Hp} {p : Addr} {o : HO} (h : TD T H) (e : H p = some o) : TD (Tp T p) H := fun b t => by
  rcases t with t | t
  · exact h b t
  · subst t; exact ⟨o, e⟩

/-! ### lists and tuples off T -/
def KLs (K : PySem.W.Frag) (a : Addr) (xs : List V) : Prop := ∃ (o : Obj) (its : Array Value) (n : Nat), K.lookup a = some o ∧ o.cls = .type "list" ∧ o.dict = none ∧ o.data = .seq its n ∧ its.size ≤ sizeLine ∧ Vals xs its.toList
def KTu (K : PySem.W.Frag) (a : Addr) (xs : List V) : Prop := ∃ (o : Obj) (its : Array Value) (n : Nat), K.lookup a = some o ∧ o.cls = .type "tuple" ∧ o.data = .seq its n ∧ its.size ≤ sizeLine ∧ Vals xs its.toList
def SL (K : PySem.W.Frag) (T : AS) (H : Hp) (a : Addr) (xs : List V) : Prop := (¬ T a ∧ Rd H a (.lst xs)) ∨ KLs K a xs
def ST (K : PySem.W.Frag) (T : AS) (H : Hp) (a : Addr) (xs : List V) : Prop := (¬ T a ∧ Rd H a (.tup xs)) ∨ KTu K a xs
section
variable {K : PySem.W.Frag} {T T' : AS} {H H' : Hp} {a p : Addr} {xs : List V}
theorem SL.sq (h : SL K T H a xs) : SqL K H a xs := h.elim (fun z => .inl z.2) .inr
theorem ST.sq (h : ST K T H a xs) : SqT K H a xs := h.elim (fun z => .inl z.2) .inr
theorem Rd.fr {u : HO} (n : ¬ T a) (f : Fr T H H') (h : Rd H a u) : Rd H' a u := h.elim (fun z => .inl (f.keep a _ n z)) fun ⟨o, z⟩ => .inr ⟨o, f.keep a _ n z⟩
theorem SL.fr (f : Fr T H H') (h : SL K T H a xs) : SL K T H' a xs := h.elim (fun z => .inl ⟨z.1, Rd.fr z.1 f z.2⟩) .inr
theorem ST.fr (f : Fr T H H') (h : ST K T H a xs) : ST K T H' a xs := h.elim (fun z => .inl ⟨z.1, Rd.fr z.1 f z.2⟩) .inr
theorem SL.sub (f : ∀ b, T' b → T b) (h : SL K T H a xs) : SL K T' H a xs := h.elim (fun z => .inl ⟨fun t => z.1 (f a t), z.2⟩) .inr
theorem ST.sub (f : ∀ b, T' b → T b) (h : ST K T H a xs) : ST K T' H a xs := h.elim (fun z => .inl ⟨fun t => z.1 (f a t), z.2⟩) .inr
theorem Rd.ne {u : HO} (n : H p = none) (h : Rd H a u) : a ≠ p := fun z => by
  subst z
  rcases h with h | ⟨o, h⟩ <;> (rw [n] at h; cases h)
theorem SL.lift (n : H p = none) (h : SL K T H a xs) : SL K (Tp T p) H a xs := h.elim (fun z => .inl ⟨fun t => t.elim z.1 (Rd.ne n z.2), z.2⟩) .inr
theorem ST.lift (n : H p = none) (h : ST K T H a xs) : ST K (Tp T p) H a xs := h.elim (fun z => .inl ⟨fun t => t.elim z.1 (Rd.ne n z.2), z.2⟩) .inr
theorem SL.new (n : ¬ T p) (e : H p = some (.lst xs)) : SL K T H p xs := .inl ⟨n, .inl e⟩
theorem ST.new (n : ¬ T p) (e : H p = some (.tup xs)) : ST K T H p xs := .inl ⟨n, .inl e⟩
end

/-! ### representations -/
abbrev Rp (α : Type) := PySem.W.Frag → AS → Hp → V → α → Prop
/-- steps of the heap -/
structure Wd (T : AS) (H : Hp) (T' : AS) (H' : Hp) : Prop where
  fr : Fr T H H'
  nw : ∀ b, T' b → T b ∨ H b = none
section
variable {T T' T'' : AS} {H H' H'' : Hp}
theorem Wd.refl : Wd T H T H := ⟨Fr.refl H, fun _ h => .inl h⟩
theorem Wd.trans (a : Wd T H T' H') (c : Wd T' H' T'' H'') : Wd T H T'' H'' where
  fr := ⟨fun x o n h => c.fr.keep x o (fun t => (a.nw x t).elim n fun z => by rw [z] at h; cases h) (a.fr.keep x o n h), fun x o h => let ⟨o1, h1⟩ := a.fr.dom x o h; c.fr.dom x o1 h1⟩
  nw := fun x t => (c.nw x t).elim (a.nw x) fun z => .inr (a.fr.back z)
theorem Wd.ex (e : Ex H H') : Wd T H T H' := ⟨e.fr, fun _ h => .inl h⟩
theorem Wd.of (f : Fr T H H') : Wd T H T H' := ⟨f, fun _ h => .inl h⟩
theorem Wd.sub (h : ∀ b, T' b → T b) : Wd T H T' H := ⟨Fr.refl H, fun b t => .inl (h b t)⟩
theorem Wd.new {p : Addr} {o : HO} (h : H p = none) : Wd T H (Tp T p) (upd H p o) := ⟨(Ex.new h).fr, fun b t => t.elim .inl fun z => .inr (z ▸ h)⟩
theorem Wd.lift {p : Addr} (h : H p = none) : Wd T H (Tp T p) H := ⟨Fr.refl H, fun b t => t.elim .inl fun z => .inr (z ▸ h)⟩
end
section
variable {K : PySem.W.Frag} {T T' : AS} {H H' : Hp} {a : Addr} {xs : List V} {u : HO}
theorem Rd.wd (w : Wd T H T' H') (n : ¬ T a) (h : Rd H a u) : ¬ T' a ∧ Rd H' a u :=
  ⟨fun t => (w.nw a t).elim n fun z => by rcases h with h | ⟨o, h⟩ <;> (rw [z] at h; cases h), Rd.fr n w.fr h⟩
theorem SL.wd (w : Wd T H T' H') (h : SL K T H a xs) : SL K T' H' a xs := h.elim (fun z => .inl (Rd.wd w z.1 z.2)) .inr
theorem ST.wd (w : Wd T H T' H') (h : ST K T H a xs) : ST K T' H' a xs := h.elim (fun z => .inl (Rd.wd w z.1 z.2)) .inr
end
class Mo {α : Type} (r : Rp α) : Prop where
  wd : ∀ {K T H T' H' v a}, Wd T H T' H' → r K T H v a → r K T' H' v a
theorem Mo.fr {α : Type} {r : Rp α} [Mo r] {K T H H' v a} (f : Fr T H H') (h : r K T H v a) : r K T H' v a := Mo.wd (Wd.of f) h
theorem Mo.sub {α : Type} {r : Rp α} [Mo r] {K T T' H v a} (f : ∀ b, T' b → T b) (h : r K T H v a) : r K T' H v a := Mo.wd (Wd.sub f) h
theorem Mo.lift {α : Type} {r : Rp α} [Mo r] {K T H v a p} (f : H p = none) (h : r K T H v a) : r K (Tp T p) H v a := Mo.wd (Wd.lift f) h
def zI : Rp Int := fun _ _ _ v i => v = .int i
def zB : Rp Bool := fun _ _ _ v b => v = .bl b
def zS : Rp Str := fun _ _ _ v s => v = .str s
def zN : Rp Unit := fun _ _ _ v _ => v = .non
/-- a word of bits, as a text -/
def sgn (b : Bool) : Nat := if b then 49 else 48
def wS (w : List Bool) : Str := ⟨(w.map sgn).toArray⟩
def zW : Rp (List Bool) := fun _ _ _ v w => v = .str (wS w) ∧ w.length ≤ 100000
abbrev All2 {α β : Type} (F : α → β → Prop) : List α → List β → Prop := Paired F
def zL {α : Type} (r : Rp α) : Rp (List α) := fun K T H v xs => ∃ a vs, v = .ref a ∧ SL K T H a vs ∧ All2 (r K T H) vs xs
def zU {α : Type} (r : Rp α) : Rp (List α) := fun K T H v xs => ∃ a vs, v = .ref a ∧ ST K T H a vs ∧ All2 (r K T H) vs xs
def zP {α β : Type} (r : Rp α) (s : Rp β) : Rp (α × β) := fun K T H v p => ∃ a x y, v = .ref a ∧ ST K T H a [x, y] ∧ r K T H x p.1 ∧ s K T H y p.2
def zP3 {α β γ : Type} (r : Rp α) (s : Rp β) (t : Rp γ) : Rp (α × β × γ) := fun K T H v p => ∃ a x y z, v = .ref a ∧ ST K T H a [x, y, z] ∧ r K T H x p.1 ∧ s K T H y p.2.1 ∧ t K T H z p.2.2
def zO {α : Type} (r : Rp α) : Rp (Option α) := fun K T H v o => (v = .non ∧ o = none) ∨ ∃ x, o = some x ∧ r K T H v x
section
theorem all2_imp {α β : Type} {F G : α → β → Prop} (h : ∀ a b, F a b → G a b) : ∀ {xs : List α} {ys : List β}, All2 F xs ys → All2 G xs ys
  | _, _, .nil => .nil
  | _, _, .cons r t => .cons (h _ _ r) (all2_imp h t)
theorem all2_len {α β : Type} {F : α → β → Prop} : ∀ {xs : List α} {ys : List β}, All2 F xs ys → xs.length = ys.length
  | _, _, .nil => rfl
  | _, _, .cons _ t => by simp [all2_len t]
theorem all2_get {α β : Type} {F : α → β → Prop} : ∀ {xs : List α} {ys : List β} {i : Nat} {y : β}, All2 F xs ys → ys[i]? = some y → ∃ x, xs[i]? = some x ∧ F x y
  | _, _, _, _, .nil, e => by simp at e
  | _, _, 0, _, .cons r _, e => by simp at e; subst e; exact ⟨_, rfl, r⟩
  | _, _, i + 1, y, .cons _ t, e => by
    obtain ⟨u, h1, h2⟩ := all2_get (i := i) (y := y) t (by simpa using e)
    exact ⟨u, by simpa using h1, h2⟩
theorem all2_getL {α β : Type} {F : α → β → Prop} : ∀ {xs : List α} {ys : List β} {i : Nat} {x : α}, All2 F xs ys → xs[i]? = some x → ∃ y, ys[i]? = some y ∧ F x y
  | _, _, _, _, .nil, e => by simp at e
  | _, _, 0, _, .cons r _, e => by simp at e; subst e; exact ⟨_, rfl, r⟩
  | _, _, i + 1, y, .cons _ t, e => by
    obtain ⟨u, h1, h2⟩ := all2_getL (i := i) (x := y) t (by simpa using e)
    exact ⟨u, by simpa using h1, h2⟩
theorem all2_app {α β : Type} {F : α → β → Prop} : ∀ {xs us : List α} {ys ws : List β}, All2 F xs ys → All2 F us ws → All2 F (xs ++ us) (ys ++ ws)
  | _, _, _, _, .nil, s => s
  | _, _, _, _, .cons r t, s => .cons r (all2_app t s)
theorem all2_map {α β γ : Type} {F : α → β → Prop} (f : γ → α) (g : γ → β) (h : ∀ c, F (f c) (g c)) : ∀ l : List γ, All2 F (l.map f) (l.map g)
  | [] => .nil
  | c :: r => .cons (h c) (all2_map f g h r)
theorem all2_take {α β : Type} {F : α → β → Prop} : ∀ {xs : List α} {ys : List β} (n : Nat), All2 F xs ys → All2 F (xs.take n) (ys.take n)
  | _, _, 0, _ => .nil
  | _, _, _ + 1, .nil => .nil
  | _, _, n + 1, .cons r t => .cons r (all2_take n t)
theorem all2_drop {α β : Type} {F : α → β → Prop} : ∀ {xs : List α} {ys : List β} (n : Nat), All2 F xs ys → All2 F (xs.drop n) (ys.drop n)
  | _, _, 0, r => r
  | _, _, _ + 1, .nil => .nil
  | _, _, n + 1, .cons _ t => all2_drop n t
theorem all2_set {α β : Type} {F : α → β → Prop} {x : α} {y : β} (r : F x y) : ∀ {xs : List α} {ys : List β} (i : Nat), All2 F xs ys → All2 F (xs.set i x) (ys.set i y)
  | _, _, _, .nil => .nil
  | _, _, 0, .cons _ t => .cons r t
  | _, _, i + 1, .cons q t => .cons q (all2_set r i t)
theorem all2_int {vs : List V} {ns : List Int} {K T H} (h : All2 (zI K T H) vs ns) : vs = ns.map V.int := by
  induction h with
  | nil => rfl
  | cons r _ ih => cases r; rw [ih]; rfl
theorem all2_ints {ns : List Int} {K T H} : All2 (zI K T H) (ns.map V.int) ns := by
  have := all2_map (F := zI K T H) V.int id (fun _ => rfl) ns
  simpa using this
theorem all2_bl {vs : List V} {ns : List Bool} {K T H} (h : All2 (zB K T H) vs ns) : vs = ns.map V.bl := by
  induction h with
  | nil => rfl
  | cons r _ ih => cases r; rw [ih]; rfl
theorem all2_str {vs : List V} {ns : List Str} {K T H} (h : All2 (zS K T H) vs ns) : vs = ns.map V.str := by
  induction h with
  | nil => rfl
  | cons r _ ih => cases r; rw [ih]; rfl
theorem all2_word {vs : List V} {ns : List (List Bool)} {K T H} (h : All2 (zW K T H) vs ns) : vs = (ns.map wS).map V.str := by
  induction h with
  | nil => rfl
  | cons r _ ih => obtain ⟨r, _⟩ := r; cases r; rw [ih]; rfl
instance : Mo zI := ⟨fun _ h => h⟩
instance : Mo zB := ⟨fun _ h => h⟩
instance : Mo zS := ⟨fun _ h => h⟩
instance : Mo zN := ⟨fun _ h => h⟩
instance : Mo zW := ⟨fun _ h => h⟩
variable {α β γ : Type} {r : Rp α} {s : Rp β} {t : Rp γ}
instance [Mo r] : Mo (zL r) := ⟨fun w ⟨a, vs, e, h, q⟩ => ⟨a, vs, e, h.wd w, all2_imp (fun _ _ z => Mo.wd w z) q⟩⟩
instance [Mo r] : Mo (zU r) := ⟨fun w ⟨a, vs, e, h, q⟩ => ⟨a, vs, e, h.wd w, all2_imp (fun _ _ z => Mo.wd w z) q⟩⟩
instance [Mo r] [Mo s] : Mo (zP r s) := ⟨fun w ⟨a, x, y, e, h, q, q'⟩ => ⟨a, x, y, e, h.wd w, Mo.wd w q, Mo.wd w q'⟩⟩
instance [Mo r] [Mo s] [Mo t] : Mo (zP3 r s t) := ⟨fun w ⟨a, x, y, z, e, h, q, q', q2⟩ => ⟨a, x, y, z, e, h.wd w, Mo.wd w q, Mo.wd w q', Mo.wd w q2⟩⟩
instance [Mo r] : Mo (zO r) := ⟨fun w h => h.elim .inl fun ⟨x, e, q⟩ => .inr ⟨x, e, Mo.wd w q⟩⟩
end
theorem wS_app (a b : List Bool) : wS (a ++ b) = wS a ++ wS b := by
  apply TL.ext_tl
  rw [TL.tl_append]
  simp [wS, TL.tl]
theorem wS_len (w : List Bool) : (wS w).length = w.length := by simp [wS, Str.length]
theorem sgn_inj {a b : Bool} (h : sgn a = sgn b) : a = b := by cases a <;> cases b <;> simp [sgn] at h <;> rfl
theorem map_sgn_inj : ∀ {a b : List Bool}, a.map sgn = b.map sgn → a = b
  | [], [], _ => rfl
  | [], _ :: _, h => by simp at h
  | _ :: _, [], h => by simp at h
  | x :: xs, y :: ys, h => by
    simp only [List.map_cons, List.cons.injEq] at h
    rw [sgn_inj h.1, map_sgn_inj h.2]
theorem wS_inj {a b : List Bool} (h : wS a = wS b) : a = b := by
  have : (wS a).cps.toList = (wS b).cps.toList := by rw [h]
  exact map_sgn_inj (by simpa [wS] using this)
theorem wS_eq (a b : List Bool) : decide (V.str (wS a) = V.str (wS b)) = decide (a = b) := by
  by_cases h : a = b
  · subst h; simp
  · rw [decide_eq_false h, decide_eq_false]
    intro e; exact h (wS_inj (V.str.inj e))
theorem wS_nil : wS [] = Str.empty := rfl
end EB

set_option Elab.async false
set_option linter.all false
set_option maxRecDepth 100000
set_option maxHeartbeats 4000000
/-! EB: readings. -/
namespace EB
open PySem PySem.Spec PyProof.Rows L2

/-! ### transport of what is known -/
def Tr (K : PySem.W.Frag) (T : AS) (H : Hp) (T' : AS) (H' : Hp) : Prop := ∀ (α : Type) (r : Rp α), Mo r → ∀ v d, r K T H v d → r K T' H' v d
section
variable {K : PySem.W.Frag} {T T' T2 : AS} {H H' H2 : Hp}
theorem Tr.ap (t : Tr K T H T' H') {α : Type} {r : Rp α} [m : Mo r] {v : V} {d : α} (h : r K T H v d) : r K T' H' v d := t α r m v d h
theorem Tr.refl : Tr K T H T H := fun _ _ _ _ _ h => h
theorem Tr.trans (a : Tr K T H T' H') (b : Tr K T' H' T2 H2) : Tr K T H T2 H2 := fun α r m v d h => b α r m v d (a α r m v d h)
theorem Tr.fr (f : Fr T H H') : Tr K T H T H' := fun _ _ m _ _ h => m.wd (Wd.of f) h
theorem Tr.ex (f : Ex H H') : Tr K T H T H' := fun _ _ m _ _ h => m.wd (Wd.ex f) h
theorem Tr.sub (f : ∀ b, T' b → T b) : Tr K T H T' H := fun _ _ m _ _ h => m.wd (Wd.sub f) h
theorem Tr.wd (w : Wd T H T' H') : Tr K T H T' H' := fun _ _ m _ _ h => m.wd w h
theorem Tr.lift {p : Addr} (n : H p = none) : Tr K T H (Tp T p) H := fun _ _ m _ _ h => m.wd (Wd.lift n) h
end

/-! ### what evaluates to what -/
abbrev Rpl (α : Type) := PySem.W.Frag → AS → Hp → List V → α → Prop
class MoL {α : Type} (r : Rpl α) : Prop where
  wd : ∀ {K T H T' H' v a}, Wd T H T' H' → r K T H v a → r K T' H' v a
theorem MoL.fr {α : Type} {r : Rpl α} [MoL r] {K T H H' v a} (f : Fr T H H') (h : r K T H v a) : r K T H' v a := MoL.wd (Wd.of f) h
theorem MoL.sub {α : Type} {r : Rpl α} [MoL r] {K T T' H v a} (f : ∀ b, T' b → T b) (h : r K T H v a) : r K T' H v a := MoL.wd (Wd.sub f) h
theorem MoL.lift {α : Type} {r : Rpl α} [MoL r] {K T H v a p} (f : H p = none) (h : r K T H v a) : r K (Tp T p) H v a := MoL.wd (Wd.lift f) h
def aN : Rpl Unit := fun _ _ _ vs _ => vs = []
def aC {α β : Type} (r : Rp α) (s : Rpl β) : Rpl (α × β) := fun K T H vs p => ∃ v ws, vs = v :: ws ∧ r K T H v p.1 ∧ s K T H ws p.2
instance : MoL aN := ⟨fun _ h => h⟩
instance {α β : Type} {r : Rp α} {s : Rpl β} [Mo r] [MoL s] : MoL (aC r s) := ⟨fun w ⟨v, ws, e, h, q⟩ => ⟨v, ws, e, Mo.wd w h, MoL.wd w q⟩⟩
/-- homogeneous -/
def aH {α : Type} (r : Rp α) : Rpl (List α) := fun K T H vs xs => All2 (r K T H) vs xs
instance {α : Type} {r : Rp α} [Mo r] : MoL (aH r) := ⟨fun w h => all2_imp (fun _ _ z => Mo.wd w z) h⟩

def Ev (K : PySem.W.Frag) (T : AS) {α : Type} (te : TE) (σ : L2.St) (H : Hp) (r : Rp α) (d : α) : Prop :=
  ∀ H1, Fr T H H1 → ∀ Q : VK, (∀ v H2, Ex H1 H2 → r K T H2 v d → Q v H2) → te σ H1 Q
def EvA (K : PySem.W.Frag) (T : AS) {α : Type} (ta : TA) (σ : L2.St) (H : Hp) (r : Rpl α) (d : α) : Prop :=
  ∀ H1, Fr T H H1 → ∀ Q : List V → Hp → Prop, (∀ vs H2, Ex H1 H2 → r K T H2 vs d → Q vs H2) → ta σ H1 Q
def EvT (T : AS) (tt : TT) (σ : L2.St) (H : Hp) (b : Bool) : Prop :=
  ∀ H1, Fr T H H1 → ∀ Q : Bool → Hp → Prop, (∀ H2, Ex H1 H2 → Q b H2) → tt σ H1 Q
def EvO (T : AS) (to : TO) (σ : L2.St) (H : Hp) (o : Option Int) : Prop :=
  ∀ H1, Fr T H H1 → ∀ Q : Option Int → Hp → Prop, (∀ H2, Ex H1 H2 → Q o H2) → to σ H1 Q
section
variable {K : PySem.W.Frag} {T : AS} {σ : L2.St} {H : Hp} {α β γ : Type} {r : Rp α} {s : Rp β} {ta tb te : TE} {t u : TT}
theorem Ev.to {d d' : α} (h : Ev K T te σ H r d) (e : d = d') : Ev K T te σ H r d' := e ▸ h
theorem EvT.to {d d' : Bool} (h : EvT T t σ H d) (e : d = d') : EvT T t σ H d' := e ▸ h
theorem Ev.fr {d : α} {H' : Hp} (f : Fr T H H') (h : Ev K T te σ H r d) : Ev K T te σ H' r d := fun H1 a => h H1 (f.trans a)
theorem EvT.fr {b : Bool} {H' : Hp} (f : Fr T H H') (h : EvT T t σ H b) : EvT T t σ H' b := fun H1 a => h H1 (f.trans a)
theorem ev_var [Mo r] {i : Nat} {v : V} {d : α} (e : σ[i]? = some (some v)) (h : r K T H v d) : Ev K T (tVar i) σ H r d := fun H1 f _ q => ⟨v, e, q v H1 (Ex.refl H1) (Mo.fr f h)⟩
theorem ev_int {i : Int} : Ev K T (tC (.int i)) σ H zI i := fun H1 _ _ q => q _ H1 (Ex.refl H1) rfl
theorem ev_bl {i : Bool} : Ev K T (tC (.bl i)) σ H zB i := fun H1 _ _ q => q _ H1 (Ex.refl H1) rfl
theorem ev_str {i : Str} : Ev K T (tC (.str i)) σ H zS i := fun H1 _ _ q => q _ H1 (Ex.refl H1) rfl
theorem ev_non : Ev K T (tC .non) σ H zN () := fun H1 _ _ q => q _ H1 (Ex.refl H1) rfl
theorem ev_nonO : Ev K T (tC .non) σ H (zO r) none := fun H1 _ _ q => q _ H1 (Ex.refl H1) (.inl ⟨rfl, rfl⟩)
/-- a written word -/
theorem ev_word {i : Str} (w : List Bool) (e : i = wS w) (hl : w.length ≤ 100000) : Ev K T (tC (.str i)) σ H zW w := fun H1 _ _ q => q _ H1 (Ex.refl H1) ⟨by rw [e], hl⟩
theorem ev_some {d : α} (h : Ev K T te σ H r d) : Ev K T te σ H (zO r) (some d) := fun H1 f Q q => h H1 f Q fun v H2 e x => q v H2 e (.inr ⟨d, rfl, x⟩)
/-- two-place operations -/
theorem ev_op {a : α} {b : β} {c : γ} {s' : Rp γ} {R : R2} [Mo r] (ha : Ev K T ta σ H r a) (hb : Ev K T tb σ H s b) (hr : ∀ x y H1 (Q : VK), Fr T H H1 → r K T H1 x a → s K T H1 y b → (∀ v H2, Ex H1 H2 → s' K T H2 v c → Q v H2) → R x y H1 Q) : Ev K T (tOp R ta tb) σ H s' c :=
  fun H1 f Q q => ha H1 f _ fun x H2 e2 r2 => hb H2 (f.trans e2.fr) _ fun y H3 e3 r3 => hr x y H3 Q ((f.trans e2.fr).trans e3.fr) (Mo.fr e3.fr r2) r3 fun v H4 e4 r4 => q v H4 ((e2.trans e3).trans e4) r4
theorem ev_I0 {g : Int → Int → V} {i j : Int} {c : γ} {s' : Rp γ} (hg : ∀ H1, s' K T H1 (g i j) c) (ha : Ev K T ta σ H zI i) (hb : Ev K T tb σ H zI j) : Ev K T (tOp (rI0 g) ta tb) σ H s' c :=
  ev_op ha hb fun x y H1 Q _ h1 h2 q => ⟨i, j, h1, h2, q _ H1 (Ex.refl H1) (hg H1)⟩
theorem ev_IC {C : Int → Int → Prop} {g : Int → Int → V} {i j : Int} {c : γ} {s' : Rp γ} (hg : ∀ H1, s' K T H1 (g i j) c) (ha : Ev K T ta σ H zI i) (hb : Ev K T tb σ H zI j) (hc : C i j) : Ev K T (tOp (rI C g) ta tb) σ H s' c :=
  ev_op ha hb fun x y H1 Q _ h1 h2 q => ⟨i, j, h1, h2, hc, q _ H1 (Ex.refl H1) (hg H1)⟩
theorem ev_add {i j : Int} (ha : Ev K T ta σ H zI i) (hb : Ev K T tb σ H zI j) : Ev K T (tOp (rI0 fun i j => .int (i + j)) ta tb) σ H zI (i + j) := ev_I0 (fun _ => rfl) ha hb
theorem ev_sub {i j : Int} (ha : Ev K T ta σ H zI i) (hb : Ev K T tb σ H zI j) : Ev K T (tOp (rI0 fun i j => .int (i - j)) ta tb) σ H zI (i - j) := ev_I0 (fun _ => rfl) ha hb
theorem ev_lt {i j : Int} (ha : Ev K T ta σ H zI i) (hb : Ev K T tb σ H zI j) : Ev K T (tOp (rI0 fun i j => .bl (decide (i < j))) ta tb) σ H zB (decide (i < j)) := ev_I0 (fun _ => rfl) ha hb
theorem ev_le {i j : Int} (ha : Ev K T ta σ H zI i) (hb : Ev K T tb σ H zI j) : Ev K T (tOp (rI0 fun i j => .bl (decide (i ≤ j))) ta tb) σ H zB (decide (i ≤ j)) := ev_I0 (fun _ => rfl) ha hb
theorem ev_gt {i j : Int} (ha : Ev K T ta σ H zI i) (hb : Ev K T tb σ H zI j) : Ev K T (tOp (rI0 fun i j => .bl (decide (j < i))) ta tb) σ H zB (decide (j < i)) := ev_I0 (fun _ => rfl) ha hb
theorem ev_ge {i j : Int} (ha : Ev K T ta σ H zI i) (hb : Ev K T tb σ H zI j) : Ev K T (tOp (rI0 fun i j => .bl (decide (j ≤ i))) ta tb) σ H zB (decide (j ≤ i)) := ev_I0 (fun _ => rfl) ha hb
theorem ev_mul {i j : Int} (ha : Ev K T ta σ H zI i) (hb : Ev K T tb σ H zI j) (hc : CMul i j) : Ev K T (tOp (rI CMul fun i j => .int (i * j)) ta tb) σ H zI (i * j) := ev_IC (fun _ => rfl) ha hb hc
theorem ev_mod {i j : Int} (ha : Ev K T ta σ H zI i) (hb : Ev K T tb σ H zI j) (hc : 0 < j) : Ev K T (tOp (rI (fun _ j => 0 < j) fun i j => .int (i % j)) ta tb) σ H zI (i % j) := ev_IC (fun _ => rfl) ha hb hc
theorem ev_fdiv {i j : Int} (ha : Ev K T ta σ H zI i) (hb : Ev K T tb σ H zI j) (hc : CDiv i j) : Ev K T (tOp (rI CDiv fun i j => .int (i / j)) ta tb) σ H zI (i / j) := ev_IC (fun _ => rfl) ha hb hc
theorem ev_pow {i j : Int} (ha : Ev K T ta σ H zI i) (hb : Ev K T tb σ H zI j) (hc : CPow i j) : Ev K T (tOp (rI CPow fun i j => .int (i ^ j.toNat)) ta tb) σ H zI (i ^ j.toNat) := ev_IC (fun _ => rfl) ha hb hc
theorem ev_shl {i j : Int} (ha : Ev K T ta σ H zI i) (hb : Ev K T tb σ H zI j) (hc : CPow i j) : Ev K T (tOp (rI CPow fun i j => .int (i * 2 ^ j.toNat)) ta tb) σ H zI (i * 2 ^ j.toNat) := ev_IC (fun _ => rfl) ha hb hc
theorem ev_neg {i : Int} (ha : Ev K T ta σ H zI i) : Ev K T (tUn (rU fun i => .int (-i)) ta) σ H zI (-i) := fun H1 f Q q => ha H1 f _ fun x H2 e h => ⟨i, h, q _ H2 e rfl⟩
/-- equality of scalars -/
theorem ev_eqI {i j : Int} (ha : Ev K T ta σ H zI i) (hb : Ev K T tb σ H zI j) : Ev K T (tOp rEq ta tb) σ H zB (decide (i = j)) :=
  ev_op ha hb fun x y H1 Q _ h1 h2 q => by cases h1; cases h2; exact ⟨rfl, q _ H1 (Ex.refl H1) (show V.bl (decide (V.int i = V.int j)) = .bl (decide (i = j)) by simp)⟩
theorem ev_neI {i j : Int} (ha : Ev K T ta σ H zI i) (hb : Ev K T tb σ H zI j) : Ev K T (tOp rNe ta tb) σ H zB (!decide (i = j)) :=
  ev_op ha hb fun x y H1 Q _ h1 h2 q => by cases h1; cases h2; exact ⟨rfl, q _ H1 (Ex.refl H1) (show V.bl (!decide (V.int i = V.int j)) = .bl (!decide (i = j)) by simp)⟩
theorem ev_eqS {i j : Str} (ha : Ev K T ta σ H zS i) (hb : Ev K T tb σ H zS j) : Ev K T (tOp rEq ta tb) σ H zB (decide (i = j)) :=
  ev_op ha hb fun x y H1 Q _ h1 h2 q => by cases h1; cases h2; exact ⟨rfl, q _ H1 (Ex.refl H1) (show V.bl (decide (V.str i = V.str j)) = .bl (decide (i = j)) by simp)⟩
theorem ev_eqW {i j : List Bool} (ha : Ev K T ta σ H zW i) (hb : Ev K T tb σ H zW j) : Ev K T (tOp rEq ta tb) σ H zB (decide (i = j)) :=
  ev_op ha hb fun x y H1 Q _ h1 h2 q => by obtain ⟨h1, _⟩ := h1; obtain ⟨h2, _⟩ := h2; cases h1; cases h2; exact ⟨rfl, q _ H1 (Ex.refl H1) (show V.bl (decide (V.str (wS i) = V.str (wS j))) = .bl (decide (i = j)) by rw [wS_eq])⟩
theorem ev_neW {i j : List Bool} (ha : Ev K T ta σ H zW i) (hb : Ev K T tb σ H zW j) : Ev K T (tOp rNe ta tb) σ H zB (!decide (i = j)) :=
  ev_op ha hb fun x y H1 Q _ h1 h2 q => by obtain ⟨h1, _⟩ := h1; obtain ⟨h2, _⟩ := h2; cases h1; cases h2; exact ⟨rfl, q _ H1 (Ex.refl H1) (show V.bl (!decide (V.str (wS i) = V.str (wS j))) = .bl (!decide (i = j)) by rw [wS_eq])⟩
/-- text + text -/
def rCatS : R2 := fun x y H Q => ∃ i j, x = .str i ∧ y = .str j ∧ i.length + j.length ≤ sizeLine ∧ Q (.str (i ++ j)) H
theorem op_addS {X : Cx} : OpR X (binaryOp .Add) rCatS := op_add_str
theorem ev_catW {i j : List Bool} (ha : Ev K T ta σ H zW i) (hb : Ev K T tb σ H zW j) (hl : i.length + j.length ≤ 100000) : Ev K T (tOp rCatS ta tb) σ H zW (i ++ j) :=
  ev_op ha hb fun x y H1 Q _ h1 h2 q => by
    obtain ⟨h1, _⟩ := h1; obtain ⟨h2, _⟩ := h2
    refine ⟨_, _, h1, h2, ?_, q _ H1 (Ex.refl H1) ⟨by rw [wS_app], by simpa using hl⟩⟩
    rw [wS_len, wS_len, sizeLine_eq]; omega
/-- tests -/
theorem et_test {b : Bool} (h : Ev K T te σ H zB b) : EvT T (tTest te) σ H b := fun H1 f _ q => h H1 f _ fun v H2 e2 r2 => ⟨b, r2, q H2 e2⟩
theorem et_B {b : Bool} (h : Ev K T te σ H zB b) : EvT T (tB te) σ H b := fun H1 f _ q => h H1 f _ fun v H2 e2 r2 => ⟨b, r2, q H2 e2⟩
theorem et_yes : EvT T tYes σ H true := fun H1 _ _ q => q H1 (Ex.refl H1)
theorem et_and {a b : Bool} (h1 : EvT T t σ H a) (h2 : a = true → EvT T u σ H b) : EvT T (tAnd t u) σ H (a && b) := fun H1 f Q q => h1 H1 f _ fun H2 e2 => by
  cases a with
  | true => exact h2 rfl H2 (f.trans e2.fr) Q fun H3 e3 => q H3 (e2.trans e3)
  | false => exact q H2 e2
theorem et_or {a b : Bool} (h1 : EvT T t σ H a) (h2 : a = false → EvT T u σ H b) : EvT T (tOr t u) σ H (a || b) := fun H1 f Q q => h1 H1 f _ fun H2 e2 => by
  cases a with
  | true => exact q H2 e2
  | false => exact h2 rfl H2 (f.trans e2.fr) Q fun H3 e3 => q H3 (e2.trans e3)
theorem et_not {a : Bool} (h1 : EvT T t σ H a) : EvT T (tNot t) σ H (!a) := fun H1 f _ q => h1 H1 f _ fun H2 e2 => q H2 e2
theorem ev_andV {a b : Bool} (h1 : Ev K T ta σ H zB a) (h2 : a = true → Ev K T tb σ H zB b) : Ev K T (tAndV ta tb) σ H zB (a && b) := fun H1 f Q q => h1 H1 f _ fun v H2 e2 r2 => ⟨a, r2, by
  cases a with
  | true => exact h2 rfl H2 (f.trans e2.fr) Q fun v H3 e3 r3 => q v H3 (e2.trans e3) r3
  | false => exact q _ H2 e2 rfl⟩
theorem ev_orV {a b : Bool} (h1 : Ev K T ta σ H zB a) (h2 : a = false → Ev K T tb σ H zB b) : Ev K T (tOrV ta tb) σ H zB (a || b) := fun H1 f Q q => h1 H1 f _ fun v H2 e2 r2 => ⟨a, r2, by
  cases a with
  | true => exact q _ H2 e2 rfl
  | false => exact h2 rfl H2 (f.trans e2.fr) Q fun v H3 e3 r3 => q v H3 (e2.trans e3) r3⟩
theorem ev_notV {a : Bool} (h1 : Ev K T ta σ H zB a) : Ev K T (tNotV ta) σ H zB (!a) := fun H1 f _ q => h1 H1 f _ fun v H2 e2 r2 => ⟨a, r2, q _ H2 e2 rfl⟩
theorem ev_if {b : Bool} {d : α} (h : EvT T t σ H b) (h1 : b = true → Ev K T ta σ H r d) (h2 : b = false → Ev K T tb σ H r d) : Ev K T (tIf t ta tb) σ H r d := fun H1 f Q q => h H1 f _ fun H2 e2 => by
  cases b with
  | true => exact h1 rfl H2 (f.trans e2.fr) Q fun v H3 e3 r3 => q v H3 (e2.trans e3) r3
  | false => exact h2 rfl H2 (f.trans e2.fr) Q fun v H3 e3 r3 => q v H3 (e2.trans e3) r3
theorem ev_ite {b : Bool} {d d' : α} (h : EvT T t σ H b) (h1 : b = true → Ev K T ta σ H r d) (h2 : b = false → Ev K T tb σ H r d') : Ev K T (tIf t ta tb) σ H r (if b = true then d else d') := by
  cases b with
  | true => exact ev_if h (fun _ => by simpa using h1 rfl) (fun z => by cases z)
  | false => exact ev_if h (fun z => by cases z) (fun _ => by simpa using h2 rfl)
/-- arguments -/
theorem ea_nil : EvA K T tNil σ H aN () := fun H1 _ _ q => q [] H1 (Ex.refl H1) rfl
theorem ea_cons [Mo r] {tr : TA} {ra : Rpl β} {a : α} {b : β} (h : Ev K T ta σ H r a) (hr : EvA K T tr σ H ra b) : EvA K T (tCons ta tr) σ H (aC r ra) (a, b) := fun H1 f _ q =>
  h H1 f _ fun x H2 e2 r2 => hr H2 (f.trans e2.fr) _ fun vs H3 e3 r3 => q _ H3 (e2.trans e3) ⟨x, vs, rfl, Mo.fr e3.fr r2, r3⟩
theorem eh_nil : EvA K T tNil σ H (aH r) [] := fun H1 _ _ q => q [] H1 (Ex.refl H1) .nil
theorem eh_cons [Mo r] {tr : TA} {a : α} {b : List α} (h : Ev K T ta σ H r a) (hr : EvA K T tr σ H (aH r) b) : EvA K T (tCons ta tr) σ H (aH r) (a :: b) := fun H1 f _ q =>
  h H1 f _ fun x H2 e2 r2 => hr H2 (f.trans e2.fr) _ fun vs H3 e3 r3 => q _ H3 (e2.trans e3) (.cons (Mo.fr e3.fr r2) r3)
/-- displays -/
theorem ev_lst [Mo r] {tr : TA} {xs : List α} (hT : TD T H) (h : EvA K T tr σ H (aH r) xs) (hl : xs.length ≤ 1000) : Ev K T (tLst tr) σ H (zL r) xs := fun H1 f Q q => h H1 f _ fun vs H2 e2 r2 =>
  ⟨by rw [all2_len r2, sizeLine_eq]; omega, fun p hp => q _ _ (e2.trans (Ex.new hp)) ⟨p, vs, rfl, .new (((hT.fr f).ex e2).new hp) upd_same, all2_imp (fun _ _ z => Mo.fr (Ex.new hp).fr z) r2⟩⟩
theorem ev_tupU [Mo r] {tr : TA} {xs : List α} (hT : TD T H) (h : EvA K T tr σ H (aH r) xs) (hl : xs.length ≤ 1000) : Ev K T (tTup tr) σ H (zU r) xs := fun H1 f Q q => h H1 f _ fun vs H2 e2 r2 =>
  ⟨by rw [all2_len r2, sizeLine_eq]; omega, fun p hp => q _ _ (e2.trans (Ex.new hp)) ⟨p, vs, rfl, .new (((hT.fr f).ex e2).new hp) upd_same, all2_imp (fun _ _ z => Mo.fr (Ex.new hp).fr z) r2⟩⟩
theorem ev_tup2 [Mo r] [Mo s] {tr : TA} {a : α} {b : β} (hT : TD T H) (h : EvA K T tr σ H (aC r (aC s aN)) (a, b, ())) : Ev K T (tTup tr) σ H (zP r s) (a, b) := fun H1 f Q q => h H1 f _ fun vs H2 e2 r2 => by
  obtain ⟨x, _, rfl, r2, y, _, rfl, r3, rfl⟩ := r2
  exact ⟨by show 2 ≤ sizeLine; rw [sizeLine_eq]; omega, fun p hp => q _ _ (e2.trans (Ex.new hp)) ⟨p, x, y, rfl, .new (((hT.fr f).ex e2).new hp) upd_same, Mo.fr (Ex.new hp).fr r2, Mo.fr (Ex.new hp).fr r3⟩⟩
theorem ev_tup3 {s' : Rp γ} [Mo r] [Mo s] [Mo s'] {tr : TA} {a : α} {b : β} {c : γ} (hT : TD T H) (h : EvA K T tr σ H (aC r (aC s (aC s' aN))) (a, b, c, ())) : Ev K T (tTup tr) σ H (zP3 r s s') (a, b, c) := fun H1 f Q q => h H1 f _ fun vs H2 e2 r2 => by
  obtain ⟨x, _, rfl, r2, y, _, rfl, r3, z, _, rfl, r4, rfl⟩ := r2
  exact ⟨by show 3 ≤ sizeLine; rw [sizeLine_eq]; omega, fun p hp => q _ _ (e2.trans (Ex.new hp)) ⟨p, x, y, z, rfl, .new (((hT.fr f).ex e2).new hp) upd_same, Mo.fr (Ex.new hp).fr r2, Mo.fr (Ex.new hp).fr r3, Mo.fr (Ex.new hp).fr r4⟩⟩
/-- items -/
theorem atI_pos {x : α} {xs : List α} {i : Int} (h0 : 0 ≤ i) (h : xs[i.toNat]? = some x) : atI xs i = some x := by
  obtain ⟨n, rfl⟩ := Int.eq_ofNat_of_zero_le h0
  exact atI_nat h
theorem all2_at {F : V → α → Prop} {vs : List V} {xs : List α} (h : All2 F vs xs) {i : Int} {d : α} (e : atI xs i = some d) : ∃ v, atI vs i = some v ∧ F v d := by
  unfold atI at e ⊢
  rw [all2_len h]
  cases q : ixN xs.length i with
  | none => rw [q] at e; cases e
  | some j => rw [q] at e; exact all2_get h e
theorem ev_ixL [Mo r] {xs : List α} {i : Int} {d : α} (ha : Ev K T ta σ H (zL r) xs) (hb : Ev K T tb σ H zI i) (hi : atI xs i = some d) : Ev K T (tOp (rIxL K) ta tb) σ H r d :=
  ev_op ha hb fun x y H1 Q _ h1 h2 q => by
    obtain ⟨a, vs, rfl, hs, h⟩ := h1
    obtain ⟨v, hv, hr⟩ := all2_at h hi
    exact ⟨a, vs, i, v, rfl, h2, hs.sq, hv, q v H1 (Ex.refl H1) hr⟩
theorem ev_ixU [Mo r] {xs : List α} {i : Int} {d : α} (ha : Ev K T ta σ H (zU r) xs) (hb : Ev K T tb σ H zI i) (hi : atI xs i = some d) : Ev K T (tOp (rIxT K) ta tb) σ H r d :=
  ev_op ha hb fun x y H1 Q _ h1 h2 q => by
    obtain ⟨a, vs, rfl, hs, h⟩ := h1
    obtain ⟨v, hv, hr⟩ := all2_at h hi
    exact ⟨a, vs, i, v, rfl, h2, hs.sq, hv, q v H1 (Ex.refl H1) hr⟩
theorem ev_ixP0 [Mo r] [Mo s] {p : α × β} (ha : Ev K T ta σ H (zP r s) p) (hb : Ev K T tb σ H zI 0) : Ev K T (tOp (rIxT K) ta tb) σ H r p.1 :=
  ev_op ha hb fun x y H1 Q _ h1 h2 q => by
    obtain ⟨a, u, v, rfl, hs, h, h'⟩ := h1
    exact ⟨a, _, 0, u, rfl, h2, hs.sq, rfl, q u H1 (Ex.refl H1) h⟩
theorem ev_ixP1 [Mo r] [Mo s] {p : α × β} (ha : Ev K T ta σ H (zP r s) p) (hb : Ev K T tb σ H zI 1) : Ev K T (tOp (rIxT K) ta tb) σ H s p.2 :=
  ev_op ha hb fun x y H1 Q _ h1 h2 q => by
    obtain ⟨a, u, v, rfl, hs, h, h'⟩ := h1
    exact ⟨a, _, 1, v, rfl, h2, hs.sq, rfl, q v H1 (Ex.refl H1) h'⟩
theorem atI_map {f : α → β} {xs : List α} {i : Int} {d : α} (h : atI xs i = some d) : atI (xs.map f) i = some (f d) := by
  unfold atI at h ⊢
  rw [List.length_map]
  cases q : ixN xs.length i with
  | none => rw [q] at h; cases h
  | some j =>
    rw [q] at h
    have h' : xs[j]? = some d := h
    show (xs.map f)[j]? = some (f d)
    rw [List.getElem?_map, h']; rfl
theorem ev_ixW {w : List Bool} {i : Int} {d : Bool} (ha : Ev K T ta σ H zW w) (hb : Ev K T tb σ H zI i) (hi : atI w i = some d) : Ev K T (tOp rIxS ta tb) σ H zW [d] :=
  ev_op ha hb fun x y H1 Q _ h1 h2 q => by
    obtain ⟨h1, hl⟩ := h1
    refine ⟨wS w, i, sgn d, h1, h2, by rw [wS_len, sizeLine_eq]; omega, ?_, q _ H1 (Ex.refl H1) ⟨rfl, by simp⟩⟩
    exact atI_map (f := sgn) hi
/-- len -/
def rLenQ (K : PySem.W.Frag) : List V → Hp → VK → Prop := fun xs H Q => ∃ p ys, xs = [.ref p] ∧ (SqL K H p ys ∨ SqT K H p ys) ∧ Q (.int ys.length) H
theorem call_lenQ {X : Cx} : CallR X (.builtin "len") (rLenQ X.K) := call_len_seq
def rLenStr : List V → Hp → VK → Prop := fun xs H Q => ∃ z, xs = [.str z] ∧ z.length ≤ sizeLine ∧ Q (.int z.length) H
theorem call_lenS {X : Cx} : CallR X (.builtin "len") rLenStr := call_len_str
theorem ev_c1 {a : α} {c : γ} {s' : Rp γ} {R : List V → Hp → VK → Prop} (h : Ev K T ta σ H r a) (hr : ∀ x H1 (Q : VK), Fr T H H1 → r K T H1 x a → (∀ v H2, Ex H1 H2 → s' K T H2 v c → Q v H2) → R [x] H1 Q) : Ev K T (tCB R (tCons ta tNil)) σ H s' c :=
  fun H1 f Q q => h H1 f _ fun x H2 e2 r2 => hr x H2 Q (f.trans e2.fr) r2 fun v H3 e3 r3 => q v H3 (e2.trans e3) r3
theorem ev_c2 {a : α} {b : β} {c : γ} {s' : Rp γ} [Mo r] {R : List V → Hp → VK → Prop} (h : Ev K T ta σ H r a) (h' : Ev K T tb σ H s b) (hr : ∀ x y H1 (Q : VK), Fr T H H1 → r K T H1 x a → s K T H1 y b → (∀ v H2, Ex H1 H2 → s' K T H2 v c → Q v H2) → R [x, y] H1 Q) : Ev K T (tCB R (tCons ta (tCons tb tNil))) σ H s' c :=
  fun H1 f Q q => h H1 f _ fun x H2 e2 r2 => h' H2 (f.trans e2.fr) _ fun y H3 e3 r3 => hr x y H3 Q ((f.trans e2.fr).trans e3.fr) (Mo.fr e3.fr r2) r3 fun v H4 e4 r4 => q v H4 ((e2.trans e3).trans e4) r4
theorem ev_lenL {xs : List α} (h : Ev K T ta σ H (zL r) xs) : Ev K T (tCB (rLenQ K) (tCons ta tNil)) σ H zI (xs.length : Int) :=
  ev_c1 h fun x H1 Q _ ⟨a, vs, e, hs, h2⟩ q => ⟨a, vs, by rw [e], .inl hs.sq, q _ H1 (Ex.refl H1) (by rw [all2_len h2]; rfl)⟩
theorem ev_lenU {xs : List α} (h : Ev K T ta σ H (zU r) xs) : Ev K T (tCB (rLenQ K) (tCons ta tNil)) σ H zI (xs.length : Int) :=
  ev_c1 h fun x H1 Q _ ⟨a, vs, e, hs, h2⟩ q => ⟨a, vs, by rw [e], .inr hs.sq, q _ H1 (Ex.refl H1) (by rw [all2_len h2]; rfl)⟩
theorem ev_lenW {w : List Bool} (h : Ev K T ta σ H zW w) : Ev K T (tCB rLenStr (tCons ta tNil)) σ H zI (w.length : Int) :=
  ev_c1 h fun x H1 Q _ ⟨e, hl⟩ q => ⟨wS w, by rw [e], by rw [wS_len, sizeLine_eq]; omega, q _ H1 (Ex.refl H1) (by rw [wS_len]; rfl)⟩
/-- list(..), tuple(..) -/
def rListQ (K : PySem.W.Frag) : List V → Hp → VK → Prop := fun xs H Q => ∃ p ys, xs = [.ref p] ∧ (SqL K H p ys ∨ SqT K H p ys) ∧ ∀ l, H l = none → Q (.ref l) (upd H l (.lst ys))
theorem call_listQ {X : Cx} : CallR X (.type "list") (rListQ X.K) := call_list_of
def rTupleQ (K : PySem.W.Frag) : List V → Hp → VK → Prop := fun xs H Q => ∃ p ys, xs = [.ref p] ∧ ((SqL K H p ys ∧ ∀ l, H l = none → Q (.ref l) (upd H l (.tup ys))) ∨ (SqT K H p ys ∧ Q (.ref p) H))
theorem call_tupleQ {X : Cx} : CallR X (.type "tuple") (rTupleQ X.K) := call_tuple_of
theorem ev_listL [Mo r] {xs : List α} (hT : TD T H) (h : Ev K T ta σ H (zL r) xs) : Ev K T (tCB (rListQ K) (tCons ta tNil)) σ H (zL r) xs :=
  ev_c1 h fun x H1 Q f ⟨a, vs, e, hs, h2⟩ q => ⟨a, vs, by rw [e], .inl hs.sq, fun l hl => q _ _ (Ex.new hl) ⟨l, vs, rfl, .new ((hT.fr f).new hl) upd_same, all2_imp (fun _ _ z => Mo.fr (Ex.new hl).fr z) h2⟩⟩
theorem ev_listU [Mo r] {xs : List α} (hT : TD T H) (h : Ev K T ta σ H (zU r) xs) : Ev K T (tCB (rListQ K) (tCons ta tNil)) σ H (zL r) xs :=
  ev_c1 h fun x H1 Q f ⟨a, vs, e, hs, h2⟩ q => ⟨a, vs, by rw [e], .inr hs.sq, fun l hl => q _ _ (Ex.new hl) ⟨l, vs, rfl, .new ((hT.fr f).new hl) upd_same, all2_imp (fun _ _ z => Mo.fr (Ex.new hl).fr z) h2⟩⟩
theorem ev_tupL [Mo r] {xs : List α} (hT : TD T H) (h : Ev K T ta σ H (zL r) xs) : Ev K T (tCB (rTupleQ K) (tCons ta tNil)) σ H (zU r) xs :=
  ev_c1 h fun x H1 Q f ⟨a, vs, e, hs, h2⟩ q => ⟨a, vs, by rw [e], .inl ⟨hs.sq, fun l hl => q _ _ (Ex.new hl) ⟨l, vs, rfl, .new ((hT.fr f).new hl) upd_same, all2_imp (fun _ _ z => Mo.fr (Ex.new hl).fr z) h2⟩⟩⟩
theorem ev_tupUU [Mo r] {xs : List α} (h : Ev K T ta σ H (zU r) xs) : Ev K T (tCB (rTupleQ K) (tCons ta tNil)) σ H (zU r) xs :=
  ev_c1 h fun x H1 Q f ⟨a, vs, e, hs, h2⟩ q => ⟨a, vs, by rw [e], .inr ⟨hs.sq, q _ H1 (Ex.refl H1) ⟨a, vs, rfl, hs, h2⟩⟩⟩
/-- max, min of two -/
def rMax2 : List V → Hp → VK → Prop := fun xs H Q => ∃ i j, xs = [.int i, .int j] ∧ Q (.int (if j > i then j else i)) H
def rMin2 : List V → Hp → VK → Prop := fun xs H Q => ∃ i j, xs = [.int i, .int j] ∧ Q (.int (if j < i then j else i)) H
/-- max, min, sum, all, any of a list -/
theorem ev_sum {xs : List Int} (h : Ev K T ta σ H (zL zI) xs) : Ev K T (tCB (rSum K) (tCons ta tNil)) σ H zI xs.sum :=
  ev_c1 h fun x H1 Q _ ⟨a, vs, e, hs, h2⟩ q => ⟨a, xs, by rw [e], by rw [← all2_int h2]; exact hs.sq, q _ H1 (Ex.refl H1) rfl⟩
def mxL (xs : List Int) : Int := xs.foldl (fun a b => if a < b then b else a) (xs.headD 0)
def mnL (xs : List Int) : Int := xs.foldl (fun a b => if b < a then b else a) (xs.headD 0)
theorem foldmax_ge : ∀ (xs : List Int) (a : Int), a ≤ xs.foldl (fun a b => if a < b then b else a) a ∧ (∀ y ∈ xs, y ≤ xs.foldl (fun a b => if a < b then b else a) a) ∧ (xs.foldl (fun a b => if a < b then b else a) a = a ∨ xs.foldl (fun a b => if a < b then b else a) a ∈ xs)
  | [], a => by simp
  | x :: xs, a => by
    obtain ⟨h1, h2, h3⟩ := foldmax_ge xs (if a < x then x else a)
    simp only [List.foldl_cons]
    have ha : a ≤ (if a < x then x else a) ∧ x ≤ (if a < x then x else a) := by split <;> omega
    refine ⟨Int.le_trans ha.1 h1, fun y hy => ?_, ?_⟩
    · rcases List.mem_cons.mp hy with rfl | hy
      · exact Int.le_trans ha.2 h1
      · exact h2 y hy
    · rcases h3 with h3 | h3
      · rw [h3]; split
        · exact .inr List.mem_cons_self
        · exact .inl rfl
      · exact .inr (List.mem_cons_of_mem _ h3)
theorem foldmin_le : ∀ (xs : List Int) (a : Int), xs.foldl (fun a b => if b < a then b else a) a ≤ a ∧ (∀ y ∈ xs, xs.foldl (fun a b => if b < a then b else a) a ≤ y) ∧ (xs.foldl (fun a b => if b < a then b else a) a = a ∨ xs.foldl (fun a b => if b < a then b else a) a ∈ xs)
  | [], a => by simp
  | x :: xs, a => by
    obtain ⟨h1, h2, h3⟩ := foldmin_le xs (if x < a then x else a)
    simp only [List.foldl_cons]
    have ha : (if x < a then x else a) ≤ a ∧ (if x < a then x else a) ≤ x := by split <;> omega
    refine ⟨Int.le_trans h1 ha.1, fun y hy => ?_, ?_⟩
    · rcases List.mem_cons.mp hy with rfl | hy
      · exact Int.le_trans h1 ha.2
      · exact h2 y hy
    · rcases h3 with h3 | h3
      · rw [h3]; split
        · exact .inr List.mem_cons_self
        · exact .inl rfl
      · exact .inr (List.mem_cons_of_mem _ h3)
theorem mxL_spec {xs : List Int} (h : xs ≠ []) : mxL xs ∈ xs ∧ ∀ y ∈ xs, y ≤ mxL xs := by
  cases xs with
  | nil => exact absurd rfl h
  | cons x xs =>
    unfold mxL
    obtain ⟨h1, h2, h3⟩ := foldmax_ge (x :: xs) x
    refine ⟨?_, h2⟩
    rcases h3 with h3 | h3
    · show List.foldl _ x (x :: xs) ∈ _
      rw [h3]; exact List.mem_cons_self
    · exact h3
theorem mnL_spec {xs : List Int} (h : xs ≠ []) : mnL xs ∈ xs ∧ ∀ y ∈ xs, mnL xs ≤ y := by
  cases xs with
  | nil => exact absurd rfl h
  | cons x xs =>
    unfold mnL
    obtain ⟨h1, h2, h3⟩ := foldmin_le (x :: xs) x
    refine ⟨?_, h2⟩
    rcases h3 with h3 | h3
    · show List.foldl _ x (x :: xs) ∈ _
      rw [h3]; exact List.mem_cons_self
    · exact h3
theorem ev_max {xs : List Int} (h : Ev K T ta σ H (zL zI) xs) (hn : xs ≠ []) : Ev K T (tCB (rMax K) (tCons ta tNil)) σ H zI (mxL xs) :=
  ev_c1 h fun x H1 Q _ ⟨a, vs, e, hs, h2⟩ q => ⟨a, xs, by rw [e], by rw [← all2_int h2]; exact hs.sq, List.length_pos_iff.mpr hn, fun m hm hy => q _ H1 (Ex.refl H1) (by
    obtain ⟨h3, h4⟩ := mxL_spec hn
    have e1 := hy _ h3
    have e2 := h4 _ hm
    show V.int m = V.int (mxL xs)
    rw [show m = mxL xs by omega])⟩
theorem ev_min {xs : List Int} (h : Ev K T ta σ H (zL zI) xs) (hn : xs ≠ []) : Ev K T (tCB (rMin K) (tCons ta tNil)) σ H zI (mnL xs) :=
  ev_c1 h fun x H1 Q _ ⟨a, vs, e, hs, h2⟩ q => ⟨a, xs, by rw [e], by rw [← all2_int h2]; exact hs.sq, List.length_pos_iff.mpr hn, fun m hm hy => q _ H1 (Ex.refl H1) (by
    obtain ⟨h3, h4⟩ := mnL_spec hn
    have e1 := hy _ h3
    have e2 := h4 _ hm
    show V.int m = V.int (mnL xs)
    rw [show m = mnL xs by omega])⟩
/-- slices -/
theorem eo_none : EvO T tNoPart σ H none := fun H1 _ _ q => q H1 (Ex.refl H1)
theorem eo_some {i : Int} (h : Ev K T te σ H zI i) : EvO T (tPart te) σ H (some i) := fun H1 f _ q => h H1 f _ fun v H2 e2 r2 => ⟨i, r2, q H2 e2⟩
/-- a slice by its bounds as lists have it -/
def cutA (xs : List α) (lo hi : Option Int) : List α := (xs.drop (HT.sIx xs.length 0 lo)).take (HT.sIx xs.length xs.length hi - HT.sIx xs.length 0 lo)
theorem ev_slL [Mo r] {xs : List α} {tl th : TO} {lo hi : Option Int} (hT : TD T H) (h : Ev K T te σ H (zL r) xs) (h1 : EvO T tl σ H lo) (h2 : EvO T th σ H hi) : Ev K T (tSl (rSlL K) te tl th) σ H (zL r) (cutA xs lo hi) := fun H1 f Q q =>
  h H1 f _ fun v H2 e2 r2 => h1 H2 (f.trans e2.fr) _ fun H3 e3 => h2 H3 ((f.trans e2.fr).trans e3.fr) _ fun H4 e4 => by
    obtain ⟨a, vs, rfl, hs, hh⟩ := r2
    have e24 := e3.trans e4
    refine ⟨a, vs, rfl, (hs.fr e24.fr).sq, fun p hp => q _ _ ((e2.trans e24).trans (Ex.new hp)) ⟨p, _, rfl, .new (((hT.fr f).ex (e2.trans e24)).new hp) upd_same, ?_⟩⟩
    have hh' : All2 (r K T (upd H4 p (.lst (cutV vs lo hi)))) vs xs := all2_imp (fun _ _ z => Mo.fr (e24.trans (Ex.new hp)).fr z) hh
    unfold cutA
    rw [← all2_len hh']
    exact all2_take _ (all2_drop _ hh')
/-- calls -/
def PSp (K : PySem.W.Frag) {α β : Type} (ra : Rpl α) (pre : α → Prop) (r : Rp β) (f : α → β) : Sp := fun vs H Q _ => ∃ (T : AS) (a : α), TD T H ∧ ra K T H vs a ∧ pre a ∧ ∀ v H', Ex H H' → r K T H' v (f a) → Q v H'
theorem ev_call {ra : Rpl β} {pre : β → Prop} {f : β → α} {b : β} {tr : TA} {E : XK} (hT : TD T H) (h : EvA K T tr σ H ra b) (hp : pre b) : Ev K T (tCall (PSp K ra pre r f) [] E tr) σ H r (f b) := fun H1 g Q q =>
  h H1 g _ fun vs H2 e2 r2 => by
    show PSp K ra pre r f (vs ++ []) H2 Q E
    rw [List.append_nil]
    exact ⟨T, b, (hT.fr g).ex e2, r2, hp, fun v H3 e3 r3 => q v H3 (e2.trans e3) r3⟩
end
/-! ### statements -/
section
variable {K : PySem.W.Frag} {T : AS} {σ : L2.St} {H : Hp} {α β γ : Type} {r : Rp α} {te : TE} {c : TT} {t u : TS} {D : Ends} {i : Nat} {d : α} {b : Bool}
theorem st_asg (h : Ev K T te σ H r d) (k : ∀ v H2, Ex H H2 → r K T H2 v d → D.nx (σ.set i (some v)) H2) : tAsg te (gName i) D σ H := h H (Fr.refl H) _ k
theorem st_ret (h : Ev K T te σ H r d) (k : ∀ v H2, Ex H H2 → r K T H2 v d → D.rt v H2) : tRet te D σ H := h H (Fr.refl H) _ k
theorem st_drop (h : Ev K T te σ H r d) (k : ∀ H2, Ex H H2 → D.nx σ H2) : tDrop te D σ H := h H (Fr.refl H) _ fun _ H2 e _ => k H2 e
theorem st_if (h : EvT T c σ H b) (k1 : b = true → ∀ H2, Ex H H2 → t D σ H2) (k2 : b = false → ∀ H2, Ex H H2 → u D σ H2) : tIfS c t u D σ H := h H (Fr.refl H) _ fun H2 e => by
  cases b with
  | true => exact k1 rfl H2 e
  | false => exact k2 rfl H2 e
end
end EB

set_option Elab.async false
set_option linter.all false
set_option maxRecDepth 100000
set_option maxHeartbeats 4000000
/-! EB: what is walked; comprehensions. -/
namespace EB
open PySem PySem.Spec PyProof.Rows L2

/-! ### a list, a tuple that is walked, with its size -/
def iListB (K : PySem.W.Frag) (tl : TE) : TI := fun σ H R => tl σ H fun x H1 => ∃ a xs, x = .ref a ∧ SqL K H1 a xs ∧ (xs.length ≤ sizeLine → R (Itl K a) H1)
def iTupB (K : PySem.W.Frag) (tl : TE) : TI := fun σ H R => tl σ H fun x H1 => ∃ a xs, x = .ref a ∧ SqT K H1 a xs ∧ (xs.length ≤ sizeLine → R (Itt K a) H1)
section
variable {X : Cx} {tg : Expr}
theorem pi_listB {l : Expr} {tl : TE} (hl : PE X l tl) : PI X tg l (iListB X.K tl) := by
  refine ⟨fun pins s σ H R I h => ?_⟩
  refine thn (hl.run pins s σ H _ I h) fun v s1 ⟨x, H1, I1, r1, q1⟩ => ?_
  obtain ⟨a, xs, e, hq, q⟩ := q1
  subst e
  cases r1
  obtain ⟨its, rv, p, hz⟩ := I1.list hq
  refine wpAny_pyIter_list p.isList ?_
  refine ⟨s1.heap.objs.size, [s1.heap.objs.size], _, _, H1, rfl, I1.kept (t' := s1.toks) fun b o e => Heap.get?_push_of_some _ e, turn_list a _, ⟨_, Heap.get?_push_size _ rfl, rfl, rfl⟩, fun b hb => ?_, q hz⟩
  have e : b = s1.heap.objs.size := by simpa using hb
  subst e
  exact I1.fpOk (Nat.le_refl _) (I1.hok.fresh (Nat.le_refl _))
theorem pi_tupB {l : Expr} {tl : TE} (hl : PE X l tl) : PI X tg l (iTupB X.K tl) := by
  refine ⟨fun pins s σ H R I h => ?_⟩
  refine thn (hl.run pins s σ H _ I h) fun v s1 ⟨x, H1, I1, r1, q1⟩ => ?_
  obtain ⟨a, xs, e, hq, q⟩ := q1
  subst e
  cases r1
  obtain ⟨its, rv, p, hz⟩ := I1.tuple hq
  refine wpAny_pyIter_tuple (show s1.heap.IsTuple a its.toArray from p) ?_
  refine ⟨s1.heap.objs.size, [s1.heap.objs.size], _, _, H1, rfl, I1.kept (t' := s1.toks) fun b o e => Heap.get?_push_of_some _ e, turn_tuple a _, ⟨_, Heap.get?_push_size _ rfl, rfl, rfl⟩, fun b hb => ?_, q hz⟩
  have e : b = s1.heap.objs.size := by simpa using hb
  subst e
  exact I1.fpOk (Nat.le_refl _) (I1.hok.fresh (Nat.le_refl _))
end

/-! ### typed walks -/
/-- J walks the items xs, read by r, as long as all of H2 stands; an item's object may be new -/
structure Wk (K : PySem.W.Frag) (T : AS) (H2 : Hp) {α : Type} (r : Rp α) (xs : List α) (J : It) : Prop where
  ex : ∃ (n : Nat) (G : Hp → Prop) (Y : Nat → Hp → V → Hp → Prop), n = xs.length ∧ Walk J n G Y ∧ (∀ H', Fr T H2 H' → G H') ∧
    ∀ i H' v H'', i < n → Fr T H2 H' → Y i H' v H'' → Ex H' H'' ∧ ∃ x, xs[i]? = some x ∧ ∀ T', TD T' H' → Tr K T H2 T' H' → r K T' H'' v x
  size : xs.length ≤ sizeLine
/-- an iterable evaluates to a walk -/
def EvI (K : PySem.W.Frag) (T : AS) {α : Type} (wi : TI) (σ : L2.St) (H : Hp) (r : Rp α) (xs : List α) : Prop :=
  ∀ H1, Fr T H H1 → ∀ R : It → Hp → Prop, (∀ J H2, Ex H1 H2 → Wk K T H2 r xs J → R J H2) → wi σ H1 R
section
variable {K : PySem.W.Frag} {T : AS} {σ : L2.St} {H : Hp} {α β γ : Type} {r : Rp α} {s : Rp β} {ta tb te tl : TE} {t u : TT}
theorem ei_list [Mo r] {xs : List α} (h : Ev K T tl σ H (zL r) xs) : EvI K T (iListB K tl) σ H r xs := fun H1 f R q => h H1 f _ fun v H2 e2 r2 => by
  obtain ⟨a, vs, rfl, hs, hv⟩ := r2
  have hl := all2_len hv
  refine ⟨a, vs, rfl, hs.sq, fun hz => q _ H2 e2 ⟨⟨_, _, _, hl, walk_list (xs := vs), fun H' e => (hs.fr e).sq, fun i H' v H'' hi e y => ?_⟩, hl ▸ hz⟩⟩
  obtain ⟨rfl, y⟩ := y
  obtain ⟨x, hx, hr⟩ := all2_getL hv y
  exact ⟨Ex.refl _, x, hx, fun T' _ tr => tr.ap hr⟩
theorem ei_tup [Mo r] {xs : List α} (h : Ev K T tl σ H (zU r) xs) : EvI K T (iTupB K tl) σ H r xs := fun H1 f R q => h H1 f _ fun v H2 e2 r2 => by
  obtain ⟨a, vs, rfl, hs, hv⟩ := r2
  have hl := all2_len hv
  refine ⟨a, vs, rfl, hs.sq, fun hz => q _ H2 e2 ⟨⟨_, _, _, hl, walk_tup (xs := vs), fun H' e => (hs.fr e).sq, fun i H' v H'' hi e y => ?_⟩, hl ▸ hz⟩⟩
  obtain ⟨rfl, y⟩ := y
  obtain ⟨x, hx, hr⟩ := all2_getL hv y
  exact ⟨Ex.refl _, x, hx, fun T' _ tr => tr.ap hr⟩
/-- the numbers lo, lo + 1, .. -/
def rng (lo : Int) (n : Nat) : List Int := (List.range n).map fun (i : Nat) => lo + (i : Int)
theorem rng_len {lo : Int} {n : Nat} : (rng lo n).length = n := by simp [rng]
theorem rng_get {lo : Int} {n i : Nat} (h : i < n) : (rng lo n)[i]? = some (lo + (i : Int)) := by
  unfold rng
  rw [List.getElem?_map, List.getElem?_range h]; rfl
theorem wk_range {H2 : Hp} {lo : Int} {n : Nat} (hn : n ≤ 1000000) : Wk K T H2 zI (rng lo n) (Itr lo n) :=
  ⟨⟨n, _, _, rng_len.symm, walk_range, fun _ _ => trivial, fun i H' v H'' hi _ y => by
    obtain ⟨rfl, rfl⟩ := y
    exact ⟨Ex.refl _, _, rng_get hi, fun _ _ _ => rfl⟩⟩, by rw [rng_len, sizeLine_eq]; omega⟩
theorem ei_range {tl : TA} {j : Int} (h : EvA K T tl σ H (aC zI aN) (j, ())) (hn : j ≤ 1000000) (h0 : -1000000 ≤ j) : EvI K T (iRng1 tl) σ H zI (rng 0 j.toNat) := fun H1 f R q => h H1 f _ fun v H2 e2 r2 => by
  obtain ⟨x, _, rfl, r2, rfl⟩ := r2
  exact ⟨j, by rw [show x = .int j from r2], by omega, by omega, q _ H2 e2 (wk_range (by omega))⟩
theorem ei_range2 {tl : TA} {i j : Int} (h : EvA K T tl σ H (aC zI (aC zI aN)) (i, j, ())) (hn : j ≤ 1000000) (h0 : -1000000 ≤ j) (hi : i ≤ 1000000) (hi0 : 0 ≤ i) : EvI K T (iRng2 tl) σ H zI (rng i (j - i).toNat) := fun H1 f R q => h H1 f _ fun v H2 e2 r2 => by
  obtain ⟨x, _, rfl, r2, y, _, rfl, r3, rfl⟩ := r2
  exact ⟨i, j, by rw [show x = .int i from r2, show y = .int j from r3], by omega, q _ H2 e2 (wk_range (by omega))⟩
/-- a word, sign by sign -/
theorem ei_word {w : List Bool} (h : Ev K T te σ H zW w) : EvI K T (iStr te) σ H zW (w.map fun b => [b]) := fun H1 f R q => h H1 f _ fun v H2 e2 r2 => by
  obtain ⟨r2, hl⟩ := r2
  have ez : (wS w).cps.size = w.length := by simp [wS]
  refine ⟨_, r2, q _ H2 e2 ⟨⟨_, _, _, by rw [List.length_map]; exact ez, walk_str, fun _ _ => trivial, fun i H' v H'' hi _ y => ?_⟩, by rw [List.length_map, sizeLine_eq]; omega⟩⟩
  · obtain ⟨rfl, c, hc, rfl⟩ := y
    rw [ez] at hi
    refine ⟨Ex.refl _, [w[i]], by rw [List.getElem?_map, List.getElem?_eq_getElem hi]; rfl, fun _ _ _ => ⟨?_, by simp⟩⟩
    have : (wS w).cps[i]? = some (sgn w[i]) := by simp [wS, List.getElem?_eq_getElem hi]
    rw [this] at hc
    cases hc
    rfl

/-! ### comprehensions -/
theorem wipe1 {i : Nat} {v : Option V} : wipe ((wipe σ [i]).set i v) [i] = wipe σ [i] := by
  simp [wipe]
theorem take_succ_filter {xs : List α} {p : α → Bool} {f : α → β} {i : Nat} {x : α} (h : xs[i]? = some x) : ((xs.take (i + 1)).filter p).map f = ((xs.take i).filter p).map f ++ (if p x = true then [f x] else []) := by
  rw [List.take_add_one, h]
  simp only [Option.toList_some, List.filter_append, List.map_append]
  congr 1
  by_cases hp : p x = true
  · simp [hp]
  · simp [hp]
theorem ev_lc [Mo r] [Mo s] {wi : TI} {g : TG} {tt : TT} {vs : List Nat} {xs : List α} {p : α → Bool} {f : α → β} (hT : TD T H) (h : EvI K T wi σ H r xs)
    (hs : ∀ (T' : AS) (H' : Hp) (v : V) (x : α), Tr K T H T' H' → TD T' H' → x ∈ xs → r K T' H' v x → ∀ Q : L2.St → Hp → Prop, (∀ σ2, wipe σ2 vs = wipe σ vs → EvT T' tt σ2 H' (p x) → (p x = true → Ev K T' te σ2 H' s (f x)) → Q σ2 H') → g v (wipe σ vs) H' Q) :
    Ev K T (tLc wi g tt te vs) σ H (zL s) ((xs.filter p).map f) := fun H1 fr Q q => h H1 fr _ fun J H2 e2 w => by
  intro D hD
  obtain ⟨⟨n, G, Y, hn, wk, hG, hY⟩, hz⟩ := w
  have hT2 : TD T H2 := (hT.fr fr).ex e2
  have nD : ¬ T D := hT2.new hD
  refine lc_it wk (fun i H' => Ex H2 H' ∧ ∃ acc, H' D = some (.lst acc) ∧ All2 (s K (Tp T D) H') acc (((xs.take i).filter p).map f)) ⟨Ex.new hD, [], upd_same, by simp; exact .nil⟩ (fun i H' _ ⟨e, _⟩ => hG H' e.fr) ?_ ?_
  · intro i v H' H'' hi ⟨e, acc, hacc, hall⟩ y
    obtain ⟨eY, x, hx, hr⟩ := hY i H' v H'' hi e.fr y
    have tr2 : Tr K T H2 (Tp T D) H' := (Tr.lift hD).trans (Tr.ex e)
    have hTD : TD (Tp T D) H' := (hT2.ex e).tp hacc
    have tr : Tr K T H (Tp T D) H'' := ((Tr.fr (fr.trans e2.fr)).trans tr2).trans (Tr.ex eY)
    refine hs (Tp T D) H'' v x tr (hTD.ex eY) (List.mem_of_getElem? hx) (hr _ hTD tr2) _ fun σ2 hw ht he => ⟨hw, ?_⟩
    refine ht H'' (Fr.refl _) _ fun H3 e3 => ?_
    have hlen : acc.length ≤ i := by
      rw [all2_len hall, List.length_map]
      exact Nat.le_trans (List.length_filter_le _ _) (by rw [List.length_take]; omega)
    cases hp : p x with
    | false =>
      simp only [Bool.false_eq_true, if_false]
      refine ⟨(e.trans eY).trans e3, acc, e3 _ _ (eY _ _ hacc), ?_⟩
      rw [take_succ_filter hx, hp]
      simp only [Bool.false_eq_true, if_false, List.append_nil]
      exact all2_imp (fun _ _ z => Mo.fr (eY.trans e3).fr z) hall
    | true =>
      simp only [if_true]
      refine he hp H3 e3.fr _ fun yv H4 e4 r4 => ⟨acc, e4 _ _ (e3 _ _ (eY _ _ hacc)), by omega, ?_⟩
      have fD : Fr (Tp T D) H4 (upd H4 D (.lst (acc ++ [yv]))) := Fr.upd (.inl (.inr rfl))
      refine ⟨fun b o hb => ?_, acc ++ [yv], upd_same, ?_⟩
      · rw [upd_ne (ne_of_none hb hD)]
        exact e4 _ _ (e3 _ _ (eY _ _ (e b o hb)))
      · rw [take_succ_filter hx, hp]
        simp only [if_true]
        refine all2_app (all2_imp (fun _ _ z => Mo.fr fD (Mo.fr ((eY.trans e3).trans e4).fr z)) hall) (.cons (Mo.fr fD r4) .nil)
  · rintro H' ⟨e, acc, hacc, hall⟩
    rw [hn, List.take_length] at hall
    exact q _ H' (e2.trans e) ⟨D, acc, rfl, .new nD hacc, all2_imp (fun _ _ z => Mo.sub (fun b hb => .inl hb) z) hall⟩
/-- no test -/
theorem ev_lc1 [Mo r] [Mo s] {wi : TI} {g : TG} {vs : List Nat} {xs : List α} {f : α → β} (hT : TD T H) (h : EvI K T wi σ H r xs)
    (hs : ∀ (T' : AS) (H' : Hp) (v : V) (x : α), Tr K T H T' H' → TD T' H' → x ∈ xs → r K T' H' v x → ∀ Q : L2.St → Hp → Prop, (∀ σ2, wipe σ2 vs = wipe σ vs → Ev K T' te σ2 H' s (f x) → Q σ2 H') → g v (wipe σ vs) H' Q) :
    Ev K T (tLc wi g tYes te vs) σ H (zL s) (xs.map f) := by
  have h1 := ev_lc (K := K) (te := te) (g := g) (tt := tYes) (vs := vs) (s := s) (p := fun _ => true) (f := f) hT h fun T' H' v x tr hT' hx hr Q q => hs T' H' v x tr hT' hx hr Q fun σ2 hw he => q σ2 hw et_yes fun _ => he
  rw [show xs.filter (fun _ => true) = xs from List.filter_eq_self.mpr (fun _ _ => rfl)] at h1
  exact h1
/-- all, any of a list of answers -/
theorem ev_all {xs : List Bool} (h : Ev K T ta σ H (zL zB) xs) : Ev K T (tCB (rAll K) (tCons ta tNil)) σ H zB (xs.all id) :=
  ev_c1 h fun x H1 Q _ ⟨a, vs, e, hs, h2⟩ q => ⟨a, xs, by rw [e], by rw [← all2_bl h2]; exact hs.sq, q _ H1 (Ex.refl H1) rfl⟩
theorem ev_any {xs : List Bool} (h : Ev K T ta σ H (zL zB) xs) : Ev K T (tCB (rAny K) (tCons ta tNil)) σ H zB (xs.any id) :=
  ev_c1 h fun x H1 Q _ ⟨a, vs, e, hs, h2⟩ q => ⟨a, xs, by rw [e], by rw [← all2_bl h2]; exact hs.sq, q _ H1 (Ex.refl H1) rfl⟩
/-! ### a list or a tuple -/
def zQ {α : Type} (r : Rp α) : Rp (List α) := fun K T H v xs => zL r K T H v xs ∨ zU r K T H v xs
instance [Mo r] : Mo (zQ r) := ⟨fun w h => h.elim (fun z => .inl (Mo.wd w z)) (fun z => .inr (Mo.wd w z))⟩
theorem ev_QL {xs : List α} (h : Ev K T te σ H (zL r) xs) : Ev K T te σ H (zQ r) xs := fun H1 f Q q => h H1 f Q fun v H2 e r2 => q v H2 e (.inl r2)
theorem ev_QU {xs : List α} (h : Ev K T te σ H (zU r) xs) : Ev K T te σ H (zQ r) xs := fun H1 f Q q => h H1 f Q fun v H2 e r2 => q v H2 e (.inr r2)
def iSeqB (K : PySem.W.Frag) (tl : TE) : TI := fun σ H R => tl σ H fun x H1 => ∃ a xs, x = .ref a ∧ ((SqL K H1 a xs ∧ (xs.length ≤ sizeLine → R (Itl K a) H1)) ∨ (SqT K H1 a xs ∧ (xs.length ≤ sizeLine → R (Itt K a) H1)))
theorem pi_seqB {X : Cx} {tg l : Expr} {tl : TE} (hl : PE X l tl) : PI X tg l (iSeqB X.K tl) := by
  refine ⟨fun pins s σ H R I h => ?_⟩
  refine thn (hl.run pins s σ H _ I h) fun v s1 ⟨x, H1, I1, r1, q1⟩ => ?_
  obtain ⟨a, xs, e, hq⟩ := q1
  subst e
  cases r1
  rcases hq with ⟨hq, q⟩ | ⟨hq, q⟩
  · obtain ⟨its, rv, p, hz⟩ := I1.list hq
    refine wpAny_pyIter_list p.isList ?_
    refine ⟨s1.heap.objs.size, [s1.heap.objs.size], _, _, H1, rfl, I1.kept (t' := s1.toks) fun b o e => Heap.get?_push_of_some _ e, turn_list a _, ⟨_, Heap.get?_push_size _ rfl, rfl, rfl⟩, fun b hb => ?_, q hz⟩
    have e : b = s1.heap.objs.size := by simpa using hb
    subst e
    exact I1.fpOk (Nat.le_refl _) (I1.hok.fresh (Nat.le_refl _))
  · obtain ⟨its, rv, p, hz⟩ := I1.tuple hq
    refine wpAny_pyIter_tuple (show s1.heap.IsTuple a its.toArray from p) ?_
    refine ⟨s1.heap.objs.size, [s1.heap.objs.size], _, _, H1, rfl, I1.kept (t' := s1.toks) fun b o e => Heap.get?_push_of_some _ e, turn_tuple a _, ⟨_, Heap.get?_push_size _ rfl, rfl, rfl⟩, fun b hb => ?_, q hz⟩
    have e : b = s1.heap.objs.size := by simpa using hb
    subst e
    exact I1.fpOk (Nat.le_refl _) (I1.hok.fresh (Nat.le_refl _))
theorem ei_seq [Mo r] {xs : List α} (h : Ev K T tl σ H (zQ r) xs) : EvI K T (iSeqB K tl) σ H r xs := fun H1 f R q => h H1 f _ fun v H2 e2 r2 => by
  rcases r2 with ⟨a, vs, rfl, hs, hv⟩ | ⟨a, vs, rfl, hs, hv⟩
  · have hl := all2_len hv
    refine ⟨a, vs, rfl, .inl ⟨hs.sq, fun hz => q _ H2 e2 ⟨⟨_, _, _, hl, walk_list (xs := vs), fun H' e => (hs.fr e).sq, fun i H' v H'' hi e y => ?_⟩, hl ▸ hz⟩⟩⟩
    obtain ⟨rfl, y⟩ := y
    obtain ⟨x, hx, hr⟩ := all2_getL hv y
    exact ⟨Ex.refl _, x, hx, fun T' _ tr => tr.ap hr⟩
  · have hl := all2_len hv
    refine ⟨a, vs, rfl, .inr ⟨hs.sq, fun hz => q _ H2 e2 ⟨⟨_, _, _, hl, walk_tup (xs := vs), fun H' e => (hs.fr e).sq, fun i H' v H'' hi e y => ?_⟩, hl ▸ hz⟩⟩⟩
    obtain ⟨rfl, y⟩ := y
    obtain ⟨x, hx, hr⟩ := all2_getL hv y
    exact ⟨Ex.refl _, x, hx, fun T' _ tr => tr.ap hr⟩
theorem ev_lenQ {xs : List α} (h : Ev K T ta σ H (zQ r) xs) : Ev K T (tCB (rLenQ K) (tCons ta tNil)) σ H zI (xs.length : Int) :=
  ev_c1 h fun x H1 Q _ h2 q => by
    rcases h2 with ⟨a, vs, e, hs, h2⟩ | ⟨a, vs, e, hs, h2⟩
    · exact ⟨a, vs, by rw [e], .inl hs.sq, q _ H1 (Ex.refl H1) (by rw [all2_len h2]; rfl)⟩
    · exact ⟨a, vs, by rw [e], .inr hs.sq, q _ H1 (Ex.refl H1) (by rw [all2_len h2]; rfl)⟩
theorem ev_tupQ [Mo r] {xs : List α} (hT : TD T H) (h : Ev K T ta σ H (zQ r) xs) : Ev K T (tCB (rTupleQ K) (tCons ta tNil)) σ H (zU r) xs :=
  ev_c1 h fun x H1 Q f h2 q => by
    rcases h2 with ⟨a, vs, e, hs, h2⟩ | ⟨a, vs, e, hs, h2⟩
    · exact ⟨a, vs, by rw [e], .inl ⟨hs.sq, fun l hl => q _ _ (Ex.new hl) ⟨l, vs, rfl, .new ((hT.fr f).new hl) upd_same, all2_imp (fun _ _ z => Mo.fr (Ex.new hl).fr z) h2⟩⟩⟩
    · exact ⟨a, vs, by rw [e], .inr ⟨hs.sq, q _ H1 (Ex.refl H1) ⟨a, vs, rfl, hs, h2⟩⟩⟩
theorem ev_listQ [Mo r] {xs : List α} (hT : TD T H) (h : Ev K T ta σ H (zQ r) xs) : Ev K T (tCB (rListQ K) (tCons ta tNil)) σ H (zL r) xs :=
  ev_c1 h fun x H1 Q f h2 q => by
    rcases h2 with ⟨a, vs, e, hs, h2⟩ | ⟨a, vs, e, hs, h2⟩
    · exact ⟨a, vs, by rw [e], .inl hs.sq, fun l hl => q _ _ (Ex.new hl) ⟨l, vs, rfl, .new ((hT.fr f).new hl) upd_same, all2_imp (fun _ _ z => Mo.fr (Ex.new hl).fr z) h2⟩⟩
    · exact ⟨a, vs, by rw [e], .inr hs.sq, fun l hl => q _ _ (Ex.new hl) ⟨l, vs, rfl, .new ((hT.fr f).new hl) upd_same, all2_imp (fun _ _ z => Mo.fr (Ex.new hl).fr z) h2⟩⟩
theorem ev_ixQ [Mo r] {xs : List α} {i : Int} {d : α} (ha : Ev K T ta σ H (zQ r) xs) (hb : Ev K T tb σ H zI i) (hi : atI xs i = some d) : Ev K T (tOp (rIx K) ta tb) σ H r d :=
  ev_op ha hb fun x y H1 Q _ h1 h2 q => by
    rcases h1 with ⟨a, vs, rfl, hs, h⟩ | ⟨a, vs, rfl, hs, h⟩
    · obtain ⟨v, hv, hr⟩ := all2_at h hi
      exact .inl ⟨a, vs, i, v, rfl, h2, hs.sq, hv, q v H1 (Ex.refl H1) hr⟩
    · obtain ⟨v, hv, hr⟩ := all2_at h hi
      exact .inr (.inl ⟨a, vs, i, v, rfl, h2, hs.sq, hv, q v H1 (Ex.refl H1) hr⟩)
end
end EB

set_option Elab.async false
set_option linter.all false
set_option maxRecDepth 100000
set_option maxHeartbeats 4000000
/-! EB: defs, methods, objects; more built-ins. -/
namespace EB
open PySem PySem.Spec PyProof.Rows L2

/-! ### a def that keeps its promise, with how it is called -/
structure Ok (P : Program) (w : World) (K : PySem.W.Frag) (mg : Str → Option Value) (base : Heap) (k : Nat) (x : Str × Option Str) (ps : List Str) (sp : Sp) : Prop where
  ex : ∃ fd, FnOk P w K mg base CX0 k (He.fAd K x) fd ps sp ∧ Binds K fd ps [] ∧ PySem.W.keepIn K (.ref (He.fAd K x)) = true
section
variable {P : Program} {w : World} {K : PySem.W.Frag} {mg : Str → Option Value} {base : Heap} {k : Nat} {x : Str × Option Str} {ps : List Str} {sp : Sp}
theorem Ok.mono {j : Nat} (F : Ok P w K mg base k x ps sp) (h : k ≤ j) : Ok P w K mg base j x ps sp := let ⟨fd, f, b, kp⟩ := F.ex; ⟨fd, f.mono h, b, kp⟩
theorem Ok.imp {sp' : Sp} (F : Ok P w K mg base k x ps sp) (h : ∀ vs H Q E, sp' vs H Q E → sp vs H Q E) : Ok P w K mg base k x ps sp' := let ⟨fd, f, b, kp⟩ := F.ex; ⟨fd, f.imp h, b, kp⟩
end
section
variable {X : Cx} {k j : Nat} {x : Str} {ps : List Str} {sp : Sp} {p pos apos : Pos} {e o : Expr} {es : List Expr} {t : TA} {ta : TE}
theorem pe_callG (F : Ok X.prog X.w X.K X.mg X.base k (x, none) ps sp) (hr : Room j X.A) (hk : k ≤ j) (hg : Gl X x) (hm : X.mg x = some (.ref (He.ga X.K x))) (ha : PA X (e :: es) t) (hdb : (x == ("__debug__" : Str)) = false := by decide)
    (he : starEach (e :: es) X.env = (false, eval e X.env) :: starEach es X.env := by rfl) (hpl : (backTo pos (starEach es X.env)).any (·.1) = false := by rfl) : PE X (.Call (.Name x p) (e :: es) [] pos) (tCall sp [] E0 t) := by
  obtain ⟨fd, f, b, kp⟩ := F.ex
  exact pe_call f (hr.mono hk) hg hm kp b .nil pass0 ha hdb he hpl
theorem pe_callG0 (F : Ok X.prog X.w X.K X.mg X.base k (x, none) ps sp) (hr : Room j X.A) (hk : k ≤ j) (hg : Gl X x) (hm : X.mg x = some (.ref (He.ga X.K x))) (hdb : (x == ("__debug__" : Str)) = false := by decide) : PE X (.Call (.Name x p) [] [] pos) (tCall sp [] E0 tNil) := by
  obtain ⟨fd, f, b, kp⟩ := F.ex
  exact pe_call0 f (hr.mono hk) hg hm kp b .nil pass0 hdb
theorem pe_methG {pl : Sem Bool} {Cn m : Str} (he : PE X o ta) (c : Cls X.K (He.ga X.K Cn)) (hm : Meth X.K (He.ga X.K Cn) m (He.ma X.K (He.ga X.K Cn) m)) (F : Ok X.prog X.w X.K X.mg X.base k (Cn, some m) ps sp) (hr : Room j X.A) (hk : k ≤ j) (ha : PA X (e :: es) t)
    (hst : starEach (e :: es) X.env = (false, eval e X.env) :: starEach es X.env := by rfl) (hpl : (backTo pos (starEach es X.env)).any (·.1) = false := by rfl)
    (ht : eval (.Call (.Attribute o m apos) (e :: es) [] pos) X.env = (do
      let ov ← eval o X.env
      standAt apos.atName
      let (f, first) ← holding [ov] (getMethod ov m pl)
      callWith pos f first (backTo pos (starEach (e :: es) X.env)) (backToKw pos (keywordEach [] X.env))) := by rfl) :
    PE X (.Call (.Attribute o m apos) (e :: es) [] pos) (tMeth (He.ga X.K Cn) m sp [] E0 ta t) := by
  obtain ⟨fd, f, b, kp⟩ := F.ex
  exact pe_meth he c hm f (hr.mono hk) b .nil pass0 ha hst hpl ht
theorem pe_methG0 {pl : Sem Bool} {Cn m : Str} (he : PE X o ta) (c : Cls X.K (He.ga X.K Cn)) (hm : Meth X.K (He.ga X.K Cn) m (He.ma X.K (He.ga X.K Cn) m)) (F : Ok X.prog X.w X.K X.mg X.base k (Cn, some m) ps sp) (hr : Room j X.A) (hk : k ≤ j)
    (ht : eval (.Call (.Attribute o m apos) [] [] pos) X.env = (do
      let ov ← eval o X.env
      standAt apos.atName
      let (f, first) ← holding [ov] (getMethod ov m pl)
      callWith pos f first (backTo pos (starEach [] X.env)) (backToKw pos (keywordEach [] X.env))) := by rfl) :
    PE X (.Call (.Attribute o m apos) [] [] pos) (tMeth (He.ga X.K Cn) m sp [] E0 ta tNil) := by
  obtain ⟨fd, f, b, kp⟩ := F.ex
  exact pe_meth0 he c hm f (hr.mono hk) b .nil pass0 ht
end
/-- a def's proof: where it stands, its scope, its body -/
theorem mk_ok {P : Program} {w : World} {K : PySem.W.Frag} {mg : Str → Option Value} {base : Heap} {k : Nat} {at_ : Str × Option Str} {x qual : Str} {params : Arguments} {body : List Stmt} {scope : Scope} {kws : List (Str × V)} {N ps : List Str} {sp : Sp} {fd : FuncData}
    (F : FunD K x qual params body scope [] kws (He.fAd K at_) fd) (S : FnScope N ps scope) (hb : Binds K fd ps []) (len : ∀ vs H Q E, sp vs H Q E → vs.length = ps.length)
    (hbody : ∀ (cdv : Value) (A : Around) (outer : List Env) (s : Shared) (H : Hp) (vs : List V) (Q : VK) (E : XK), Room k (A.deeper (envOfC qual scope s.heap.objs.size (He.fAd K at_) cdv)) → sp vs H Q E →
      ∃ t, PSs (cxOf CX0 P w K mg base N qual scope (He.fAd K at_) cdv A outer s H E).nox body t ∧ t { nx := fun _ H' => Q .non H', rt := Q } (start N vs) H) : Ok P w K mg base (k + 1) at_ ps sp :=
  ⟨fd, F.ok S len fun cdv A outer s H vs Q E hr h => let ⟨t, h1, h2⟩ := hbody cdv A outer s H vs Q E hr h; ⟨t, h1.nox, h2⟩, hb, F.kp⟩
theorem PSp_len {K : PySem.W.Frag} {α β : Type} {ra : Rpl α} {pre : α → Prop} {r : Rp β} {f : α → β} {n : Nat} (h : ∀ K T H vs a, ra K T H vs a → vs.length = n) : ∀ vs H Q E, PSp K ra pre r f vs H Q E → vs.length = n := fun vs H Q E ⟨T, a, _, hr, _⟩ => h K T H vs a hr
theorem len0 {K T H vs a} (h : aN K T H vs a) : vs.length = 0 := by rw [show vs = [] from h]; rfl
theorem lenS {α β : Type} {r : Rp α} {s : Rpl β} {n : Nat} (h : ∀ K T H vs a, s K T H vs a → vs.length = n) : ∀ K T H vs a, aC r s K T H vs a → vs.length = n + 1 := fun K T H vs a ⟨v, ws, e, _, q⟩ => by rw [e, List.length_cons, h K T H ws a.2 q]
theorem len1 {α : Type} {r : Rp α} : ∀ K T H vs a, aC r aN K T H vs a → vs.length = 1 := lenS fun _ _ _ _ _ h => len0 h
theorem len2 {α β : Type} {r : Rp α} {s : Rp β} : ∀ K T H vs a, aC r (aC s aN) K T H vs a → vs.length = 2 := lenS len1
theorem len3 {α β γ : Type} {r : Rp α} {s : Rp β} {t : Rp γ} : ∀ K T H vs a, aC r (aC s (aC t aN)) K T H vs a → vs.length = 3 := lenS len2
theorem len4 {α β γ δ : Type} {r : Rp α} {s : Rp β} {t : Rp γ} {u : Rp δ} : ∀ K T H vs a, aC r (aC s (aC t (aC u aN))) K T H vs a → vs.length = 4 := lenS len3
theorem len5 {α β γ δ ε : Type} {r : Rp α} {s : Rp β} {t : Rp γ} {u : Rp δ} {q : Rp ε} : ∀ K T H vs a, aC r (aC s (aC t (aC u (aC q aN)))) K T H vs a → vs.length = 5 := lenS len4

/-! ### objects -/
def zA : Rp Addr := fun _ _ _ v a => v = .ref a
instance : Mo zA := ⟨fun _ h => h⟩
def zOb (Cn : Str) (fs : List Str) {α : Type} (ra : Rpl α) : Rp α := fun K T H v a => ∃ p dx vs, v = .ref p ∧ ¬ T p ∧ H p = some (.ins (He.ga K Cn) dx (fs.zip vs)) ∧ ra K T H vs a
instance {Cn : Str} {fs : List Str} {α : Type} {ra : Rpl α} [MoL ra] : Mo (zOb Cn fs ra) := ⟨fun w ⟨p, dx, vs, e, n, h, q⟩ =>
  ⟨p, dx, vs, e, fun t => (w.nw p t).elim n fun z => (by rw [h] at z; cases z), w.fr.keep p _ n h, MoL.wd w q⟩⟩
theorem lookup_zip_none {m : Str} : ∀ {fs : List Str} {vs : List V}, m ∉ fs → (fs.zip vs).lookup m = none
  | [], _, _ => rfl
  | _ :: _, [], _ => rfl
  | f :: fs, v :: vs, h => by
    have hf : (m == f) = false := by
      apply beq_eq_false_iff_ne.mpr
      intro z; exact h (z ▸ List.mem_cons_self)
    rw [List.zip_cons_cons, List.lookup_cons, hf]
    exact lookup_zip_none fun z => h (List.mem_cons_of_mem _ z)
section
variable {K : PySem.W.Frag} {T : AS} {σ : L2.St} {H : Hp} {α β γ : Type} {r : Rp α} {s : Rp β} {ta tb te tl : TE} {t u : TT} {Cn : Str} {fs : List Str}
/-- an attribute, by its place i: g says where it stands among what the object holds -/
theorem ev_fld {ra : Rpl β} {b : β} {f : Str} {a : α} (c : Cls K (He.ga K Cn)) (n : NoAttr K (He.ga K Cn) f) (h : Ev K T ta σ H (zOb Cn fs ra) b) (g : ∀ H1 vs, ra K T H1 vs b → ∃ v, (fs.zip vs).lookup f = some v ∧ r K T H1 v a) : Ev K T (tFld K ta f) σ H r a := fun H1 e Q q =>
  h H1 e _ fun v H2 e2 ⟨p, dx, vs, ev, ht, hp, hr⟩ => by
    obtain ⟨v', hl, hr'⟩ := g H2 vs hr
    exact ⟨p, _, dx, _, v', ev, hp, c, n, hl, q v' H2 e2 hr'⟩
/-- a method that changes nothing -/
theorem ev_meth {ra : Rpl β} {b : β} {rb : Rpl γ} {d : γ} {pre : β × γ → Prop} {f : β × γ → α} {tr : TA} {E : XK} {m : Str} [MoL ra] (hT : TD T H) (hm : m ∉ fs) (h : Ev K T ta σ H (zOb Cn fs ra) b) (h2 : EvA K T tr σ H rb d) (hp : pre (b, d)) :
    Ev K T (tMeth (He.ga K Cn) m (PSp K (aC (zOb Cn fs ra) rb) pre r f) [] E ta tr) σ H r (f (b, d)) := fun H1 g Q q => h H1 g _ fun v H2 e2 r2 => by
  obtain ⟨p, dx, vs, ev, ht, hh, hr⟩ := r2
  refine ⟨p, dx, _, ev, hh, lookup_zip_none hm, ?_⟩
  refine h2 H2 (g.trans e2.fr) _ fun ws H3 e3 r3 => ?_
  show PSp K (aC (zOb Cn fs ra) rb) pre r f (v :: (ws ++ [])) H3 Q E
  rw [List.append_nil]
  exact ⟨T, (b, d), (hT.fr g).ex (e2.trans e3), ⟨v, ws, rfl, ⟨p, dx, vs, ev, ht, e3 _ _ hh, MoL.fr e3.fr hr⟩, r3⟩, hp, fun v' H4 e4 r4 => q v' H4 ((e2.trans e3).trans e4) r4⟩

/-! ### pairs as targets -/
theorem g2_tup {i j : Nat} {p : α × β} {v : V} {H' : Hp} {σ' : L2.St} {Q : L2.St → Hp → Prop} (h : zP r s K T H' v p) (q : ∀ x, r K T H' x p.1 → ∀ y, s K T H' y p.2 → Q ((σ'.set i (some x)).set j (some y)) H') : gTup K 2 (gCons (gName i) (gCons (gName j) gNil)) v σ' H' Q := by
  obtain ⟨a, x, y, e, hs, h1, h2⟩ := h
  exact ⟨a, [x, y], e, hs.sq, rfl, x, [y], rfl, y, [], rfl, rfl, q x h1 y h2⟩
theorem g3_tup {s' : Rp γ} {i j k : Nat} {p : α × β × γ} {v : V} {H' : Hp} {σ' : L2.St} {Q : L2.St → Hp → Prop} (h : zP3 r s s' K T H' v p) (q : ∀ x, r K T H' x p.1 → ∀ y, s K T H' y p.2.1 → ∀ z, s' K T H' z p.2.2 → Q (((σ'.set i (some x)).set j (some y)).set k (some z)) H') :
    gTup K 3 (gCons (gName i) (gCons (gName j) (gCons (gName k) gNil))) v σ' H' Q := by
  obtain ⟨a, x, y, z, e, hs, h1, h2, h3⟩ := h
  exact ⟨a, [x, y, z], e, hs.sq, rfl, x, [y, z], rfl, y, [z], rfl, z, [], rfl, rfl, q x h1 y h2 z h3⟩

/-! ### ints from things -/
def b2 (b : Bool) : Int := if b then 1 else 0
def rInt1 : List V → Hp → VK → Prop := fun xs H Q => (∃ i, xs = [.int i] ∧ Q (.int i) H) ∨ ∃ k, xs = [.bl k] ∧ Q (.int (if k then 1 else 0)) H
theorem call_int1Q {X : Cx} : CallR X (.type "int") rInt1 := call_int1
theorem ev_intI {i : Int} (h : Ev K T ta σ H zI i) : Ev K T (tCB rInt1 (tCons ta tNil)) σ H zI i := ev_c1 h fun x H1 Q _ e q => .inl ⟨i, by rw [show x = .int i from e], q _ H1 (Ex.refl H1) rfl⟩
theorem ev_intB {i : Bool} (h : Ev K T ta σ H zB i) : Ev K T (tCB rInt1 (tCons ta tNil)) σ H zI (b2 i) := ev_c1 h fun x H1 Q _ e q => .inr ⟨i, by rw [show x = .bl i from e], q _ H1 (Ex.refl H1) rfl⟩
def rIntS : List V → Hp → VK → Prop := fun xs H Q => ∃ a n, xs = [.str a] ∧ PySem.intText? a = some n ∧ a.length ≤ 640 ∧ Q (.int n) H
theorem call_intS {X : Cx} : CallR X (.type "int") rIntS := call_int_str
def wInt (w : List Bool) : Int := match w with
  | [b] => b2 b
  | _ => 0
theorem int_sgn (b : Bool) : PySem.intText? (wS [b]) = some (b2 b) := by cases b <;> decide +kernel
theorem ev_intW {w : List Bool} (h : Ev K T ta σ H zW w) (hl : w.length = 1) : Ev K T (tCB rIntS (tCons ta tNil)) σ H zI (wInt w) := ev_c1 h fun x H1 Q _ ⟨e, _⟩ q => by
  match w, hl with
  | [b], _ => exact ⟨wS [b], b2 b, by rw [e], int_sgn b, by rw [wS_len]; simp, q _ H1 (Ex.refl H1) rfl⟩
def rAbs : List V → Hp → VK → Prop := fun xs H Q => ∃ i, xs = [.int i] ∧ Q (.int (if i < 0 then -i else i)) H
theorem call_absQ {X : Cx} : CallR X (.builtin "abs") rAbs := call_abs
def ab (i : Int) : Int := if i < 0 then -i else i
theorem ev_abs {i : Int} (h : Ev K T ta σ H zI i) : Ev K T (tCB rAbs (tCons ta tNil)) σ H zI (ab i) := ev_c1 h fun x H1 Q _ e q => ⟨i, by rw [show x = .int i from e], q _ H1 (Ex.refl H1) rfl⟩
def mx2 (i j : Int) : Int := if j > i then j else i
def mn2 (i j : Int) : Int := if j < i then j else i
def rMx2 : List V → Hp → VK → Prop := fun xs H Q => ∃ i j, xs = [.int i, .int j] ∧ Q (.int (if j > i then j else i)) H
def rMn2 : List V → Hp → VK → Prop := fun xs H Q => ∃ i j, xs = [.int i, .int j] ∧ Q (.int (if j < i then j else i)) H
theorem call_max2Q {X : Cx} (hc : X.calm = true := by rfl) : CallR X (.builtin "max") rMx2 := call_max2 hc
theorem call_min2Q {X : Cx} (hc : X.calm = true := by rfl) : CallR X (.builtin "min") rMn2 := call_min2 hc
theorem ev_max2 {i j : Int} (h : Ev K T ta σ H zI i) (h' : Ev K T tb σ H zI j) : Ev K T (tCB rMx2 (tCons ta (tCons tb tNil))) σ H zI (mx2 i j) := ev_c2 h h' fun x y H1 Q _ e e' q => ⟨i, j, by rw [show x = .int i from e, show y = .int j from e'], q _ H1 (Ex.refl H1) rfl⟩
theorem ev_min2 {i j : Int} (h : Ev K T ta σ H zI i) (h' : Ev K T tb σ H zI j) : Ev K T (tCB rMn2 (tCons ta (tCons tb tNil))) σ H zI (mn2 i j) := ev_c2 h h' fun x y H1 Q _ e e' q => ⟨i, j, by rw [show x = .int i from e, show y = .int j from e'], q _ H1 (Ex.refl H1) rfl⟩
theorem at_get {xs : List α} {i : Int} {d0 : α} (h0 : 0 ≤ i) (h : i < (xs.length : Int)) : atI xs i = some (xs.getD i.toNat d0) := by
  apply atI_pos h0
  have : i.toNat < xs.length := by omega
  rw [List.getD_eq_getElem?_getD, List.getElem?_eq_getElem this]; rfl
/-! ### slices of words, join -/
theorem cut_map {f : α → β} (xs : List α) (lo hi : Option Int) : cutA (xs.map f) lo hi = (cutA xs lo hi).map f := by
  unfold cutA
  rw [List.length_map, ← List.map_drop, ← List.map_take]
theorem cutA_len (xs : List α) (lo hi : Option Int) : (cutA xs lo hi).length ≤ xs.length := by
  unfold cutA
  rw [List.length_take, List.length_drop]
  omega
theorem ev_slW {w : List Bool} {tl th : TO} {lo hi : Option Int} (h : Ev K T te σ H zW w) (h1 : EvO T tl σ H lo) (h2 : EvO T th σ H hi) : Ev K T (tSl rSlS te tl th) σ H zW (cutA w lo hi) := fun H1 f Q q =>
  h H1 f _ fun v H2 e2 r2 => h1 H2 (f.trans e2.fr) _ fun H3 e3 => h2 H3 ((f.trans e2.fr).trans e3.fr) _ fun H4 e4 => by
    obtain ⟨rfl, hl⟩ := r2
    refine ⟨wS w, rfl, by rw [wS_len, sizeLine_eq]; omega, q _ _ ((e2.trans e3).trans e4) ⟨?_, Nat.le_trans (cutA_len _ _ _) hl⟩⟩
    congr 1
    unfold cutS
    rw [wS_len]
    have : (wS w).cps.toList = w.map sgn := by simp [wS]
    rw [this]
    have := cut_map (f := sgn) w lo hi
    unfold cutA at this
    rw [List.length_map] at this
    rw [this]
    rfl
def rJoin (K : PySem.W.Frag) : V → List V → Hp → VK → Prop := fun x xs H Q => ∃ a p, ∃ ys : List Str, x = .str a ∧ xs = [.ref p] ∧ (SqL K H p (ys.map V.str) ∨ SqT K H p (ys.map V.str)) ∧
      (ys.map (·.length)).sum + ys.length * a.length ≤ 16777216 ∧ Q (.str (Txt.join a ys)) H
theorem pe_joinQ {X : Cx} {o e : Expr} {to te : TE} {apos pos : Pos} (ho : PE X o to) (he : PE X e te) (hs : starEach [e] X.env = [(false, eval e X.env)] := by rfl) (hbase : attributeBase o "join" X.env (eval o X.env) = eval o X.env := by rfl) (hline : (apos.endLine == pos.line) = true := by rfl) :
    PE X (.Call (.Attribute o "join" apos) [e] [] pos) (tM1 (rJoin X.K) to te) := pe_join ho he hs hbase hline
theorem joinL_nil : ∀ l : List (List Nat), TL.joinL [] l = l.flatten
  | [] => rfl
  | [p] => by simp [TL.joinL]
  | p :: q :: r => by
    have ih := joinL_nil (q :: r)
    show p ++ ([] ++ TL.joinL [] (q :: r)) = _
    rw [ih]; simp
theorem join_words (ws : List (List Bool)) : Txt.join (wS []) (ws.map wS) = wS ws.flatten := by
  rw [TL.join_eq]
  apply TL.ext_tl
  rw [TL.tl_join]
  have : TL.tl (wS []) = [] := rfl
  rw [this, joinL_nil]
  simp only [List.map_map, TL.tl, wS]
  simp only [List.map_flatten]
  congr 1
theorem ev_joinW {ws : List (List Bool)} (ha : Ev K T ta σ H zW []) (hb : Ev K T tb σ H (zL zW) ws) (hl : ws.flatten.length ≤ 100000) : Ev K T (tM1 (rJoin K) ta tb) σ H zW ws.flatten := fun H1 f Q q => ha H1 f _ fun v H2 e2 r2 => by
  obtain ⟨rfl, _⟩ := r2
  refine ⟨⟨_, rfl⟩, hb H2 (f.trans e2.fr) _ fun y H3 e3 r3 => ?_⟩
  obtain ⟨p, vs, rfl, hs, hall⟩ := r3
  have e := all2_word hall
  refine ⟨wS [], p, ws.map wS, rfl, rfl, .inl (by rw [← e]; exact hs.sq), ?_, ?_⟩
  · have e1 : ((ws.map wS).map (·.length)).sum = ws.flatten.length := by
      rw [List.length_flatten, List.map_map]
      congr 1
      apply List.map_congr_left
      intro w _; exact wS_len w
    rw [e1, wS_len]; simp; simp at hl; omega
  · rw [join_words]
    exact q _ _ (e2.trans e3) ⟨rfl, hl⟩
/-! ### truth -/
/-- an expression by its truth -/
def tTruK (K : PySem.W.Frag) (ta : TE) : TT := fun σ H Q => ta σ H fun x H' => ∃ k, TruV K x H' k ∧ Q k H'
theorem et_truL {xs : List α} (h : Ev K T ta σ H (zL r) xs) : EvT T (tTruK K ta) σ H (!xs.isEmpty) := fun H1 f Q q => h H1 f _ fun v H2 e2 r2 => by
  obtain ⟨a, vs, rfl, hs, hall⟩ := r2
  refine ⟨_, .inl ⟨vs, hs.sq, ?_⟩, q H2 e2⟩
  have := all2_len hall
  cases vs <;> cases xs <;> simp at this <;> rfl
end
end EB

set_option Elab.async false
set_option linter.all false
set_option maxRecDepth 100000
set_option maxHeartbeats 4000000
/-! EB: isinstance, signs in a text, the built-ins' places. -/
namespace EB
open PySem PySem.Spec PyProof.Rows L2
theorem bt_abs : bootBuiltins "abs" = some (.builtin "abs") := by decide +kernel
theorem bt_all : bootBuiltins "all" = some (.builtin "all") := by decide +kernel
theorem bt_any : bootBuiltins "any" = some (.builtin "any") := by decide +kernel
theorem bt_len : bootBuiltins "len" = some (.builtin "len") := by decide +kernel
theorem bt_max : bootBuiltins "max" = some (.builtin "max") := by decide +kernel
theorem bt_min : bootBuiltins "min" = some (.builtin "min") := by decide +kernel
theorem bt_sum : bootBuiltins "sum" = some (.builtin "sum") := by decide +kernel
theorem bt_sorted : bootBuiltins "sorted" = some (.builtin "sorted") := by decide +kernel
theorem bt_isinstance : bootBuiltins "isinstance" = some (.builtin "isinstance") := by decide +kernel
theorem bt_int : bootBuiltins "int" = some (.type "int") := by decide +kernel
theorem bt_bool : bootBuiltins "bool" = some (.type "bool") := by decide +kernel
theorem bt_str : bootBuiltins "str" = some (.type "str") := by decide +kernel
theorem bt_list : bootBuiltins "list" = some (.type "list") := by decide +kernel
theorem bt_tuple : bootBuiltins "tuple" = some (.type "tuple") := by decide +kernel
theorem bt_dict : bootBuiltins "dict" = some (.type "dict") := by decide +kernel
theorem bt_set : bootBuiltins "set" = some (.type "set") := by decide +kernel

/-- a representation's type -/
class Tyd {α : Type} (r : Rp α) (n : outParam String) : Prop where
  ty : ∀ {K T H v a}, r K T H v a → TyX K H v (.type n)
instance : Tyd zI "int" := ⟨fun h => by rw [h]; exact .base (.int _)⟩
instance : Tyd zB "bool" := ⟨fun h => by rw [h]; exact .base (.bl _)⟩
instance : Tyd zS "str" := ⟨fun h => by rw [h]; exact .base (.str _)⟩
instance : Tyd zW "str" := ⟨fun h => by rw [h.1]; exact .base (.str _)⟩
instance : Tyd zN "NoneType" := ⟨fun h => by rw [h]; exact .base .non⟩
instance {α : Type} {r : Rp α} : Tyd (zL r) "list" := ⟨fun ⟨a, vs, e, h, _⟩ => by
  rw [e]
  rcases h with ⟨_, h | ⟨o, h⟩⟩ | ⟨o, its, n, h1, h2, _⟩
  · exact .base (.lst h)
  · exact .base (.frz h)
  · exact .kList h1 h2⟩
instance {α : Type} {r : Rp α} : Tyd (zU r) "tuple" := ⟨fun ⟨a, vs, e, h, _⟩ => by
  rw [e]
  rcases h with ⟨_, h | ⟨o, h⟩⟩ | ⟨o, its, n, h1, h2, _⟩
  · exact .base (.tup h)
  · exact .fTuple h
  · exact .kTuple h1 h2⟩
instance {α β : Type} {r : Rp α} {s : Rp β} : Tyd (zP r s) "tuple" := ⟨fun ⟨a, x, y, e, h, _⟩ => by
  rw [e]
  rcases h with ⟨_, h | ⟨o, h⟩⟩ | ⟨o, its, n, h1, h2, _⟩
  · exact .base (.tup h)
  · exact .fTuple h
  · exact .kTuple h1 h2⟩
section
variable {X : Cx} {K : PySem.W.Frag} {T : AS} {σ : L2.St} {H : Hp} {α β γ : Type} {r : Rp α} {s : Rp β} {ta tb te tl : TE}
/-- a built-in class as a value -/
theorem pe_cls {x : Str} {n : String} {pos : Pos} (hg : Gl X x) (hm : X.mg x = none) (hv : bootBuiltins x = some (.type n)) (hn : x ≠ "__name__" := by decide) (hd : (x == ("__debug__" : Str)) = false := by decide) : PE X (.Name x pos) (tC (.ty n)) := pe_bltn (v := .ty n) hg hm hv rfl hn hd
theorem ev_isi {n n' : String} [Tyd r n'] {a : α} {b : Bool} (h : Ev K T ta σ H r a) (hk : kitB n' n = some b := by decide +kernel) : Ev K T (tCB (rIsi K) (tCons ta (tCons (tC (.ty n)) tNil))) σ H zB b := fun H1 f Q q =>
  h H1 f _ fun v H2 e2 r2 => ⟨v, .ty n, _, _, b, rfl, .ty n, Tyd.ty r2, kit_ty hk, q _ H2 e2 rfl⟩
theorem isi2_at {n1 n2 n' : String} {v : V} {H2 : Hp} {b1 b2 : Bool} {Q : VK} (t : TyX K H2 v (.type n')) (hk : kitB n' n1 = some b1) (hk2 : kitB n' n2 = some b2) (q : ∀ H3, Ex H2 H3 → Q (.bl (b1 || b2)) H3) :
    2 ≤ sizeLine ∧ ∀ p, H2 p = none → rIsiT K [v, .ref p] (upd H2 p (.tup [.ty n1, .ty n2])) Q :=
  ⟨by rw [sizeLine_eq]; omega, fun p hp => ⟨v, p, [.ty n1, .ty n2], .type n', [.type n1, .type n2], b1 || b2, rfl, upd_same, .cons (.ty _) (.cons (.ty _) .nil), by
    cases t with
    | base t => cases t with
      | non => exact .base .non
      | bl => exact .base (.bl _)
      | int => exact .base (.int _)
      | str => exact .base (.str _)
      | flt => exact .base (.flt _)
      | lst e => exact .base (.lst (by rw [upd_ne (ne_of_none e hp)]; exact e))
      | frz e => exact .base (.frz (by rw [upd_ne (ne_of_none e hp)]; exact e))
      | tup e => exact .base (.tup (by rw [upd_ne (ne_of_none e hp)]; exact e))
      | dK e => exact .base (.dK (by rw [upd_ne (ne_of_none e hp)]; exact e))
      | dT e => exact .base (.dT (by rw [upd_ne (ne_of_none e hp)]; exact e))
    | byt => exact .byt _
    | set e => exact .set (by rw [upd_ne (ne_of_none e hp)]; exact e)
    | kList e c => exact .kList e c
    | kTuple e c => exact .kTuple e c
    | kDict e c => exact .kDict e c
    | fTuple e => exact .fTuple (by rw [upd_ne (ne_of_none e hp)]; exact e)
    | fDict e => exact .fDict (by rw [upd_ne (ne_of_none e hp)]; exact e), kitAny_cons (kit_ty hk) (fun z => by
      subst z
      exact kitAny_cons (kit_ty hk2) (fun z => by subst z; exact kitAny_nil) (fun z => by subst z; rfl)) (fun z => by subst z; rfl), q _ (Ex.new hp)⟩⟩
theorem ev_isi2 {n1 n2 n' : String} [Tyd r n'] {a : α} {b1 b2 : Bool} (h : Ev K T ta σ H r a) (hk : kitB n' n1 = some b1 := by decide +kernel) (hk2 : kitB n' n2 = some b2 := by decide +kernel) :
    Ev K T (tCB (rIsiT K) (tCons ta (tCons (tTup (tCons (tC (.ty n1)) (tCons (tC (.ty n2)) tNil))) tNil))) σ H zB (b1 || b2) := fun H1 f Q q =>
  h H1 f _ fun v H2 e2 r2 => isi2_at (Tyd.ty r2) hk hk2 fun H3 e3 => q _ H3 (e2.trans e3) rfl
/-- a list or a tuple is one -/
theorem ev_isiQ {xs : List α} (h : Ev K T ta σ H (zQ r) xs) : Ev K T (tCB (rIsiT K) (tCons ta (tCons (tTup (tCons (tC (.ty "tuple")) (tCons (tC (.ty "list")) tNil))) tNil))) σ H zB true := fun H1 f Q q =>
  h H1 f _ fun v H2 e2 r2 => by
    rcases r2 with r2 | r2
    · exact isi2_at (b1 := false) (b2 := true) (Tyd.ty r2) (by decide +kernel) (by decide +kernel) fun H3 e3 => q _ H3 (e2.trans e3) rfl
    · exact isi2_at (b1 := true) (b2 := false) (Tyd.ty r2) (by decide +kernel) (by decide +kernel) fun H3 e3 => q _ H3 (e2.trans e3) rfl
/-- one sign in "01" -/
def rInSg : R2 := fun x y H Q => ∃ (c : Nat) (z : Str), x = .str ⟨#[c]⟩ ∧ y = .str z ∧ Q (.bl (decide (c ∈ z.cps.toList))) H
theorem op_inSg : OpR X (compareOp .In) rInSg := op_in_sign
theorem len_sign {w : List Bool} {x : List Bool} (h : x ∈ w.map fun b => [b]) : x.length = 1 := by
  obtain ⟨b, _, rfl⟩ := List.mem_map.mp h
  rfl
theorem ev_in01 {w : List Bool} (h : Ev K T ta σ H zW w) (hl : w.length = 1) : Ev K T (tOp rInSg ta (tC (.str ("01" : Str)))) σ H zB true := fun H1 f Q q => h H1 f _ fun v H2 e2 ⟨r2, _⟩ => by
  match w, hl with
  | [b], _ =>
    subst r2
    refine ⟨sgn b, ("01" : Str), rfl, rfl, ?_⟩
    have : decide (sgn b ∈ ("01" : Str).cps.toList) = true := by cases b <;> decide +kernel
    rw [this]
    exact q _ H2 e2 rfl
end
end EB

set_option Elab.async false
set_option linter.all false
set_option maxRecDepth 100000
set_option maxHeartbeats 4000000
/-! EB: the rules whose readings name the written part, told by it. -/
namespace EB
open PySem PySem.Spec PyProof.Rows L2
section
variable {X : Cx} {K : PySem.W.Frag} {tg l e o i : Expr} {pos : Pos} {tl te : TE} {es : List Expr}
theorem kx_list (hK : X.K = K := by rfl) : IxR X (rIxL K) := hK ▸ ix_list
theorem kx_tup (hK : X.K = K := by rfl) : IxR X (rIxT K) := hK ▸ ix_tup
theorem kx_seq (hK : X.K = K := by rfl) : IxR X (rIx K) := hK ▸ ix_seq
theorem kc_len (hK : X.K = K := by rfl) : CallR X (.builtin "len") (rLenQ K) := hK ▸ call_lenQ
theorem kc_list (hK : X.K = K := by rfl) : CallR X (.type "list") (rListQ K) := hK ▸ call_listQ
theorem kc_tuple (hK : X.K = K := by rfl) : CallR X (.type "tuple") (rTupleQ K) := hK ▸ call_tupleQ
theorem ks_list (hK : X.K = K := by rfl) : SlR X (rSlL K) := hK ▸ sl_list
theorem kp_list (hl : PE X l tl) (hK : X.K = K := by rfl) : PI X tg l (iListB K tl) := hK ▸ pi_listB hl
theorem kp_tup (hl : PE X l tl) (hK : X.K = K := by rfl) : PI X tg l (iTupB K tl) := hK ▸ pi_tupB hl
theorem kp_seq (hl : PE X l tl) (hK : X.K = K := by rfl) : PI X tg l (iSeqB K tl) := hK ▸ pi_seqB hl
theorem kr_all (hc : X.calm = true) (hK : X.K = K := by rfl) : CallR X (.builtin "all") (rAll K) := hK ▸ cr_all hc
theorem kr_any (hc : X.calm = true) (hK : X.K = K := by rfl) : CallR X (.builtin "any") (rAny K) := hK ▸ cr_any hc
theorem kr_sum (hc : X.calm = true) (hK : X.K = K := by rfl) : CallR X (.builtin "sum") (rSum K) := hK ▸ cr_sum hc
theorem kr_max (hc : X.calm = true) (hK : X.K = K := by rfl) : CallR X (.builtin "max") (rMax K) := hK ▸ cr_max hc
theorem kr_min (hc : X.calm = true) (hK : X.K = K := by rfl) : CallR X (.builtin "min") (rMin K) := hK ▸ cr_min hc
theorem kc_isi (hK : X.K = K := by rfl) : CallR X (.builtin "isinstance") (rIsi K) := hK ▸ call_isi
theorem kc_isiT (hK : X.K = K := by rfl) : CallR X (.builtin "isinstance") (rIsiT K) := hK ▸ call_isiT
theorem ke_fld {f : Str} (he : PE X e te) (hb : attributeBase e f X.env (eval e X.env) = eval e X.env := by rfl) (hK : X.K = K := by rfl) : PE X (.Attribute e f pos) (tFld K te f) := hK ▸ pe_fld he hb
theorem kg_tup {k n : Nat} {t : TGs} (hc : X.calm = true) (h : PGs X es t) (hn : (assignEach es X.env).length = n := by rfl) (hst : (assignEach es X.env).findIdx? (·.1) = none := by rfl) (hK : X.K = K := by rfl) : PG X (.Tuple es k pos) (gTup K n t) := hK ▸ pg_tup hc h hn hst
theorem kt_truth (ha : PE X e te) (he : ∀ whole, isTrue e X.env whole = (do let v ← whole; standAt e.pos; holding [v] (truthy v)) := by intro _; rfl) (hK : X.K = K := by rfl) : PT X e (tTruK K te) := hK ▸ pt_truth ha he
theorem ke_join {to : TE} {apos : Pos} (ho : PE X o to) (he : PE X e te) (hs : starEach [e] X.env = [(false, eval e X.env)] := by rfl) (hbase : attributeBase o "join" X.env (eval o X.env) = eval o X.env := by rfl) (hline : (apos.endLine == pos.line) = true := by rfl) (hK : X.K = K := by rfl) :
    PE X (.Call (.Attribute o "join" apos) [e] [] pos) (tM1 (rJoin K) to te) := hK ▸ pe_joinQ ho he hs hbase hline
end
section
variable {P : Program} {w : World} {K : PySem.W.Frag} {mg : Str → Option Value} {base : Heap} {X : Cx} {k j : Nat} {x : Str} {ps : List Str} {sp : Sp} {p pos apos : Pos} {e o : Expr} {es : List Expr} {t : TA} {ta : TE}
theorem ke_meth {pl : Sem Bool} {Cn m : Str} (he : PE X o ta) (c : Cls K (He.ga K Cn)) (hm : Meth K (He.ga K Cn) m (He.ma K (He.ga K Cn) m)) (F : Ok X.prog X.w K X.mg X.base k (Cn, some m) ps sp) (hr : Room j X.A) (hk : k ≤ j) (ha : PA X (e :: es) t)
    (hst : starEach (e :: es) X.env = (false, eval e X.env) :: starEach es X.env := by rfl) (hpl : (backTo pos (starEach es X.env)).any (·.1) = false := by rfl)
    (ht : eval (.Call (.Attribute o m apos) (e :: es) [] pos) X.env = (do
      let ov ← eval o X.env
      standAt apos.atName
      let (f, first) ← holding [ov] (getMethod ov m pl)
      callWith pos f first (backTo pos (starEach (e :: es) X.env)) (backToKw pos (keywordEach [] X.env))) := by rfl) (hK : X.K = K := by rfl) :
    PE X (.Call (.Attribute o m apos) (e :: es) [] pos) (tMeth (He.ga K Cn) m sp [] E0 ta t) := by
  subst hK
  exact pe_methG he c hm F hr hk ha hst hpl ht
theorem ke_meth0 {pl : Sem Bool} {Cn m : Str} (he : PE X o ta) (c : Cls K (He.ga K Cn)) (hm : Meth K (He.ga K Cn) m (He.ma K (He.ga K Cn) m)) (F : Ok X.prog X.w K X.mg X.base k (Cn, some m) ps sp) (hr : Room j X.A) (hk : k ≤ j)
    (ht : eval (.Call (.Attribute o m apos) [] [] pos) X.env = (do
      let ov ← eval o X.env
      standAt apos.atName
      let (f, first) ← holding [ov] (getMethod ov m pl)
      callWith pos f first (backTo pos (starEach [] X.env)) (backToKw pos (keywordEach [] X.env))) := by rfl) (hK : X.K = K := by rfl) :
    PE X (.Call (.Attribute o m apos) [] [] pos) (tMeth (He.ga K Cn) m sp [] E0 ta tNil) := by
  subst hK
  exact pe_methG0 he c hm F hr hk ht
end
end EB

set_option Elab.async false
set_option linter.all false
set_option maxRecDepth 100000
set_option maxHeartbeats 4000000
/-! EB: loops as statements, lists that are being made. -/
namespace EB
open PySem PySem.Spec PyProof.Rows L2

/-! ### a loop's run on data -/
inductive Out (ρ σ : Type) where
  | ret (r : ρ) | nx (s : σ) | brk (s : σ)
def runL {α ρ σ : Type} (step : σ → α → Out ρ σ) : σ → List α → Out ρ σ
  | s, [] => .nx s
  | s, x :: xs => match step s x with
    | .nx s' => runL step s' xs
    | o => o
section
variable {α ρ σ : Type} {step : σ → α → Out ρ σ}
theorem runL_app : ∀ {xs : List α} {s s' : σ} {x : α}, runL step s xs = .nx s' → runL step s (xs ++ [x]) = step s' x
  | [], s, s', x, h => by
    cases h
    show (match step s x with | .nx s' => runL step s' [] | o => o) = step s x
    cases step s x <;> rfl
  | y :: ys, s, s', x, h => by
    have h' : (match step s y with | .nx s' => runL step s' ys | o => o) = .nx s' := h
    show (match step s y with | .nx s' => runL step s' (ys ++ [x]) | o => o) = step s' x
    cases e : step s y with
    | nx s2 => rw [e] at h'; exact runL_app h'
    | ret r => rw [e] at h'; cases h'
    | brk r => rw [e] at h'; cases h'
theorem runL_take {xs : List α} {s s' : σ} {x : α} {i : Nat} (h : runL step s (xs.take i) = .nx s') (hx : xs[i]? = some x) : runL step s (xs.take (i + 1)) = step s' x := by
  rw [List.take_add_one, hx]
  exact runL_app h
theorem runL_stop : ∀ {xs ys : List α} {s : σ} {o : Out ρ σ}, runL step s xs = o → (∀ s', o ≠ .nx s') → runL step s (xs ++ ys) = o
  | [], ys, s, o, h, n => absurd h.symm (n s)
  | y :: ys, zs, s, o, h, n => by
    have h' : (match step s y with | .nx s' => runL step s' ys | o => o) = o := h
    show (match step s y with | .nx s' => runL step s' (ys ++ zs) | o => o) = o
    cases e : step s y with
    | nx s2 => rw [e] at h'; exact runL_stop h' n
    | ret r => rw [e] at h'; exact h'
    | brk r => rw [e] at h'; exact h'
theorem runL_ret {xs : List α} {s s' : σ} {x : α} {i : Nat} {o : Out ρ σ} (h : runL step s (xs.take i) = .nx s') (hx : xs[i]? = some x) (hs : step s' x = o) (n : ∀ s', o ≠ .nx s') : runL step s xs = o := by
  have h1 := runL_stop (ys := xs.drop (i + 1)) ((runL_take h hx).trans hs) n
  rwa [List.take_append_drop] at h1
end

/-! ### frames of what was made here -/
theorem Fr.exOf {S : AS} {H H' : Hp} (f : Fr S H H') (n : ∀ b, S b → H b = none) : Ex H H' := fun a o e => f.keep a o (fun z => by rw [n a z] at e; cases e) e
theorem Fr.tp {S : AS} {H H' : Hp} {p : Addr} (f : Fr S H H') : Fr (Tp S p) H H' := f.mono fun _ h => .inl h
theorem hS_tp {S : AS} {H H' : Hp} {p : Addr} (hS : ∀ b, S b → H b = none) (f : Fr S H H') (n : H' p = none) : ∀ b, Tp S p b → H b = none := fun b h => h.elim (hS b) fun z => by subst z; exact f.back n
/-- a list of ours, being made -/
structure HM {α : Type} (r : Rp α) (K : PySem.W.Frag) (T : AS) (H : Hp) (p : Addr) (xs : List α) : Prop where
  mem : T p
  ex : ∃ vs, H p = some (.lst vs) ∧ All2 (r K T H) vs xs
section
variable {K : PySem.W.Frag} {T T' S : AS} {σ : L2.St} {H H' : Hp} {α β γ : Type} {r : Rp α} {te : TE} {D : Ends} {i : Nat} {p : Addr} {xs : List α} {d : α}
theorem HM.ex' [Mo r] (h : HM r K T H p xs) (e : Ex H H') : HM r K T H' p xs := let ⟨vs, h1, h2⟩ := h.ex; ⟨h.mem, vs, e _ _ h1, all2_imp (fun _ _ z => Mo.fr e.fr z) h2⟩
theorem HM.fr [Mo r] (h : HM r K T H p xs) (f : Fr S H H') (n : ¬ S p) (hST : ∀ b, S b → T b) : HM r K T H' p xs := let ⟨vs, h1, h2⟩ := h.ex; ⟨h.mem, vs, f.keep _ _ n h1, all2_imp (fun _ _ z => Mo.fr (f.mono hST) z) h2⟩
theorem HM.lift [Mo r] {q : Addr} (h : HM r K T H p xs) (n : H q = none) : HM r K (Tp T q) H p xs := let ⟨vs, h1, h2⟩ := h.ex; ⟨.inl h.mem, vs, h1, all2_imp (fun _ _ z => Mo.lift n z) h2⟩
/-- it is done -/
theorem HM.done [Mo r] (h : HM r K T H p xs) (hs : ∀ b, T' b → T b) (n : ¬ T' p) : zL r K T' H (.ref p) xs := let ⟨vs, h1, h2⟩ := h.ex; ⟨p, vs, rfl, .new n h1, all2_imp (fun _ _ z => Mo.sub hs z) h2⟩
theorem HM.sub [Mo r] (h : HM r K T H p xs) (hs : ∀ b, T' b → T b) (m : T' p) : HM r K T' H p xs := let ⟨vs, h1, h2⟩ := h.ex; ⟨m, vs, h1, all2_imp (fun _ _ z => Mo.sub hs z) h2⟩
theorem HM.app [Mo r] {v : V} (h : HM r K T H p xs) (hv : r K T H v d) : ∃ vs, H p = some (.lst vs) ∧ vs.length = xs.length ∧ HM r K T (upd H p (.lst (vs ++ [v]))) p (xs ++ [d]) ∧ Fr T H (upd H p (.lst (vs ++ [v]))) := by
  obtain ⟨vs, h1, h2⟩ := h.ex
  have f : Fr T H (upd H p (.lst (vs ++ [v]))) := Fr.upd (.inl h.mem)
  exact ⟨vs, h1, all2_len h2, ⟨h.mem, _, upd_same, all2_app (all2_imp (fun _ _ z => Mo.fr f z) h2) (.cons (Mo.fr f hv) .nil)⟩, f⟩
/-- x = [..], a list that is to be changed -/
theorem st_mlist [Mo r] {ta : TA} (h : EvA K T ta σ H (aH r) xs) (hl : xs.length ≤ 1000) (k : ∀ p H1 H2 v, H2 = upd H1 p v → Ex H H1 → H1 p = none → Fr (Tp S p) H1 H2 → HM r K (Tp T p) H2 p xs → D.nx (σ.set i (some (.ref p))) H2) : tAsg (tLst ta) (gName i) D σ H :=
  h H (Fr.refl H) _ fun vs H1 e1 r1 => ⟨by rw [all2_len r1, sizeLine_eq]; omega, fun p hp => k p H1 _ _ rfl e1 hp (Fr.upd (.inl (.inr rfl))) ⟨.inr rfl, vs, upd_same, all2_imp (fun _ _ z => Mo.fr (Ex.new hp).fr (Mo.lift hp z)) r1⟩⟩
/-- x.append(e) -/
theorem st_append [Mo r] (hv : σ[i]? = some (some (.ref p))) (m : HM r K T H p xs) (h : Ev K T te σ H r d) (hl : xs.length ≤ 1000000) (k : ∀ H1 H2 v, H2 = upd H1 p v → Ex H H1 → Fr (Tp S p) H1 H2 → Fr T H1 H2 → HM r K T H2 p (xs ++ [d]) → D.nx σ H2) : tDrop (tBM K "list" rAppend (tVar i) (tCons te tNil)) D σ H := by
  obtain ⟨vs, h1, h2⟩ := m.ex
  refine ⟨.ref p, hv, .inl ⟨rfl, vs, .inl (.inl h1)⟩, ?_⟩
  refine h H (Fr.refl H) _ fun v H1 e1 r1 => ?_
  obtain ⟨vs', h1', hl', m', f'⟩ := (m.ex' e1).app r1
  exact ⟨p, vs', v, rfl, rfl, h1', by rw [hl', sizeLine_eq]; omega, k H1 _ _ rfl e1 (Fr.upd (.inl (.inr rfl))) f' m'⟩
/-- reading such a list -/
theorem evM_ix {ta tb : TE} {j : Int} [Mo r] (hv : ∀ H', Fr T H H' → HM r K T H' p xs → Ev K T ta σ H zA p) : True := trivial
/-- for -/
theorem st_for [Mo r] {wi : TI} {g : TG} {tb : TS} (hT : TD T H) (h : EvI K T wi σ H r xs)
    (k : ∀ H2, Ex H H2 → ∃ Pv : Nat → L2.St → Hp → Prop, Pv 0 σ H2 ∧ (∀ i σ' H', i ≤ xs.length → Pv i σ' H' → Fr T H2 H') ∧
      (∀ i x σ' H' v H'', xs[i]? = some x → Pv i σ' H' → Ex H' H'' → r K T H'' v x → g v σ' H'' fun σ3 H3 => tb { D with nx := Pv (i + 1), ct := Pv (i + 1), bk := D.nx } σ3 H3) ∧
      (∀ σ' H', Pv xs.length σ' H' → D.nx σ' H')) : tFor wi g tb D σ H :=
  h H (Fr.refl H) _ fun J H2 e2 w => by
    obtain ⟨⟨n, G, Y, hn, wk, hG, hY⟩, hz⟩ := w
    subst hn
    obtain ⟨Pv, h0, hF, hs, hd⟩ := k H2 e2
    refine for_it wk Pv h0 (fun i σ' H' hi q => hG H' (hF i σ' H' hi q)) (fun i v σ' H' H'' hi q y => ?_) hd
    have f := hF i σ' H' (by omega) q
    obtain ⟨eY, x, hx, hr⟩ := hY i H' v H'' hi f y
    exact hs i x σ' H' v H'' hx q eY (hr T ((hT.ex e2).fr f) (Tr.fr f))
end
end EB

set_option Elab.async false
set_option linter.all false
set_option maxRecDepth 100000
set_option maxHeartbeats 4000000
/-! EB: enumerate and zip of lists, tuples, texts in any mix. -/
namespace EB
open PySem PySem.Spec PyProof.Rows L2

set_option maxHeartbeats 4000000 in
/-- enumerate's making over anything that begins -/
theorem meets_enum1 {v : Value} {o : Obj} {Hb : Heap → Prop} (B : Begins v o Hb) :
    Meets (Builtin.«enumerate.__new__» ⟨[.type "enumerate", v], []⟩) (fun _ R s => Hb s.heap ∧
      R (.ok (.ret (.ref (s.heap.push o).objs.size))) { s with heap := (s.heap.push o).push { cls := .type "enumerate", data := .fields #[.none, .bool false, .ref s.heap.objs.size, rawInt 0, .none, .none] } }) :=
  .of_wp fun prog w A R s h => by
    obtain ⟨hp, g, d, tk, os⟩ := s; obtain ⟨h1, h⟩ := h
    have hsub := sub_enumerate
    have q1 : ∀ {A' : Around} {E : Value → Shared → Prop} {Q : Value → Shared → Prop}, Q (.ref hp.objs.size) ⟨hp.push o, g, d, tk, os⟩ → wpAny (model prog w) A' (pyIter v) Q E ⟨hp, g, d, tk, os⟩ :=
      fun q => B.iter prog w _ _ ⟨hp, g, d, tk, os⟩ _ h1 q
    wp_walk using q1
    refine wpAny_stack_any fun st => wpAny_pure ?_
    split
    · rename_i c _ _ _ _ _
      cases (c == Value.type "enumerate") <;> (wp_walk using q1; exact ⟨_, rfl, h⟩)
    · wp_walk using q1
      exact ⟨_, rfl, h⟩
theorem enum_begins1 {prog : Program} {w : World} {A : Around} {E : Value → Shared → Prop} {s : Shared} {v : Value} {o : Obj} {Hb : Heap → Prop} {Q : Value → Shared → Prop} (B : Begins v o Hb) (h1 : Hb s.heap)
    (h : ∀ h', IsEnum h' (s.heap.objs.size + 1) s.heap.objs.size 0 .none → h'.get? s.heap.objs.size = some o → h'.objs.size = s.heap.objs.size + 2 → (∀ b o, s.heap.get? b = some o → h'.get? b = some o) → Q (.ref (s.heap.objs.size + 1)) { s with heap := h' }) :
    wpAny (model prog w) A (call (.type "enumerate") [v]) Q E s := by
  refine callType_new F.called_enumerate (by decide) (F.typeCall_enumerate_1 _) (F.newCall_enumerate_1 _) (fun obj => F.args_object_init_2 obj _) F.entry_enumerate_new (meets_enum1 B) ⟨h1, ?_⟩
  have hz : (s.heap.push o).objs.size = s.heap.objs.size + 1 := Heap.size_push ..
  show _ ∧ _
  rw [hz]
  have he := Heap.get?_push_size (s.heap.push o) (o := { cls := .type "enumerate", data := .fields #[.none, .bool false, .ref s.heap.objs.size, rawInt 0, .none, .none] }) rfl
  rw [hz] at he
  exact ⟨⟨_, he, rfl⟩, h _ he (Heap.get?_push_of_some _ (Heap.get?_push_size _ B.free)) (by rw [Heap.size_push, hz]) fun b o x => Heap.get?_push_of_some _ (Heap.get?_push_of_some _ x)⟩

inductive Src where
  | l (a : Addr) | t (a : Addr) | s (x : Str) (tk : Tok)
def Src.fp : Src → Addr → List Addr
  | .l a, it => [it, a]
  | .t a, it => [it, a]
  | .s _ _, it => [it]
def Src.rd (K : PySem.W.Frag) (H : Hp) : Src → List V → Prop
  | .l a, xs => SqL K H a xs
  | .t a, xs => SqT K H a xs
  | .s x _, xs => xs = x.cps.toList.map fun c => V.str ⟨#[c]⟩
def Src.at_ : Src → Addr → Nat → Heap → Prop
  | .l a, it, i, h => h.IsListIter it a i
  | .t a, it, i, h => h.IsTupleIter it a i
  | .s x tk, it, i, h => h.IsStrIter it (strIterType x) x tk i
def Src.val : Src → Value
  | .l a => .ref a
  | .t a => .ref a
  | .s x tk => .str x tk
/-- the source is none of these -/
def Src.off : Src → List Addr → Prop
  | .l a, fs => a ∉ fs
  | .t a, fs => a ∉ fs
  | .s _ _, _ => True
theorem Src.off.fp {S : Src} {fs : List Addr} {it b : Addr} (h : S.off fs) (hb : b ∈ fs) (hne : b ≠ it) : b ∉ S.fp it := by
  cases S with
  | l a =>
    intro q
    have e : b = it ∨ b = a := by simpa [Src.fp] using q
    rcases e with e | e
    · exact hne e
    · subst e; exact h hb
  | t a =>
    intro q
    have e : b = it ∨ b = a := by simpa [Src.fp] using q
    rcases e with e | e
    · exact hne e
    · subst e; exact h hb
  | s x t =>
    intro q
    have e : b = it := by simpa [Src.fp] using q
    exact hne e
theorem Src.mem_fp {S : Src} {it : Addr} : it ∈ S.fp it := by cases S <;> simp [Src.fp]
theorem Src.at_obj {S : Src} {it : Addr} {i : Nat} {h : Heap} (q : S.at_ it i h) : ∃ o, h.get? it = some o ∧ ∀ v, o.data ≠ .cell v := by
  cases S with
  | l a => obtain ⟨o, ho, hc, hd⟩ := q; exact ⟨o, ho, fun v q => by rw [hd] at q; cases q⟩
  | t a => obtain ⟨o, ho, hc, hd⟩ := q; exact ⟨o, ho, fun v q => by rw [hd] at q; cases q⟩
  | s x t => obtain ⟨o, ho, hc, hd⟩ := q; exact ⟨o, ho, fun v q => by rw [hd] at q; cases q⟩
theorem Src.at_keep {S : Src} {it : Addr} {i : Nat} {h h' : Heap} (q : S.at_ it i h) (k : ∀ o, h.get? it = some o → h'.get? it = some o) : S.at_ it i h' := by
  cases S with
  | l a => obtain ⟨o, ho, z⟩ := q; exact ⟨o, k o ho, z⟩
  | t a => obtain ⟨o, ho, z⟩ := q; exact ⟨o, k o ho, z⟩
  | s x t => obtain ⟨o, ho, z⟩ := q; exact ⟨o, k o ho, z⟩
section
variable {X : Cx} {pins : List (Addr × Obj)} {σ : L2.St} {H : Hp} {s : Shared}
theorem Src.inj {S : Src} (I : Inv X pins σ H s) {xs ys : List V} (h : S.rd X.K H xs) (h' : S.rd X.K H ys) : xs = ys := by
  cases S with
  | l a => exact I.list_inj h h'
  | t a => exact I.tuple_inj h h'
  | s x t => exact h.trans h'.symm
theorem Src.draws {S : Src} (I : Inv X pins σ H s) {xs : List V} (h : S.rd X.K H xs) (hc : X.A.in1.handled = none) {it : Addr} {i : Nat} (hat : S.at_ it i s.heap) (ho : S.off [it]) :
    ∃ (P : Nat → Value → Prop) (St : Nat → Heap → Prop), Draws X.prog X.w X.A.in1 it (S.fp it) xs.length P St ∧ St i s.heap ∧ (∀ j v, P j v → ∃ x, xs[j]? = some x ∧ RelV x v) ∧ ∀ j h', St j h' → S.at_ it j h' := by
  cases S with
  | l a =>
    obtain ⟨its, rv, p, _⟩ := I.list h
    have e : its.toArray.size = xs.length := by simp [rv.length]
    refine ⟨_, _, e ▸ Draws.list hc it a (fun z => ho (by simp [z])) its.toArray, ⟨hat, p.isList⟩, fun j v q => ?_, fun j h' q => q.1⟩
    have q' : its[j]? = some v := by simpa using q
    exact all2_getR rv q'
  | t a =>
    obtain ⟨its, rv, p, _⟩ := I.tuple h
    have e : its.toArray.size = xs.length := by simp [rv.length]
    refine ⟨_, _, e ▸ Draws.tuple hc it a (fun z => ho (by simp [z])) its.toArray, ⟨hat, p⟩, fun j v q => ?_, fun j h' q => q.1⟩
    have q' : its[j]? = some v := by simpa using q
    exact all2_getR rv q'
  | s x t =>
    have h' : xs = x.cps.toList.map fun c => V.str ⟨#[c]⟩ := h
    subst h'
    have e : x.cps.size = (x.cps.toList.map fun c => V.str ⟨#[c]⟩).length := by simp
    refine ⟨_, _, e ▸ Draws.text hc it x t, hat, fun j v q => ?_, fun j h' q => q⟩
    obtain ⟨c, u, h1, rfl⟩ := q
    exact ⟨.str ⟨#[c]⟩, by simp [h1], u, rfl⟩
where
  all2_getR {xs : List V} {us : List Value} (r : Vals xs us) {j : Nat} {v : Value} (h : us[j]? = some v) : ∃ x, xs[j]? = some x ∧ RelV x v := by
    induction r generalizing j with
    | nil => simp at h
    | cons q t ih => cases j with
      | zero => simp at h; subst h; exact ⟨_, rfl, q⟩
      | succ j => obtain ⟨x, h1, h2⟩ := ih (by simpa using h); exact ⟨x, by simpa using h1, h2⟩
end
/-- enumerate(..) -/
def Ie (K : PySem.W.Frag) (S : Src) : It :=
  ⟨fun i H => ∃ (xs : List V) (x : V), S.rd K H xs ∧ xs[i]? = some x, fun i H v H' => ∃ T x, v = .ref T ∧ H T = none ∧ H' = upd H T (.tup [.int (i : Nat), x]) ∧ ∀ xs, S.rd K H xs → xs[i]? = some x, fun i H => ∃ xs : List V, S.rd K H xs ∧ xs.length = i⟩
theorem turn_en {P : Program} {w : World} {K : PySem.W.Frag} {elts : List Expr} {kk : Nat} {tpos : Pos} (S : Src) (e it : Addr) (hoff : S.off [e, it]) :
    Turn P w K (.Tuple elts kk tpos) (Ie K S) [e, it] e (fun i h => (∃ old, IsEnum h e it ((i : Nat) : Int) old) ∧ S.at_ it i h ∧ e ≠ it) where
  mem := by simp
  obj := fun i h st b hb => by
    obtain ⟨⟨old, he⟩, hit, _⟩ := st
    have e' : b = e ∨ b = it := by simpa using hb
    rcases e' with z | z
    · rw [z]; exact ⟨_, he, fun v q => nomatch q⟩
    · rw [z]; exact Src.at_obj hit
  keep := fun i h h' st k => let ⟨⟨old, he⟩, hi, hne⟩ := st; ⟨⟨old, k e (by simp) _ he⟩, Src.at_keep hi fun o q => k it (by simp) o q, hne⟩
  item := by
    intro X hP hw hK hc i pins s σ H E I hf st hg
    subst hP hw hK
    obtain ⟨⟨old, he⟩, hit, hne⟩ := st
    obtain ⟨xs, x, hq, hx⟩ := hg
    have ho1 : S.off [it] := by cases S <;> simp_all [Src.off]
    obtain ⟨Pv, St, D, hst, hPv, hAt⟩ := Src.draws I hq (I.ok.hd hc) hit ho1
    have hel : e < s.heap.objs.size := Heap.lt_size he
    have hil : it < s.heap.objs.size := by obtain ⟨_, q, _⟩ := Src.at_obj hit; exact Heap.lt_size q
    have hlt : i < xs.length := (List.getElem?_eq_some_iff.mp hx).1
    have hef : e ∉ S.fp it := hoff.fp (by simp) hne
    refine wpAny_pyNext_enum_itemC D he hst hlt hne hef fun u h' tk hPu ho hs' hT hsz hk => ?_
    obtain ⟨x', hx', ru⟩ := hPv i u hPu
    rw [hx] at hx'; cases hx'
    refine ⟨_, rfl, wpAny_letOwnedTupleGo_enum (s := { s with heap := h', toks := tk + 1 }) ho fun h'' he' sb => ?_⟩
    have hT2 : h''.get? s.heap.objs.size = some { cls := .type "tuple", data := .seq #[.int i tk, u] } := (sb.2 _ (Nat.ne_of_gt hel)).trans hT
    have new : ObjOk X.prog X.w (upd H s.heap.objs.size (.tup [.int (i : Nat), x])) h'' s.heap.objs.size (.tup [.int (i : Nat), x]) :=
      ⟨by show 2 ≤ sizeLine; decide, [.int i tk, u], .cons ⟨_, rfl⟩ (.cons ru .nil), ⟨_, hT2, rfl, _, rfl⟩⟩
    have I1 : Inv X pins σ (upd H s.heap.objs.size (.tup [.int (i : Nat), x])) { s with heap := h'', toks := tk + 1 } :=
      I.turnedNew (ch := [e, it]) (fun b ob hb q => (sb.2 b (fun z => hb (by simp [z]))).trans (hk b ob (fun z => hb (by simp [z])) (fun z => hb (by simp [z])) q)) hf (Nat.le_refl _) new
    refine ⟨.ref s.heap.objs.size, _, I1, rfl, ⟨_, x, rfl, I.hok.fresh (Nat.le_refl _), rfl, fun ys hy => by rw [Src.inj I hy hq]; exact hx⟩, ⟨⟨u, ?_⟩, Src.at_keep (hAt _ _ hs') fun o q => (sb.2 it (Ne.symm hne)).trans q, hne⟩, fun b hb => ?_⟩
    · have e1 : ((i + 1 : Nat) : Int) = (i : Int) + 1 := by omega
      rw [e1]; exact he'
    · have hb' : b < s.heap.objs.size := by
        have e' : b = e ∨ b = it := by simpa using hb
        rcases e' with z | z
        · rw [z]; exact hel
        · rw [z]; exact hil
      rw [upd_ne (Nat.ne_of_lt hb')]
      exact (hf b hb).1
  done := by
    intro X hP hw hK hc i pins s σ H E I hf st hg
    subst hP hw hK
    obtain ⟨⟨old, he⟩, hit, hne⟩ := st
    obtain ⟨xs, hq, hx⟩ := hg
    subst hx
    have ho1 : S.off [it] := by cases S <;> simp_all [Src.off]
    obtain ⟨Pv, St, D, hst, hPv, hAt⟩ := Src.draws I hq (I.ok.hd hc) hit ho1
    obtain ⟨f0, f1, f2, f3, f4, f5⟩ := hf it (by simp)
    exact wpAny_pyNext_enum_endD D he hst fun h' eb => ⟨rfl, I.turned (t' := s.toks) (fun b o hb q => eb b o hb q) f0 f1 f3 f4 f5⟩
  self := fun A i s Q E st h => let ⟨⟨_, he⟩, _⟩ := st; wpAny_pyIter_enum he h
/-- zip(.., ..) -/
def Iz (K : PySem.W.Frag) (S1 S2 : Src) : It :=
  ⟨fun i H => ∃ (xs ys : List V) (x y : V), S1.rd K H xs ∧ S2.rd K H ys ∧ xs[i]? = some x ∧ ys[i]? = some y,
    fun i H v H' => ∃ T x y, v = .ref T ∧ H T = none ∧ H' = upd H T (.tup [x, y]) ∧ (∀ xs, S1.rd K H xs → xs[i]? = some x) ∧ ∀ ys, S2.rd K H ys → ys[i]? = some y,
    fun i H => ∃ xs ys : List V, S1.rd K H xs ∧ S2.rd K H ys ∧ i = min xs.length ys.length⟩
theorem turn_zi {P : Program} {w : World} {K : PySem.W.Frag} {elts : List Expr} {kk : Nat} {tpos : Pos} (S1 S2 : Src) (z TI TO i1 i2 : Addr) (D : ZipSep2 z TI TO i1 i2 (S1.fp i1) (S2.fp i2)) (h1 : S1.off [i1]) (h2 : S2.off [i2]) :
    Turn P w K (.Tuple elts kk tpos) (Iz K S1 S2) [z, TI, TO, i1, i2] z (fun i h => IsZip h z TI TO .none ∧ IsTupOf2 h TI (.ref i1) (.ref i2) ∧ (∃ x y, IsTupOf2 h TO x y) ∧ S1.at_ i1 i h ∧ S2.at_ i2 i h) where
  mem := by simp
  obj := fun i h st c hc => by
    obtain ⟨hz, hTI, ⟨x, y, hTO⟩, e1, e2⟩ := st
    have e' : c = z ∨ c = TI ∨ c = TO ∨ c = i1 ∨ c = i2 := by simpa using hc
    rcases e' with q | q | q | q | q
    · rw [q]; exact ⟨_, hz, fun v q => nomatch q⟩
    · rw [q]; exact ⟨_, hTI, fun v q => nomatch q⟩
    · rw [q]; exact ⟨_, hTO, fun v q => nomatch q⟩
    · rw [q]; exact Src.at_obj e1
    · rw [q]; exact Src.at_obj e2
  keep := fun i h h' st k => by
    obtain ⟨hz, hTI, ⟨x, y, hTO⟩, h1, h2⟩ := st
    exact ⟨k z (by simp) _ hz, k TI (by simp) _ hTI, ⟨x, y, k TO (by simp) _ hTO⟩, Src.at_keep h1 fun o q => k i1 (by simp) o q, Src.at_keep h2 fun o q => k i2 (by simp) o q⟩
  item := by
    intro X hP hw hK hc i pins s σ H E I hf st hg
    subst hP hw hK
    obtain ⟨hz, hTI, ⟨x0, y0, hTO⟩, a1, a2⟩ := st
    obtain ⟨xs, ys, x, y, hqx, hqy, hx, hy⟩ := hg
    obtain ⟨P1, St1, D1, hst1, hP1, hA1⟩ := Src.draws I hqx (I.ok.hd hc) a1 h1
    obtain ⟨P2, St2, D2, hst2, hP2, hA2⟩ := Src.draws I hqy (I.ok.hd hc) a2 h2
    have hzl : z < s.heap.objs.size := Heap.lt_size hz
    refine wpAny_pyNext_zipD2_item D D1 D2 hz hTI hTO hst1 hst2 (List.getElem?_eq_some_iff.mp hx).1 (List.getElem?_eq_some_iff.mp hy).1 fun u u2 h' tk p1 p2 z' TO' s1' s2' hT hsz hk => ?_
    obtain ⟨x', hx', ru⟩ := hP1 i u p1
    obtain ⟨y', hy', ru2⟩ := hP2 i u2 p2
    rw [hx] at hx'; cases hx'
    rw [hy] at hy'; cases hy'
    refine ⟨_, rfl, wpAny_letOwnedTupleGo_zip (s := { s with heap := h', toks := tk }) z' fun h'' z'' sb => ?_⟩
    have hT2 : h''.get? s.heap.objs.size = some { cls := .type "tuple", data := .seq #[u, u2] } := (sb.2 _ (Nat.ne_of_gt hzl)).trans hT
    have new : ObjOk X.prog X.w (upd H s.heap.objs.size (.tup [x, y])) h'' s.heap.objs.size (.tup [x, y]) :=
      ⟨by show 2 ≤ sizeLine; decide, [u, u2], .cons ru (.cons ru2 .nil), ⟨_, hT2, rfl, _, rfl⟩⟩
    have I1 : Inv X pins σ (upd H s.heap.objs.size (.tup [x, y])) { s with heap := h'', toks := tk } :=
      I.turnedNew (t' := tk) (ch := [z, TI, TO, i1, i2]) (fun c o hb q => (sb.2 c (fun q' => hb (by simp [q']))).trans (hk c o (fun q' => hb (by simp [q'])) (fun q' => hb (by simp [q'])) (fun q' => hb (by simp [q'])) (fun q' => hb (by simp [q'])) q)) hf (Nat.le_refl _) new
    refine ⟨.ref s.heap.objs.size, _, I1, rfl, ⟨_, x, y, rfl, I.hok.fresh (Nat.le_refl _), rfl, fun l hl => by rw [Src.inj I hl hqx]; exact hx, fun l hl => by rw [Src.inj I hl hqy]; exact hy⟩, ⟨z'', ?_, ⟨u, u2, ?_⟩, ?_, ?_⟩, fun c hcm => ?_⟩
    · exact (sb.2 _ D.TIz).trans (hk _ _ D.TIz D.TITO D.TIi1 D.TIi2 hTI)
    · exact (sb.2 _ D.TOz).trans TO'
    · exact Src.at_keep (hA1 _ _ s1') fun o q => (sb.2 _ D.zi1.symm).trans q
    · exact Src.at_keep (hA2 _ _ s2') fun o q => (sb.2 _ D.zi2.symm).trans q
    · have hlt : c < s.heap.objs.size := by
        have e' : c = z ∨ c = TI ∨ c = TO ∨ c = i1 ∨ c = i2 := by simpa using hcm
        rcases e' with q | q | q | q | q
        · rw [q]; exact hzl
        · rw [q]; exact Heap.lt_size hTI
        · rw [q]; exact Heap.lt_size hTO
        · rw [q]; obtain ⟨_, e1, _⟩ := Src.at_obj a1; exact Heap.lt_size e1
        · rw [q]; obtain ⟨_, e2, _⟩ := Src.at_obj a2; exact Heap.lt_size e2
      rw [upd_ne (Nat.ne_of_lt hlt)]
      exact (hf c hcm).1
  done := by
    intro X hP hw hK hc i pins s σ H E I hf st hg
    subst hP hw hK
    obtain ⟨hz, hTI, ⟨x0, y0, hTO⟩, a1, a2⟩ := st
    obtain ⟨xs, ys, hqx, hqy, hend⟩ := hg
    obtain ⟨P1, St1, D1, hst1, hP1, hA1⟩ := Src.draws I hqx (I.ok.hd hc) a1 h1
    obtain ⟨P2, St2, D2, hst2, hP2, hA2⟩ := Src.draws I hqy (I.ok.hd hc) a2 h2
    exact wpAny_pyNext_zipD2_end D D1 D2 hz hTI hTO hst1 hst2 (by omega) (by omega) (by omega) fun h' tk hk => ⟨rfl, I.turnedL (t' := tk) (ch := [z, TI, TO, i1, i2]) (fun c o hb q =>
      hk c o (fun q' => hb (by simp [q'])) (fun q' => hb (by simp [q'])) (fun q' => hb (by simp [q'])) (fun q' => hb (by simp [q'])) q) hf⟩
  self := fun A i s Q E st h => wpAny_pyIter_zip st.1 h
/-! ### as iterables -/
def SrcFor (K : PySem.W.Frag) (H : Hp) (v : V) (xs : List V) (φ : Src → Prop) : Prop :=
  (∃ a, v = .ref a ∧ SqL K H a xs ∧ (xs.length ≤ sizeLine → φ (.l a))) ∨ (∃ a, v = .ref a ∧ SqT K H a xs ∧ (xs.length ≤ sizeLine → φ (.t a))) ∨ ∃ x, v = .str x ∧ (xs = x.cps.toList.map fun c => V.str ⟨#[c]⟩) ∧ ∀ tk, φ (.s x tk)
def Src.below : Src → Nat → Prop
  | .l a, n => a < n
  | .t a, n => a < n
  | .s _ _, _ => True
theorem Src.below.off {S : Src} {n : Nat} {fs : List Addr} (h : S.below n) (hf : ∀ b ∈ fs, n ≤ b) : S.off fs := by
  cases S with
  | l a => exact fun z => absurd h (Nat.not_lt.mpr (hf a z))
  | t a => exact fun z => absurd h (Nat.not_lt.mpr (hf a z))
  | s _ _ => trivial
theorem Src.below.fp {S : Src} {n : Nat} {it : Addr} (h : S.below n) : ∃ fp, S.fp it = it :: fp ∧ ∀ b ∈ fp, b < n := by
  cases S with
  | l a => exact ⟨[a], rfl, fun b hb => by have e : b = a := by simpa using hb
                                           subst e; exact h⟩
  | t a => exact ⟨[a], rfl, fun b hb => by have e : b = a := by simpa using hb
                                           subst e; exact h⟩
  | s _ _ => exact ⟨[], rfl, fun b hb => by cases hb⟩
section
variable {X : Cx} {pins : List (Addr × Obj)} {σ : L2.St} {H : Hp} {s : Shared}
theorem src_start {v : V} {u : Value} {xs : List V} {φ : Src → Prop} (I : Inv X pins σ H s) (r : RelV v u) (h : SrcFor X.K H v xs φ) :
    ∃ (S : Src) (o : Obj) (Hb : Heap → Prop), φ S ∧ S.rd X.K H xs ∧ S.below s.heap.objs.size ∧ Begins u o Hb ∧ Hb s.heap ∧ ∀ it h', h'.get? it = some o → S.at_ it 0 h' := by
  rcases h with ⟨a, rfl, hq, q⟩ | ⟨a, rfl, hq, q⟩ | ⟨x, rfl, hq, q⟩
  · cases r
    obtain ⟨its, rv, p, hz⟩ := I.list hq
    exact ⟨.l a, _, _, q hz, hq, p.lt, begins_list a its.toArray, p.isList, fun it h' e => ⟨_, e, rfl, rfl⟩⟩
  · cases r
    obtain ⟨its, rv, p, hz⟩ := I.tuple hq
    exact ⟨.t a, _, _, q hz, hq, p.lt, begins_tuple a its.toArray, p, fun it h' e => ⟨_, e, rfl, rfl⟩⟩
  · obtain ⟨t, rfl⟩ := r
    exact ⟨.s x t, _, _, q t, hq, trivial, begins_text x t, trivial, fun it h' e => ⟨_, e, rfl, rfl⟩⟩
end
def iEn (K : PySem.W.Frag) (ta : TA) : TI := fun σ H R => ta σ H fun vs H1 => ∃ v xs, vs = [v] ∧ SrcFor K H1 v xs fun S => R (Ie K S) H1
def iZn (K : PySem.W.Frag) (ta : TA) : TI := fun σ H R => ta σ H fun vs H1 => ∃ v1 v2 xs ys, vs = [v1, v2] ∧ SrcFor K H1 v1 xs fun S1 => SrcFor K H1 v2 ys fun S2 => R (Iz K S1 S2) H1
section
variable {X : Cx} {K : PySem.W.Frag}
theorem boot_zero {n : Nat} : ((0 : Nat) : Int) = 0 := rfl
theorem pi_en {e : Expr} {ta : TA} {p pos tpos : Pos} {elts : List Expr} {kk : Nat} (hg : Gl X "enumerate") (hm : X.mg "enumerate" = none) (ha : PA X [e] ta) (hs : starEach [e] X.env = [(false, eval e X.env)] := by rfl) (hK : X.K = K := by rfl) :
    PI X (.Tuple elts kk tpos) (.Call (.Name "enumerate" p) [e] [] pos) (iEn K ta) := by
  subst hK
  refine ⟨fun pins s σ H R I h => ?_⟩
  refine Call_ (ld_blt I hg hm boot_enumerate (PyProof.Rows.callWith_type1 (thn (ha.run pos pins s σ H _ I h) fun us s1 ⟨vs, H1, I1, r1, q1⟩ => ?_) hs rfl))
  obtain ⟨v, xs, ex, q1⟩ := q1
  subst ex
  cases r1 with
  | cons r rr =>
    cases rr
    obtain ⟨S, o, Hb, q, hrd, hbl, B, hHb, hat⟩ := src_start I1 r q1
    refine enum_begins1 B hHb fun h' he hit hsz hk => wpAny_pyIter_enum he ?_
    have I2 : Inv X pins σ H1 { s1 with heap := h' } := I1.kept (t' := s1.toks) hk
    have hoff : S.off [s1.heap.objs.size + 1, s1.heap.objs.size] := hbl.off fun b hb => by
      have e' : b = s1.heap.objs.size + 1 ∨ b = s1.heap.objs.size := by simpa using hb
      rcases e' with z | z
      · rw [z]; exact Nat.le_add_right _ _
      · rw [z]; exact Nat.le_refl _
    refine ⟨s1.heap.objs.size + 1, [s1.heap.objs.size + 1, s1.heap.objs.size], _, _, H1, rfl, I2, turn_en S (s1.heap.objs.size + 1) s1.heap.objs.size hoff, ⟨⟨.none, he⟩, hat _ _ hit, Nat.succ_ne_self _⟩, fun b hb => ?_, q⟩
    have e' : b = s1.heap.objs.size + 1 ∨ b = s1.heap.objs.size := by simpa using hb
    have hle : s1.heap.objs.size ≤ b := by
      rcases e' with z | z
      · rw [z]; exact Nat.le_add_right _ _
      · rw [z]; exact Nat.le_refl _
    exact I1.fpOk hle (I1.hok.fresh hle)
theorem pi_zn {e e2 : Expr} {ta : TA} {p pos tpos : Pos} {elts : List Expr} {kk : Nat} (hg : Gl X "zip") (hm : X.mg "zip" = none) (ha : PA X [e, e2] ta)
    (hs : starEach [e, e2] X.env = (false, eval e X.env) :: starEach [e2] X.env := by rfl) (hpl : (backTo pos (starEach [e2] X.env)).any (·.1) = false := by rfl) (hK : X.K = K := by rfl) :
    PI X (.Tuple elts kk tpos) (.Call (.Name "zip" p) [e, e2] [] pos) (iZn K ta) := by
  subst hK
  refine ⟨fun pins s σ H R I h => ?_⟩
  refine Call_ (ld_blt I hg hm PyProof.Rows.boot_zip (PyProof.Rows.callWith_type1 (thn (ha.run pos pins s σ H _ I h) fun us s1 ⟨vs, H1, I1, r1, q1⟩ => ?_) hs hpl))
  obtain ⟨v1, v2, xs, ys, ex, q1⟩ := q1
  subst ex
  cases r1 with
  | cons r rr =>
    cases rr with
    | cons r' rr =>
      cases rr
      obtain ⟨S1, o1, Hb1, q1, hrd1, hbl1, B1, hHb1, hat1⟩ := src_start I1 r q1
      obtain ⟨S2, o2, Hb2, q2, hrd2, hbl2, B2, hHb2, hat2⟩ := src_start I1 r' q1
      refine zip_begins2 B1 B2 hHb1 hHb2 fun h' hz hTI hTO g1 g2 hsz hk => wpAny_pyIter_zip hz ?_
      have I2 : Inv X pins σ H1 { s1 with heap := h' } := I1.kept (t' := s1.toks) hk
      obtain ⟨f1, e1, b1⟩ := hbl1.fp (it := s1.heap.objs.size)
      obtain ⟨f2, e2, b2⟩ := hbl2.fp (it := s1.heap.objs.size + 1)
      have D : ZipSep2 (s1.heap.objs.size + 4) (s1.heap.objs.size + 2) (s1.heap.objs.size + 3) s1.heap.objs.size (s1.heap.objs.size + 1) (S1.fp s1.heap.objs.size) (S2.fp (s1.heap.objs.size + 1)) := by
        rw [e1, e2]
        exact zip_sep2 b1 b2
      have o1' : S1.off [s1.heap.objs.size] := hbl1.off fun b hb => by
        have e' : b = s1.heap.objs.size := by simpa using hb
        rw [e']; exact Nat.le_refl _
      have o2' : S2.off [s1.heap.objs.size + 1] := hbl2.off fun b hb => by
        have e' : b = s1.heap.objs.size + 1 := by simpa using hb
        rw [e']; exact Nat.le_add_right _ _
      refine ⟨s1.heap.objs.size + 4, [s1.heap.objs.size + 4, s1.heap.objs.size + 2, s1.heap.objs.size + 3, s1.heap.objs.size, s1.heap.objs.size + 1], _, _, H1, rfl, I2, turn_zi S1 S2 _ _ _ _ _ D o1' o2', ⟨hz, hTI, ⟨_, _, hTO⟩, hat1 _ _ g1, hat2 _ _ g2⟩, fun c hcm => ?_, q2⟩
      have e' : c = s1.heap.objs.size + 4 ∨ c = s1.heap.objs.size + 2 ∨ c = s1.heap.objs.size + 3 ∨ c = s1.heap.objs.size ∨ c = s1.heap.objs.size + 1 := by simpa using hcm
      have hle : s1.heap.objs.size ≤ c := by
        rcases e' with z | z | z | z | z
        · rw [z]; exact Nat.le_add_right _ _
        · rw [z]; exact Nat.le_add_right _ _
        · rw [z]; exact Nat.le_add_right _ _
        · rw [z]; exact Nat.le_refl _
        · rw [z]; exact Nat.le_add_right _ _
      exact I1.fpOk hle (I1.hok.fresh hle)
end
end EB

set_option Elab.async false
set_option linter.all false
set_option maxRecDepth 100000
set_option maxHeartbeats 4000000
/-! EB: enumerate and zip, typed. -/
namespace EB
open PySem PySem.Spec PyProof.Rows L2
def enL {α : Type} (xs : List α) : List (Int × α) := (rng 0 xs.length).zip xs
theorem enL_len {α : Type} {xs : List α} : (enL xs).length = xs.length := by simp [enL, rng_len]
theorem enL_get {α : Type} {xs : List α} {i : Nat} {x : α} (h : xs[i]? = some x) : (enL xs)[i]? = some ((i : Int), x) := by
  have hi := (List.getElem?_eq_some_iff.mp h).1
  unfold enL
  rw [List.getElem?_zip_eq_some]
  refine ⟨?_, h⟩
  rw [rng_get hi]; simp
theorem mem_enL {α : Type} {xs : List α} {p : Int × α} (h : p ∈ enL xs) : 0 ≤ p.1 ∧ p.1 < (xs.length : Int) ∧ xs[p.1.toNat]? = some p.2 := by
  obtain ⟨i, hi⟩ := List.mem_iff_getElem?.mp h
  have hl := (List.getElem?_eq_some_iff.mp hi).1
  rw [enL_len] at hl
  have e := enL_get (List.getElem?_eq_getElem hl)
  rw [hi] at e
  cases e
  exact ⟨Int.natCast_nonneg _, by simpa using hl, by simp [List.getElem?_eq_getElem hl]⟩
/-- what may be gone through by places -/
class Sq {β : Type} {α : outParam Type} (q : Rp β) (s : outParam (Rp α)) (f : outParam (β → List α)) : Prop where
  mo : Mo s
  sq : ∀ {K T H v b}, q K T H v b → ∃ vs, All2 (s K T H) vs (f b) ∧ ((∃ a, v = .ref a ∧ SL K T H a vs) ∨ (∃ a, v = .ref a ∧ ST K T H a vs) ∨ ∃ x, v = .str x ∧ (vs = x.cps.toList.map fun c => V.str ⟨#[c]⟩) ∧ vs.length ≤ 100000)
instance {α : Type} {r : Rp α} [m : Mo r] : Sq (zL r) r (fun xs => xs) := ⟨m, fun ⟨a, vs, e, h, q⟩ => ⟨vs, q, .inl ⟨a, e, h⟩⟩⟩
instance {α : Type} {r : Rp α} [m : Mo r] : Sq (zU r) r (fun xs => xs) := ⟨m, fun ⟨a, vs, e, h, q⟩ => ⟨vs, q, .inr (.inl ⟨a, e, h⟩)⟩⟩
instance {α : Type} {r : Rp α} [m : Mo r] : Sq (zQ r) r (fun xs => xs) := ⟨m, fun h => h.elim (fun ⟨a, vs, e, h, q⟩ => ⟨vs, q, .inl ⟨a, e, h⟩⟩) fun ⟨a, vs, e, h, q⟩ => ⟨vs, q, .inr (.inl ⟨a, e, h⟩)⟩⟩
instance : Sq zW zW (fun w => w.map fun b => [b]) := ⟨inferInstance, fun {K T H v b} ⟨e, hl⟩ => ⟨(wS b).cps.toList.map fun c => V.str ⟨#[c]⟩, by
  have : (wS b).cps.toList = b.map sgn := by simp [wS]
  rw [this, List.map_map]
  exact all2_map _ _ (fun c => ⟨rfl, by simp⟩) b, .inr (.inr ⟨wS b, e, rfl, by simp [wS]; omega⟩)⟩⟩
section
variable {K : PySem.W.Frag} {T : AS} {σ : L2.St} {H : Hp} {α β γ δ : Type} {q : Rp β} {s : Rp α} {f : β → List α} {q' : Rp δ} {s' : Rp γ} {f' : δ → List γ} {te te' : TE}
theorem src_of {v : V} {vs : List V} {φ : Src → Prop} (h : (∃ a, v = .ref a ∧ SL K T H a vs) ∨ (∃ a, v = .ref a ∧ ST K T H a vs) ∨ ∃ x, v = .str x ∧ (vs = x.cps.toList.map fun c => V.str ⟨#[c]⟩) ∧ vs.length ≤ 100000)
    (k : ∀ S, vs.length ≤ sizeLine → (∀ H', Fr T H H' → S.rd K H' vs) → φ S) : SrcFor K H v vs φ := by
  rcases h with ⟨a, e, h⟩ | ⟨a, e, h⟩ | ⟨x, e, e2, hl⟩
  · exact .inl ⟨a, e, h.sq, fun hz => k _ hz fun H' fr => (h.fr fr).sq⟩
  · exact .inr (.inl ⟨a, e, h.sq, fun hz => k _ hz fun H' fr => (h.fr fr).sq⟩)
  · exact .inr (.inr ⟨x, e, e2, fun tk => k _ (by rw [sizeLine_eq]; omega) fun H' _ => e2⟩)
theorem pair_new {r : Rp α} {r' : Rp γ} [Mo r] [Mo r'] {H' : Hp} {p : Addr} {x y : V} {a : α} {c : γ} {T' : AS} (hp : H' p = none) (hT : TD T' H') (h1 : r K T' H' x a) (h2 : r' K T' H' y c) : zP r r' K T' (upd H' p (.tup [x, y])) (.ref p) (a, c) :=
  ⟨p, x, y, rfl, .new (hT.new hp) upd_same, Mo.fr (Ex.new hp).fr h1, Mo.fr (Ex.new hp).fr h2⟩
theorem ei_en [m : Sq q s f] {b : β} (h : Ev K T te σ H q b) : EvI K T (iEn K (tCons te tNil)) σ H (zP zI s) (enL (f b)) := fun H1 fr R k => h H1 fr _ fun v H2 e2 r2 => by
  have := m.mo
  obtain ⟨vs, ha, hs⟩ := m.sq r2
  refine ⟨v, vs, rfl, src_of hs fun S hz hrd => k _ H2 e2 ⟨⟨vs.length, fun H => S.rd K H vs, YPair (fun i => some (.int (i : Nat))) (fun i => vs[i]?), by rw [enL_len, all2_len ha], ?_, hrd, ?_⟩, ?_⟩⟩
  · refine ⟨fun i H hi g => ⟨vs, vs[i], g, by simp [hi]⟩, fun H g => ⟨vs, g, rfl⟩, fun i H v H' hi g y => ?_⟩
    obtain ⟨t, x, h1, h2, h3, h4⟩ := y
    exact ⟨t, _, x, h1, h2, h3, rfl, h4 vs g⟩
  · intro i H' v H'' hi fr' ⟨p, x, y, e1, hp, e2, hx, hy⟩
    subst e1 e2
    cases hx
    obtain ⟨d, hd, hr⟩ := all2_getL ha hy
    exact ⟨Ex.new hp, _, enL_get hd, fun T' hT' tr => pair_new hp hT' rfl (tr.ap hr)⟩
  · rw [enL_len, ← all2_len ha]; exact hz
theorem ei_zn [m : Sq q s f] [m' : Sq q' s' f'] [Mo q] {b : β} {d : δ} (h : Ev K T te σ H q b) (h' : Ev K T te' σ H q' d) : EvI K T (iZn K (tCons te (tCons te' tNil))) σ H (zP s s') ((f b).zip (f' d)) := fun H1 fr R k => h H1 fr _ fun v H2 e2 r2 => h' H2 (fr.trans e2.fr) _ fun v' H3 e3 r3 => by
  have := m.mo
  have := m'.mo
  have r2' : q K T H3 v b := Mo.fr e3.fr r2
  obtain ⟨vs, ha, hs⟩ := m.sq r2'
  obtain ⟨ws, hb, hs'⟩ := m'.sq r3
  refine ⟨v, v', vs, ws, rfl, src_of hs fun S1 hz hrd => src_of hs' fun S2 hz' hrd' => ?_⟩
  refine k _ H3 (e2.trans e3) ⟨⟨min vs.length ws.length, fun H => S1.rd K H vs ∧ S2.rd K H ws, YPair (fun i => vs[i]?) (fun i => ws[i]?), by rw [List.length_zip, all2_len ha, all2_len hb], ?_, fun H' fr' => ⟨hrd H' fr', hrd' H' fr'⟩, ?_⟩, ?_⟩
  · refine ⟨fun i H hi g => ⟨vs, ws, vs[i]'(by omega), ws[i]'(by omega), g.1, g.2, by rw [List.getElem?_eq_getElem], by rw [List.getElem?_eq_getElem]⟩, fun H g => ⟨vs, ws, g.1, g.2, rfl⟩, fun i H v H' hi g y => ?_⟩
    obtain ⟨t, x, y, h1, h2, h3, h4, h5⟩ := y
    exact ⟨t, x, y, h1, h2, h3, h4 vs g.1, h5 ws g.2⟩
  · intro i H' v H'' hi fr' ⟨p, x, y, e1, hp, e2, hx, hy⟩
    subst e1 e2
    obtain ⟨a, h1, hr1⟩ := all2_getL ha hx
    obtain ⟨c, h2, hr2⟩ := all2_getL hb hy
    exact ⟨Ex.new hp, (a, c), List.getElem?_zip_eq_some.mpr ⟨h1, h2⟩, fun T' hT' tr => pair_new hp hT' (tr.ap hr1) (tr.ap hr2)⟩
  · rw [List.length_zip, ← all2_len ha, ← all2_len hb]; omega
end
end EB

set_option Elab.async false
set_option linter.all false
set_option maxRecDepth 100000
set_option maxHeartbeats 4000000
/-! EB: more statements. -/
namespace EB
open PySem PySem.Spec PyProof.Rows L2
theorem foldl_take {α β : Type} {f : β → α → β} {s : β} {xs : List α} {i : Nat} {x : α} (h : xs[i]? = some x) : (xs.take (i + 1)).foldl f s = f ((xs.take i).foldl f s) x := by
  rw [List.take_add_one, h]
  simp
section
variable {K : PySem.W.Frag} {T T' S : AS} {σ : L2.St} {H H' : Hp} {α β γ : Type} {r : Rp α} {s : Rp β} {te ta tb : TE} {D : Ends} {i j : Nat} {p : Addr} {xs : List α} {d : α} {v : V} {Q : L2.St → Hp → Prop}
theorem gn (h : Q (σ.set i (some v)) H) : gName i v σ H Q := h
/-- x += e of ints -/
theorem st_augI {a b : Int} (hv : σ[i]? = some (some v)) (h : zI K T H v a) (he : Ev K T te σ H zI b) (k : ∀ w H2, Ex H H2 → zI K T H2 w (a + b) → D.nx (σ.set i (some w)) H2) : tAug i te (ipI fun i j => i + j) D σ H :=
  ⟨v, hv, he H (Fr.refl H) _ fun y H1 e1 r1 => ⟨a, b, h, r1, k _ H1 e1 rfl⟩⟩
theorem st_augS {a b : Int} (hv : σ[i]? = some (some v)) (h : zI K T H v a) (he : Ev K T te σ H zI b) (k : ∀ w H2, Ex H H2 → zI K T H2 w (a - b) → D.nx (σ.set i (some w)) H2) : tAug i te (ipI fun i j => i - j) D σ H :=
  ⟨v, hv, he H (Fr.refl H) _ fun y H1 e1 r1 => ⟨a, b, h, r1, k _ H1 e1 rfl⟩⟩
/-- a, b = e (a pair) -/
theorem st_asgP {q : α × β} (h : Ev K T te σ H (zP r s) q) (k : ∀ x y H2, Ex H H2 → r K T H2 x q.1 → s K T H2 y q.2 → D.nx ((σ.set i (some x)).set j (some y)) H2) : tAsg te (gTup K 2 (gCons (gName i) (gCons (gName j) gNil))) D σ H :=
  h H (Fr.refl H) _ fun v H1 e1 r1 => g2_tup r1 fun x rx y ry => k x y H1 e1 rx ry
/-- a, b = e1, e2 -/
theorem st_par [Mo r] {a : α} {b : β} (ha : Ev K T ta σ H r a) (hb : Ev K T tb σ H s b) (k : ∀ x y H2, Ex H H2 → r K T H2 x a → s K T H2 y b → D.nx ((σ.set i (some x)).set j (some y)) H2) : tPar i j (tCons ta (tCons tb tNil)) D σ H :=
  ha H (Fr.refl H) _ fun x H1 e1 r1 => hb H1 e1.fr _ fun y H2 e2 r2 => ⟨x, y, rfl, k x y H2 (e1.trans e2) (Mo.fr e2.fr r1) r2⟩
/-- xs[i] = e, a list of ours -/
theorem HM.set [Mo r] {j : Nat} (h : HM r K T H p xs) (hv : r K T H v d) : ∃ vs, H p = some (.lst vs) ∧ vs.length = xs.length ∧ HM r K T (upd H p (.lst (vs.set j v))) p (xs.set j d) ∧ Fr T H (upd H p (.lst (vs.set j v))) := by
  obtain ⟨vs, h1, h2⟩ := h.ex
  have f : Fr T H (upd H p (.lst (vs.set j v))) := Fr.upd (.inl h.mem)
  exact ⟨vs, h1, all2_len h2, ⟨h.mem, _, upd_same, all2_set (Mo.fr f hv) j (all2_imp (fun _ _ z => Mo.fr f z) h2)⟩, f⟩
theorem st_setM [Mo r] {ti : TE} {n : Int} (hv : σ[i]? = some (some (.ref p))) (m : HM r K T H p xs) (h : Ev K T te σ H r d) (hi : Ev K T ti σ H zI n) (h0 : 0 ≤ n) (hn : n < xs.length)
    (k : ∀ H1 H2 v, H2 = upd H1 p v → Ex H H1 → Fr (Tp S p) H1 H2 → Fr T H1 H2 → HM r K T H2 p (xs.set n.toNat d) → D.nx σ H2) : tAsg te (gSub (tVar i) ti rSetL) D σ H := by
  refine h H (Fr.refl H) _ fun v H1 e1 r1 => ?_
  refine ⟨.ref p, hv, ?_⟩
  refine hi H1 e1.fr _ fun iv H2 e2 r2 => ?_
  obtain ⟨vs', h1', hl', m', f'⟩ := (m.ex' (e1.trans e2)).set (j := n.toNat) (Mo.fr e2.fr r1)
  refine ⟨p, vs', n, n.toNat, rfl, r2, h1', ?_, k H2 _ _ rfl (e1.trans e2) (Fr.upd (.inl (.inr rfl))) f' m'⟩
  unfold ixN
  rw [if_pos h0, if_pos (by rw [hl']; exact hn)]
end
/-- x += text -/
def rAugS : TIp := fun x y H Q => ∃ i j, x = .str i ∧ y = .str j ∧ i.length + j.length ≤ sizeLine ∧ Q (.str (i ++ j)) H
end EB
namespace EB
open PySem PySem.Spec PyProof.Rows L2
/-! ### bookkeeping for lists that are being made -/
theorem Fr.drop {S : AS} {H H' : Hp} {p : Addr} (f : Fr (Tp S p) H H') (n : H p = none) : Fr S H H' :=
  ⟨fun a o h e => f.keep a o (fun z => z.elim h fun q => by subst q; rw [n] at e; cases e) e, f.dom⟩
theorem TD.of_mem {T : AS} {H H' : Hp} {p : Addr} {S : AS} (h : TD T H) (f : Fr S H H') (e : ∃ o, H' p = some o) : TD (Tp T p) H' := fun b t => by
  rcases t with t | t
  · exact h.fr f b t
  · subst t; exact e
theorem HM.dom {α : Type} {r : Rp α} {K : PySem.W.Frag} {T : AS} {H : Hp} {p : Addr} {xs : List α} (m : HM r K T H p xs) : ∃ o, H p = some o := let ⟨vs, h, _⟩ := m.ex; ⟨_, h⟩
theorem HM.ne {α : Type} {r : Rp α} {K : PySem.W.Frag} {T : AS} {H : Hp} {p q : Addr} {xs : List α} (m : HM r K T H p xs) (n : H q = none) : p ≠ q := fun z => by
  obtain ⟨vs, h, _⟩ := m.ex
  subst z; rw [n] at h; cases h
theorem TD.sub {T T' : AS} {H : Hp} (h : TD T H) (f : ∀ b, T' b → T b) : TD T' H := fun b t => h b (f b t)
section
variable {K : PySem.W.Frag} {T S : AS} {σ : L2.St} {H H' : Hp} {α β γ : Type} {r : Rp α} {D : Ends} {xs : List α}
/-- for, with a break -/
theorem st_forB [Mo r] {wi : TI} {g : TG} {tb : TS} (hT : TD T H) (h : EvI K T wi σ H r xs)
    (k : ∀ H2, Ex H H2 → ∃ (Pv : Nat → L2.St → Hp → Prop) (Pe : L2.St → Hp → Prop), Pv 0 σ H2 ∧ (∀ i σ' H', i ≤ xs.length → Pv i σ' H' → Fr T H2 H') ∧
      ((∀ σ' H', Pe σ' H' → D.nx σ' H') → ∀ i x σ' H' v H'', xs[i]? = some x → Pv i σ' H' → Ex H' H'' → r K T H'' v x → g v σ' H'' fun σ3 H3 => tb { D with nx := Pv (i + 1), ct := Pv (i + 1), bk := D.nx } σ3 H3) ∧
      (∀ σ' H', Pv xs.length σ' H' → Pe σ' H') ∧ (∀ σ' H', Pe σ' H' → D.nx σ' H')) : tFor wi g tb D σ H :=
  st_for hT h fun H2 e => let ⟨Pv, Pe, h0, hF, hs, hd, he⟩ := k H2 e; ⟨Pv, h0, hF, hs he, fun σ' H' q => he σ' H' (hd σ' H' q)⟩
end
end EB
namespace EB
open PySem PySem.Spec PyProof.Rows L2
theorem Ex.thenFr {S : AS} {H0 H1 H2 : Hp} (a : Ex H0 H1) (f : Fr S H1 H2) (n : ∀ b, S b → H0 b = none) : Ex H0 H2 := fun x o e => f.keep x o (fun z => by rw [n x z] at e; cases e) (a x o e)
theorem Fr.thenFr {S S' : AS} {H0 H1 H2 : Hp} (a : Fr S' H0 H1) (f : Fr S H1 H2) (n : ∀ b, S b → S' b ∨ H0 b = none) : Fr S' H0 H2 :=
  ⟨fun x o h e => f.keep x o (fun z => (n x z).elim h fun q => by rw [q] at e; cases e) (a.keep x o h e), fun x o e => let ⟨o1, e1⟩ := a.dom x o e; f.dom x o1 e1⟩
end EB
namespace EB
open PySem PySem.Spec PyProof.Rows L2
theorem ktu_of {K : PySem.W.Frag} {x : Str} {vs : List He.Dv} (h : He.tupB K x vs = true) : KTu K (He.ga K x) (vs.map (He.Dv.v K)) := by
  rcases He.tupB_ok h (fun _ => none) with z | z
  · rcases z with z | ⟨_, z⟩ <;> cases z
  · exact z
theorem kls_of {K : PySem.W.Frag} {x : Str} {vs : List He.Dv} (h : He.lstB K x vs = true) : KLs K (He.ga K x) (vs.map (He.Dv.v K)) := by
  rcases He.lstB_ok h (fun _ => none) with z | z
  · rcases z with z | ⟨_, z⟩ <;> cases z
  · exact z
theorem ev_kU {K : PySem.W.Frag} {T : AS} {σ : L2.St} {H : Hp} {α : Type} {r : Rp α} {x : Str} {vs : List He.Dv} {xs : List α} (h : He.tupB K x vs = true) (a : ∀ H, All2 (r K T H) (vs.map (He.Dv.v K)) xs) : Ev K T (tC (.ref (He.ga K x))) σ H (zU r) xs :=
  fun H1 _ _ q => q _ H1 (Ex.refl H1) ⟨_, _, rfl, .inr (ktu_of h), a H1⟩
theorem ev_kL {K : PySem.W.Frag} {T : AS} {σ : L2.St} {H : Hp} {α : Type} {r : Rp α} {x : Str} {vs : List He.Dv} {xs : List α} (h : He.lstB K x vs = true) (a : ∀ H, All2 (r K T H) (vs.map (He.Dv.v K)) xs) : Ev K T (tC (.ref (He.ga K x))) σ H (zL r) xs :=
  fun H1 _ _ q => q _ H1 (Ex.refl H1) ⟨_, _, rfl, .inr (kls_of h), a H1⟩
end EB

set_option Elab.async false
set_option linter.all false
set_option maxRecDepth 100000
set_option maxHeartbeats 4000000
/-! EB: expressions that change a resource (a tape, a table of what is known) and give one of many values. -/
namespace EB
open PySem PySem.Spec PyProof.Rows L2
/-- W: the cells that change; I n: what holds of them, n draws being left -/
structure Re (W : AS) (I : Nat → Hp → Prop) : Prop where
  st : ∀ n H H', (∀ b, W b → H' b = H b) → I n H → I n H'
  dom : ∀ n H b, I n H → W b → ∃ o, H b = some o
  less : ∀ n m H, I (n + m) H → I n H
theorem Re.ex {W : AS} {I : Nat → Hp → Prop} (R : Re W I) {n : Nat} {H H' : Hp} (h : I n H) (e : Ex H H') : I n H' := R.st n H H' (fun b w => by
  obtain ⟨o, ho⟩ := R.dom n H b h w
  rw [ho, e b o ho]) h
theorem Re.fr {W S : AS} {I : Nat → Hp → Prop} (R : Re W I) {n : Nat} {H H' : Hp} (h : I n H) (f : Fr S H H') (d : ∀ b, W b → ¬ S b) : I n H' := R.st n H H' (fun b w => by
  obtain ⟨o, ho⟩ := R.dom n H b h w
  rw [ho, f.keep b o (d b w) ho]) h
def EvN (K : PySem.W.Frag) (T W : AS) (I : Nat → Hp → Prop) (c : Nat) {α : Type} (te : TE) (σ : L2.St) (H : Hp) (r : Rp α) (φ : α → Prop) : Prop :=
  ∀ n H1, Fr T H H1 → I (n + c) H1 → ∀ Q : VK, (∀ v H2 d, Fr W H1 H2 → I n H2 → r K T H2 v d → φ d → Q v H2) → te σ H1 Q
def EvNA (K : PySem.W.Frag) (T W : AS) (I : Nat → Hp → Prop) (c : Nat) {α : Type} (ta : TA) (σ : L2.St) (H : Hp) (r : Rpl α) (φ : α → Prop) : Prop :=
  ∀ n H1, Fr T H H1 → I (n + c) H1 → ∀ Q : List V → Hp → Prop, (∀ vs H2 d, Fr W H1 H2 → I n H2 → r K T H2 vs d → φ d → Q vs H2) → ta σ H1 Q
section
variable {K : PySem.W.Frag} {T W : AS} {I : Nat → Hp → Prop} {σ : L2.St} {H : Hp} {α β γ : Type} {r : Rp α} {s : Rp β} {ta tb te : TE} {c c' : Nat} {φ : α → Prop} {ψ : β → Prop}
theorem en_of {d : α} (R : Re W I) (h : Ev K T te σ H r d) : EvN K T W I 0 te σ H r (fun x => x = d) := fun n H1 f i Q q => h H1 f Q fun v H2 e r2 => q v H2 d e.fr (R.ex i e) r2 rfl
theorem EvN.to {φ' : α → Prop} (h : EvN K T W I c te σ H r φ) (k : ∀ d, φ d → φ' d) : EvN K T W I c te σ H r φ' := fun n H1 f i Q q => h n H1 f i Q fun v H2 d fr i' r2 p => q v H2 d fr i' r2 (k d p)
theorem EvN.more (R : Re W I) (h : EvN K T W I c te σ H r φ) (k : c ≤ c') : EvN K T W I c' te σ H r φ := fun n H1 f i Q q => h n H1 f (R.less _ (c' - c) _ (by rw [show n + c + (c' - c) = n + c' by omega]; exact i)) Q q
theorem EvN.cast (h : EvN K T W I c te σ H r φ) (k : c = c') : EvN K T W I c' te σ H r φ := k ▸ h
/-- two-place operations -/
theorem en_op {R2' : R2} {s' : Rp γ} {χ : γ → Prop} [Mo r] (hW : ∀ b, W b → T b) (R : Re W I) (ha : EvN K T W I c ta σ H r φ) (hb : EvN K T W I c' tb σ H s ψ)
    (hr : ∀ a b x y H1 (Q : VK), φ a → ψ b → Fr T H H1 → r K T H1 x a → s K T H1 y b → (∀ v H2 d, Ex H1 H2 → s' K T H2 v d → χ d → Q v H2) → R2' x y H1 Q) : EvN K T W I (c + c') (tOp R2' ta tb) σ H s' χ :=
  fun n H1 f i Q q => ha (n + c') H1 f (by rw [show n + c' + c = n + (c + c') by omega]; exact i) _ fun x H2 a f2 i2 r2 p2 => hb n H2 (f.trans (f2.mono hW)) i2 _ fun y H3 b f3 i3 r3 p3 =>
    hr a b x y H3 Q p2 p3 ((f.trans (f2.mono hW)).trans (f3.mono hW)) (Mo.fr (f3.mono hW) r2) r3 fun v H4 d e4 r4 p4 => q v H4 d ((f2.trans f3).trans e4.fr) (R.ex i3 e4) r4 p4
theorem en_I0 {g : Int → Int → Int} {φ ψ : Int → Prop} (hW : ∀ b, W b → T b) (R : Re W I) (ha : EvN K T W I c ta σ H zI φ) (hb : EvN K T W I c' tb σ H zI ψ) : EvN K T W I (c + c') (tOp (rI0 fun i j => .int (g i j)) ta tb) σ H zI (fun d => ∃ a b, φ a ∧ ψ b ∧ d = g a b) :=
  en_op hW R ha hb fun a b x y H1 Q pa pb _ ra rb q => ⟨a, b, ra, rb, q _ H1 _ (Ex.refl H1) rfl ⟨a, b, pa, pb, rfl⟩⟩
theorem en_cmp {g : Int → Int → Bool} {φ ψ : Int → Prop} (hW : ∀ b, W b → T b) (R : Re W I) (ha : EvN K T W I c ta σ H zI φ) (hb : EvN K T W I c' tb σ H zI ψ) : EvN K T W I (c + c') (tOp (rI0 fun i j => .bl (g i j)) ta tb) σ H zB (fun d => ∃ a b, φ a ∧ ψ b ∧ d = g a b) :=
  en_op hW R ha hb fun a b x y H1 Q pa pb _ ra rb q => ⟨a, b, ra, rb, q _ H1 _ (Ex.refl H1) rfl ⟨a, b, pa, pb, rfl⟩⟩
theorem en_eqI {φ ψ : Int → Prop} (hW : ∀ b, W b → T b) (R : Re W I) (ha : EvN K T W I c ta σ H zI φ) (hb : EvN K T W I c' tb σ H zI ψ) : EvN K T W I (c + c') (tOp rEq ta tb) σ H zB (fun d => ∃ a b, φ a ∧ ψ b ∧ d = decide (a = b)) :=
  en_op hW R ha hb fun a b x y H1 Q pa pb _ ra rb q => by cases ra; cases rb; exact ⟨rfl, q _ H1 _ (Ex.refl H1) (show V.bl (decide (V.int a = V.int b)) = .bl (decide (a = b)) by simp) ⟨a, b, pa, pb, rfl⟩⟩
/-- an item -/
theorem en_ixL [Mo r] {χ : List α → Prop} {ψ : Int → Prop} {θ : α → Prop} (hW : ∀ b, W b → T b) (R : Re W I) (ha : EvN K T W I c ta σ H (zL r) χ) (hb : EvN K T W I c' tb σ H zI ψ) (hi : ∀ xs i, χ xs → ψ i → ∃ d, atI xs i = some d ∧ θ d) : EvN K T W I (c + c') (tOp (rIxL K) ta tb) σ H r θ :=
  en_op hW R ha hb fun xs i x y H1 Q pa pb _ h1 h2 q => by
    obtain ⟨a, vs, rfl, hs, h⟩ := h1
    obtain ⟨d, hd, hθ⟩ := hi xs i pa pb
    obtain ⟨v, hv, hr⟩ := all2_at h hd
    exact ⟨a, vs, i, v, rfl, h2, hs.sq, hv, q v H1 d (Ex.refl H1) hr hθ⟩
theorem en_ixU [Mo r] {χ : List α → Prop} {ψ : Int → Prop} {θ : α → Prop} (hW : ∀ b, W b → T b) (R : Re W I) (ha : EvN K T W I c ta σ H (zU r) χ) (hb : EvN K T W I c' tb σ H zI ψ) (hi : ∀ xs i, χ xs → ψ i → ∃ d, atI xs i = some d ∧ θ d) : EvN K T W I (c + c') (tOp (rIxT K) ta tb) σ H r θ :=
  en_op hW R ha hb fun xs i x y H1 Q pa pb _ h1 h2 q => by
    obtain ⟨a, vs, rfl, hs, h⟩ := h1
    obtain ⟨d, hd, hθ⟩ := hi xs i pa pb
    obtain ⟨v, hv, hr⟩ := all2_at h hd
    exact ⟨a, vs, i, v, rfl, h2, hs.sq, hv, q v H1 d (Ex.refl H1) hr hθ⟩
theorem en_ixW {χ : List Bool → Prop} {ψ : Int → Prop} {θ : List Bool → Prop} (hW : ∀ b, W b → T b) (R : Re W I) (ha : EvN K T W I c ta σ H zW χ) (hb : EvN K T W I c' tb σ H zI ψ) (hi : ∀ xs i, χ xs → ψ i → ∃ d, atI xs i = some d ∧ θ [d]) : EvN K T W I (c + c') (tOp rIxS ta tb) σ H zW θ :=
  en_op hW R ha hb fun w i x y H1 Q pa pb _ h1 h2 q => by
    obtain ⟨h1, hl⟩ := h1
    obtain ⟨d, hd, hθ⟩ := hi w i pa pb
    exact ⟨wS w, i, sgn d, h1, h2, by rw [wS_len, sizeLine_eq]; omega, atI_map (f := sgn) hd, q _ H1 _ (Ex.refl H1) ⟨rfl, by simp⟩ hθ⟩
/-- + of words -/
theorem en_catW {φ ψ : List Bool → Prop} (hW : ∀ b, W b → T b) (R : Re W I) (ha : EvN K T W I c ta σ H zW φ) (hb : EvN K T W I c' tb σ H zW ψ) (hl : ∀ a b, φ a → ψ b → a.length + b.length ≤ 100000) : EvN K T W I (c + c') (tOp rCatS ta tb) σ H zW (fun d => ∃ a b, φ a ∧ ψ b ∧ d = a ++ b) :=
  en_op hW R ha hb fun a b x y H1 Q pa pb _ h1 h2 q => by
    obtain ⟨h1, _⟩ := h1; obtain ⟨h2, _⟩ := h2
    have hl' := hl a b pa pb
    refine ⟨_, _, h1, h2, ?_, q _ H1 _ (Ex.refl H1) ⟨by rw [wS_app], by simpa using hl'⟩ ⟨a, b, pa, pb, rfl⟩⟩
    rw [wS_len, wS_len, sizeLine_eq]; omega
/-- a test -/
theorem en_test {Q : Bool → Hp → Prop} {φ : Bool → Prop} (h : EvN K T W I c te σ H zB φ) {n : Nat} (i : I (n + c) H) (k : ∀ H2 b, Fr W H H2 → I n H2 → φ b → Q b H2) : tTest te σ H Q :=
  h n H (Fr.refl H) i _ fun v H2 b f i2 r2 p => ⟨b, r2, k H2 b f i2 p⟩
/-- arguments -/
theorem na_of {ra : Rpl α} {a : α} {t : TA} (R : Re W I) (h : EvA K T t σ H ra a) : EvNA K T W I 0 t σ H ra (fun x => x = a) := fun n H1 f i Q q => h H1 f Q fun v H2 e r2 => q v H2 a e.fr (R.ex i e) r2 rfl
theorem na_cons [Mo r] {tr : TA} {ra : Rpl β} (hW : ∀ b, W b → T b) (h : EvN K T W I c ta σ H r φ) (hr : EvNA K T W I c' tr σ H ra ψ) : EvNA K T W I (c + c') (tCons ta tr) σ H (aC r ra) (fun p => φ p.1 ∧ ψ p.2) := fun n H1 f i Q q =>
  h (n + c') H1 f (by rw [show n + c' + c = n + (c + c') by omega]; exact i) _ fun x H2 a f2 i2 r2 p2 => hr n H2 (f.trans (f2.mono hW)) i2 _ fun vs H3 b f3 i3 r3 p3 => q _ H3 (a, b) (f2.trans f3) i3 ⟨x, vs, rfl, Mo.fr (f3.mono hW) r2, r3⟩ ⟨p2, p3⟩
/-- a call that changes the resource of its argument -/
def NSp (K : PySem.W.Frag) {α β : Type} (ra : Rpl α) (W : α → AS) (I : α → Nat → Hp → Prop) (c : α → Nat) (pre : α → Prop) (r : Rp β) (φ : α → β → Prop) : Sp := fun vs H Q _ =>
  ∃ (T : AS) (a : α) (n : Nat), TD T H ∧ (∀ b, W a b → T b) ∧ ra K T H vs a ∧ pre a ∧ I a (n + c a) H ∧ ∀ v H' d, Fr (W a) H H' → I a n H' → r K T H' v d → φ a d → Q v H'
theorem en_call {ra : Rpl β} {W : β → AS} {I : β → Nat → Hp → Prop} {cc : β → Nat} {pre : β → Prop} {φ : β → α → Prop} {b : β} {tr : TA} {E : XK} (R : Re (W b) (I b)) (hT : TD T H) (hW : ∀ x, W b x → T x) (h : EvA K T tr σ H ra b) (hp : pre b) :
    EvN K T (W b) (I b) (cc b) (tCall (NSp K ra W I cc pre r φ) [] E tr) σ H r (φ b) := fun n H1 g i Q q =>
  h H1 g _ fun vs H2 e2 r2 => by
    show NSp K ra W I cc pre r φ (vs ++ []) H2 Q E
    rw [List.append_nil]
    exact ⟨T, b, n, (hT.fr g).ex e2, hW, r2, hp, R.ex i e2, fun v H3 d f3 i3 r3 p3 => q v H3 d (e2.fr.trans f3) i3 r3 p3⟩
/-- a method that does so -/
theorem en_meth {Cn : Str} {fs : List Str} {ra : Rpl β} {b : β} {rb : Rpl γ} {d : γ} {W : β × γ → AS} {I : β × γ → Nat → Hp → Prop} {cc : β × γ → Nat} {pre : β × γ → Prop} {φ : β × γ → α → Prop} {tr : TA} {E : XK} {m : Str} [MoL ra] (R : Re (W (b, d)) (I (b, d))) (hT : TD T H) (hW : ∀ x, W (b, d) x → T x) (hm : m ∉ fs)
    (h : Ev K T ta σ H (zOb Cn fs ra) b) (h2 : EvA K T tr σ H rb d) (hp : pre (b, d)) :
    EvN K T (W (b, d)) (I (b, d)) (cc (b, d)) (tMeth (He.ga K Cn) m (NSp K (aC (zOb Cn fs ra) rb) W I cc pre r φ) [] E ta tr) σ H r (φ (b, d)) := fun n H1 g i Q q => h H1 g _ fun v H2 e2 r2 => by
  obtain ⟨p, dx, vs, ev, ht, hh, hr⟩ := r2
  refine ⟨p, dx, _, ev, hh, lookup_zip_none hm, ?_⟩
  refine h2 H2 (g.trans e2.fr) _ fun ws H3 e3 r3 => ?_
  show NSp K (aC (zOb Cn fs ra) rb) W I cc pre r φ (v :: (ws ++ [])) H3 Q E
  rw [List.append_nil]
  exact ⟨T, (b, d), n, (hT.fr g).ex (e2.trans e3), hW, ⟨v, ws, rfl, ⟨p, dx, vs, ev, ht, e3 _ _ hh, MoL.fr e3.fr hr⟩, r3⟩, hp, R.ex i (e2.trans e3), fun v' H4 d' f4 i4 r4 p4 => q v' H4 d' ((e2.trans e3).fr.trans f4) i4 r4 p4⟩
theorem tYes_if {σ : L2.St} {H : Hp} {A B : Hp → Prop} (h : A H) : tYes σ H (fun b H3 => if b = true then A H3 else B H3) := by
  show (if true = true then A H else B H)
  rw [if_pos rfl]; exact h
/-- a comprehension whose element changes the resource, c for each item -/
theorem en_lc [Mo r] [Mo s] {wi : TI} {g : TG} {vs : List Nat} {xs : List α} {φ : α → β → Prop} (R : Re W I) (hT : TD T H) (hW : ∀ b, W b → T b) (h : EvI K T wi σ H r xs)
    (hs : ∀ (T' : AS) (H' : Hp) (v : V) (x : α), Tr K T H T' H' → TD T' H' → (∀ b, W b → T' b) → x ∈ xs → r K T' H' v x → ∀ Q : L2.St → Hp → Prop, (∀ σ2, wipe σ2 vs = wipe σ vs → EvN K T' W I c te σ2 H' s (φ x) → Q σ2 H') → g v (wipe σ vs) H' Q) :
    EvN K T W I (xs.length * c) (tLc wi g tYes te vs) σ H (zL s) (fun ys => All2 (fun y x => φ x y) ys xs) := fun n H1 fr i1 Q q => h H1 fr _ fun J H2 e2 w => by
  intro D hD
  obtain ⟨⟨m, G, Y, hn, wk, hG, hY⟩, hz⟩ := w
  subst hn
  have i2 := R.ex i1 e2
  have hT2 : TD T H2 := (hT.fr fr).ex e2
  have nD : ¬ T D := hT2.new hD
  have nW : ¬ W D := fun z => nD (hW D z)
  refine lc_it wk (fun i H' => Fr W H2 H' ∧ I (n + (xs.length - i) * c) H' ∧ ∃ acc ys, H' D = some (.lst acc) ∧ All2 (s K (Tp T D) H') acc ys ∧ All2 (fun y x => φ x y) ys (xs.take i)) ⟨(Ex.new hD).fr, R.ex i2 (Ex.new hD), [], [], upd_same, .nil, by simp; exact .nil⟩ (fun i H' _ ⟨e, _⟩ => hG H' (e.mono hW)) ?_ ?_
  · intro i v H' H'' hi ⟨e, hI, acc, ys, hacc, hall, hφ⟩ y
    obtain ⟨eY, x, hx, hr⟩ := hY i H' v H'' hi (e.mono hW) y
    have tr2 : Tr K T H2 (Tp T D) H' := (Tr.lift hD).trans (Tr.fr (e.mono fun b hb => .inl (hW b hb)))
    have hTD : TD (Tp T D) H' := (hT2.fr e).tp hacc
    have tr : Tr K T H (Tp T D) H'' := ((Tr.fr (fr.trans e2.fr)).trans tr2).trans (Tr.ex eY)
    refine hs (Tp T D) H'' v x tr (hTD.ex eY) (fun b hb => .inl (hW b hb)) (List.mem_of_getElem? hx) (hr _ hTD tr2) _ fun σ2 hw he => ⟨hw, ?_⟩
    have hlen : acc.length ≤ i := by
      have h1 := all2_len hall
      have h2 := all2_len hφ
      rw [List.length_take] at h2
      omega
    refine tYes_if ?_
    refine he (n + (xs.length - (i + 1)) * c) H'' (Fr.refl _) ?_ _ fun yv H4 d f4 i4 r4 p4 => ⟨acc, f4.keep _ _ nW (eY _ _ hacc), by omega, ?_⟩
    · have e1 : xs.length - i = (xs.length - (i + 1)) + 1 := by omega
      have e2 : n + (xs.length - (i + 1)) * c + c = n + (xs.length - i) * c := by rw [e1, Nat.succ_mul]; omega
      rw [e2]; exact R.ex hI eY
    · have fD : Fr (Tp T D) H4 (upd H4 D (.lst (acc ++ [yv]))) := Fr.upd (.inl (.inr rfl))
      have f4' : Fr (Tp T D) H'' H4 := f4.mono fun b hb => .inl (hW b hb)
      refine ⟨⟨fun b o nb hb => ?_, fun b o hb => ?_⟩, R.st _ H4 _ (fun b wb => upd_ne (fun z => nW (z ▸ wb))) i4, acc ++ [yv], ys ++ [d], upd_same, ?_, ?_⟩
      · rw [upd_ne (ne_of_none hb hD)]
        exact f4.keep _ _ nb (eY _ _ (e.keep b o nb hb))
      · obtain ⟨o1, h1⟩ := e.dom b o hb
        obtain ⟨o2, h2⟩ := f4.dom b o1 (eY _ _ h1)
        exact ⟨o2, by rw [upd_ne (ne_of_none hb hD)]; exact h2⟩
      · exact all2_app (all2_imp (fun _ _ z => Mo.fr fD (Mo.fr f4' (Mo.fr eY.fr z))) hall) (.cons (Mo.fr fD r4) .nil)
      · rw [List.take_add_one, hx]
        exact all2_app hφ (.cons p4 .nil)
  · rintro H' ⟨e, hI, acc, ys, hacc, hall, hφ⟩
    rw [List.take_length] at hφ
    rw [Nat.sub_self, Nat.zero_mul] at hI
    exact q _ H' ys (e2.fr.trans e) hI ⟨D, acc, rfl, .new nD hacc, all2_imp (fun _ _ z => Mo.sub (fun b hb => .inl hb) z) hall⟩ hφ
/-- ''.join of such -/
theorem en_joinW {χ : List (List Bool) → Prop} {tj : TE} (R : Re W I) (ha : Ev K T tj σ H zW []) (hb : EvN K T W I c tb σ H (zL zW) χ) (hl : ∀ ws, χ ws → ws.flatten.length ≤ 100000) : EvN K T W I c (tM1 (rJoin K) tj tb) σ H zW (fun d => ∃ ws, χ ws ∧ d = ws.flatten) := fun n H1 f i Q q => ha H1 f _ fun v H2 e2 r2 => by
  obtain ⟨rfl, _⟩ := r2
  refine ⟨⟨_, rfl⟩, hb n H2 (f.trans e2.fr) (R.ex i e2) _ fun y H3 ws f3 i3 r3 p3 => ?_⟩
  have h9 := ev_joinW (K := K) (T := T) (σ := [some (.str (wS [])), some y]) (H := H3) (ta := tVar 0) (tb := tVar 1) (ws := ws) (ev_var rfl ⟨rfl, by simp⟩) (ev_var rfl r3) (hl ws p3) H3 (Fr.refl _) Q fun v H4 e4 r4 => q v H4 _ ((e2.fr.trans f3).trans e4.fr) (R.ex i3 e4) r4 ⟨ws, p3, rfl⟩
  obtain ⟨_, z1, _, _, z2, h9⟩ := h9
  cases z1; cases z2
  exact h9
end
/-! ### statements -/
section
variable {K : PySem.W.Frag} {T W : AS} {I : Nat → Hp → Prop} {σ : L2.St} {H : Hp} {α β : Type} {r : Rp α} {te : TE} {D : Ends} {i c n : Nat} {φ : α → Prop} {t u : TS}
theorem sn_asg (h : EvN K T W I c te σ H r φ) (hi : I (n + c) H) (k : ∀ v H2 d, Fr W H H2 → I n H2 → r K T H2 v d → φ d → D.nx (σ.set i (some v)) H2) : tAsg te (gName i) D σ H := h n H (Fr.refl H) hi _ k
theorem sn_ret (h : EvN K T W I c te σ H r φ) (hi : I (n + c) H) (k : ∀ v H2 d, Fr W H H2 → I n H2 → r K T H2 v d → φ d → D.rt v H2) : tRet te D σ H := h n H (Fr.refl H) hi _ k
theorem sn_drop (h : EvN K T W I c te σ H r φ) (hi : I (n + c) H) (k : ∀ v H2 d, Fr W H H2 → I n H2 → r K T H2 v d → φ d → D.nx σ H2) : tDrop te D σ H := h n H (Fr.refl H) hi _ k
theorem sn_if {φ : Bool → Prop} (h : EvN K T W I c te σ H zB φ) (hi : I (n + c) H) (k : ∀ H2 b, Fr W H H2 → I n H2 → φ b → if b = true then t D σ H2 else u D σ H2) : tIfS (tTest te) t u D σ H := en_test h hi k
end
end EB

set_option Elab.async false
set_option linter.all false
set_option maxRecDepth 100000
set_option maxHeartbeats 4000000
/-! EB: readings are opened step by step; effects. -/
namespace EB
open PySem PySem.Spec PyProof.Rows L2
section
variable {K : PySem.W.Frag} {T S : AS} {σ : L2.St} {H : Hp} {α β γ : Type} {r : Rp α} {s : Rp β} {te ta tb : TE} {tr : TA} {tt tu : TT} {t u : TS} {D : Ends} {i j : Nat} {p : Addr} {xs : List α} {d : α} {v w x : V} {Q : VK} {Qb : Bool → Hp → Prop} {F : List V → Hp → Prop} {R : R2} {R1 : V → Hp → VK → Prop} {RL : List V → Hp → VK → Prop} {sp : Sp} {dvs : List V} {E : XK} {A B : Prop}
theorem x_run (h : Ev K T te σ H r d) (k : ∀ v H2, Ex H H2 → r K T H2 v d → Q v H2) : te σ H Q := h H (Fr.refl H) Q k
theorem t_run {b : Bool} (h : EvT T tt σ H b) (k : ∀ H2, Ex H H2 → Qb b H2) : tt σ H Qb := h H (Fr.refl H) Qb k
theorem x_to {Q' : VK} (h : te σ H Q') (e : Q' = Q) : te σ H Q := e ▸ h
theorem asg_open (h : te σ H fun v H1 => D.nx (σ.set i (some v)) H1) : tAsg te (gName i) D σ H := h
theorem asgt_open {g : TG} (h : te σ H fun v H1 => g v σ H1 D.nx) : tAsg te g D σ H := h
theorem ret_open (h : te σ H D.rt) : tRet te D σ H := h
theorem drop_open (h : te σ H fun _ H1 => D.nx σ H1) : tDrop te D σ H := h
theorem ifs_open (h : tt σ H fun b H1 => if b = true then t D σ H1 else u D σ H1) : tIfS tt t u D σ H := h
theorem nx_ {a : L2.St → Hp → Prop} {b : V → Hp → Prop} {c e : L2.St → Hp → Prop} (h : a σ H) : (Ends.mk a b c e).nx σ H := h
theorem op_open (h : ta σ H fun x H1 => tb σ H1 fun y H2 => R x y H2 Q) : tOp R ta tb σ H Q := h
theorem un_open (h : ta σ H fun x H1 => R1 x H1 Q) : tUn R1 ta σ H Q := h
theorem cb_open (h : tr σ H fun vs H1 => RL vs H1 Q) : tCB RL tr σ H Q := h
theorem lst_open (h : tr σ H fun xs H1 => xs.length ≤ sizeLine ∧ ∀ p, H1 p = none → Q (.ref p) (upd H1 p (.lst xs))) : tLst tr σ H Q := h
theorem tup_open (h : tr σ H fun xs H1 => xs.length ≤ sizeLine ∧ ∀ p, H1 p = none → Q (.ref p) (upd H1 p (.tup xs))) : tTup tr σ H Q := h
theorem call_open (h : tr σ H fun vs H1 => sp (vs ++ dvs) H1 Q E) : tCall sp dvs E tr σ H Q := h
theorem cons_open (h : ta σ H fun x H1 => tr σ H1 fun xs H2 => F (x :: xs) H2) : tCons ta tr σ H F := h
theorem nil_open (h : F [] H) : tNil σ H F := h
theorem test_open (h : ta σ H fun x H1 => ∃ k, x = .bl k ∧ Qb k H1) : tTest ta σ H Qb := h
theorem tB_open (h : ta σ H fun x H1 => ∃ k, x = .bl k ∧ Qb k H1) : tB ta σ H Qb := h
theorem not_open (h : tt σ H fun c H1 => Qb (!c) H1) : tNot tt σ H Qb := h
theorem and_open (h : tt σ H fun c H1 => if c = true then tu σ H1 Qb else Qb false H1) : tAnd tt tu σ H Qb := h
theorem or_open (h : tt σ H fun c H1 => if c = true then Qb true H1 else tu σ H1 Qb) : tOr tt tu σ H Qb := h
theorem andv_open (h : ta σ H fun x H1 => ∃ c, x = .bl c ∧ if c = true then tb σ H1 Q else Q (.bl false) H1) : tAndV ta tb σ H Q := h
theorem orv_open (h : ta σ H fun x H1 => ∃ c, x = .bl c ∧ if c = true then Q (.bl true) H1 else tb σ H1 Q) : tOrV ta tb σ H Q := h
theorem ifx_open (h : tt σ H fun c H1 => if c = true then ta σ H1 Q else tb σ H1 Q) : tIf tt ta tb σ H Q := h
theorem notv_open (h : ta σ H fun x H1 => ∃ c, x = .bl c ∧ Q (.bl (!c)) H1) : tNotV ta σ H Q := h
theorem iteB {b : Bool} (h1 : b = true → A) (h2 : b = false → B) : if b = true then A else B := by
  cases b with
  | true => rw [if_pos rfl]; exact h1 rfl
  | false => rw [if_neg (by decide)]; exact h2 rfl
theorem ite1 (h : A) : if true = true then A else B := by rw [if_pos rfl]; exact h
theorem ite0 (h : B) : if false = true then A else B := by rw [if_neg (by decide)]; exact h
theorem of_op (h : tOp R (tVar 0) (tVar 1) [some v, some w] H Q) : R v w H Q := by obtain ⟨_, z1, _, z2, h⟩ := h; cases z1; cases z2; exact h
theorem of_un (h : tUn R1 (tVar 0) [some v] H Q) : R1 v H Q := by obtain ⟨_, z1, h⟩ := h; cases z1; exact h
theorem of_cb1 (h : tCB RL (tCons (tVar 0) tNil) [some v] H Q) : RL [v] H Q := by obtain ⟨_, z1, h⟩ := h; cases z1; exact h
theorem of_cb2 (h : tCB RL (tCons (tVar 0) (tCons (tVar 1) tNil)) [some v, some w] H Q) : RL [v, w] H Q := by obtain ⟨_, z1, _, z2, h⟩ := h; cases z1; cases z2; exact h
theorem of_l1 (h : tLst (tCons (tVar 0) tNil) [some v] H Q) : [v].length ≤ sizeLine ∧ ∀ p, H p = none → Q (.ref p) (upd H p (.lst [v])) := by obtain ⟨_, z1, h⟩ := h; cases z1; exact h
theorem of_l2 (h : tLst (tCons (tVar 0) (tCons (tVar 1) tNil)) [some v, some w] H Q) : [v, w].length ≤ sizeLine ∧ ∀ p, H p = none → Q (.ref p) (upd H p (.lst [v, w])) := by obtain ⟨_, z1, _, z2, h⟩ := h; cases z1; cases z2; exact h
theorem of_l3 (h : tLst (tCons (tVar 0) (tCons (tVar 1) (tCons (tVar 2) tNil))) [some v, some w, some x] H Q) : [v, w, x].length ≤ sizeLine ∧ ∀ p, H p = none → Q (.ref p) (upd H p (.lst [v, w, x])) := by obtain ⟨_, z1, _, z2, _, z3, h⟩ := h; cases z1; cases z2; cases z3; exact h
theorem of_t2 (h : tTup (tCons (tVar 0) (tCons (tVar 1) tNil)) [some v, some w] H Q) : [v, w].length ≤ sizeLine ∧ ∀ p, H p = none → Q (.ref p) (upd H p (.tup [v, w])) := by obtain ⟨_, z1, _, z2, h⟩ := h; cases z1; cases z2; exact h
/-! ### calls, the arguments being read -/
theorem call_v {ra : Rpl β} {pre : β → Prop} {f : β → α} {b : β} {vs : List V} (hT : TD T H) (hr : ra K T H vs b) (hp : pre b) (k : ∀ v H', Ex H H' → r K T H' v (f b) → Q v H') : PSp K ra pre r f (vs ++ []) H Q E := by
  rw [List.append_nil]; exact ⟨T, b, hT, hr, hp, k⟩
theorem callm_v {ra : Rpl β} {pre : β → Prop} {f : β → α} {b : β} {vs : List V} (hT : TD T H) (hr : ra K T H (v :: vs) b) (hp : pre b) (k : ∀ v H', Ex H H' → r K T H' v (f b) → Q v H') : PSp K ra pre r f (v :: (vs ++ [])) H Q E := by
  rw [List.append_nil]; exact ⟨T, b, hT, hr, hp, k⟩
theorem ncall_v {ra : Rpl β} {W : β → AS} {I : β → Nat → Hp → Prop} {cc : β → Nat} {pre : β → Prop} {φ : β → α → Prop} {b : β} {vs : List V} {n : Nat} (hT : TD T H) (hW : ∀ x, W b x → T x) (hr : ra K T H vs b) (hp : pre b) (hI : I b (n + cc b) H) (k : ∀ v H' d, Fr (W b) H H' → I b n H' → r K T H' v d → φ b d → Q v H') :
    NSp K ra W I cc pre r φ (vs ++ []) H Q E := by
  rw [List.append_nil]; exact ⟨T, b, n, hT, hW, hr, hp, hI, k⟩
theorem ncallm_v {ra : Rpl β} {W : β → AS} {I : β → Nat → Hp → Prop} {cc : β → Nat} {pre : β → Prop} {φ : β → α → Prop} {b : β} {vs : List V} {n : Nat} (hT : TD T H) (hW : ∀ x, W b x → T x) (hr : ra K T H (v :: vs) b) (hp : pre b) (hI : I b (n + cc b) H) (k : ∀ v H' d, Fr (W b) H H' → I b n H' → r K T H' v d → φ b d → Q v H') :
    NSp K ra W I cc pre r φ (v :: (vs ++ [])) H Q E := by
  rw [List.append_nil]; exact ⟨T, b, n, hT, hW, hr, hp, hI, k⟩
theorem meth_open {C : Addr} {m : Str} (h : ta σ H fun x H1 => ∃ a dx fs, x = .ref a ∧ H1 a = some (.ins C dx fs) ∧ fs.lookup m = none ∧ tr σ H1 fun vs H2 => sp (x :: (vs ++ dvs)) H2 Q E) : tMeth C m sp dvs E ta tr σ H Q := h
theorem meth_v {Cn : Str} {fs : List Str} {ra : Rpl β} {b : β} {m : Str} (h : zOb Cn fs ra K T H v b) (hm : m ∉ fs) (k : tr σ H fun vs H2 => sp (v :: (vs ++ dvs)) H2 Q E) :
    ∃ a dx gs, v = .ref a ∧ H a = some (.ins (He.ga K Cn) dx gs) ∧ gs.lookup m = none ∧ tr σ H fun vs H2 => sp (v :: (vs ++ dvs)) H2 Q E := by
  obtain ⟨p, dx, vs, ev, ht, hh, hr⟩ := h
  exact ⟨p, dx, _, ev, hh, lookup_zip_none hm, k⟩
/-! ### stores -/
theorem append_open (hv : σ[i]? = some (some (.ref p))) (m : HM r K T H p xs) (h : te σ H fun v H1 => rAppend (.ref p) [v] H1 fun _ H2 => D.nx σ H2) : tDrop (tBM K "list" rAppend (tVar i) (tCons te tNil)) D σ H := by
  obtain ⟨vs, h1, h2⟩ := m.ex
  exact ⟨.ref p, hv, .inl ⟨rfl, vs, .inl (.inl h1)⟩, h⟩
theorem append_v [Mo r] (m : HM r K T H p xs) (hd : r K T H v d) (hl : xs.length ≤ 1000000) (k : ∀ H2 v', H2 = upd H p v' → Fr (Tp S p) H H2 → Fr T H H2 → HM r K T H2 p (xs ++ [d]) → Q .non H2) : rAppend (.ref p) [v] H Q := by
  obtain ⟨vs', h1', hl', m', f'⟩ := m.app hd
  exact ⟨p, vs', v, rfl, rfl, h1', by rw [hl', sizeLine_eq]; omega, k _ _ rfl (Fr.upd (.inl (.inr rfl))) f' m'⟩
theorem set_v [Mo r] {ti : TE} {n : Int} (hv : σ[i]? = some (some (.ref p))) (m : HM r K T H p xs) (hd : r K T H v d) (hi : Ev K T ti σ H zI n) (h0 : 0 ≤ n) (hn : n < xs.length)
    (k : ∀ H1 H2 v, H2 = upd H1 p v → Ex H H1 → Fr (Tp S p) H1 H2 → Fr T H1 H2 → HM r K T H2 p (xs.set n.toNat d) → D.nx σ H2) : gSub (tVar i) ti rSetL v σ H D.nx := by
  refine ⟨.ref p, hv, ?_⟩
  refine hi H (Fr.refl H) _ fun iv H2 e2 r2 => ?_
  obtain ⟨vs', h1', hl', m', f'⟩ := (m.ex' e2).set (j := n.toNat) (Mo.fr e2.fr hd)
  refine ⟨p, vs', n, n.toNat, rfl, r2, h1', ?_, k H2 _ _ rfl e2 (Fr.upd (.inl (.inr rfl))) f' m'⟩
  unfold ixN
  rw [if_pos h0, if_pos (by rw [hl']; exact hn)]
theorem ev_mlist [Mo r] (h : EvA K T tr σ H (aH r) xs) (hl : xs.length ≤ 1000) (k : ∀ p H1 H2 v, H2 = upd H1 p v → Ex H H1 → H1 p = none → Fr (Tp S p) H1 H2 → HM r K (Tp T p) H2 p xs → Q (.ref p) H2) : tLst tr σ H Q :=
  h H (Fr.refl H) _ fun vs H1 e1 r1 => ⟨by rw [all2_len r1, sizeLine_eq]; omega, fun p hp => k p H1 _ _ rfl e1 hp (Fr.upd (.inl (.inr rfl))) ⟨.inr rfl, vs, upd_same, all2_imp (fun _ _ z => Mo.fr (Ex.new hp).fr (Mo.lift hp z)) r1⟩⟩
/-- any list value that is new: p is where it lies -/
theorem lst_new {vs : List V} [Mo r] (h : All2 (r K T H) vs xs) (hl : xs.length ≤ 1000) (k : ∀ p H2 v, H2 = upd H p v → H p = none → Fr (Tp S p) H H2 → HM r K (Tp T p) H2 p xs → Q (.ref p) H2) : vs.length ≤ sizeLine ∧ ∀ p, H p = none → Q (.ref p) (upd H p (.lst vs)) :=
  ⟨by rw [all2_len h, sizeLine_eq]; omega, fun p hp => k p _ _ rfl hp (Fr.upd (.inl (.inr rfl))) ⟨.inr rfl, vs, upd_same, all2_imp (fun _ _ z => Mo.fr (Ex.new hp).fr (Mo.lift hp z)) h⟩⟩
end
theorem Re.cut {W : AS} {I : Nat → Hp → Prop} (R : Re W I) {n m : Nat} {H : Hp} (h : I n H) (e : m ≤ n) : I m H := R.less m (n - m) H (by rw [show m + (n - m) = n by omega]; exact h)
/-- a list with things of many kinds -/
def zH {α : Type} (ra : Rpl α) : Rp α := fun K T H v d => ∃ a vs, v = .ref a ∧ SL K T H a vs ∧ ra K T H vs d
instance {α : Type} {ra : Rpl α} [MoL ra] : Mo (zH ra) := ⟨fun w ⟨a, vs, e, h, q⟩ => ⟨a, vs, e, h.wd w, MoL.wd w q⟩⟩
section
variable {K : PySem.W.Frag} {T : AS} {σ : L2.St} {H : Hp} {α β : Type} {ra : Rpl α} {r : Rp β} {te tb : TE} {d : α} {x : β} {i : Int}
theorem ev_ixH [MoL ra] (h : Ev K T te σ H (zH ra) d) (hb : Ev K T tb σ H zI i) (g : ∀ H1 vs, ra K T H1 vs d → ∃ v, atI vs i = some v ∧ r K T H1 v x) : Ev K T (tOp (rIxL K) te tb) σ H r x :=
  ev_op h hb fun v w H1 Q _ h1 h2 q => by
    obtain ⟨a, vs, rfl, hs, hr⟩ := h1
    obtain ⟨u, hu, hr'⟩ := g H1 vs hr
    exact ⟨a, vs, i, u, rfl, h2, hs.sq, hu, q u H1 (Ex.refl H1) hr'⟩
end
end EB
namespace EB
open PySem PySem.Spec PyProof.Rows L2
theorem m1_open {R : V → List V → Hp → VK → Prop} {ta tb : TE} {σ : L2.St} {H : Hp} {Q : VK} (h : ta σ H fun x H1 => (∃ z : Str, x = .str z) ∧ tb σ H1 fun y H2 => R x [y] H2 Q) : tM1 R ta tb σ H Q := h
theorem of_m1 {R : V → List V → Hp → VK → Prop} {v w : V} {H : Hp} {Q : VK} (h : tM1 R (tVar 0) (tVar 1) [some v, some w] H Q) : R v [w] H Q := by obtain ⟨_, z1, _, _, z2, h⟩ := h; cases z1; cases z2; exact h
theorem all2_mem {α β : Type} {F : α → β → Prop} : ∀ {xs : List α} {ys : List β} {x : α}, All2 F xs ys → x ∈ xs → ∃ y, y ∈ ys ∧ F x y
  | _, _, _, .nil, h => by cases h
  | _, _, x, .cons r t, h => by
    rcases List.mem_cons.mp h with rfl | h
    · exact ⟨_, List.mem_cons_self, r⟩
    · obtain ⟨y, hy, hf⟩ := all2_mem t h
      exact ⟨y, List.mem_cons_of_mem _ hy, hf⟩
theorem getD_mem {α : Type} {xs : List α} {i : Int} {d : α} (h0 : 0 ≤ i) (h : i < (xs.length : Int)) : xs.getD i.toNat d ∈ xs := by
  have : i.toNat < xs.length := by omega
  rw [List.getD_eq_getElem?_getD, List.getElem?_eq_getElem this]
  exact List.getElem_mem this
theorem mn2_spec (i j : Int) : (mn2 i j = i ∧ i ≤ j) ∨ (mn2 i j = j ∧ j ≤ i) := by unfold mn2; split <;> omega
theorem mx2_spec (i j : Int) : (mx2 i j = i ∧ j ≤ i) ∨ (mx2 i j = j ∧ i ≤ j) := by unfold mx2; split <;> omega
theorem cutA_upto {α : Type} (w : List α) (d : Nat) (h : d ≤ w.length) : cutA w none (some (d : Int)) = w.take d := by
  have h2 : HT.sIx w.length w.length (some (d : Int)) = d := by
    unfold HT.sIx
    simp only
    split <;> omega
  have h3 : HT.sIx w.length 0 none = 0 := rfl
  unfold cutA
  rw [h2, h3]
  simp
theorem cutA_up {α : Type} (w : List α) (d : Int) : (0 ≤ d → d ≤ (w.length : Int) → ((cutA w none (some d)).length : Int) = d) ∧ (cutA w none (some d)).length ≤ w.length := by
  refine ⟨fun h1 h2 => ?_, cutA_len _ _ _⟩
  obtain ⟨n, rfl⟩ := Int.eq_ofNat_of_zero_le h1
  rw [cutA_upto w n (by omega), List.length_take]
  omega
theorem flat_len {ws : List (List Bool)} {k : Nat} (h : ∀ w ∈ ws, w.length = k) : ws.flatten.length = ws.length * k := by
  induction ws with
  | nil => simp
  | cons w ws ih =>
    rw [List.flatten_cons, List.length_append, ih (fun x hx => h x (List.mem_cons_of_mem _ hx)), h w List.mem_cons_self, List.length_cons, Nat.succ_mul]
    omega
end EB

set_option Elab.async false
set_option linter.all false
set_option maxRecDepth 100000
set_option maxHeartbeats 4000000
/-! EB: the tape of draws. -/
namespace EB
open PySem PySem.Spec PyProof.Rows L2
/-- [great, seed, count] at d.1, great at d.2 -/
structure TpI (d : Addr × Addr) (n : Nat) (H : Hp) : Prop where
  ex : ∃ (gs : List Int) (seed cnt : Int), H d.1 = some (.lst [.ref d.2, .int seed, .int cnt]) ∧ H d.2 = some (.lst (gs.map V.int)) ∧ (∀ g ∈ gs, 0 ≤ g) ∧ 0 ≤ cnt ∧ cnt + n < 2 ^ 63 ∧ d.1 ≠ d.2 ∧ gs.length ≤ 100
def zTp : Rp (Addr × Addr) := fun _ _ _ v d => v = .ref d.1
instance : Mo zTp := ⟨fun _ h => h⟩
def WTp (d : Addr × Addr) : AS := fun b => b = d.1 ∨ b = d.2
theorem re_tape {d : Addr × Addr} : Re (WTp d) (TpI d) where
  st n H H' h i := by
    obtain ⟨gs, seed, cnt, h1, h2, h3⟩ := i.ex
    exact ⟨gs, seed, cnt, by rw [h _ (.inl rfl)]; exact h1, by rw [h _ (.inr rfl)]; exact h2, h3⟩
  dom n H b i w := by
    obtain ⟨gs, seed, cnt, h1, h2, _⟩ := i.ex
    rcases w with w | w
    · subst w; exact ⟨_, h1⟩
    · subst w; exact ⟨_, h2⟩
  less n m H i := by
    obtain ⟨gs, seed, cnt, h1, h2, h3, h4, h5, h6⟩ := i.ex
    exact ⟨gs, seed, cnt, h1, h2, h3, h4, by omega, h6⟩
abbrev sp_draw (K : PySem.W.Frag) : Sp := NSp K (aC zTp (aC zI aN)) (fun (a : (Addr × Addr) × Int × Unit) => WTp a.1) (fun a => TpI a.1) (fun _ => 1) (fun a => 0 < a.2.1 ∧ a.2.1 < 1073741824) zI (fun (a : (Addr × Addr) × Int × Unit) (d : Int) => 0 ≤ d ∧ d < a.2.1)
theorem NSp_len {K : PySem.W.Frag} {α β : Type} {ra : Rpl α} {W : α → AS} {I : α → Nat → Hp → Prop} {c : α → Nat} {pre : α → Prop} {r : Rp β} {φ : α → β → Prop} {n : Nat} (h : ∀ K T H vs a, ra K T H vs a → vs.length = n) : ∀ vs H Q E, NSp K ra W I c pre r φ vs H Q E → vs.length = n :=
  fun vs H Q E ⟨T, a, _, _, _, hr, _⟩ => h K T H vs a hr
theorem zl0 {K : PySem.W.Frag} {H : Hp} {p : Addr} {gs : List Int} (h : H p = some (.lst (gs.map V.int))) : zL zI K T0 H (.ref p) gs := ⟨p, _, rfl, .new (fun z => z) h, all2_ints⟩
theorem zh0 {K : PySem.W.Frag} {H : Hp} {p q : Addr} {a b : Int} (h : H p = some (.lst [.ref q, .int a, .int b])) : zH (aC zA (aC zI (aC zI aN))) K T0 H (.ref p) (q, a, b, ()) := ⟨p, _, rfl, .new (fun z => z) h, _, _, rfl, rfl, _, _, rfl, rfl, _, _, rfl, rfl, rfl⟩
section
variable {K : PySem.W.Frag} {T : AS} {σ : L2.St} {H : Hp} {te : TE} {d : Addr × Int × Int × Unit}
theorem ev_h0 (h : Ev K T te σ H (zH (aC zA (aC zI (aC zI aN)))) d) : Ev K T (tOp (rIxL K) te (tC (.int 0))) σ H zA d.1 := ev_ixH h ev_int fun H1 vs hr => by
  obtain ⟨_, _, rfl, h1, _, _, rfl, h2, _, _, rfl, h3, rfl⟩ := hr
  exact ⟨_, rfl, h1⟩
theorem ev_h1 (h : Ev K T te σ H (zH (aC zA (aC zI (aC zI aN)))) d) : Ev K T (tOp (rIxL K) te (tC (.int 1))) σ H zI d.2.1 := ev_ixH h ev_int fun H1 vs hr => by
  obtain ⟨_, _, rfl, h1, _, _, rfl, h2, _, _, rfl, h3, rfl⟩ := hr
  exact ⟨_, rfl, h2⟩
theorem ev_h2 (h : Ev K T te σ H (zH (aC zA (aC zI (aC zI aN)))) d) : Ev K T (tOp (rIxL K) te (tC (.int 2))) σ H zI d.2.2.1 := ev_ixH h ev_int fun H1 vs hr => by
  obtain ⟨_, _, rfl, h1, _, _, rfl, h2, _, _, rfl, h3, rfl⟩ := hr
  exact ⟨_, rfl, h3⟩
end
end EB

set_option Elab.async false
set_option linter.all false
set_option maxRecDepth 100000
set_option maxHeartbeats 4000000
/-! EB: == of data; lists that are new. -/
namespace EB
open PySem PySem.Spec PyProof.Rows L2
class Dt {α : Type} (r : Rp α) where
  toD : α → PyData
  dep : Nat
  dp : ∀ {K T H v d}, r K T H v d → Dp K H v (toD d)
  lay : ∀ d, (toD d).canLay0 = true
  hdep : ∀ d, (toD d).depth ≤ dep
  eq : ∀ a b, PyData.eqv (toD a) (toD b) = true ↔ a = b
instance : Dt zI := ⟨.int, 0, fun h => by cases h; exact .int _, fun _ => rfl, fun _ => Nat.le_refl 0, fun a b => by simp [PyData.eqv]⟩
instance : Dt zB := ⟨.bool, 0, fun h => by cases h; exact .bl _, fun _ => rfl, fun _ => Nat.le_refl 0, fun a b => by simp [PyData.eqv]⟩
instance : Dt zN := ⟨fun _ => .none, 0, fun h => by cases h; exact .non, fun _ => rfl, fun _ => Nat.le_refl 0, fun a b => by simp [PyData.eqv]⟩
theorem strOk_wS (w : List Bool) : PyData.canLay0 (.str (wS w)) = true := by
  simp only [PyData.canLay0, PyData.strOk, wS, Array.all_eq_true']
  intro x hx
  simp only [List.mem_toArray, List.mem_map] at hx
  obtain ⟨b, _, rfl⟩ := hx
  cases b <;> decide
theorem str_beq (a b : Str) : ((a == b) = true) ↔ a = b := by simp
instance : Dt zW := ⟨fun w => .str (wS w), 0, fun h => by obtain ⟨rfl, _⟩ := h; exact .str _, strOk_wS, fun _ => Nat.le_refl 0, fun a b => by
  simp only [PyData.eqv, str_beq]
  exact ⟨wS_inj, fun h => by rw [h]⟩⟩
section
variable {α β γ : Type} {r : Rp α} {s : Rp β}
theorem dpAll {K T H} [Dt r] {vs : List V} {xs : List α} (h : All2 (r K T H) vs xs) : DpAll K H vs (xs.map (Dt.toD r)) := by
  induction h with
  | nil => exact .nil
  | cons a _ ih => exact .cons (Dt.dp a) ih
theorem layAll [Dt r] : ∀ xs : List α, PyData.canLayAll0 (xs.map (Dt.toD r)) = true
  | [] => rfl
  | x :: xs => by simp only [List.map_cons, PyData.canLayAll0, Dt.lay, layAll xs, Bool.and_self]
theorem depAll [Dt r] : ∀ xs : List α, PyData.depthAll (xs.map (Dt.toD r)) ≤ Dt.dep r
  | [] => Nat.zero_le _
  | x :: xs => by
    simp only [List.map_cons, PyData.depthAll]
    exact Nat.max_le.mpr ⟨Dt.hdep x, depAll xs⟩
theorem eqAll [Dt r] : ∀ xs ys : List α, PyData.eqvAll (xs.map (Dt.toD r)) (ys.map (Dt.toD r)) = true ↔ xs = ys
  | [], [] => by simp [PyData.eqvAll]
  | [], _ :: _ => by simp [PyData.eqvAll]
  | _ :: _, [] => by simp [PyData.eqvAll]
  | x :: xs, y :: ys => by
    simp only [List.map_cons, PyData.eqvAll, Bool.and_eq_true, Dt.eq, eqAll xs ys, List.cons.injEq]
instance [Dt r] : Dt (zL r) := ⟨fun xs => .list (xs.map (Dt.toD r)), Dt.dep r + 1, fun h => by
  obtain ⟨a, vs, rfl, hs, hh⟩ := h
  exact .lst hs.sq (dpAll hh), fun xs => by simp only [PyData.canLay0]; exact layAll xs, fun xs => by simp only [PyData.depth]; exact Nat.succ_le_succ (depAll xs), fun a b => by simp only [PyData.eqv]; exact eqAll a b⟩
instance [Dt r] : Dt (zU r) := ⟨fun xs => .tuple (xs.map (Dt.toD r)), Dt.dep r + 1, fun h => by
  obtain ⟨a, vs, rfl, hs, hh⟩ := h
  exact .tup hs.sq (dpAll hh), fun xs => by simp only [PyData.canLay0]; exact layAll xs, fun xs => by simp only [PyData.depth]; exact Nat.succ_le_succ (depAll xs), fun a b => by simp only [PyData.eqv]; exact eqAll a b⟩
class DtL {α : Type} (r : Rpl α) where
  toD : α → List PyData
  dep : Nat
  dp : ∀ {K T H v d}, r K T H v d → DpAll K H v (toD d)
  lay : ∀ d, PyData.canLayAll0 (toD d) = true
  hdep : ∀ d, PyData.depthAll (toD d) ≤ dep
  eq : ∀ a b, PyData.eqvAll (toD a) (toD b) = true ↔ a = b
instance : DtL aN := ⟨fun _ => [], 0, fun h => by rw [show _ = [] from h]; exact .nil, fun _ => rfl, fun _ => Nat.le_refl 0, fun a b => by simp [PyData.eqvAll]⟩
instance {t : Rpl β} [Dt r] [DtL t] : DtL (aC r t) := ⟨fun p => Dt.toD r p.1 :: DtL.toD t p.2, max (Dt.dep r) (DtL.dep t), fun h => by
  obtain ⟨v, ws, rfl, h1, h2⟩ := h
  exact .cons (Dt.dp h1) (DtL.dp h2), fun p => by simp only [PyData.canLayAll0, Dt.lay, DtL.lay, Bool.and_self], fun p => by
    simp only [PyData.depthAll]
    have h1 := Dt.hdep (r := r) p.1
    have h2 := DtL.hdep (r := t) p.2
    omega, fun a b => by
    simp only [PyData.eqvAll, Bool.and_eq_true, Dt.eq, DtL.eq]
    exact ⟨fun h => Prod.ext h.1 h.2, fun h => by rw [h]; exact ⟨rfl, rfl⟩⟩⟩
instance {t : Rpl β} [DtL t] : Dt (zH t) := ⟨fun xs => .list (DtL.toD t xs), DtL.dep t + 1, fun h => by
  obtain ⟨a, vs, rfl, hs, hh⟩ := h
  exact .lst hs.sq (DtL.dp hh), fun xs => by simp only [PyData.canLay0]; exact DtL.lay xs, fun xs => by simp only [PyData.depth]; exact Nat.succ_le_succ (DtL.hdep xs), fun a b => by simp only [PyData.eqv]; exact DtL.eq a b⟩
theorem shaped_toD [Dt r] (h : Dt.dep r ≤ 64) (d : α) : SeqAt.shaped (Dt.toD r d) = true := by
  unfold SeqAt.shaped
  rw [Dt.lay, Bool.true_and, decide_eq_true_eq]
  exact Nat.le_trans (Dt.hdep d) h
theorem eqv_toD [Dt r] [DecidableEq α] (a b : α) : PyData.eqv (Dt.toD r a) (Dt.toD r b) = decide (a = b) := by
  by_cases h : a = b
  · rw [decide_eq_true h]; exact (Dt.eq a b).mpr h
  · rw [decide_eq_false h]
    cases e : PyData.eqv (Dt.toD r a) (Dt.toD r b) with
    | true => exact absurd ((Dt.eq a b).mp e) h
    | false => rfl
variable {K : PySem.W.Frag} {T : AS} {σ : L2.St} {H : Hp} {te ta tb : TE}
theorem ev_eqD [Mo r] [Dt r] [DecidableEq α] {a b : α} (ha : Ev K T ta σ H r a) (hb : Ev K T tb σ H r b) (hd : Dt.dep r ≤ 64 := by decide) : Ev K T (tOp (rEqD K) ta tb) σ H zB (decide (a = b)) :=
  ev_op ha hb fun x y H1 Q _ h1 h2 q => ⟨_, _, Dt.dp h1, Dt.dp h2, shaped_toD hd a, shaped_toD hd b, q _ H1 (Ex.refl H1) (by rw [eqv_toD]; rfl)⟩
theorem ev_neD [Mo r] [Dt r] [DecidableEq α] {a b : α} (ha : Ev K T ta σ H r a) (hb : Ev K T tb σ H r b) (hd : Dt.dep r ≤ 64 := by decide) : Ev K T (tOp (rNeD K) ta tb) σ H zB (!decide (a = b)) :=
  ev_op ha hb fun x y H1 Q _ h1 h2 q => ⟨_, _, Dt.dp h1, Dt.dp h2, shaped_toD hd a, shaped_toD hd b, q _ H1 (Ex.refl H1) (by rw [eqv_toD]; rfl)⟩
theorem op_eqDQ {X : Cx} (hu : X.A.units + 64 < cLine) (hK : X.K = K := by rfl) : OpR X (compareOp .Eq) (rEqD K) := hK ▸ op_eqD hu
theorem op_neDQ {X : Cx} (hu : X.A.units + 64 < cLine) (hK : X.K = K := by rfl) : OpR X (compareOp .NotEq) (rNeD K) := hK ▸ op_neD hu
end
/-! ### lists that are new: p lies where nothing lay -/
def EvF (K : PySem.W.Frag) (T : AS) {α : Type} (te : TE) (σ : L2.St) (H : Hp) (r : Rp α) (xs : List α) : Prop :=
  ∀ H1, Fr T H H1 → ∀ Q : VK, (∀ p H2 H3, Ex H1 H2 → H2 p = none → Fr (fun b => b = p) H2 H3 → Ex H2 H3 → HM r K (Tp T p) H3 p xs → Q (.ref p) H3) → te σ H1 Q
section
variable {K : PySem.W.Frag} {T : AS} {σ : L2.St} {H : Hp} {α β : Type} {r : Rp α} {s : Rp β} {te ta tb : TE} {tr : TA} {xs : List α} {Q : VK}
theorem f_run (h : EvF K T te σ H r xs) (k : ∀ p H2 H3, Ex H H2 → H2 p = none → Fr (fun b => b = p) H2 H3 → Ex H2 H3 → HM r K (Tp T p) H3 p xs → Q (.ref p) H3) : te σ H Q := h H (Fr.refl H) Q k
theorem hm_new [Mo r] {p : Addr} {vs : List V} (n : H p = none) (h : All2 (r K T H) vs xs) : Fr (fun b => b = p) H (upd H p (.lst vs)) ∧ Ex H (upd H p (.lst vs)) ∧ HM r K (Tp T p) (upd H p (.lst vs)) p xs :=
  ⟨Fr.upd (.inl rfl), Ex.new n, .inr rfl, vs, upd_same, all2_imp (fun _ _ z => Mo.fr (Ex.new n).fr (Mo.lift n z)) h⟩
theorem ef_lst [Mo r] (h : EvA K T tr σ H (aH r) xs) (hl : xs.length ≤ 1000) : EvF K T (tLst tr) σ H r xs := fun H1 f Q q => h H1 f _ fun vs H2 e2 r2 =>
  ⟨by rw [all2_len r2, sizeLine_eq]; omega, fun p hp => let ⟨a, b, c⟩ := hm_new hp r2; q p H2 _ e2 hp a b c⟩
theorem ef_listL [Mo r] (h : Ev K T ta σ H (zL r) xs) : EvF K T (tCB (rListQ K) (tCons ta tNil)) σ H r xs := fun H1 f Q q => h H1 f _ fun v H2 e2 ⟨a, vs, e, hs, hh⟩ =>
  ⟨a, vs, by rw [e], .inl hs.sq, fun p hp => let ⟨a, b, c⟩ := hm_new hp hh; q p H2 _ e2 hp a b c⟩
theorem ef_listU [Mo r] (h : Ev K T ta σ H (zU r) xs) : EvF K T (tCB (rListQ K) (tCons ta tNil)) σ H r xs := fun H1 f Q q => h H1 f _ fun v H2 e2 ⟨a, vs, e, hs, hh⟩ =>
  ⟨a, vs, by rw [e], .inr hs.sq, fun p hp => let ⟨a, b, c⟩ := hm_new hp hh; q p H2 _ e2 hp a b c⟩
theorem lst_newF [Mo r] {vs : List V} (h : All2 (r K T H) vs xs) (hl : xs.length ≤ 1000) (k : ∀ p H3, H p = none → Fr (fun b => b = p) H H3 → Ex H H3 → HM r K (Tp T p) H3 p xs → Q (.ref p) H3) : vs.length ≤ sizeLine ∧ ∀ p, H p = none → Q (.ref p) (upd H p (.lst vs)) :=
  ⟨by rw [all2_len h, sizeLine_eq]; omega, fun p hp => let ⟨a, b, c⟩ := hm_new hp h; k p _ hp a b c⟩
theorem ef_listQ [Mo r] (h : Ev K T ta σ H (zQ r) xs) : EvF K T (tCB (rListQ K) (tCons ta tNil)) σ H r xs := fun H1 f Q q => h H1 f _ fun v H2 e2 h2 => by
  rcases h2 with ⟨a, vs, e, hs, hh⟩ | ⟨a, vs, e, hs, hh⟩
  · exact ⟨a, vs, by rw [e], .inl hs.sq, fun p hp => let ⟨a, b, c⟩ := hm_new hp hh; q p H2 _ e2 hp a b c⟩
  · exact ⟨a, vs, by rw [e], .inr hs.sq, fun p hp => let ⟨a, b, c⟩ := hm_new hp hh; q p H2 _ e2 hp a b c⟩
end
end EB

set_option Elab.async false
set_option linter.all false
set_option maxRecDepth 100000
set_option maxHeartbeats 4000000
/-! EB: more built-ins. -/
namespace EB
open PySem PySem.Spec PyProof.Rows L2
section
variable {K : PySem.W.Frag} {T : AS} {σ : L2.St} {H : Hp} {α β : Type} {r : Rp α} {te ta tb tc : TE} {i j k : Int}
theorem nuMax2_int (i j : Int) : nuMax2 (.int i) (.int j) = some (.int (mx2 i j)) := by
  show some (if decide (i < j) = true then V.int j else .int i) = some (.int (if j > i then j else i))
  by_cases h : i < j
  · rw [decide_eq_true h, if_pos rfl, if_pos h]
  · rw [decide_eq_false h, if_neg (by decide), if_neg h]
theorem nuMin2_int (i j : Int) : nuMin2 (.int i) (.int j) = some (.int (mn2 i j)) := by
  show some (if decide (j < i) = true then V.int j else .int i) = some (.int (if j < i then j else i))
  by_cases h : j < i
  · rw [decide_eq_true h, if_pos rfl, if_pos h]
  · rw [decide_eq_false h, if_neg (by decide), if_neg h]
theorem call_max3Q {X : Cx} (hc : X.calm = true := by rfl) : CallR X (.builtin "max") (rNuC3 nuMax3) := call_max3Nu hc
theorem call_min3Q {X : Cx} (hc : X.calm = true := by rfl) : CallR X (.builtin "min") (rNuC3 nuMin3) := call_min3Nu hc
theorem ev_max3 (h : Ev K T ta σ H zI i) (h' : Ev K T tb σ H zI j) (h'' : Ev K T tc σ H zI k) : Ev K T (tCB (rNuC3 nuMax3) (tCons ta (tCons tb (tCons tc tNil)))) σ H zI (mx2 (mx2 i j) k) := fun H1 f Q q =>
  h H1 f _ fun x H2 e2 r2 => h' H2 (f.trans e2.fr) _ fun y H3 e3 r3 => h'' H3 ((f.trans e2.fr).trans e3.fr) _ fun z H4 e4 r4 => by
    cases r2; cases r3; cases r4
    exact ⟨_, _, _, _, rfl, by unfold nuMax3; rw [nuMax2_int]; exact nuMax2_int _ _, q _ H4 ((e2.trans e3).trans e4) rfl⟩
theorem ev_min3 (h : Ev K T ta σ H zI i) (h' : Ev K T tb σ H zI j) (h'' : Ev K T tc σ H zI k) : Ev K T (tCB (rNuC3 nuMin3) (tCons ta (tCons tb (tCons tc tNil)))) σ H zI (mn2 (mn2 i j) k) := fun H1 f Q q =>
  h H1 f _ fun x H2 e2 r2 => h' H2 (f.trans e2.fr) _ fun y H3 e3 r3 => h'' H3 ((f.trans e2.fr).trans e3.fr) _ fun z H4 e4 r4 => by
    cases r2; cases r3; cases r4
    exact ⟨_, _, _, _, rfl, by unfold nuMin3; rw [nuMin2_int]; exact nuMin2_int _ _, q _ H4 ((e2.trans e3).trans e4) rfl⟩
end
end EB

set_option Elab.async false
set_option linter.all false
set_option maxRecDepth 100000
set_option maxHeartbeats 4000000
/-! EB: tables of what is known. -/
namespace EB
open PySem PySem.Spec PyProof.Rows L2
theorem nodup_le {α : Type} [DecidableEq α] : ∀ {xs ys : List α}, xs.Nodup → (∀ x ∈ xs, x ∈ ys) → xs.length ≤ ys.length
  | [], _, _, _ => Nat.zero_le _
  | x :: xs, ys, hn, hs => by
    have hx : x ∈ ys := hs x List.mem_cons_self
    obtain ⟨hn1, hn2⟩ := List.nodup_cons.mp hn
    have h1 : ∀ y ∈ xs, y ∈ ys.erase x := fun y hy => by
      have : y ≠ x := fun z => hn1 (z ▸ hy)
      exact (List.mem_erase_of_ne this).mpr (hs y (List.mem_cons_of_mem _ hy))
    have h2 := nodup_le hn2 h1
    rw [List.length_erase_of_mem hx] at h2
    have h3 := List.length_pos_of_mem hx
    rw [List.length_cons]
    omega
structure MmI {α : Type} (a : Addr) (kf : α → Key) (U : List α) (ok : α → Int → Prop) (n : Nat) (H : Hp) : Prop where
  inj : ∀ x y, kf x = kf y → x = y
  few : U.length ≤ 1000000
  ex : ∃ kvs : List (Key × V), H a = some (.dK kvs) ∧ (kvs.map (·.1)).Nodup ∧ ∀ q ∈ kvs, ∃ w i, q = (kf w, V.int i) ∧ w ∈ U ∧ ok w i
def W1 (a : Addr) : AS := fun b => b = a
theorem re_memo {α : Type} {a : Addr} {kf : α → Key} {U : List α} {ok : α → Int → Prop} : Re (W1 a) (MmI a kf U ok) where
  st n H H' h i := ⟨i.inj, i.few, by obtain ⟨kvs, h1, h2⟩ := i.ex; exact ⟨kvs, by rw [h a rfl]; exact h1, h2⟩⟩
  dom n H b i w := by
    obtain ⟨kvs, h1, h2⟩ := i.ex
    cases w
    exact ⟨_, h1⟩
  less n m H i := ⟨i.inj, i.few, i.ex⟩
def HasE {α : Type} (kf : α → Key) (a : Addr) (w : α) (i : Int) (H : Hp) : Prop := ∃ kvs : List (Key × V), H a = some (.dK kvs) ∧ valV kvs (kf w) = some (.int i)
theorem valV_mem {kvs : List (Key × V)} {k : Key} {v : V} (h : valV kvs k = some v) : (k, v) ∈ kvs := by
  unfold valV at h
  cases e : kvs.find? fun kv => decide (kv.1 = k) with
  | none => rw [e] at h; cases h
  | some q =>
    rw [e] at h
    have h1 := List.mem_of_find?_eq_some e
    have h2 := List.find?_some e
    simp only [decide_eq_true_eq] at h2
    cases h
    rw [← h2]
    exact h1
section
variable {K : PySem.W.Frag} {T : AS} {σ : L2.St} {H : Hp} {α : Type} {a : Addr} {kf : α → Key} {U : List α} {ok : α → Int → Prop} {n : Nat} {w : α} {i : Int} {y v : V} {Q : VK} {D : Ends}
theorem HasE.ex {H' : Hp} (h : HasE kf a w i H) (e : Ex H H') : HasE kf a w i H' := let ⟨kvs, h1, h2⟩ := h; ⟨kvs, e _ _ h1, h2⟩
theorem notin_v (hI : MmI a kf U ok n H) (hy : y = kV (kf w)) (k1 : (∀ kvs, H a = some (.dK kvs) → valV kvs (kf w) = none) → Q (.bl true) H) (k2 : ∀ i, ok w i → HasE kf a w i H → Q (.bl false) H) :
    ∃ a' o, V.ref a = .ref a' ∧ DGet H a' y o ∧ Q (.bl (!o.isSome)) H := by
  obtain ⟨kvs, h1, h2, h3⟩ := hI.ex
  refine ⟨a, valV kvs (kf w), rfl, .inl ⟨kvs, _, .inl h1, hy, rfl⟩, ?_⟩
  cases e : valV kvs (kf w) with
  | none => exact k1 fun kvs' h' => by rw [h1] at h'; cases h'; exact e
  | some u =>
    obtain ⟨w', i, e1, _, ho⟩ := h3 _ (valV_mem e)
    injection e1 with e2 e3
    subst e3
    have e4 := hI.inj _ _ e2
    subst e4
    exact k2 i ho ⟨kvs, h1, e⟩
theorem in_v (hI : MmI a kf U ok n H) (hy : y = kV (kf w)) (k1 : (∀ kvs, H a = some (.dK kvs) → valV kvs (kf w) = none) → Q (.bl false) H) (k2 : ∀ i, ok w i → HasE kf a w i H → Q (.bl true) H) :
    ∃ a' o, V.ref a = .ref a' ∧ DGet H a' y o ∧ Q (.bl o.isSome) H := by
  obtain ⟨kvs, h1, h2, h3⟩ := hI.ex
  refine ⟨a, valV kvs (kf w), rfl, .inl ⟨kvs, _, .inl h1, hy, rfl⟩, ?_⟩
  cases e : valV kvs (kf w) with
  | none => exact k1 fun kvs' h' => by rw [h1] at h'; cases h'; exact e
  | some u =>
    obtain ⟨w', i, e1, _, ho⟩ := h3 _ (valV_mem e)
    injection e1 with e2 e3
    subst e3
    have e4 := hI.inj _ _ e2
    subst e4
    exact k2 i ho ⟨kvs, h1, e⟩
theorem get_v (h : HasE kf a w i H) (hy : y = kV (kf w)) (k : Q (.int i) H) : ∃ a' v, V.ref a = .ref a' ∧ DGet H a' y (some v) ∧ Q v H := by
  obtain ⟨kvs, h1, h2⟩ := h
  exact ⟨a, _, rfl, .inl ⟨kvs, _, .inl h1, hy, h2.symm⟩, k⟩
theorem putK_keys {kvs : List (Key × V)} {k : Key} {v : V} : (∀ q ∈ putK kvs k v, q = (k, v) ∨ q ∈ kvs) ∧ ((kvs.map (·.1)).Nodup → ((putK kvs k v).map (·.1)).Nodup) := by
  unfold putK
  by_cases h : (kvs.any fun kv => decide (kv.1 = k)) = true
  · rw [if_pos h]
    constructor
    · intro q hq
      rw [List.mem_map] at hq
      obtain ⟨u, hu, rfl⟩ := hq
      by_cases e : u.1 = k
      · rw [if_pos e]; left; rw [e]
      · rw [if_neg e]; right; exact hu
    · intro hn
      rw [List.map_map, show ((fun x : Key × V => x.1) ∘ fun kv => if kv.1 = k then (kv.1, v) else kv) = (fun x => x.1) from funext fun u => by
        show (if u.1 = k then (u.1, v) else u).1 = u.1
        split <;> rfl]
      exact hn
  · rw [if_neg h]
    constructor
    · intro q hq
      rcases List.mem_append.mp hq with hq | hq
      · exact .inr hq
      · simp only [List.mem_singleton] at hq; exact .inl hq
    · intro hn
      rw [List.map_append, List.nodup_append]
      refine ⟨hn, by simp, fun x hx y hy z => ?_⟩
      simp only [List.map_cons, List.map_nil, List.mem_singleton] at hy
      subst hy; subst z
      apply h
      rw [List.any_eq_true]
      rw [List.mem_map] at hx
      obtain ⟨q, hq, e⟩ := hx
      exact ⟨q, hq, decide_eq_true e⟩
theorem valV_putK {kvs : List (Key × V)} {k : Key} {v : V} : valV (putK kvs k v) k = some v := by
  unfold putK valV
  by_cases h : (kvs.any fun kv => decide (kv.1 = k)) = true
  · rw [if_pos h]
    induction kvs with
    | nil => cases h
    | cons u us ih =>
      by_cases e : u.1 = k
      · simp [List.find?_cons, e]
      · have h' : (us.any fun kv => decide (kv.1 = k)) = true := by simpa [e] using h
        simp only [List.map_cons, e, if_false, List.find?_cons, decide_false]
        exact ih h'
  · rw [if_neg h]
    have hn : (kvs.find? fun kv => decide (kv.1 = k)) = none := by
      rw [List.find?_eq_none]
      intro x hx hd
      exact h (List.any_eq_true.mpr ⟨x, hx, hd⟩)
    rw [List.find?_append, hn]
    simp
theorem put_v (hI : MmI a kf U ok n H) (hy : y = kV (kf w)) (hw : w ∈ U) (ho : ok w i) (k : ∀ H', Fr (W1 a) H H' → MmI a kf U ok n H' → HasE kf a w i H' → D.nx σ H') :
    ∃ a' H', V.ref a = .ref a' ∧ DPut H a' y (.int i) H' ∧ D.nx σ H' := by
  obtain ⟨kvs, h1, h2, h3⟩ := hI.ex
  have hl : kvs.length ≤ U.length := by
    have := nodup_le (ys := U.map kf) h2 fun x hx => by
      rw [List.mem_map] at hx
      obtain ⟨q, hq, e⟩ := hx
      obtain ⟨w', i', rfl, hu, _⟩ := h3 q hq
      exact List.mem_map.mpr ⟨w', hu, e⟩
    simpa using this
  have hf := hI.few
  refine ⟨a, _, rfl, .inl ⟨kvs, _, h1, hy, by rw [sizeLine_eq]; omega, rfl⟩, ?_⟩
  refine k _ (Fr.upd (.inl rfl)) ⟨hI.inj, hI.few, _, upd_same, putK_keys.2 h2, fun q hq => ?_⟩ ⟨_, upd_same, valV_putK⟩
  rcases putK_keys.1 q hq with rfl | hq
  · exact ⟨w, i, rfl, hw, ho⟩
  · exact h3 q hq
end
def kW (w : List Bool) : Key := .inr (wS w)
theorem kW_inj (x y : List Bool) (h : kW x = kW y) : x = y := by
  injection h with h
  exact wS_inj h
def wordsTo : Nat → List (List Bool)
  | 0 => [[]]
  | L + 1 => [] :: ((wordsTo L).map (false :: ·) ++ (wordsTo L).map (true :: ·))
theorem mem_wordsTo : ∀ {L : Nat} {w : List Bool}, w.length ≤ L → w ∈ wordsTo L
  | 0, w, h => by
    have : w = [] := List.length_eq_zero_iff.mp (by omega)
    subst this; simp [wordsTo]
  | L + 1, [], _ => by simp [wordsTo]
  | L + 1, b :: w, h => by
    have := mem_wordsTo (L := L) (w := w) (by simpa using h)
    cases b <;> simp [wordsTo, this]
theorem len_wordsTo : ∀ L, (wordsTo L).length = 2 ^ (L + 1) - 1
  | 0 => rfl
  | L + 1 => by
    simp only [wordsTo, List.length_cons, List.length_append, List.length_map, len_wordsTo L]
    have := Nat.one_le_two_pow (n := L + 1)
    rw [Nat.pow_succ 2 (L + 1)]
    omega
theorem few_wordsTo {L : Nat} (h : L ≤ 15) : (wordsTo L).length ≤ 1000000 := by
  rw [len_wordsTo]
  have : 2 ^ (L + 1) ≤ 2 ^ 16 := Nat.pow_le_pow_right (by decide) (by omega)
  omega
end EB
namespace EB
open PySem PySem.Spec PyProof.Rows L2
section
variable {K : PySem.W.Frag} {T W : AS} {I : Nat → Hp → Prop} {σ : L2.St} {H : Hp} {α β γ : Type} {r : Rp α} {s : Rp β} {ta tb te : TE} {c c' : Nat} {φ : α → Prop} {ψ : β → Prop}
/-- a comprehension whose element changes the resource, as a list that is new -/
theorem en_lcF [Mo r] [Mo s] {wi : TI} {g : TG} {vs : List Nat} {xs : List α} {φ : α → β → Prop} (R : Re W I) (hT : TD T H) (hW : ∀ b, W b → T b) (h : EvI K T wi σ H r xs)
    (hs : ∀ (T' : AS) (H' : Hp) (v : V) (x : α), Tr K T H T' H' → TD T' H' → (∀ b, W b → T' b) → x ∈ xs → r K T' H' v x → ∀ Q : L2.St → Hp → Prop, (∀ σ2, wipe σ2 vs = wipe σ vs → EvN K T' W I c te σ2 H' s (φ x) → Q σ2 H') → g v (wipe σ vs) H' Q) :
    ∀ n H1, Fr T H H1 → I (n + xs.length * c) H1 → ∀ Q : VK, (∀ p H2 ys, Fr W H1 H2 → H1 p = none → I n H2 → HM s K (Tp T p) H2 p ys → All2 (fun y x => φ x y) ys xs → Q (.ref p) H2) → tLc wi g tYes te vs σ H1 Q := fun n H1 fr i1 Q q => h H1 fr _ fun J H2 e2 w => by
  intro D hD
  obtain ⟨⟨m, G, Y, hn, wk, hG, hY⟩, hz⟩ := w
  subst hn
  have i2 := R.ex i1 e2
  have hT2 : TD T H2 := (hT.fr fr).ex e2
  have nD : ¬ T D := hT2.new hD
  have nW : ¬ W D := fun z => nD (hW D z)
  refine lc_it wk (fun i H' => Fr W H2 H' ∧ I (n + (xs.length - i) * c) H' ∧ ∃ acc ys, H' D = some (.lst acc) ∧ All2 (s K (Tp T D) H') acc ys ∧ All2 (fun y x => φ x y) ys (xs.take i)) ⟨(Ex.new hD).fr, R.ex i2 (Ex.new hD), [], [], upd_same, .nil, by simp; exact .nil⟩ (fun i H' _ ⟨e, _⟩ => hG H' (e.mono hW)) ?_ ?_
  · intro i v H' H'' hi ⟨e, hI, acc, ys, hacc, hall, hφ⟩ y
    obtain ⟨eY, x, hx, hr⟩ := hY i H' v H'' hi (e.mono hW) y
    have tr2 : Tr K T H2 (Tp T D) H' := (Tr.lift hD).trans (Tr.fr (e.mono fun b hb => .inl (hW b hb)))
    have hTD : TD (Tp T D) H' := (hT2.fr e).tp hacc
    have tr : Tr K T H (Tp T D) H'' := ((Tr.fr (fr.trans e2.fr)).trans tr2).trans (Tr.ex eY)
    refine hs (Tp T D) H'' v x tr (hTD.ex eY) (fun b hb => .inl (hW b hb)) (List.mem_of_getElem? hx) (hr _ hTD tr2) _ fun σ2 hw he => ⟨hw, ?_⟩
    have hlen : acc.length ≤ i := by
      have h1 := all2_len hall
      have h2 := all2_len hφ
      rw [List.length_take] at h2
      omega
    refine tYes_if ?_
    refine he (n + (xs.length - (i + 1)) * c) H'' (Fr.refl _) ?_ _ fun yv H4 d f4 i4 r4 p4 => ⟨acc, f4.keep _ _ nW (eY _ _ hacc), by omega, ?_⟩
    · have e1 : xs.length - i = (xs.length - (i + 1)) + 1 := by omega
      have e2 : n + (xs.length - (i + 1)) * c + c = n + (xs.length - i) * c := by rw [e1, Nat.succ_mul]; omega
      rw [e2]; exact R.ex hI eY
    · have fD : Fr (Tp T D) H4 (upd H4 D (.lst (acc ++ [yv]))) := Fr.upd (.inl (.inr rfl))
      have f4' : Fr (Tp T D) H'' H4 := f4.mono fun b hb => .inl (hW b hb)
      refine ⟨⟨fun b o nb hb => ?_, fun b o hb => ?_⟩, R.st _ H4 _ (fun b wb => upd_ne (fun z => nW (z ▸ wb))) i4, acc ++ [yv], ys ++ [d], upd_same, ?_, ?_⟩
      · rw [upd_ne (ne_of_none hb hD)]
        exact f4.keep _ _ nb (eY _ _ (e.keep b o nb hb))
      · obtain ⟨o1, h1⟩ := e.dom b o hb
        obtain ⟨o2, h2⟩ := f4.dom b o1 (eY _ _ h1)
        exact ⟨o2, by rw [upd_ne (ne_of_none hb hD)]; exact h2⟩
      · exact all2_app (all2_imp (fun _ _ z => Mo.fr fD (Mo.fr f4' (Mo.fr eY.fr z))) hall) (.cons (Mo.fr fD r4) .nil)
      · rw [List.take_add_one, hx]
        exact all2_app hφ (.cons p4 .nil)
  · rintro H' ⟨e, hI, acc, ys, hacc, hall, hφ⟩
    rw [List.take_length] at hφ
    rw [Nat.sub_self, Nat.zero_mul] at hI
    exact q D H' ys (e2.fr.trans e) (e2.back hD) hI ⟨.inr rfl, acc, hacc, hall⟩ hφ
end
end EB
namespace EB
open PySem PySem.Spec PyProof.Rows L2
theorem room_1 {k : Nat} {A : Around} (r : Room k A) : A.units + 1 < cLine := by have := r.un; omega
theorem room_64 {k : Nat} {A : Around} (r : Room k A) : A.units + 64 < cLine := by have := r.un; omega
theorem dni_open {td ty : TE} {σ : L2.St} {H : Hp} {Q : VK} (h : ty σ H fun y H1 => td σ H1 fun x H2 => ∃ a o, x = .ref a ∧ DGet H2 a y o ∧ Q (.bl (!o.isSome)) H2) : tDNotIn ty td σ H Q := h
theorem din_open {td ty : TE} {σ : L2.St} {H : Hp} {Q : VK} (h : ty σ H fun y H1 => td σ H1 fun x H2 => ∃ a o, x = .ref a ∧ DGet H2 a y o ∧ Q (.bl o.isSome) H2) : tDIn ty td σ H Q := h
theorem dget_open {td ty : TE} {σ : L2.St} {H : Hp} {Q : VK} (h : td σ H fun x H1 => ty σ H1 fun y H2 => ∃ a v, x = .ref a ∧ DGet H2 a y (some v) ∧ Q v H2) : tDGet td ty σ H Q := h
theorem dput_open {td ty tv : TE} {σ : L2.St} {H : Hp} {D : Ends} (h : tv σ H fun v H1 => td σ H1 fun x H2 => ty σ H2 fun y H3 => ∃ a H4, x = .ref a ∧ DPut H3 a y v H4 ∧ D.nx σ H4) : sDPut td ty tv D σ H := h
theorem all2_eqmap {α β : Type} {f : β → α} : ∀ {ys : List α} {xs : List β}, All2 (fun y x => y = f x) ys xs → ys = xs.map f
  | _, _, .nil => rfl
  | _, _, .cons r t => by rw [r, all2_eqmap t]; rfl
end EB
namespace EB
open PySem PySem.Spec PyProof.Rows L2
theorem mem_rng {lo x : Int} {n : Nat} (h : x ∈ rng lo n) : lo ≤ x ∧ x < lo + n := by
  unfold rng at h
  rw [List.mem_map] at h
  obtain ⟨i, hi, rfl⟩ := h
  rw [List.mem_range] at hi
  omega
theorem mem_bits {w : List Bool} (h : w ∈ ([[false], [true]] : List (List Bool))) : w.length = 1 := by
  simp only [List.mem_cons, List.not_mem_nil, or_false] at h
  rcases h with rfl | rfl <;> rfl
end EB
namespace EB
open PySem PySem.Spec PyProof.Rows L2
theorem notin_if {H : Hp} {α : Type} {a : Addr} {kf : α → Key} {U : List α} {ok : α → Int → Prop} {n : Nat} {w : α} {y : V} {A B : Prop} (hI : MmI a kf U ok n H) (hy : y = kV (kf w)) (k1 : (∀ kvs, H a = some (.dK kvs) → valV kvs (kf w) = none) → A) (k2 : ∀ i, ok w i → HasE kf a w i H → B) :
    ∃ a' o, V.ref a = .ref a' ∧ DGet H a' y o ∧ ∃ k, V.bl (!o.isSome) = .bl k ∧ if k = true then A else B :=
  notin_v (Q := fun v _ => ∃ k, v = .bl k ∧ if k = true then A else B) hI hy (fun h => ⟨true, rfl, by rw [if_pos rfl]; exact k1 h⟩) (fun i h1 h2 => ⟨false, rfl, by rw [if_neg (by decide)]; exact k2 i h1 h2⟩)
end EB
namespace EB
open PySem PySem.Spec PyProof.Rows L2
theorem foldl_filter {α β : Type} (c : α → Bool) (f : α → β) : ∀ (xs : List α) (s : List β), xs.foldl (fun s x => if c x = true then s ++ [f x] else s) s = s ++ (xs.filter c).map f
  | [], s => by simp
  | x :: xs, s => by
    rw [List.foldl_cons, foldl_filter c f xs, List.filter_cons]
    by_cases h : c x = true
    · rw [if_pos h, if_pos h, List.map_cons, List.append_assoc]; rfl
    · rw [if_neg h, if_neg h]
end EB

set_option Elab.async false
set_option linter.all false
set_option maxRecDepth 100000
set_option maxHeartbeats 4000000
/-! EB: tuple * int; is; objects that are made. -/
namespace EB
open PySem PySem.Spec PyProof.Rows L2
theorem tuple_mul1 (l : Addr) (items : Array Value) (n : Nat) (dd : Option Addr) (sl : Array (Option Value)) (u : Tok) :
    Meets (Builtin.«tuple.__mul__» ⟨[.ref l, .int 1 u], []⟩) (fun _ R s => s.heap.get? l = some { cls := .type "tuple", dict := dd, data := .seq items n, slots := sl } ∧
      R (.ok (.ret (Value.ref l))) s) :=
  .of_wp fun prog w A R s h => by
    obtain ⟨hp, g, d, tk, os⟩ := s
    obtain ⟨hl, h⟩ := h
    have f1 := AutoSeq1.idx_int
    wp_walk using wpAny_loadPart' hl
    exact ⟨_, rfl, h⟩
/-- a tuple times an int from 1 on -/
def rRepC (K : PySem.W.Frag) : R2 := fun x y H Q => ∃ l k xs, x = .ref l ∧ y = .int k ∧ SqT K H l xs ∧ xs ≠ [] ∧ 1 ≤ k ∧ k ≤ 1000 ∧ xs.length ≤ 1000 ∧ ((k = 1 ∧ Q (.ref l) H) ∨ (2 ≤ k ∧ ∀ p, H p = none → Q (.ref p) (upd H p (.tup (List.replicate k.toNat xs).flatten))))
theorem op_repC {X : Cx} {K : PySem.W.Frag} (hK : X.K = K := by rfl) : OpR X (binaryOp .Mult) (rRepC K) := by
  subst hK
  intro pins s σ H x y v u Q I rx ry h
  obtain ⟨l, k, xs, rfl, rfl, hT, hne, h1, h2, hz, q⟩ := h
  rcases q with ⟨rfl, q⟩ | ⟨h3, q⟩
  · cases rx
    obtain ⟨t, rfl⟩ := ry
    obtain ⟨its, r, ⟨⟨cls, dd, data, sl⟩, ho, hc, n, hd⟩, hs⟩ := I.tuple hT
    simp only at hc hd
    subst hc hd
    refine wpAny_binaryOp_repeat_ref (T := "tuple") (U := "int") (by decide) ⟨_, ho, rfl⟩ (fun s' => typeIs_int s' 1 t) noFill_tuple_mul F.fills_int_mul F.slot_int_rmul repeat_tuple F.slot_int_index.lookup
      (call_meets F.slot_int_rmul (typeIs_int s 1 t) F.entry_int_rmul (F.args_int_rmul_2 _ _) (int_rmul_tuple 1 t l its.toArray n dd sl)
        ⟨ho, rfl, ⟨_, ho, rfl⟩, call_meets F.slot_tuple_mul ⟨_, ho, rfl⟩ F.entry_tuple_mul (F.args_tuple_mul_2 _ _) (tuple_mul1 l its.toArray n dd sl t) ⟨ho, ?_⟩⟩)
    exact ⟨.ref l, H, I, rfl, q⟩
  · exact op_repT pins s σ H _ _ v u Q I rx ry ⟨l, k, xs, rfl, rfl, hT, hne, h3, h2, hz, q⟩
section
variable {K : PySem.W.Frag} {T : AS} {σ : L2.St} {H : Hp} {α β γ : Type} {r : Rp α} {s : Rp β} {te ta tb tv : TE} {D : Ends} {i : Nat}
theorem all2_rep {F : V → α → Prop} {vs : List V} {xs : List α} (h : All2 F vs xs) : ∀ n : Nat, All2 F (List.replicate n vs).flatten (List.replicate n xs).flatten
  | 0 => .nil
  | n + 1 => by
    rw [List.replicate_succ, List.replicate_succ, List.flatten_cons, List.flatten_cons]
    exact all2_app h (all2_rep h n)
theorem ev_repU [Mo r] {xs : List α} {k : Int} (hT : TD T H) (ha : Ev K T ta σ H (zU r) xs) (hb : Ev K T tb σ H zI k) (hne : xs ≠ []) (h1 : 1 ≤ k) (h2 : k ≤ 1000) (hl : xs.length ≤ 1000) : Ev K T (tOp (rRepC K) ta tb) σ H (zU r) (List.replicate k.toNat xs).flatten :=
  ev_op ha hb fun x y H1 Q f h3 h4 q => by
    obtain ⟨a, vs, rfl, hs, hh⟩ := h3
    have hlen := all2_len hh
    refine ⟨a, k, vs, rfl, h4, hs.sq, fun z => hne (by rw [z] at hlen; exact List.eq_nil_of_length_eq_zero hlen.symm), h1, h2, by omega, ?_⟩
    by_cases e : k = 1
    · subst e
      refine .inl ⟨rfl, q _ H1 (Ex.refl H1) ⟨a, vs, rfl, hs, ?_⟩⟩
      show All2 (r K T H1) vs (List.replicate 1 xs).flatten
      simp only [List.replicate, List.flatten_cons, List.flatten_nil, List.append_nil]
      exact hh
    · exact .inr ⟨by omega, fun p hp => q _ _ (Ex.new hp) ⟨p, _, rfl, .new ((hT.fr f).new hp) upd_same, all2_imp (fun _ _ z => Mo.fr (Ex.new hp).fr z) (all2_rep hh _)⟩⟩
theorem ev_isB {a b : Bool} (ha : Ev K T ta σ H zB a) (hb : Ev K T tb σ H zB b) : Ev K T (tOp rIsB ta tb) σ H zB (decide (a = b)) :=
  ev_op ha hb fun x y H1 Q _ h1 h2 q => ⟨a, b, h1, h2, q _ H1 (Ex.refl H1) rfl⟩
theorem ev_notB {a b : Bool} (ha : Ev K T ta σ H zB a) (hb : Ev K T tb σ H zB b) : Ev K T (tOp rNotB ta tb) σ H zB (!decide (a = b)) :=
  ev_op ha hb fun x y H1 Q _ h1 h2 q => ⟨a, b, h1, h2, q _ H1 (Ex.refl H1) rfl⟩
/-- x is None, where what is there is told -/
class NN (r : Rp α) : Prop where
  ne : ∀ {K T H v d}, r K T H v d → v ≠ .non
instance : NN zI := ⟨fun h => by cases h; intro z; cases z⟩
instance : NN zB := ⟨fun h => by cases h; intro z; cases z⟩
instance : NN zW := ⟨fun h => by obtain ⟨rfl, _⟩ := h; intro z; cases z⟩
instance : NN (zL r) := ⟨fun h => by obtain ⟨a, vs, rfl, _⟩ := h; intro z; cases z⟩
instance : NN (zU r) := ⟨fun h => by obtain ⟨a, vs, rfl, _⟩ := h; intro z; cases z⟩
instance : NN (zQ r) := ⟨fun h => by rcases h with h | h <;> (obtain ⟨a, vs, rfl, _⟩ := h; intro z; cases z)⟩
instance : NN (zP r s) := ⟨fun h => by obtain ⟨a, x, y, rfl, _⟩ := h; intro z; cases z⟩
theorem ev_isNO [NN r] {o : Option α} (ha : Ev K T ta σ H (zO r) o) : Ev K T (tOp rIsN ta (tC .non)) σ H zB o.isNone := fun H1 f Q q => ha H1 f _ fun v H2 e2 r2 => by
  refine ⟨rfl, ?_⟩
  rcases r2 with ⟨rfl, rfl⟩ | ⟨x, rfl, hx⟩
  · exact q _ H2 e2 rfl
  · rw [decide_eq_false (NN.ne hx)]; exact q _ H2 e2 rfl
theorem ev_notNO [NN r] {o : Option α} (ha : Ev K T ta σ H (zO r) o) : Ev K T (tOp rNotN ta (tC .non)) σ H zB o.isSome := fun H1 f Q q => ha H1 f _ fun v H2 e2 r2 => by
  refine ⟨rfl, ?_⟩
  rcases r2 with ⟨rfl, rfl⟩ | ⟨x, rfl, hx⟩
  · exact q _ H2 e2 rfl
  · rw [decide_eq_false (NN.ne hx)]; exact q _ H2 e2 rfl
/-- what is there, where it is there -/
theorem ev_O {d : α} (ha : Ev K T ta σ H (zO r) (some d)) : Ev K T ta σ H r d := fun H1 f Q q => ha H1 f Q fun v H2 e2 r2 => by
  rcases r2 with ⟨_, h⟩ | ⟨x, h, hx⟩
  · cases h
  · cases h; exact q v H2 e2 hx
/-- self.f = e, of an object that is being made -/
theorem st_fld {x : Addr} {C : Addr} {dx : Addr} {fs : List (Str × V)} {f : Str} {d : α} (h : Ev K T tv σ H r d) (hx : σ[i]? = some (some (.ref x))) (hi : H x = some (.ins C dx fs)) (c : Cls K C) (n : NoAttr K C f) (hl : fs.length < 1000)
    (k : ∀ y H1 H2, Ex H H1 → r K T H1 y d → Fr (fun b => b = x) H1 H2 → H2 x = some (.ins C dx (putF f y fs)) → D.nx σ H2) : sFld K (tVar i) tv f D σ H :=
  h H (Fr.refl H) _ fun y H1 e1 r1 => ⟨.ref x, hx, x, C, dx, fs, rfl, e1 _ _ hi, c, n, hl, k y H1 _ e1 r1 (Fr.upd (.inl rfl)) upd_same⟩
theorem st_fldD {x : Addr} {C : Addr} {dx : Addr} {fs : List (Str × V)} {f : Str} (hx : σ[i]? = some (some (.ref x))) (hi : H x = some (.ins C dx fs)) (c : Cls K C) (n : NoAttr K C f) (hl : fs.length < 1000)
    (k : ∀ kk H1 H2, H kk = none → H1 = upd H kk (.dK []) → Fr (fun b => b = x) H1 H2 → H2 x = some (.ins C dx (putF f (.ref kk) fs)) → D.nx σ H2) : sFld K (tVar i) tDNewK f D σ H := fun kk hk =>
  ⟨.ref x, hx, x, C, dx, fs, rfl, by rw [upd_ne (ne_of_none hi hk)]; exact hi, c, n, hl, k kk _ _ hk rfl (Fr.upd (.inl rfl)) upd_same⟩
end
/-- __init__ of a class whose objects hold one empty table -/
def ISp (K : PySem.W.Frag) {α β : Type} (Cn : Str) (fs : List Str) (ra : Rpl α) (pre : α → Prop) (rf : Rpl β) (Fd : α → Addr → β) : Sp := fun vs H Q _ =>
  ∃ (T : AS) (a : α) (x dx : Addr) (ws : List V), TD (Tp T x) H ∧ ¬ T x ∧ vs = .ref x :: ws ∧ H x = some (.ins (He.ga K Cn) dx []) ∧ ra K (Tp T x) H ws a ∧ pre a ∧
    ∀ H' kk us, Fr (fun b => b = x) H H' → H kk = none → H' kk = some (.dK []) → H' x = some (.ins (He.ga K Cn) dx (fs.zip us)) → rf K (Tp (Tp T x) kk) H' us (Fd a kk) → Q .non H'
theorem make_v {K : PySem.W.Frag} {T : AS} {H : Hp} {α β : Type} {Cn : Str} {fs : List Str} {ra : Rpl α} {pre : α → Prop} {rf : Rpl β} {Fd : α → Addr → β} {a : α} {ws : List V} {Q : Addr → Hp → Prop} {E : XK} [MoL ra] [MoL rf] (hT : TD T H) (hr : ra K T H ws a) (hp : pre a)
    (k : ∀ p kk H2, Ex H H2 → H kk = none → H2 kk = some (.dK []) → zOb Cn fs rf K (Tp T kk) H2 (.ref p) (Fd a kk) → Q p H2) :
    ∀ x dx, H x = none → H dx = none → dx ≠ x → ISp K Cn fs ra pre rf Fd (.ref x :: ws) (upd (upd H dx (.own x)) x (.ins (He.ga K Cn) dx [])) (fun v H2 => v = .non ∧ Q x H2) E := fun x dx hx hd hne => by
  have e1 : Ex H (upd H dx (.own x)) := Ex.new hd
  have hx1 : upd H dx (.own x) x = none := by rw [upd_ne (Ne.symm hne)]; exact hx
  have e2 : Ex (upd H dx (.own x)) (upd (upd H dx (.own x)) x (.ins (He.ga K Cn) dx [])) := Ex.new hx1
  have e := e1.trans e2
  have nx : ¬ T x := hT.new hx
  refine ⟨T, a, x, dx, ws, (hT.ex e).tp upd_same, nx, rfl, upd_same, MoL.fr e.fr (MoL.lift hx hr), hp, fun H' kk us f hk hk' hx' hu => ⟨rfl, ?_⟩⟩
  have hkx : kk ≠ x := fun z => by rw [z, upd_same] at hk; cases hk
  refine k x kk H' ?_ (e.back hk) hk' ⟨x, dx, us, rfl, fun z => z.elim nx (fun z => hkx z.symm), hx', MoL.sub (fun b hb => hb.elim (fun z => .inl (.inl z)) .inr) hu⟩
  exact e.thenFr f (fun b hb => by cases hb; exact hx)
/-- a def with its arguments' form at hand -/
structure OkD (P : Program) (w : World) (K : PySem.W.Frag) (mg : Str → Option Value) (base : Heap) (k : Nat) (x : Str × Option Str) (ps : List Str) (sp : Sp) (n q : Str) (params : Arguments) (body : List Stmt) (scope : Scope) (dvs : List V) (kws : List (Str × V)) : Prop where
  ex : ∃ fd, FnOk P w K mg base CX0 k (He.fAd K x) fd ps sp ∧ FunD K n q params body scope dvs kws (He.fAd K x) fd
theorem mk_okD {P : Program} {w : World} {K : PySem.W.Frag} {mg : Str → Option Value} {base : Heap} {k : Nat} {at_ : Str × Option Str} {x qual : Str} {params : Arguments} {body : List Stmt} {scope : Scope} {dvs : List V} {kws : List (Str × V)} {N ps : List Str} {sp : Sp} {fd : FuncData}
    (F : FunD K x qual params body scope dvs kws (He.fAd K at_) fd) (S : FnScope N ps scope) (len : ∀ vs H Q E, sp vs H Q E → vs.length = ps.length)
    (hbody : ∀ (cdv : Value) (A : Around) (outer : List Env) (s : Shared) (H : Hp) (vs : List V) (Q : VK) (E : XK), Room k (A.deeper (envOfC qual scope s.heap.objs.size (He.fAd K at_) cdv)) → sp vs H Q E →
      ∃ t, PSs (cxOf CX0 P w K mg base N qual scope (He.fAd K at_) cdv A outer s H E).nox body t ∧ t { nx := fun _ H' => Q .non H', rt := Q } (start N vs) H) : OkD P w K mg base (k + 1) at_ ps sp x qual params body scope dvs kws :=
  ⟨fd, F.ok S len fun cdv A outer s H vs Q E hr h => let ⟨t, h1, h2⟩ := hbody cdv A outer s H vs Q E hr h; ⟨t, h1.nox, h2⟩, F⟩
end EB
namespace EB
open PySem PySem.Spec PyProof.Rows L2
theorem vals_app {vs ws : List V} {us zs : List Value} (h : Vals vs us) (g : Vals ws zs) : Vals (vs ++ ws) (us ++ zs) := by
  induction h with
  | nil => exact g
  | cons a _ ih => exact .cons a ih
section
variable {X : Cx} {k j n : Nat} {Cn : Str} {ps ks : List Str} {sp : Sp} {x nm q : Str} {params : Arguments} {body : List Stmt} {scope : Scope} {dkws : List (Str × V)} {p pos : Pos} {e : Expr} {es : List Expr} {kws : List Keyword} {t tk : TA}
/-- C(a, .., k = v, ..): all that __init__ takes is given, in its order -/
theorem pe_mkA (F : OkD X.prog X.w X.K X.mg X.base k (Cn, some "__init__") ps sp nm q params body scope [] dkws) (M : Mk X.K (He.ga X.K Cn) (He.ma X.K (He.ga X.K Cn) "__init__")) (hr : Room j X.A) (hk : k + 1 ≤ j) (hg : Gl X x) (hm : X.mg x = some (.ref (He.ga X.K Cn)))
    (hne : dkws ≠ []) (n : Nat) (ks : List Str)
    (hb : ∀ (D : Addr) (doc pm : Value) (an : Option Addr) (cdv ct : Value) (us ws : List Value), us.length = n + 1 → ws.length = ks.length → bindArgs (PySem.W.fnOf nm q params body scope .none (.ref D) doc pm an cdv ct) ⟨us, ks.zip ws⟩ = pure (ps.zip (us ++ ws)))
    (ha : PA X (e :: es) t) (hkw : PK X kws tk)
    (hall : (backToKw pos (keywordEach kws X.env)).all (·.1.isSome) = true := by rfl) (hks : (backToKw pos (keywordEach kws X.env)).filterMap (·.1) = ks := by rfl) (hdb : (x == ("__debug__" : Str)) = false := by decide)
    (he : starEach (e :: es) X.env = (false, eval e X.env) :: starEach es X.env := by rfl) (hpl : ((backTo pos (starEach (e :: es) X.env)).any (·.1) || (backToKw pos (keywordEach kws X.env)).any (·.1.isNone)) = false := by rfl) :
    PE X (.Call (.Name x p) (e :: es) kws pos) (tMakeK (He.ga X.K Cn) n ks.length sp (fun vs zs => vs ++ zs) E0 t tk) := by
  obtain ⟨fd, f, D⟩ := F.ex
  obtain ⟨mv, hK⟩ := D.kbinds0 (n + 1) ks [] (fun us mv ws => us ++ ws) hne (fun q h => by cases h) (fun a _ b => vals_app a b) (fun D doc pm an cdv ct us mv ws h1 h2 h3 => by
    cases mv with
    | nil => exact hb D doc pm an cdv ct us ws h1 h3
    | cons a l => cases h2)
  exact pe_makeK M f (hr.mono hk) hg hm hK pass0 ha hkw hall hks hdb he hpl
/-- C(a, ..): the keyword-only ones lack -/
theorem pe_mkB (F : OkD X.prog X.w X.K X.mg X.base k (Cn, some "__init__") ps sp nm q params body scope [] dkws) (M : Mk X.K (He.ga X.K Cn) (He.ma X.K (He.ga X.K Cn) "__init__")) (hr : Room j X.A) (hk : k + 1 ≤ j) (hg : Gl X x) (hm : X.mg x = some (.ref (He.ga X.K Cn)))
    (hne : dkws ≠ []) (n : Nat) (hn : n + 1 + dkws.length = ps.length)
    (hb : ∀ (D : Addr) (doc pm : Value) (an : Option Addr) (cdv ct : Value) (us ks : List Value), us.length = n + 1 → ks.length = dkws.length → KwChain D ((dkws.map (·.1)).zip ks) (bindArgs (PySem.W.fnOf nm q params body scope .none (.ref D) doc pm an cdv ct) ⟨us, []⟩) (ps.zip (us ++ ks)))
    (ha : PA X (e :: es) t) (hdb : (x == ("__debug__" : Str)) = false := by decide) (he : starEach (e :: es) X.env = (false, eval e X.env) :: starEach es X.env := by rfl) (hpl : (backTo pos (starEach es X.env)).any (·.1) = false := by rfl) :
    PE X (.Call (.Name x p) (e :: es) [] pos) (tMake (He.ga X.K Cn) sp (dkws.map (·.2)) E0 t) := by
  obtain ⟨fd, f, D⟩ := F.ex
  obtain ⟨ds, hd, hB⟩ := D.binds0 (n + 1) hne hn hb
  exact pe_make M f (hr.mono hk) hg hm hB hd pass0 ha hdb he hpl
end
end EB
namespace EB
open PySem PySem.Spec PyProof.Rows L2
theorem all2_reverse {α β : Type} {F : α → β → Prop} {xs : List α} {ys : List β} (h : All2 F xs ys) : All2 F xs.reverse ys.reverse := by
  induction h with
  | nil => exact .nil
  | cons a _ ih => rw [List.reverse_cons, List.reverse_cons]; exact all2_app ih (.cons a .nil)
section
variable {K : PySem.W.Frag} {T S : AS} {σ : L2.St} {H : Hp} {α : Type} {r : Rp α} {xs : List α} {p : Addr} {i : Nat} {D : Ends}
theorem st_reverse [Mo r] (hv : σ[i]? = some (some (.ref p))) (m : HM r K T H p xs) (k : ∀ H2 v, H2 = upd H p v → Fr (Tp S p) H H2 → Fr T H H2 → HM r K T H2 p xs.reverse → D.nx σ H2) : tDrop (tBM0 K "list" rReverse (tVar i)) D σ H := by
  obtain ⟨vs, h1, h2⟩ := m.ex
  have f : Fr T H (upd H p (.lst vs.reverse)) := Fr.upd (.inl m.mem)
  exact ⟨.ref p, hv, .inl ⟨rfl, vs, .inl (.inl h1)⟩, p, vs, rfl, rfl, h1, k _ _ rfl (Fr.upd (.inl (.inr rfl))) f ⟨m.mem, _, upd_same, all2_imp (fun _ _ z => Mo.fr f z) (all2_reverse h2)⟩⟩
end
/-- a new tape is made -/
def TSp (K : PySem.W.Frag) : Sp := fun vs H Q _ => ∃ (T : AS) (v : V) (ns : List Int), TD T H ∧ vs = [v] ∧ zL zI K T H v ns ∧ ns.length ≤ 63 ∧ ∀ ta tg H', Ex H H' → H ta = none → H tg = none → TpI (ta, tg) 1000000000 H' → Q (.ref ta) H'
theorem ab_nn (i : Int) : 0 ≤ ab i := by unfold ab; split <;> omega
end EB
namespace EB
open PySem PySem.Spec PyProof.Rows L2
/-- what holds no list is the same where lists may change -/
class Li {α : Type} (r : Rp α) : Prop where
  up : ∀ {K T T1 H v a}, (∀ b, T b → T1 b ∨ ∃ xs, H b = some (.lst xs)) → r K T1 H v a → r K T H v a
class LiL {α : Type} (r : Rpl α) : Prop where
  up : ∀ {K T T1 H v a}, (∀ b, T b → T1 b ∨ ∃ xs, H b = some (.lst xs)) → r K T1 H v a → r K T H v a
instance : Li zI := ⟨fun _ h => h⟩
instance : Li zB := ⟨fun _ h => h⟩
instance : Li zW := ⟨fun _ h => h⟩
instance : Li zN := ⟨fun _ h => h⟩
instance : Li zA := ⟨fun _ h => h⟩
instance {α : Type} {r : Rp α} [Li r] : Li (zU r) := ⟨fun {K T T1 H v d} f h => by
  obtain ⟨a, vs, e, hs, hh⟩ := h
  refine ⟨a, vs, e, ?_, all2_imp (fun _ _ z => Li.up f z) hh⟩
  rcases hs with ⟨n, h⟩ | h
  · refine .inl ⟨fun t => ?_, h⟩
    rcases f a t with z | ⟨xs, z⟩
    · exact n z
    · rcases h with h | ⟨o, h⟩
      · rw [z] at h; cases h
      · rw [z] at h; cases h
  · exact .inr h⟩
instance : LiL aN := ⟨fun _ h => h⟩
instance {α β : Type} {r : Rp α} {s : Rpl β} [Li r] [LiL s] : LiL (aC r s) := ⟨fun f ⟨v, ws, e, h, q⟩ => ⟨v, ws, e, Li.up f h, LiL.up f q⟩⟩
instance {Cn : Str} {fs : List Str} {α : Type} {ra : Rpl α} [LiL ra] : Li (zOb Cn fs ra) := ⟨fun {K T T1 H v d} f h => by
  obtain ⟨p, dx, vs, e, n, h, q⟩ := h
  refine ⟨p, dx, vs, e, fun t => ?_, h, LiL.up f q⟩
  rcases f p t with z | ⟨xs, z⟩
  · exact n z
  · rw [z] at h; cases h⟩
section
variable {K : PySem.W.Frag} {T : AS} {σ : L2.St} {H : Hp} {α β γ δ : Type} {r : Rp α} {s : Rp β} {t : Rp γ} {te : TE} {tr : TA} {Q : VK} {v : V} {E : XK}
theorem ev_hmL [Mo r] {p : Addr} {xs : List α} (h : Ev K T te σ H zA p) (m : zL r K T H (.ref p) xs) : Ev K T te σ H (zL r) xs := fun H1 f Q q => h H1 f Q fun v H2 e r2 => by
  cases r2; exact q _ H2 e (Mo.fr (f.trans e.fr) m)
theorem ev_hA30 {d : Addr × Addr × Addr × Unit} (h : Ev K T te σ H (zH (aC zA (aC zA (aC zA aN)))) d) : Ev K T (tOp (rIxL K) te (tC (.int 0))) σ H zA d.1 := ev_ixH h ev_int fun H1 vs hr => by
  obtain ⟨_, _, rfl, h1, _, _, rfl, h2, _, _, rfl, h3, rfl⟩ := hr
  exact ⟨_, rfl, h1⟩
theorem ev_hA31 {d : Addr × Addr × Addr × Unit} (h : Ev K T te σ H (zH (aC zA (aC zA (aC zA aN)))) d) : Ev K T (tOp (rIxL K) te (tC (.int 1))) σ H zA d.2.1 := ev_ixH h ev_int fun H1 vs hr => by
  obtain ⟨_, _, rfl, h1, _, _, rfl, h2, _, _, rfl, h3, rfl⟩ := hr
  exact ⟨_, rfl, h2⟩
theorem ev_hA32 {d : Addr × Addr × Addr × Unit} (h : Ev K T te σ H (zH (aC zA (aC zA (aC zA aN)))) d) : Ev K T (tOp (rIxL K) te (tC (.int 2))) σ H zA d.2.2.1 := ev_ixH h ev_int fun H1 vs hr => by
  obtain ⟨_, _, rfl, h1, _, _, rfl, h2, _, _, rfl, h3, rfl⟩ := hr
  exact ⟨_, rfl, h3⟩
theorem up3 {p q u : Addr} {x : List α} {y : List β} {z : List γ} (h : zH (aC zA (aC zA (aC zA aN))) K T H v (p, q, u, ())) (m0 : zL r K T H (.ref p) x) (m1 : zL s K T H (.ref q) y) (m2 : zL t K T H (.ref u) z) : zH (aC (zL r) (aC (zL s) (aC (zL t) aN))) K T H v (x, y, z, ()) := by
  obtain ⟨a, vs, e, hs, _, _, rfl, h1, _, _, rfl, h2, _, _, rfl, h3, rfl⟩ := h
  cases h1; cases h2; cases h3
  exact ⟨a, _, e, hs, _, _, rfl, m0, _, _, rfl, m1, _, _, rfl, m2, rfl⟩
theorem ev_lstH {ra : Rpl α} [MoL ra] {d : α} (hT : TD T H) (h : EvA K T tr σ H ra d) (hl : ∀ H vs, ra K T H vs d → vs.length ≤ 1000) : Ev K T (tLst tr) σ H (zH ra) d := fun H1 f Q q => h H1 f _ fun vs H2 e2 r2 =>
  ⟨by have := hl H2 vs r2; rw [sizeLine_eq]; omega, fun p hp => q _ _ (e2.trans (Ex.new hp)) ⟨p, vs, rfl, .new (((hT.fr f).ex e2).new hp) upd_same, MoL.fr (Ex.new hp).fr r2⟩⟩
theorem tape_v {ns : List Int} (hT : TD T H) (hr : zL zI K T H v ns) (hl : ns.length ≤ 63) (k : ∀ ta tg H', Ex H H' → H ta = none → H tg = none → TpI (ta, tg) 1000000000 H' → Q (.ref ta) H') : TSp K ([v] ++ []) H Q E := ⟨T, v, ns, hT, rfl, hr, hl, k⟩
theorem mkK_open {C : Addr} {n m : Nat} {sp : Sp} {gV : List V → List V → List V} {t tk : TA} (h : t σ H fun vs H1 => tk σ H1 fun zs H2 => vs.length = n ∧ zs.length = m ∧ ∀ x dx, H2 x = none → H2 dx = none → dx ≠ x → sp (gV (.ref x :: vs) zs) (upd (upd H2 dx (.own x)) x (.ins C dx [])) (fun v H3 => v = .non ∧ Q (.ref x) H3) E) : tMakeK C n m sp gV E t tk σ H Q := h
theorem mk_open {C : Addr} {sp : Sp} {dvs : List V} {t : TA} (h : t σ H fun vs H1 => ∀ x dx, H1 x = none → H1 dx = none → dx ≠ x → sp (.ref x :: (vs ++ dvs)) (upd (upd H1 dx (.own x)) x (.ins C dx [])) (fun v H2 => v = .non ∧ Q (.ref x) H2) E) : tMake C sp dvs E t σ H Q := h
end
theorem memo_new {α : Type} {a : Addr} {kf : α → Key} {U : List α} {ok : α → Int → Prop} {n : Nat} {H : Hp} (h : H a = some (.dK [])) (inj : ∀ x y, kf x = kf y → x = y) (few : U.length ≤ 1000000) : MmI a kf U ok n H :=
  ⟨inj, few, [], h, List.nodup_nil, fun q hq => by cases hq⟩
end EB

set_option Elab.async false
set_option linter.all false
set_option maxRecDepth 100000
set_option maxHeartbeats 4000000
/-! EB, second layer: what is known is packed; mirrors that may have no answer. -/
namespace EB
open PySem PySem.Spec PyProof.Rows L2

/-! ### facts, cells -/
structure Fact (K : PySem.W.Frag) where
  P : AS → Hp → Prop
  st : ∀ {T H T' H'}, Wd T H T' H' → P T H → P T' H'
@[reducible] def fR {K : PySem.W.Frag} {α : Type} (r : Rp α) [Mo r] (v : V) (d : α) : Fact K := ⟨fun T H => r K T H v d, fun w h => Mo.wd w h⟩
@[reducible] def fL {K : PySem.W.Frag} {α : Type} (r : Rpl α) [MoL r] (v : List V) (d : α) : Fact K := ⟨fun T H => r K T H v d, fun w h => MoL.wd w h⟩
structure Cel (K : PySem.W.Frag) where
  own : List Addr
  P : AS → Hp → Prop
  st : ∀ {T H T' H'}, Wd T H T' H' → (∀ a ∈ own, H' a = H a) → P T H → P T' H'
/-- a list of ours -/
@[reducible] def cL {K : PySem.W.Frag} {α : Type} (r : Rp α) [Mo r] (p : Addr) (xs : List α) : Cel K :=
  ⟨[p], fun T H => ∃ vs, H p = some (.lst vs) ∧ All2 (r K T H) vs xs, fun w h ⟨vs, h1, h2⟩ => ⟨vs, by rw [h p (by simp)]; exact h1, all2_imp (fun _ _ z => Mo.wd w z) h2⟩⟩
/-- an object of ours, as it stands -/
@[reducible] def cV {K : PySem.W.Frag} (p : Addr) (o : HO) : Cel K := ⟨[p], fun _ H => H p = some o, fun _ h h1 => by rw [h p (by simp)]; exact h1⟩
/-- two in one -/
@[reducible] def cM {K : PySem.W.Frag} (c d : Cel K) : Cel K := ⟨c.own ++ d.own, fun T H => c.P T H ∧ d.P T H, fun w h q => ⟨c.st w (fun a ha => h a (List.mem_append_left _ ha)) q.1, d.st w (fun a ha => h a (List.mem_append_right _ ha)) q.2⟩⟩
structure Bs where
  T : AS
  W : List Addr
  H : Hp
def owns {K : PySem.W.Frag} (cs : List (Cel K)) : List Addr := (cs.map (·.own)).flatten
structure En (K : PySem.W.Frag) (b : Bs) (fs : List (Fact K)) (cs : List (Cel K)) (T : AS) (H : Hp) : Prop where
  btd : TD b.T b.H
  sup : ∀ a, b.T a → T a
  td : TD T H
  wd : Wd b.T b.H T H
  fr : Fr (fun a => a ∈ b.W) b.H H
  fac : ∀ (k : Nat) (f : Fact K), fs[k]? = some f → f.P T H
  cel : ∀ c ∈ cs, c.P T H ∧ ∀ a ∈ c.own, T a ∧ (a ∈ b.W ∨ b.H a = none)
  dis : (owns cs).Nodup
section
variable {K : PySem.W.Frag} {b : Bs} {fs : List (Fact K)} {cs : List (Cel K)} {T T' : AS} {H H' : Hp} {α β γ : Type} {r : Rp α} {s : Rp β}
theorem En.at (E : En K b fs cs T H) {f : Fact K} (k : Nat) (h : fs[k]? = some f) : f.P T H := E.fac k f h
theorem En.c (E : En K b fs cs T H) {c : Cel K} (k : Nat) (h : cs[k]? = some c) : c.P T H := (E.cel c (List.mem_of_getElem? h)).1
theorem En.ex (E : En K b fs cs T H) (e : Ex H H') : En K b fs cs T H' where
  btd := E.btd
  sup := E.sup
  td := E.td.ex e
  wd := E.wd.trans (Wd.ex e)
  fr := E.fr.trans e.fr
  fac k f h := f.st (Wd.ex e) (E.fac k f h)
  cel c h := ⟨c.st (Wd.ex e) (fun a ha => by
    obtain ⟨o, ho⟩ := E.td a ((E.cel c h).2 a ha).1
    rw [ho, e a o ho]) (E.cel c h).1, (E.cel c h).2⟩
  dis := E.dis
theorem En.add {f : Fact K} (E : En K b fs cs T H) (h : f.P T H) : En K b (f :: fs) cs T H where
  btd := E.btd
  sup := E.sup
  td := E.td
  wd := E.wd
  fr := E.fr
  fac k f' h' := by
    cases k with
    | zero => cases h'; exact h
    | succ k => exact E.fac k f' (by simpa using h')
  cel := E.cel
  dis := E.dis
/-- other facts, fewer cells -/
def Fcs {K : PySem.W.Frag} (T : AS) (H : Hp) : List (Fact K) → Prop
  | [] => True
  | f :: r => f.P T H ∧ Fcs T H r
theorem Fcs.get {T : AS} {H : Hp} : ∀ {fs : List (Fact K)}, Fcs T H fs → ∀ (k : Nat) (f : Fact K), fs[k]? = some f → f.P T H
  | [], _, k, f, e => by simp at e
  | f :: r, h, 0, g, e => by simp at e; subst e; exact h.1
  | f :: r, h, k + 1, g, e => Fcs.get h.2 k g (by simpa using e)
theorem En.facts {fs' : List (Fact K)} (E : En K b fs cs T H) (h : Fcs T H fs') : En K b fs' cs T H := ⟨E.btd, E.sup, E.td, E.wd, E.fr, h.get, E.cel, E.dis⟩
theorem sub_flat {α : Type} {l l' : List (List α)} (h : l.Sublist l') : l.flatten.Sublist l'.flatten := by
  induction h with
  | slnil => exact List.Sublist.refl _
  | cons a _ ih => rw [List.flatten_cons]; exact ih.trans (List.sublist_append_right _ _)
  | cons_cons a _ ih => rw [List.flatten_cons, List.flatten_cons]; exact List.Sublist.append (List.Sublist.refl _) ih
theorem En.cells {cs' : List (Cel K)} (E : En K b fs cs T H) (h : cs'.Sublist cs) : En K b fs cs' T H :=
  ⟨E.btd, E.sup, E.td, E.wd, E.fr, E.fac, fun c hc => E.cel c (h.subset hc), (sub_flat (h.map (fun c : Cel K => c.own))).nodup (show ((cs.map fun c : Cel K => c.own).flatten).Nodup from E.dis)⟩
/-- runs -/
theorem En.run [Mo r] {te : TE} {σ : L2.St} {d : α} {Q : VK} (E : En K b fs cs T H) (h : Ev K T te σ H r d) (k : ∀ v H', En K b (fR r v d :: fs) cs T H' → Q v H') : te σ H Q :=
  h H (Fr.refl H) Q fun v H' e q => k v H' ((E.ex e).add q)
theorem En.runA {ra : Rpl α} [MoL ra] {tr : TA} {σ : L2.St} {d : α} {Q : List V → Hp → Prop} (E : En K b fs cs T H) (h : EvA K T tr σ H ra d) (k : ∀ v H', En K b (fL ra v d :: fs) cs T H' → Q v H') : tr σ H Q :=
  h H (Fr.refl H) Q fun v H' e q => k v H' ((E.ex e).add q)
theorem En.test {tt : TT} {σ : L2.St} {d : Bool} {Q : Bool → Hp → Prop} (E : En K b fs cs T H) (h : EvT T tt σ H d) (k : ∀ H', En K b fs cs T H' → Q d H') : tt σ H Q :=
  h H (Fr.refl H) Q fun H' e => k H' (E.ex e)
/-- a new cell -/
theorem En.newc {c : Cel K} {T' : AS} (E : En K b fs cs T H) (w : Wd T H T' H') (e : Ex H H') (sub : ∀ b, T b → T' b) (td : TD T' H') (hc : c.P T' H') (ho : ∀ a ∈ c.own, H a = none ∧ T' a) (hn : c.own.Nodup) : En K b fs (c :: cs) T' H' where
  btd := E.btd
  sup := fun a h => sub a (E.sup a h)
  td := td
  wd := E.wd.trans w
  fr := E.fr.trans e.fr
  fac k f h := f.st w (E.fac k f h)
  cel c' h := by
    rcases List.mem_cons.mp h with rfl | h
    · exact ⟨hc, fun a ha => ⟨(ho a ha).2, .inr (E.fr.back (ho a ha).1)⟩⟩
    · refine ⟨c'.st w (fun a ha => ?_) (E.cel c' h).1, fun a ha => ⟨sub a ((E.cel c' h).2 a ha).1, ((E.cel c' h).2 a ha).2⟩⟩
      obtain ⟨o, ho⟩ := E.td a ((E.cel c' h).2 a ha).1
      rw [ho, e a o ho]
  dis := by
    unfold owns
    rw [List.map_cons, List.flatten_cons, List.nodup_append]
    refine ⟨hn, E.dis, fun a ha x hx z => ?_⟩
    subst z
    rw [List.mem_flatten] at hx
    obtain ⟨l, hl, hal⟩ := hx
    rw [List.mem_map] at hl
    obtain ⟨c', hc', rfl⟩ := hl
    obtain ⟨o, h1⟩ := E.td a ((E.cel c' hc').2 a hal).1
    rw [(ho a ha).1] at h1
    cases h1
theorem En.newL [Mo r] {te : TE} {σ : L2.St} {xs : List α} {Q : VK} (E : En K b fs cs T H) (h : EvF K T te σ H r xs) (k : ∀ p H', En K b (fR zA (.ref p) p :: fs) (cL r p xs :: cs) (Tp T p) H' → Q (.ref p) H') : te σ H Q :=
  h H (Fr.refl H) Q fun p H2 H3 e2 n f e3 m => by
    have E2 := E.ex e2
    obtain ⟨vs, h1, h2⟩ := m.ex
    refine k p H3 (En.add (E2.newc (c := cL r p xs) (T' := Tp T p) ⟨e3.fr, fun b t => t.elim .inl fun z => .inr (z ▸ n)⟩ e3 (fun b h => .inl h) ((E2.td.ex e3).tp h1) ⟨vs, h1, h2⟩ (fun a ha => ?_) (by simp)) rfl)
    simp only [List.mem_singleton] at ha
    subst ha
    exact ⟨n, .inr rfl⟩
/-- a cell changes -/
theorem nd_mem {cs : List (Cel K)} {k : Nat} {c c' : Cel K} {a : Addr} (hd : (cs.map (·.own)).flatten.Nodup) (h : cs[k]? = some c) {j : Nat} (h' : cs[j]? = some c') (ha : a ∈ c.own) (ha' : a ∈ c'.own) : k = j := by
  induction cs generalizing k j with
  | nil => simp at h
  | cons x cs ih =>
    rw [List.map_cons, List.flatten_cons, List.nodup_append] at hd
    obtain ⟨_, h2, h3⟩ := hd
    have key : ∀ {i : Nat} {d : Cel K}, cs[i]? = some d → a ∈ d.own → a ∈ (cs.map (·.own)).flatten := fun {i d} hi hd => List.mem_flatten.mpr ⟨d.own, List.mem_map.mpr ⟨d, List.mem_of_getElem? hi, rfl⟩, hd⟩
    cases k with
    | zero =>
      simp at h
      subst h
      cases j with
      | zero => rfl
      | succ j => exact absurd rfl (h3 a ha a (key (by simpa using h') ha'))
    | succ k =>
      cases j with
      | zero =>
        simp at h'
        subst h'
        exact absurd rfl (h3 a ha' a (key (by simpa using h) ha))
      | succ j => exact congrArg (· + 1) (ih h2 (by simpa using h) (by simpa using h'))
theorem own_set {cs : List (Cel K)} {k : Nat} {c c' : Cel K} (h : cs[k]? = some c) (ho : c'.own = c.own) : (cs.set k c').map (·.own) = cs.map (·.own) := by
  induction cs generalizing k with
  | nil => rfl
  | cons x cs ih =>
    cases k with
    | zero => simp at h; subst h; simp [ho]
    | succ k => simp only [List.set_cons_succ, List.map_cons]; rw [ih (by simpa using h)]
theorem En.chg {c c' : Cel K} (E : En K b fs cs T H) (k : Nat) (hk : cs[k]? = some c) (f : Fr (fun a => a ∈ c.own) H H') (hc : c'.P T H') (ho : c'.own = c.own) : En K b fs (cs.set k c') T H' := by
  have hcel := (E.cel c (List.mem_of_getElem? hk)).2
  have fT : Fr T H H' := f.mono fun a ha => (hcel a ha).1
  refine ⟨E.btd, E.sup, E.td.fr f, E.wd.trans (Wd.of fT), E.fr.thenFr f (fun a ha => (hcel a ha).2), fun j g h => g.st (Wd.of fT) (E.fac j g h), fun d hd => ?_, by unfold owns; rw [own_set hk ho]; exact E.dis⟩
  obtain ⟨j, hj⟩ := List.mem_iff_getElem?.mp hd
  rw [List.getElem?_set] at hj
  by_cases hne : k = j
  · rw [if_pos hne] at hj
    split at hj
    · cases hj
      exact ⟨hc, fun a ha => hcel a (ho ▸ ha)⟩
    · cases hj
  · rw [if_neg hne] at hj
    have hm := List.mem_of_getElem? hj
    refine ⟨d.st (Wd.of fT) (fun a ha => ?_) (E.cel d hm).1, (E.cel d hm).2⟩
    obtain ⟨o, h1⟩ := E.td a ((E.cel d hm).2 a ha).1
    rw [h1]
    exact f.keep a o (fun z => hne (nd_mem E.dis hk hj z ha)) h1
/-- as it stands: nothing changes but the way it is told -/
theorem En.retell {c c' : Cel K} (E : En K b fs cs T H) (k : Nat) (hk : cs[k]? = some c) (hc : c.P T H → c'.P T H) (ho : c'.own = c.own) : En K b fs (cs.set k c') T H :=
  E.chg k hk (Fr.refl H) (hc (E.c k hk)) ho
/-- one cell is two -/
theorem En.split {c d : Cel K} (E : En K b fs (cM c d :: cs) T H) : En K b fs (c :: d :: cs) T H := by
  have h := E.cel (cM c d) List.mem_cons_self
  refine ⟨E.btd, E.sup, E.td, E.wd, E.fr, E.fac, fun x hx => ?_, ?_⟩
  · rcases List.mem_cons.mp hx with rfl | hx
    · exact ⟨h.1.1, fun a ha => h.2 a (List.mem_append_left _ ha)⟩
    · rcases List.mem_cons.mp hx with rfl | hx
      · exact ⟨h.1.2, fun a ha => h.2 a (List.mem_append_right _ ha)⟩
      · exact E.cel x (List.mem_cons_of_mem _ hx)
  · have := E.dis
    simp only [owns, List.map_cons, List.flatten_cons, List.append_assoc] at this ⊢
    exact this
theorem En.merge {c d : Cel K} (E : En K b fs (c :: d :: cs) T H) : En K b fs (cM c d :: cs) T H := by
  have h := E.cel c List.mem_cons_self
  have h' := E.cel d (List.mem_cons_of_mem _ List.mem_cons_self)
  refine ⟨E.btd, E.sup, E.td, E.wd, E.fr, E.fac, fun x hx => ?_, ?_⟩
  · rcases List.mem_cons.mp hx with rfl | hx
    · exact ⟨⟨h.1, h'.1⟩, fun a ha => (List.mem_append.mp ha).elim (h.2 a) (h'.2 a)⟩
    · exact E.cel x (List.mem_cons_of_mem _ (List.mem_cons_of_mem _ hx))
  · have := E.dis
    simp only [owns, List.map_cons, List.flatten_cons, List.append_assoc] at this ⊢
    exact this
/-- a cell comes to the front -/
theorem erase_perm {α : Type} : ∀ {cs : List α} {k : Nat} {c : α}, cs[k]? = some c → (c :: cs.eraseIdx k).Perm cs
  | [], _, _, h => by simp at h
  | x :: cs, 0, c, h => by simp at h; subst h; exact List.Perm.refl _
  | x :: cs, k + 1, c, h => by
    have := erase_perm (cs := cs) (k := k) (c := c) (by simpa using h)
    exact (List.Perm.swap x c _).trans (this.cons x)
theorem En.front {c : Cel K} (E : En K b fs cs T H) (k : Nat) (hk : cs[k]? = some c) : En K b fs (c :: cs.eraseIdx k) T H := by
  have hp : (c :: cs.eraseIdx k).Perm cs := erase_perm hk
  refine ⟨E.btd, E.sup, E.td, E.wd, E.fr, E.fac, fun x hx => E.cel x (hp.subset hx), ?_⟩
  exact (hp.map _).flatten.nodup_iff.mpr E.dis
/-- a list is done -/
def Td (T : AS) (p : Addr) : AS := fun b => T b ∧ b ≠ p
theorem En.freeze [Mo r] {p : Addr} {xs : List α} (E : En K b fs (cL r p xs :: cs) T H) (hW : ∀ a ∈ b.W, a ∈ owns cs) : En K b (fR (zL r) (.ref p) xs :: fs) cs (Td T p) H := by
  have w : Wd T H (Td T p) H := Wd.sub fun _ h => h.1
  obtain ⟨⟨vs, h1, h2⟩, h3⟩ := E.cel _ List.mem_cons_self
  have hd := E.dis
  unfold owns at hd
  rw [List.map_cons, List.flatten_cons, List.nodup_append] at hd
  have hp : ¬ b.T p := fun z => by
    rcases (h3 p (by simp)).2 with h | h
    · exact hd.2.2 p (by simp) p (hW p h) rfl
    · obtain ⟨o, ho⟩ := E.btd p z
      rw [ho] at h; cases h
  refine En.add ⟨E.btd, fun a h => ⟨E.sup a h, fun z => hp (z ▸ h)⟩, E.td.sub fun _ h => h.1, E.wd.trans w, E.fr, fun k g h => g.st w (E.fac k g h), fun c hc => ?_, hd.2.1⟩ ?_
  · have hc' := E.cel c (List.mem_cons_of_mem _ hc)
    refine ⟨c.st w (fun _ _ => rfl) hc'.1, fun a ha => ⟨⟨(hc'.2 a ha).1, fun z => ?_⟩, (hc'.2 a ha).2⟩⟩
    subst z
    exact hd.2.2 a (by simp) a (List.mem_flatten.mpr ⟨c.own, List.mem_map.mpr ⟨c, hc, rfl⟩, ha⟩) rfl
  · exact ⟨p, vs, rfl, .new (fun z => z.2 rfl) h1, all2_imp (fun _ _ z => Mo.wd w z) h2⟩
/-- bases -/
theorem mem_owns {c : Cel K} {a : Addr} (hc : c ∈ cs) (ha : a ∈ c.own) : a ∈ owns cs := List.mem_flatten.mpr ⟨c.own, List.mem_map.mpr ⟨c, hc, rfl⟩, ha⟩
theorem owns_mem {a : Addr} (h : a ∈ owns cs) : ∃ c ∈ cs, a ∈ c.own := by
  obtain ⟨l, hl, ha⟩ := List.mem_flatten.mp h
  obtain ⟨c, hc, rfl⟩ := List.mem_map.mp hl
  exact ⟨c, hc, ha⟩
theorem En.rebase (E : En K b fs cs T H) : En K ⟨T, owns cs, H⟩ fs cs T H :=
  ⟨E.td, fun _ h => h, E.td, Wd.refl, Fr.refl H, E.fac, fun c hc => ⟨(E.cel c hc).1, fun a ha => ⟨((E.cel c hc).2 a ha).1, .inl (mem_owns hc ha)⟩⟩, E.dis⟩
theorem En.back {fs' : List (Fact K)} {cs' : List (Cel K)} (E : En K b fs cs T H) (E' : En K ⟨T, owns cs, H⟩ fs' cs' T' H') : En K b fs' cs' T' H' :=
  ⟨E.btd, fun a h => E'.sup a (E.sup a h), E'.td, E.wd.trans E'.wd, E.fr.thenFr E'.fr (fun a h => let ⟨c, hc, ha⟩ := owns_mem h; ((E.cel c hc).2 a ha).2), E'.fac, fun c hc => ⟨(E'.cel c hc).1, fun a ha => ⟨((E'.cel c hc).2 a ha).1, by
    rcases ((E'.cel c hc).2 a ha).2 with h | h
    · obtain ⟨c1, h1, h2⟩ := owns_mem h
      exact ((E.cel c1 h1).2 a h2).2
    · exact .inr (E.fr.back h)⟩⟩, E'.dis⟩
/-- where a def begins, where it hands back -/
theorem En.start {T : AS} {H : Hp} {fs : List (Fact K)} (td : TD T H) (h : Fcs T H fs) : En K ⟨T, [], H⟩ fs [] T H :=
  ⟨td, fun _ h => h, td, Wd.refl, Fr.refl H, h.get, fun c hc => (by cases hc), (by simp [owns])⟩
theorem En.start1 {T : AS} {H : Hp} {fs : List (Fact K)} {c : Cel K} (td : TD T H) (h : Fcs T H fs) (hc : c.P T H) (ho : ∀ a ∈ c.own, T a) (hn : c.own.Nodup) : En K ⟨T, c.own, H⟩ fs [c] T H :=
  ⟨td, fun _ h => h, td, Wd.refl, Fr.refl H, h.get, fun c' hc' => by rw [List.mem_singleton] at hc'; subst hc'; exact ⟨hc, fun a ha => ⟨ho a ha, .inl ha⟩⟩, by simpa [owns] using hn⟩
theorem En.isEx {T0 : AS} {H0 : Hp} (E : En K ⟨T0, [], H0⟩ fs cs T H) : Ex H0 H := E.fr.ex fun _ h => by cases h
theorem En.out {v : V} {d : α} [Mo r] (E : En K b fs cs T H) (h : r K T H v d) : r K b.T H v d := Mo.wd (Wd.sub E.sup) h
theorem En.outc {c : Cel K} (E : En K b fs cs T H) (k : Nat) (h : cs[k]? = some c) : c.P b.T H := c.st (Wd.sub E.sup) (fun _ _ => rfl) (E.c k h)
end
end EB

set_option Elab.async false
set_option linter.all false
set_option maxRecDepth 100000
set_option maxHeartbeats 4000000
/-! EB, second layer: promises whose mirrors may have no answer; loops; lists of ours. -/
namespace EB
open PySem PySem.Spec PyProof.Rows L2

/-! ### answers that may be lacking -/
theorem bnd {α β : Type} {o : Option α} {f : α → Option β} {r : β} (h : o.bind f = some r) : ∃ a, o = some a ∧ f a = some r := by
  cases o with
  | none => cases h
  | some a => exact ⟨a, rfl, h⟩
def grd (c : Prop) [Decidable c] : Option Unit := if c then some () else none
theorem grd_ok {c : Prop} [Decidable c] {u : Unit} (h : grd c = some u) : c := by
  unfold grd at h
  split at h
  · assumption
  · cases h
theorem grd_some {c : Prop} [Decidable c] (h : c) : grd c = some () := if_pos h
def forO {α ρ S : Type} (f : S → α → Option (Out ρ S)) : S → List α → Option (Out ρ S)
  | s, [] => some (.nx s)
  | s, x :: xs => (f s x).bind fun o => match o with
    | .nx s' => forO f s' xs
    | .brk s' => some (.nx s')
    | .ret r => some (.ret r)
def forP {α S : Type} (f : S → α → Option S) : S → List α → Option S
  | s, [] => some s
  | s, x :: xs => (f s x).bind fun s' => forP f s' xs
def mapO {α β : Type} (f : α → Option β) : List α → Option (List β)
  | [] => some []
  | x :: xs => (f x).bind fun y => (mapO f xs).bind fun ys => some (y :: ys)
def mapS {α β S : Type} (f : S → α → Option (β × S)) : S → List α → Option (List β × S)
  | s, [] => some ([], s)
  | s, x :: xs => (f s x).bind fun p => (mapS f p.2 xs).bind fun q => some (p.1 :: q.1, q.2)
theorem mapO_mem {α β : Type} {f : α → Option β} : ∀ {xs : List α} {ys : List β}, mapO f xs = some ys → xs.map f = ys.map some
  | [], ys, h => by cases h; rfl
  | x :: xs, ys, h => by
    obtain ⟨y, h1, h⟩ := bnd h
    obtain ⟨zs, h2, h⟩ := bnd h
    cases h
    rw [List.map_cons, List.map_cons, h1, mapO_mem h2]
theorem mapO_get {α β : Type} {f : α → Option β} {xs : List α} {ys : List β} (h : mapO f xs = some ys) {x : α} (hx : x ∈ xs) : ∃ y, f x = some y := by
  have : f x ∈ xs.map f := List.mem_map.mpr ⟨x, hx, rfl⟩
  rw [mapO_mem h] at this
  obtain ⟨y, _, e⟩ := List.mem_map.mp this
  exact ⟨y, e.symm⟩
theorem mapS_take {α β S : Type} {f : S → α → Option (β × S)} : ∀ {xs : List α} {s s1 : S} {ys : List β}, mapS f s xs = some (ys, s1) → ∀ i, i < xs.length → ∃ s' y s'' x, xs[i]? = some x ∧ mapS f s (xs.take i) = some (ys.take i, s') ∧ f s' x = some (y, s'') ∧ mapS f s (xs.take (i + 1)) = some (ys.take (i + 1), s'') ∧ ys.take (i + 1) = ys.take i ++ [y]
  | [], s, s1, ys, h, i, hi => by simp at hi
  | x :: xs, s, s1, ys, h, i, hi => by
    obtain ⟨⟨y, s2⟩, h1, h⟩ := bnd h
    obtain ⟨⟨zs, s3⟩, h2, h⟩ := bnd h
    cases h
    cases i with
    | zero => exact ⟨s, y, s2, x, rfl, rfl, h1, by simp [mapS, h1], rfl⟩
    | succ i =>
      obtain ⟨s', y', s'', x', e1, e2, e3, e4, e5⟩ := mapS_take h2 i (by simpa using hi)
      refine ⟨s', y', s'', x', by simpa using e1, ?_, e3, ?_, ?_⟩
      · simp only [List.take_succ_cons, mapS]; rw [h1]; simp only [Option.bind_some]; rw [e2]; rfl
      · simp only [List.take_succ_cons, mapS]; rw [h1]; simp only [Option.bind_some]; rw [e4]; rfl
      · simp only [List.take_succ_cons, List.cons_append]; rw [e5]
theorem mapS_len {α β S : Type} {f : S → α → Option (β × S)} : ∀ {xs : List α} {s s1 : S} {ys : List β}, mapS f s xs = some (ys, s1) → ys.length = xs.length
  | [], s, s1, ys, h => by cases h; rfl
  | x :: xs, s, s1, ys, h => by
    obtain ⟨⟨y, s2⟩, h1, h⟩ := bnd h
    obtain ⟨⟨zs, s3⟩, h2, h⟩ := bnd h
    cases h
    simp [mapS_len h2]

/-! ### promises -/
def FSp (K : PySem.W.Frag) {α β : Type} (ra : Rpl α) (r : Rp β) (m : α → Option β) : Sp := fun vs H Q _ =>
  ∃ (T : AS) (a : α) (d : β), TD T H ∧ ra K T H vs a ∧ m a = some d ∧ ∀ v H', Ex H H' → r K T H' v d → Q v H'
def GSp (K : PySem.W.Frag) {α S β : Type} (ra : Rpl α) (c : α → S → Cel K) (r : Rp β) (m : α → S → Option (β × S)) : Sp := fun vs H Q _ =>
  ∃ (T : AS) (a : α) (s : S) (d : β) (s' : S), TD T H ∧ ra K T H vs a ∧ (c a s).P T H ∧ (∀ x ∈ (c a s).own, T x) ∧ (c a s).own.Nodup ∧ m a s = some (d, s') ∧
    ∀ v H', Fr (fun x => x ∈ (c a s).own) H H' → (c a s').P T H' → r K T H' v d → Q v H'
/-- a promise of something new that is ours to change -/
def NewSp (K : PySem.W.Frag) {α ι S : Type} (ra : Rpl α) (c : ι → S → Cel K) (rv : ι → V) (m : α → Option S) : Sp := fun vs H Q _ =>
  ∃ (T : AS) (a : α) (s : S), TD T H ∧ ra K T H vs a ∧ m a = some s ∧ ∀ i H', Ex H H' → (c i s).own.Nodup → (∀ x ∈ (c i s).own, H x = none ∧ ∃ o, H' x = some o) → (c i s).P (fun b => T b ∨ b ∈ (c i s).own) H' → Q (rv i) H'
theorem FSp_len {K : PySem.W.Frag} {α β : Type} {ra : Rpl α} {r : Rp β} {m : α → Option β} {n : Nat} (h : ∀ K T H vs a, ra K T H vs a → vs.length = n) : ∀ vs H Q E, FSp K ra r m vs H Q E → vs.length = n := fun vs H Q E ⟨T, a, _, _, hr, _⟩ => h K T H vs a hr
theorem GSp_len {K : PySem.W.Frag} {α S β : Type} {ra : Rpl α} {c : α → S → Cel K} {r : Rp β} {m : α → S → Option (β × S)} {n : Nat} (h : ∀ K T H vs a, ra K T H vs a → vs.length = n) : ∀ vs H Q E, GSp K ra c r m vs H Q E → vs.length = n := fun vs H Q E ⟨T, a, _, _, _, _, hr, _⟩ => h K T H vs a hr
theorem NewSp_len {K : PySem.W.Frag} {α ι S : Type} {ra : Rpl α} {c : ι → S → Cel K} {rv : ι → V} {m : α → Option S} {n : Nat} (h : ∀ K T H vs a, ra K T H vs a → vs.length = n) : ∀ vs H Q E, NewSp K ra c rv m vs H Q E → vs.length = n := fun vs H Q E ⟨T, a, _, _, hr, _⟩ => h K T H vs a hr
section
variable {K : PySem.W.Frag} {b : Bs} {fs : List (Fact K)} {cs : List (Cel K)} {T T' : AS} {H H' : Hp} {σ : L2.St} {α β γ S ι ρ : Type} {r : Rp α} {s : Rp β} {tr : TA} {te ta tb : TE} {E' : XK} {Q : VK} {D : Ends}
theorem ev_callO {ra : Rpl β} {m : β → Option α} {a : β} {d : α} (hT : TD T H) (h : EvA K T tr σ H ra a) (hm : m a = some d) : Ev K T (tCall (FSp K ra r m) [] E' tr) σ H r d := fun H1 g Q q =>
  h H1 g _ fun vs H2 e2 r2 => by
    show FSp K ra r m (vs ++ []) H2 Q E'
    rw [List.append_nil]
    exact ⟨T, a, d, (hT.fr g).ex e2, r2, hm, fun v H3 e3 r3 => q v H3 (e2.trans e3) r3⟩
theorem ev_methO {Cn : Str} {fn : List Str} {ra : Rpl β} {rb : Rpl γ} {m : β × γ → Option α} {a : β} {g : γ} {d : α} {mn : Str} [MoL ra] (hT : TD T H) (hm : mn ∉ fn) (h : Ev K T ta σ H (zOb Cn fn ra) a) (h2 : EvA K T tr σ H rb g) (he : m (a, g) = some d) :
    Ev K T (tMeth (He.ga K Cn) mn (FSp K (aC (zOb Cn fn ra) rb) r m) [] E' ta tr) σ H r d := fun H1 g' Q q => h H1 g' _ fun v H2 e2 r2 => by
  obtain ⟨p, dx, vs, ev, ht, hh, hr⟩ := r2
  refine ⟨p, dx, _, ev, hh, lookup_zip_none hm, ?_⟩
  refine h2 H2 (g'.trans e2.fr) _ fun ws H3 e3 r3 => ?_
  show FSp K (aC (zOb Cn fn ra) rb) r m (v :: (ws ++ [])) H3 Q E'
  rw [List.append_nil]
  exact ⟨T, (a, g), d, (hT.fr g').ex (e2.trans e3), ⟨v, ws, rfl, ⟨p, dx, vs, ev, ht, e3 _ _ hh, MoL.fr e3.fr hr⟩, r3⟩, he, fun v' H4 e4 r4 => q v' H4 ((e2.trans e3).trans e4) r4⟩
theorem En.gcall {ra : Rpl β} [Mo r] {c : β → S → Cel K} {m : β → S → Option (α × S)} {a : β} {s0 s1 : S} {d : α} (E : En K b fs cs T H) (h : EvA K T tr σ H ra a) (k : Nat) (hk : cs[k]? = some (c a s0)) (hm : m a s0 = some (d, s1)) (ho : (c a s1).own = (c a s0).own)
    (q : ∀ v H', En K b (fR r v d :: fs) (cs.set k (c a s1)) T H' → Q v H') : tCall (GSp K ra c r m) [] E' tr σ H Q :=
  h H (Fr.refl H) _ fun vs H2 e2 r2 => by
    show GSp K ra c r m (vs ++ []) H2 Q E'
    rw [List.append_nil]
    have E2 := E.ex e2
    have hc := E2.cel _ (List.mem_of_getElem? hk)
    refine ⟨T, a, s0, d, s1, E2.td, r2, hc.1, fun x hx => (hc.2 x hx).1, ?_, hm, fun v H3 f3 c3 r3 => q v H3 ((E2.chg k hk f3 c3 ho).add r3)⟩
    have hd := E2.dis
    obtain ⟨l1, l2, rfl⟩ := List.append_of_mem (List.mem_of_getElem? hk)
    simp only [owns, List.map_append, List.map_cons, List.flatten_append, List.flatten_cons] at hd
    exact (List.nodup_append.mp (List.nodup_append.mp hd).2.1).1
theorem En.newcall {ra : Rpl β} {c : ι → S → Cel K} {rv : ι → V} {m : β → Option S} {a : β} {s0 : S} (E : En K b fs cs T H) (h : EvA K T tr σ H ra a) (hm : m a = some s0)
    (q : ∀ i H', En K b fs (c i s0 :: cs) (fun b => T b ∨ b ∈ (c i s0).own) H' → Q (rv i) H') : tCall (NewSp K ra c rv m) [] E' tr σ H Q :=
  h H (Fr.refl H) _ fun vs H2 e2 r2 => by
    show NewSp K ra c rv m (vs ++ []) H2 Q E'
    rw [List.append_nil]
    have E2 := E.ex e2
    exact ⟨T, a, s0, E2.td, r2, hm, fun i H3 e3 hn hx hc => q i H3 (E2.newc (H' := H3) ⟨e3.fr, fun b t => t.elim .inl fun z => .inr (hx b z).1⟩ e3 (fun b h => .inl h) (fun b t => t.elim (E2.td.ex e3 b) fun z => (hx b z).2) hc (fun x hx' => ⟨(hx x hx').1, .inr hx'⟩) hn)⟩
/-! ### tests and choices whose parts may lack an answer -/
theorem ev_andO {c d : Bool} {m : Option Bool} (h1 : Ev K T ta σ H zB c) (h2 : c = true → ∀ x, m = some x → Ev K T tb σ H zB x) (hm : (if c = true then m else some false) = some d) : Ev K T (tAndV ta tb) σ H zB d := by
  cases c with
  | true =>
    rw [if_pos rfl] at hm
    have := ev_andV h1 (b := d) fun _ => h2 rfl d hm
    simpa using this
  | false =>
    rw [if_neg (by decide)] at hm
    cases hm
    have := ev_andV (tb := tb) h1 (b := false) fun z => by cases z
    simpa using this
theorem ev_orO {c d : Bool} {m : Option Bool} (h1 : Ev K T ta σ H zB c) (h2 : c = false → ∀ x, m = some x → Ev K T tb σ H zB x) (hm : (if c = true then some true else m) = some d) : Ev K T (tOrV ta tb) σ H zB d := by
  cases c with
  | false =>
    rw [if_neg (by decide)] at hm
    have := ev_orV h1 (b := d) fun _ => h2 rfl d hm
    simpa using this
  | true =>
    rw [if_pos rfl] at hm
    cases hm
    have := ev_orV (tb := tb) h1 (b := true) fun z => by cases z
    simpa using this
theorem et_andO {t u : TT} {c d : Bool} {m : Option Bool} (h1 : EvT T t σ H c) (h2 : c = true → ∀ x, m = some x → EvT T u σ H x) (hm : (if c = true then m else some false) = some d) : EvT T (tAnd t u) σ H d := by
  cases c with
  | true =>
    rw [if_pos rfl] at hm
    have := et_and h1 (b := d) fun _ => h2 rfl d hm
    simpa using this
  | false =>
    rw [if_neg (by decide)] at hm
    cases hm
    have := et_and (u := u) h1 (b := false) fun z => by cases z
    simpa using this
theorem et_orO {t u : TT} {c d : Bool} {m : Option Bool} (h1 : EvT T t σ H c) (h2 : c = false → ∀ x, m = some x → EvT T u σ H x) (hm : (if c = true then some true else m) = some d) : EvT T (tOr t u) σ H d := by
  cases c with
  | false =>
    rw [if_neg (by decide)] at hm
    have := et_or h1 (b := d) fun _ => h2 rfl d hm
    simpa using this
  | true =>
    rw [if_pos rfl] at hm
    cases hm
    have := et_or (u := u) h1 (b := true) fun z => by cases z
    simpa using this
theorem ev_iteO {t : TT} {c : Bool} {d : α} {m1 m2 : Option α} (h : EvT T t σ H c) (h1 : c = true → ∀ x, m1 = some x → Ev K T ta σ H r x) (h2 : c = false → ∀ x, m2 = some x → Ev K T tb σ H r x) (hm : (if c = true then m1 else m2) = some d) : Ev K T (tIf t ta tb) σ H r d := by
  cases c with
  | true => exact ev_if h (fun z => h1 z d (by simpa using hm)) (fun z => by cases z)
  | false => exact ev_if h (fun z => by cases z) (fun z => h2 z d (by simpa using hm))
/-! ### comprehensions -/
def zSm (s : Rp β) : Rp (Option β) := fun K T H v o => ∃ d, o = some d ∧ s K T H v d
instance [Mo s] : Mo (zSm s) := ⟨fun w ⟨d, e, h⟩ => ⟨d, e, Mo.wd w h⟩⟩
theorem all2_sm {vs : List V} {ys : List β} (h : All2 (zSm s K T H) vs (ys.map some)) : All2 (s K T H) vs ys := by
  induction ys generalizing vs with
  | nil => cases h; exact .nil
  | cons y ys ih =>
    rw [List.map_cons] at h
    cases h with
    | cons r t =>
      obtain ⟨d, e, h⟩ := r
      cases e
      exact .cons h (ih t)
theorem ev_lcO [Mo r] [Mo s] {wi : TI} {g : TG} {tt : TT} {vs : List Nat} {xs : List α} {p : α → Bool} {f : α → Option β} {ys : List β} (hT : TD T H) (h : EvI K T wi σ H r xs) (hm : mapO f (xs.filter p) = some ys)
    (hs : ∀ (T' : AS) (H' : Hp) (v : V) (x : α), Tr K T H T' H' → TD T' H' → x ∈ xs → r K T' H' v x → ∀ Q : L2.St → Hp → Prop, (∀ σ2, wipe σ2 vs = wipe σ vs → EvT T' tt σ2 H' (p x) → (p x = true → ∀ y, f x = some y → Ev K T' te σ2 H' s y) → Q σ2 H') → g v (wipe σ vs) H' Q) :
    Ev K T (tLc wi g tt te vs) σ H (zL s) ys := by
  have h1 := ev_lc (K := K) (s := zSm s) (f := f) (p := p) (te := te) (tt := tt) hT h fun T' H' v x tr hT' hx hr Q q => hs T' H' v x tr hT' hx hr Q fun σ2 hw ht he => q σ2 hw ht fun hp => by
    obtain ⟨y, hy⟩ := mapO_get hm (List.mem_filter.mpr ⟨hx, hp⟩)
    rw [hy]
    exact fun H1 f1 Q1 q1 => he hp y hy H1 f1 Q1 fun v' H2 e2 r2 => q1 v' H2 e2 ⟨y, rfl, r2⟩
  intro H1 f1 Q1 q1
  refine h1 H1 f1 Q1 fun v H2 e2 ⟨a, ws, e, hs', hh⟩ => q1 v H2 e2 ⟨a, ws, e, hs', ?_⟩
  rw [mapO_mem hm] at hh
  exact all2_sm hh
theorem ev_lcO1 [Mo r] [Mo s] {wi : TI} {g : TG} {vs : List Nat} {xs : List α} {f : α → Option β} {ys : List β} (hT : TD T H) (h : EvI K T wi σ H r xs) (hm : mapO f xs = some ys)
    (hs : ∀ (T' : AS) (H' : Hp) (v : V) (x : α), Tr K T H T' H' → TD T' H' → x ∈ xs → r K T' H' v x → ∀ Q : L2.St → Hp → Prop, (∀ σ2, wipe σ2 vs = wipe σ vs → (∀ y, f x = some y → Ev K T' te σ2 H' s y) → Q σ2 H') → g v (wipe σ vs) H' Q) :
    Ev K T (tLc wi g tYes te vs) σ H (zL s) ys :=
  ev_lcO (p := fun _ => true) hT h (by rw [List.filter_eq_self.mpr (fun _ _ => rfl)]; exact hm) fun T' H' v x tr hT' hx hr Q q => hs T' H' v x tr hT' hx hr Q fun σ2 hw he => q σ2 hw et_yes fun _ => he
/-- one whose element changes cells: Cs tells the cells -/
theorem En.lc [Mo r] [Mo s] {wi : TI} {g : TG} {vs : List Nat} {xs : List α} {f : S → α → Option (β × S)} {Cs : S → List (Cel K)} {s0 s1 : S} {ys : List β} (hown : ∀ s, owns (Cs s) = owns (Cs s0)) (E : En K b fs (Cs s0) T H) (h : EvI K T wi σ H r xs) (hm : mapS f s0 xs = some (ys, s1))
    (hs : ∀ (b' : Bs) (T' : AS) (H' : Hp) (v : V) (x : α) (sx sy : S) (y : β), x ∈ xs → Wd T H T' H' → r K T' H' v x → En K b' (fR r v x :: fs) (Cs sx) T' H' → (∀ a, a ∈ b'.W ↔ a ∈ owns (Cs sx)) → f sx x = some (y, sy) → ∀ Q : L2.St → Hp → Prop, (∀ σ2, wipe σ2 vs = wipe σ vs → (∀ Qe : VK, (∀ v' fs' T'' H'', En K b' (fR s v' y :: fs') (Cs sy) T'' H'' → Qe v' H'') → te σ2 H' Qe) → Q σ2 H') → g v (wipe σ vs) H' Q)
    (q : ∀ p H', En K b (fR zA (.ref p) p :: fs) (cL s p ys :: Cs s1) (Tp T p) H' → Q (.ref p) H') : tLc wi g tYes te vs σ H Q := by
  refine h H (Fr.refl H) _ fun J H2 e2 w => ?_
  intro D hD
  obtain ⟨⟨n, G, Y, hn, wk, hG, hY⟩, hz⟩ := w
  subst hn
  have E2 := E.ex e2
  have nD : ¬ T D := E2.td.new hD
  -- the list that is made is a cell of its own
  have E3 : En K b (fR zA (.ref D) D :: fs) (cL s D [] :: Cs s0) (Tp T D) (upd H2 D (.lst [])) :=
    En.add (E2.newc (c := cL s D []) (Wd.new hD) (Ex.new hD) (fun _ h => .inl h) ((E2.td.ex (Ex.new hD)).tp upd_same) ⟨[], upd_same, .nil⟩ (fun a ha => by simp only [List.mem_singleton] at ha; subst ha; exact ⟨hD, .inr rfl⟩) (by simp)) rfl
  have hlen := mapS_len hm
  refine lc_it wk (fun i H' => ∃ si, mapS f s0 (xs.take i) = some (ys.take i, si) ∧ En K b (fR zA (.ref D) D :: fs) (cL s D (ys.take i) :: Cs si) (Tp T D) H' ∧ Fr T H2 H') ⟨s0, rfl, by simpa using E3, (Ex.new hD).fr⟩ (fun i H' _ ⟨_, _, _, f⟩ => hG H' f) ?_ ?_
  · intro i v H' H'' hi ⟨si, hsi, Ei, fi⟩ y
    obtain ⟨eY, x, hx, hr⟩ := hY i H' v H'' hi fi y
    obtain ⟨sx, yv, sy, x', hx', e1, e2', e3, e4⟩ := mapS_take hm i hi
    rw [hx] at hx'; cases hx'
    rw [hsi] at e1; cases e1
    have Ei2 := Ei.ex eY
    -- within: the cells without the list
    have hcel := Ei2.cel
    have hd := Ei2.dis
    simp only [owns, List.map_cons, List.flatten_cons] at hd
    have w2 : Wd T H2 (Tp T D) H' := ⟨fi, fun a t => t.elim .inl fun z => .inr (z ▸ hD)⟩
    have rx := hr (Tp T D) Ei.td (Tr.wd w2)
    have Eb : En K ⟨Tp T D, owns (Cs si), H''⟩ (fR r v x :: fs) (Cs si) (Tp T D) H'' := by
      refine En.add ⟨Ei2.td, fun _ h => h, Ei2.td, Wd.refl, Fr.refl _, fun k g hk => Ei2.fac (k + 1) g (by simpa using hk), fun c hc => ⟨(hcel c (List.mem_cons_of_mem _ hc)).1, fun a ha => ⟨((hcel c (List.mem_cons_of_mem _ hc)).2 a ha).1, .inl (mem_owns hc ha)⟩⟩, (List.nodup_append.mp hd).2.1⟩ rx
    have hDn : D ∉ owns (Cs si) := fun z => (List.nodup_append.mp hd).2.2 D (by simp) D z rfl
    refine hs _ _ _ v x si sy yv (List.mem_of_getElem? hx) (((Wd.ex e2).trans w2).trans (Wd.ex eY)) rx Eb (fun a => Iff.rfl) e2' _ fun σ2 hw he => ⟨hw, tYes_if ?_⟩
    refine he _ fun v' fs' T'' H4 E4 => ?_
    obtain ⟨⟨acc, hacc, hall⟩, _⟩ := hcel _ List.mem_cons_self
    have hkeep : H4 D = some (.lst acc) := E4.fr.keep D _ hDn hacc
    have hl : acc.length = i := by rw [all2_len hall, List.length_take, hlen]; omega
    refine ⟨acc, hkeep, by omega, sy, e3, ?_, ?_⟩
    · -- all of it after the store
      have f4 : Fr (fun a => a ∈ owns (Cs si)) H'' H4 := E4.fr
      have w4 : Wd (Tp T D) H'' (Tp T D) H4 := Wd.of (f4.mono fun a ha => by
        obtain ⟨c, hc, hac⟩ := owns_mem ha
        exact ((hcel c (List.mem_cons_of_mem _ hc)).2 a hac).1)
      have fD : Fr (fun a => a = D) H4 (upd H4 D (.lst (acc ++ [v']))) := Fr.upd (.inl rfl)
      have wD : Wd (Tp T D) H4 (Tp T D) (upd H4 D (.lst (acc ++ [v']))) := Wd.of (fD.mono fun a ha => .inr ha)
      have ry : s K (Tp T D) H4 v' yv := E4.out (E4.at 0 rfl)
      refine ⟨Ei2.btd, Ei2.sup, (Ei2.td.fr w4.fr).fr wD.fr, (Ei2.wd.trans w4).trans wD, ?_, fun k g hk => g.st (w4.trans wD) (Ei2.fac k g hk), fun c hc => ?_, ?_⟩
      · refine Fr.thenFr (Fr.thenFr Ei2.fr f4 fun a ha => ?_) fD fun a ha => ?_
        · obtain ⟨c, hc, hac⟩ := owns_mem ha
          exact ((hcel c (List.mem_cons_of_mem _ hc)).2 a hac).2
        · subst ha
          exact ((hcel _ List.mem_cons_self).2 a (by simp)).2
      · rcases List.mem_cons.mp hc with rfl | hc
        · refine ⟨⟨_, upd_same, ?_⟩, (hcel (cL s D (ys.take i)) List.mem_cons_self).2⟩
          rw [e4]
          exact all2_app (all2_imp (fun _ _ z => Mo.wd (w4.trans wD) z) hall) (.cons (Mo.wd wD ry) .nil)
        · have hc4 := E4.cel c hc
          have hP : c.P (Tp T D) H4 := c.st (Wd.sub E4.sup) (fun _ _ => rfl) hc4.1
          have hin : ∀ a ∈ c.own, a ∈ owns (Cs si) := fun a ha => by rw [hown si, ← hown sy]; exact mem_owns hc ha
          refine ⟨c.st wD (fun a ha => upd_ne (fun z => hDn (z ▸ hin a ha))) hP, fun a ha => ?_⟩
          obtain ⟨c1, h1, h2⟩ := owns_mem (hin a ha)
          exact (hcel c1 (List.mem_cons_of_mem _ h1)).2 a h2
      · simp only [owns, List.map_cons, List.flatten_cons, List.nodup_append]
        refine ⟨by simp, E4.dis, fun a ha x hx z => ?_⟩
        subst z
        simp only [List.mem_singleton] at ha
        subst ha
        refine hDn ?_
        rw [hown si, ← hown sy]
        exact hx
    · refine Fr.thenFr (Fr.thenFr (fi.trans eY.fr) E4.fr fun a ha => .inl ?_) (Fr.upd (T := fun a => a = D) (.inl rfl)) fun a ha => .inr (ha ▸ hD)
      obtain ⟨c1, h1, h2⟩ := owns_mem ha
      rcases ((hcel c1 (List.mem_cons_of_mem _ h1)).2 a h2).1 with h | h
      · exact h
      · exact absurd (h ▸ ha) hDn
  · rintro H' ⟨si, hsi, Ei, fi⟩
    rw [List.take_length] at hsi
    rw [hm] at hsi
    have h1 : ys = ys.take xs.length := by rw [← hlen, List.take_length]
    injection hsi with h2
    injection h2 with h3 h4
    subst h4
    rw [← h1] at Ei
    exact q D H' Ei
theorem mapS_of {f : α → Option β} : ∀ {xs : List α} {ys : List β}, mapO f xs = some ys → mapS (fun (_ : Unit) x => (f x).map fun y => (y, ())) () xs = some (ys, ())
  | [], ys, h => by cases h; rfl
  | x :: xs, ys, h => by
    obtain ⟨y, h1, h⟩ := bnd h
    obtain ⟨zs, h2, h⟩ := bnd h
    cases h
    show ((f x).map _).bind _ = _
    rw [h1]
    show (mapS _ () xs).bind _ = _
    rw [mapS_of h2]
    rfl
/-- a list that is new, by a comprehension that changes nothing -/
theorem En.lcP [Mo r] [Mo s] {wi : TI} {g : TG} {vs : List Nat} {xs : List α} {f : α → Option β} {ys : List β} (E : En K b fs cs T H) (h : EvI K T wi σ H r xs) (hm : mapO f xs = some ys)
    (hs : ∀ (T' : AS) (H' : Hp) (v : V) (x : α), Tr K T H T' H' → TD T' H' → x ∈ xs → r K T' H' v x → ∀ Q : L2.St → Hp → Prop, (∀ σ2, wipe σ2 vs = wipe σ vs → (∀ y, f x = some y → Ev K T' te σ2 H' s y) → Q σ2 H') → g v (wipe σ vs) H' Q)
    (q : ∀ p H', En K b (fR zA (.ref p) p :: fs) (cL s p ys :: cs) (Tp T p) H' → Q (.ref p) H') : tLc wi g tYes te vs σ H Q :=
  En.lc (s := s) (Cs := fun (_ : Unit) => cs) (fun _ => rfl) E h (mapS_of hm) (fun b' T' H' v x sx sy y hx w rx E' _ hf Q1 q1 => hs T' H' v x (Tr.wd w) E'.td hx rx Q1 fun σ2 hw he => q1 σ2 hw fun Qe hQe => by
    cases hy : f x with
    | none => rw [hy] at hf; cases hf
    | some z =>
      rw [hy] at hf
      cases hf
      exact he y hy H' (Fr.refl H') Qe fun v' H'' e r' => hQe v' _ T' H'' ((E'.ex e).add r')) q
/-! ### loops -/
theorem forO_take {f : S → α → Option (Out ρ S)} : ∀ {xs : List α} {s0 : S} {o : Out ρ S} {i : Nat} {x : α} {si : S}, forO f s0 xs = some o → xs[i]? = some x → forO f s0 (xs.take i) = some (.nx si) → (∀ j, j < i → ∀ y sj, xs[j]? = some y → forO f s0 (xs.take j) = some (.nx sj) → ∃ sk, f sj y = some (.nx sk)) → ∃ o', f si x = some o' ∧ (∀ sj, o' = .nx sj → forO f s0 (xs.take (i + 1)) = some (.nx sj)) ∧ (∀ sj, o' = .brk sj → o = .nx sj) ∧ (∀ q, o' = .ret q → o = .ret q)
  | [], s0, o, i, x, si, h, hx, _, _ => by simp at hx
  | y :: xs, s0, o, 0, x, si, h, hx, h1, _ => by
    simp at hx; subst hx
    cases h1
    obtain ⟨o', e1, e2⟩ := bnd h
    refine ⟨o', e1, fun sj ej => ?_, fun sj ej => ?_, fun q ej => ?_⟩
    · subst ej
      simp [forO, e1]
    · subst ej
      cases e2; rfl
    · subst ej
      cases e2; rfl
  | y :: xs, s0, o, i + 1, x, si, h, hx, h1, hp => by
    obtain ⟨o1, e1, e2⟩ := bnd h
    obtain ⟨sk, hk⟩ := hp 0 (by omega) y s0 rfl rfl
    rw [e1] at hk
    cases hk
    rw [List.take_succ_cons] at h1
    have h1' : forO f sk (xs.take i) = some (.nx si) := by
      have : forO f s0 (y :: xs.take i) = forO f sk (xs.take i) := by
        show (f s0 y).bind _ = _
        rw [e1]; rfl
      rw [← this]; exact h1
    obtain ⟨o', q1, q2, q3, q4⟩ := forO_take (xs := xs) (s0 := sk) (o := o) (i := i) (x := x) (si := si) e2 (by simpa using hx) h1' fun j hj z sj hz hzj => by
      refine hp (j + 1) (by omega) z sj (by simpa using hz) ?_
      rw [List.take_succ_cons]
      show (f s0 y).bind _ = _
      rw [e1]; exact hzj
    refine ⟨o', q1, fun sj ej => ?_, q3, q4⟩
    rw [List.take_succ_cons]
    show (f s0 y).bind _ = _
    rw [e1]; exact q2 sj ej
/-- for; I tells what holds between two turns, for a base, the state, what may change, slots and heap -/
theorem En.for_ [Mo r] {wi : TI} {g : TG} {tb : TS} {xs : List α} {f : S → α → Option (Out ρ S)} {s0 : S} {o : Out ρ S} (I : Bs → S → AS → L2.St → Hp → Prop)
    (E : En K b fs cs T H) (h : EvI K T wi σ H r xs) (hm : forO f s0 xs = some o)
    (h0 : ∀ H2, En K ⟨T, owns cs, H2⟩ fs cs T H2 → I ⟨T, owns cs, H2⟩ s0 T σ H2)
    (hI : ∀ b' sx T' σ' H', I b' sx T' σ' H' → Wd b'.T b'.H T' H' ∧ TD T' H')
    (step : ∀ Hb (E2 : En K b fs cs T Hb) sx x o' T' σ' H' H'' v (D' : Ends), x ∈ xs → I ⟨T, owns cs, Hb⟩ sx T' σ' H' → Ex H' H'' → r K T' H'' v x → f sx x = some o' → D'.rt = D.rt → (∀ q, o' = .ret q → o = .ret q) →
      (∀ sy T2 σ2 H2, o' = .nx sy → I ⟨T, owns cs, Hb⟩ sy T2 σ2 H2 → D'.nx σ2 H2 ∧ D'.ct σ2 H2) → (∀ sy T2 σ2 H2, o' = .brk sy → I ⟨T, owns cs, Hb⟩ sy T2 σ2 H2 → D'.bk σ2 H2) → g v σ' H'' fun σ3 H3 => tb D' σ3 H3)
    (k : ∀ H2 sx T' σ' H', En K b fs cs T H2 → o = .nx sx → I ⟨T, owns cs, H2⟩ sx T' σ' H' → D.nx σ' H') : tFor wi g tb D σ H := by
  refine h H (Fr.refl H) _ fun J H2 e2 w => ?_
  obtain ⟨⟨n, G, Y, hn, wk, hG, hY⟩, hz⟩ := w
  subst hn
  have E2 := E.ex e2
  -- within turn i the turns ahead went on
  refine for_it wk (fun i σ' H' => ∃ sx T', forO f s0 (xs.take i) = some (.nx sx) ∧ (∀ j, j < i → ∀ y sj, xs[j]? = some y → forO f s0 (xs.take j) = some (.nx sj) → ∃ sk, f sj y = some (.nx sk)) ∧ I ⟨T, owns cs, H2⟩ sx T' σ' H') ⟨s0, T, rfl, fun j hj => by omega, h0 H2 E2.rebase⟩ (fun i σ' H' _ ⟨_, _, _, _, q⟩ => hG H' (hI _ _ _ _ _ q).1.fr) ?_ ?_
  · rintro i v σ' H' H'' hi ⟨sx, T', e1, e3, q⟩ y
    have hw := hI _ _ _ _ _ q
    obtain ⟨eY, x, hx, hr⟩ := hY i H' v H'' hi hw.1.fr y
    obtain ⟨o', q1, q2, q3, q4⟩ := forO_take hm hx e1 e3
    refine step H2 E2 sx x o' T' σ' H' H'' v _ (List.mem_of_getElem? hx) q eY (hr T' hw.2 (Tr.wd hw.1)) q1 rfl q4 (fun sy T2 σ2 H3 ho I2 => ?_) (fun sy T2 σ2 H3 ho I2 => ?_)
    · have hq : ∃ sx T', forO f s0 (xs.take (i + 1)) = some (.nx sx) ∧ (∀ j, j < i + 1 → ∀ y sj, xs[j]? = some y → forO f s0 (xs.take j) = some (.nx sj) → ∃ sk, f sj y = some (.nx sk)) ∧ I ⟨T, owns cs, H2⟩ sx T' σ2 H3 := by
        refine ⟨sy, T2, q2 sy ho, fun j hj z sj hz hzj => ?_, I2⟩
        rcases Nat.lt_or_ge j i with hji | hji
        · exact e3 j hji z sj hz hzj
        · have : j = i := by omega
          subst this
          rw [hx] at hz; cases hz
          rw [e1] at hzj; cases hzj
          exact ⟨sy, by rw [q1, ho]⟩
      exact ⟨hq, hq⟩
    · exact k H2 sy T2 σ2 H3 E2 (q3 sy ho) I2
  · rintro σ' H' ⟨sx, T', e1, e3, q⟩
    rw [List.take_length, hm] at e1
    cases e1
    exact k H2 sx T' σ' H' E2 rfl q
/-! ### lists of ours -/
theorem En.cl [Mo r] {p : Addr} {xs : List α} (E : En K b fs cs T H) (k : Nat) (hk : cs[k]? = some (cL r p xs)) : T p ∧ ∃ vs, H p = some (.lst vs) ∧ All2 (r K T H) vs xs :=
  ⟨((E.cel _ (List.mem_of_getElem? hk)).2 p (by simp)).1, (E.cel _ (List.mem_of_getElem? hk)).1⟩
theorem En.store [Mo r] {p : Addr} {xs ys : List α} {vs : List V} (E : En K b fs cs T H) (k : Nat) (hk : cs[k]? = some (cL r p xs)) (h : All2 (r K T H) vs ys) : En K b fs (cs.set k (cL r p ys)) T (upd H p (.lst vs)) :=
  E.chg k hk (Fr.upd (.inl (by simp))) ⟨vs, upd_same, all2_imp (fun _ _ z => Mo.fr (Fr.upd (.inl (E.cl k hk).1)) z) h⟩ rfl
theorem En.bm {p : Addr} {xs : List α} {i : Nat} {rX : V → List V → Hp → VK → Prop} [Mo r] (E : En K b fs cs T H) (hv : σ[i]? = some (some (.ref p))) (k : Nat) (hk : cs[k]? = some (cL r p xs)) (h : tr σ H fun vs H1 => rX (.ref p) vs H1 Q) : tBM K "list" rX (tVar i) tr σ H Q := by
  obtain ⟨_, vs, h1, _⟩ := E.cl k hk
  exact ⟨.ref p, hv, .inl ⟨rfl, vs, .inl (.inl h1)⟩, h⟩
theorem En.append [Mo r] {p : Addr} {xs : List α} {v : V} {d : α} (E : En K b fs cs T H) (k : Nat) (hk : cs[k]? = some (cL r p xs)) (hv : r K T H v d) (hl : xs.length < 1000000) (q : ∀ H', En K b fs (cs.set k (cL r p (xs ++ [d]))) T H' → Q .non H') : rAppend (.ref p) [v] H Q := by
  obtain ⟨_, vs, h1, h2⟩ := E.cl k hk
  exact ⟨p, vs, v, rfl, rfl, h1, by rw [all2_len h2, sizeLine_eq]; omega, q _ (E.store k hk (all2_app h2 (.cons hv .nil)))⟩
def setO (xs : List α) (i : Int) (d : α) : Option (List α) := (ixN xs.length i).map fun j => xs.set j d
theorem En.setitem [Mo r] {p : Addr} {xs ys : List α} {v : V} {d : α} {i : Nat} {ti : TE} {n : Int} {Qs : L2.St → Hp → Prop} (E : En K b fs cs T H) (hp : σ[i]? = some (some (.ref p))) (k : Nat) (hk : cs[k]? = some (cL r p xs)) (hv : r K T H v d) (hi : Ev K T ti σ H zI n) (hm : setO xs n d = some ys)
    (q : ∀ H', En K b fs (cs.set k (cL r p ys)) T H' → Qs σ H') : gSub (tVar i) ti rSetL v σ H Qs := by
  refine ⟨.ref p, hp, ?_⟩
  refine hi H (Fr.refl H) _ fun iv H2 e2 r2 => ?_
  have E2 := E.ex e2
  obtain ⟨_, vs, h1, h2⟩ := E2.cl k hk
  unfold setO at hm
  cases hj : ixN xs.length n with
  | none => rw [hj] at hm; cases hm
  | some j =>
    rw [hj] at hm
    cases hm
    exact ⟨p, vs, n, j, rfl, r2, h1, by rw [all2_len h2]; exact hj, q _ (E2.store k hk (all2_set (Mo.fr e2.fr hv) j h2))⟩
def popO (xs : List α) : Option (α × List α) := (xs[xs.length - 1]?).map fun x => (x, xs.dropLast)
theorem all2_dropLast {F : V → α → Prop} : ∀ {vs : List V} {xs : List α}, All2 F vs xs → All2 F vs.dropLast xs.dropLast
  | _, _, .nil => .nil
  | _, _, .cons r .nil => .nil
  | _, _, .cons r (.cons r' t) => .cons r (all2_dropLast (.cons r' t))
theorem En.pop [Mo r] {p : Addr} {xs ys : List α} {d : α} (E : En K b fs cs T H) (k : Nat) (hk : cs[k]? = some (cL r p xs)) (hm : popO xs = some (d, ys)) (q : ∀ v H', En K b (fR r v d :: fs) (cs.set k (cL r p ys)) T H' → Q v H') : rPop (.ref p) [] H Q := by
  obtain ⟨hT, vs, h1, h2⟩ := E.cl k hk
  unfold popO at hm
  cases hj : xs[xs.length - 1]? with
  | none => rw [hj] at hm; cases hm
  | some x =>
    rw [hj] at hm
    cases hm
    obtain ⟨v, hv, hr⟩ := all2_get h2 hj
    have f : Fr T H (upd H p (.lst vs.dropLast)) := Fr.upd (.inl hT)
    exact ⟨p, vs, v, rfl, rfl, h1, by rw [all2_len h2]; exact hv, q _ _ (En.add (E.store k hk (all2_dropLast h2)) (Mo.fr f hr))⟩
theorem En.reverse [Mo r] {p : Addr} {xs : List α} (E : En K b fs cs T H) (k : Nat) (hk : cs[k]? = some (cL r p xs)) (q : ∀ H', En K b fs (cs.set k (cL r p xs.reverse)) T H' → Q .non H') : rReverse (.ref p) [] H Q := by
  obtain ⟨hT, vs, h1, h2⟩ := E.cl k hk
  exact ⟨p, vs, rfl, rfl, h1, q _ (E.store k hk (all2_reverse h2))⟩
/-! ### reading what is ours -/
class At {α : Type} (r : Rp α) : Prop where
  up : ∀ {K T H T' H' v a}, r K T H v a → r K T' H' v a
instance : At zI := ⟨fun h => h⟩
instance : At zB := ⟨fun h => h⟩
instance : At zS := ⟨fun h => h⟩
instance : At zN := ⟨fun h => h⟩
instance : At zW := ⟨fun h => h⟩
instance : At zA := ⟨fun h => h⟩
instance [At r] : At (zO r) := ⟨fun h => h.elim .inl fun ⟨x, e, q⟩ => .inr ⟨x, e, At.up q⟩⟩
/-- without our cells -/
def Tb (T : AS) (cs : List (Cel K)) : AS := fun a => T a ∧ a ∉ owns cs
theorem En.tdB (E : En K b fs cs T H) : TD (Tb T cs) H := E.td.sub fun _ h => h.1
theorem En.atB (E : En K b fs cs T H) {f : Fact K} (k : Nat) (h : fs[k]? = some f) : f.P (Tb T cs) H := f.st (Wd.sub fun _ h => h.1) (E.fac k f h)
theorem En.clB [Mo r] {p : Addr} {xs : List α} (E : En K b fs cs T H) (k : Nat) (hk : cs[k]? = some (cL r p xs)) : zL r K (Tb T cs) H (.ref p) xs := by
  obtain ⟨hT, vs, h1, h2⟩ := E.cl k hk
  exact ⟨p, vs, rfl, .new (fun z => z.2 (mem_owns (List.mem_of_getElem? hk) (by simp))) h1, all2_imp (fun _ _ z => Mo.wd (Wd.sub fun _ h => h.1) z) h2⟩
theorem En.cvB {p : Addr} {vs : List V} (E : En K b fs cs T H) (k : Nat) (hk : cs[k]? = some (cV p (.lst vs))) : SL K (Tb T cs) H p vs :=
  .new (fun z => z.2 (mem_owns (List.mem_of_getElem? hk) (by simp))) (E.c k hk)
theorem En.runB [Mo r] [At r] {d : α} (E : En K b fs cs T H) (h : Ev K (Tb T cs) te σ H r d) (k : ∀ v H', En K b (fR r v d :: fs) cs T H' → Q v H') : te σ H Q :=
  h H (Fr.refl H) Q fun v H' e q => k v H' ((E.ex e).add (At.up q))
theorem En.testB {tt : TT} {d : Bool} {Qb : Bool → Hp → Prop} (E : En K b fs cs T H) (h : EvT (Tb T cs) tt σ H d) (k : ∀ H', En K b fs cs T H' → Qb d H') : tt σ H Qb :=
  h H (Fr.refl H) Qb fun H' e => k H' (E.ex e)
theorem En.newLB [Mo r] [At r] {xs : List α} (E : En K b fs cs T H) (h : EvF K (Tb T cs) te σ H r xs) (k : ∀ p H', En K b (fR zA (.ref p) p :: fs) (cL r p xs :: cs) (Tp T p) H' → Q (.ref p) H') : te σ H Q :=
  h H (Fr.refl H) Q fun p H2 H3 e2 n f e3 m => by
    have E2 := E.ex e2
    obtain ⟨vs, h1, h2⟩ := m.ex
    refine k p H3 (En.add (E2.newc (c := cL r p xs) (T' := Tp T p) ⟨e3.fr, fun b t => t.elim .inl fun z => .inr (z ▸ n)⟩ e3 (fun b h => .inl h) ((E2.td.ex e3).tp h1) ⟨vs, h1, all2_imp (fun _ _ z => At.up z) h2⟩ (fun a ha => ?_) (by simp)) rfl)
    simp only [List.mem_singleton] at ha
    subst ha
    exact ⟨n, .inr rfl⟩
/-- an item of a list of things of many kinds, by its place -/
theorem ev_ixV [Mo r] {p : Addr} {vs : List V} {i : Int} {v : V} {d : α} (ha : Ev K T ta σ H zA p) (hb : Ev K T tb σ H zI i) (hs : SL K T H p vs) (hi : atI vs i = some v) (hv : r K T H v d) : Ev K T (tOp (rIxL K) ta tb) σ H r d := fun H1 f Q q =>
  ha H1 f _ fun x H2 e2 rx => hb H2 (f.trans e2.fr) _ fun y H3 e3 ry => by
    have fr3 := (f.trans e2.fr).trans e3.fr
    exact ⟨p, vs, i, v, rx, ry, (hs.fr fr3).sq, hi, q v H3 (e2.trans e3) (Mo.fr fr3 hv)⟩
/-- a store into a list as it stands -/
theorem En.setraw {p : Addr} {vs : List V} {v : V} {i j : Nat} {ti : TE} {n : Int} {Qs : L2.St → Hp → Prop} (E : En K b fs cs T H) (hp : σ[i]? = some (some (.ref p))) (k : Nat) (hk : cs[k]? = some (cV p (.lst vs))) (hi : Ev K T ti σ H zI n) (hm : ixN vs.length n = some j)
    (q : ∀ H', En K b fs (cs.set k (cV p (.lst (vs.set j v)))) T H' → Qs σ H') : gSub (tVar i) ti rSetL v σ H Qs := by
  refine ⟨.ref p, hp, ?_⟩
  refine hi H (Fr.refl H) _ fun iv H2 e2 r2 => ?_
  have E2 := E.ex e2
  exact ⟨p, vs, n, j, rfl, r2, E2.c k hk, hm, q _ (E2.chg k hk (Fr.upd (.inl (by simp))) upd_same rfl)⟩
end
end EB

set_option Elab.async false
set_option linter.all false
set_option maxRecDepth 100000
set_option maxHeartbeats 4000000
/-! EB, second layer: more operations; guards. -/
namespace EB
open PySem PySem.Spec PyProof.Rows L2
instance {i j : Int} : Decidable (CMulW i j) := by unfold CMulW; infer_instance
instance {i j : Int} : Decidable (CDivW i j) := by unfold CDivW; infer_instance
instance {i j : Int} : Decidable (CPow i j) := by unfold CPow; infer_instance
section
variable {K : PySem.W.Frag} {b : Bs} {fs : List (Fact K)} {cs : List (Cel K)} {T T' : AS} {H H' : Hp} {σ : L2.St} {α β γ S ι ρ : Type} {r : Rp α} {s : Rp β} {tr : TA} {te ta tb : TE} {E' : XK} {Q : VK} {D : Ends}
theorem ev_mulW {i j : Int} (ha : Ev K T ta σ H zI i) (hb : Ev K T tb σ H zI j) (hc : CMulW i j) : Ev K T (tOp (rI CMulW fun i j => .int (i * j)) ta tb) σ H zI (i * j) := ev_IC (fun _ => rfl) ha hb hc
theorem ev_fdivW {i j : Int} (ha : Ev K T ta σ H zI i) (hb : Ev K T tb σ H zI j) (hc : CDivW i j) : Ev K T (tOp (rI CDivW fun i j => .int (i / j)) ta tb) σ H zI (i / j) := ev_IC (fun _ => rfl) ha hb hc
theorem ev_shr {i j : Int} (ha : Ev K T ta σ H zI i) (hb : Ev K T tb σ H zI j) (hc : 0 ≤ j) : Ev K T (tOp (rI (fun _ j => 0 ≤ j) fun i j => .int (i / 2 ^ j.toNat)) ta tb) σ H zI (i / 2 ^ j.toNat) := ev_IC (fun _ => rfl) ha hb hc
theorem ev_band {i j : Int} (ha : Ev K T ta σ H zI i) (hb : Ev K T tb σ H zI j) : Ev K T (tOp (rI0 fun i j => .int (Builtin.bitAnd i j)) ta tb) σ H zI (Builtin.bitAnd i j) := ev_I0 (fun _ => rfl) ha hb
theorem ev_bor {i j : Int} (ha : Ev K T ta σ H zI i) (hb : Ev K T tb σ H zI j) : Ev K T (tOp (rI0 fun i j => .int (Builtin.bitOr i j)) ta tb) σ H zI (Builtin.bitOr i j) := ev_I0 (fun _ => rfl) ha hb
theorem ev_bxor {i j : Int} (ha : Ev K T ta σ H zI i) (hb : Ev K T tb σ H zI j) : Ev K T (tOp (rI0 fun i j => .int (Builtin.bitXor i j)) ta tb) σ H zI (Builtin.bitXor i j) := ev_I0 (fun _ => rfl) ha hb
/-- int(word) of one sign -/
def wInt1 (w : List Bool) : Option Int := match w with
  | [b] => some (b2 b)
  | _ => none
theorem ev_intW1 {w : List Bool} {i : Int} (h : Ev K T ta σ H zW w) (hl : wInt1 w = some i) : Ev K T (tCB rIntS (tCons ta tNil)) σ H zI i := by
  match w, hl with
  | [b], hl =>
    have e : b2 b = i := Option.some.inj hl
    subst e
    exact ev_intW h rfl
/-- the way a block goes on -/
theorem cut_ {t : TS} {σ : L2.St} {H : Hp} (J : L2.St → Hp → Prop) (h : ∀ σ' H', J σ' H' → D.nx σ' H') (k : (∀ σ' H', J σ' H' → D.nx σ' H') → t D σ H) : t D σ H := k h
theorem En.augI {f : Int → Int → Int} {i : Nat} {v : V} {x y : Int} (E : En K b fs cs T H) (hv : σ[i]? = some (some v)) (h : zI K T H v x) (he : Ev K T te σ H zI y) (k : ∀ w H', En K b (fR zI w (f x y) :: fs) cs T H' → D.nx (σ.set i (some w)) H') : tAug i te (ipI f) D σ H :=
  ⟨v, hv, E.run he fun w H' E' => ⟨x, y, h, E'.at (f := fR zI w y) 0 rfl, k _ H' ((show En K b fs cs T H' from ⟨E'.btd, E'.sup, E'.td, E'.wd, E'.fr, fun j g hj => E'.fac (j + 1) g (by simpa using hj), E'.cel, E'.dis⟩).add rfl)⟩⟩
theorem seq_open {t u : TS} {σ : L2.St} {H : Hp} (h : t { D with nx := u D } σ H) : tSeq t u D σ H := h
theorem ifs_open' {tt : TT} {t u : TS} {σ : L2.St} {H : Hp} (h : tt σ H fun c H1 => if c = true then t D σ H1 else u D σ H1) : tIfS tt t u D σ H := h
/-- plain loops -/
theorem forP_O {f : S → α → Option S} : ∀ {xs : List α} {s0 s1 : S}, forP f s0 xs = some s1 → forO (ρ := ρ) (fun s x => (f s x).bind fun s' => some (.nx s')) s0 xs = some (.nx s1)
  | [], s0, s1, h => by cases h; rfl
  | x :: xs, s0, s1, h => by
    obtain ⟨s2, h1, h2⟩ := bnd h
    show ((f s0 x).bind _).bind _ = _
    rw [h1]
    exact forP_O h2
theorem En.forP [Mo r] {wi : TI} {g : TG} {tb : TS} {xs : List α} {f : S → α → Option S} {s0 s1 : S} (I : Bs → S → AS → L2.St → Hp → Prop)
    (E : En K b fs cs T H) (h : EvI K T wi σ H r xs) (hm : forP f s0 xs = some s1)
    (h0 : ∀ H2, En K ⟨T, owns cs, H2⟩ fs cs T H2 → I ⟨T, owns cs, H2⟩ s0 T σ H2)
    (hI : ∀ b' sx T' σ' H', I b' sx T' σ' H' → Wd b'.T b'.H T' H' ∧ TD T' H')
    (step : ∀ b' sx x sy T' σ' H' H'' v (D' : Ends), x ∈ xs → I b' sx T' σ' H' → Ex H' H'' → r K T' H'' v x → f sx x = some sy → D'.rt = D.rt →
      (∀ T2 σ2 H2, I b' sy T2 σ2 H2 → D'.nx σ2 H2 ∧ D'.ct σ2 H2) → g v σ' H'' fun σ3 H3 => tb D' σ3 H3)
    (k : ∀ H2 T' σ' H', En K b fs cs T H2 → I ⟨T, owns cs, H2⟩ s1 T' σ' H' → D.nx σ' H') : tFor wi g tb D σ H :=
  En.for_ (ρ := Unit) I E h (forP_O hm) h0 hI (fun Hb _ sx x o' T' σ' H' H'' v D' hx hI' ex hr hf hd _ hn _ => by
    obtain ⟨sy, h1, h2⟩ := bnd hf
    cases h2
    exact step _ sx x sy T' σ' H' H'' v D' hx hI' ex hr h1 hd fun T2 σ2 H2 i2 => hn sy T2 σ2 H2 rfl i2) fun H2 sx T' σ' H' E2 ho i2 => by cases ho; exact k H2 T' σ' H' E2 i2
/-- facts by their places -/
theorem En.rd [Mo r] {v : V} {d : α} (E : En K b fs cs T H) (k : Nat) (h : fs[k]? = some (fR r v d)) : r K T H v d := E.at k h
theorem En.rdB [Mo r] {v : V} {d : α} (E : En K b fs cs T H) (k : Nat) (h : fs[k]? = some (fR r v d)) : r K (Tb T cs) H v d := E.atB k h
/-- more that lists of ours do -/
def popAtO (xs : List α) (i : Int) : Option (α × List α) := if -1000000 ≤ i ∧ i < 1000000 then (seqIndex? i xs.length).bind fun k => (xs[k]?).map fun x => (x, xs.eraseIdx k) else none
theorem all2_erase {F : V → α → Prop} : ∀ {vs : List V} {xs : List α} (k : Nat), All2 F vs xs → All2 F (vs.eraseIdx k) (xs.eraseIdx k)
  | _, _, _, .nil => .nil
  | _, _, 0, .cons r t => t
  | _, _, k + 1, .cons r t => .cons r (all2_erase k t)
theorem En.popAt [Mo r] {p : Addr} {xs ys : List α} {d : α} {i : Int} (E : En K b fs cs T H) (k : Nat) (hk : cs[k]? = some (cL r p xs)) (hm : popAtO xs i = some (d, ys)) (q : ∀ v H', En K b (fR r v d :: fs) (cs.set k (cL r p ys)) T H' → Q v H') : rPopAt (.ref p) [.int i] H Q := by
  obtain ⟨hT, vs, h1, h2⟩ := E.cl k hk
  unfold popAtO at hm
  split at hm
  · rename_i hi
    obtain ⟨j, hj, hm⟩ := bnd hm
    cases hx : xs[j]? with
    | none => rw [hx] at hm; cases hm
    | some x =>
      rw [hx] at hm
      cases hm
      obtain ⟨v, hv, hr⟩ := all2_get h2 hx
      have f : Fr T H (upd H p (.lst (vs.eraseIdx j))) := Fr.upd (.inl hT)
      exact ⟨p, vs, i, j, v, rfl, rfl, h1, by omega, by omega, by rw [all2_len h2]; exact hj, hv, q _ _ (En.add (E.store k hk (all2_erase j h2)) (Mo.fr f hr))⟩
  · cases hm
def insO (xs : List α) (i : Int) (d : α) : Option (List α) := if 0 ≤ i ∧ i < 1000000 ∧ xs.length < 1000000 then some (xs.take i.toNat ++ [d] ++ xs.drop i.toNat) else none
theorem En.insert [Mo r] {p : Addr} {xs ys : List α} {d : α} {i : Int} {v : V} (E : En K b fs cs T H) (k : Nat) (hk : cs[k]? = some (cL r p xs)) (hv : r K T H v d) (hm : insO xs i d = some ys) (q : ∀ H', En K b fs (cs.set k (cL r p ys)) T H' → Q .non H') :
    ∃ (l : Addr) (xs : List V) (i' : Int) (y : V), V.ref p = .ref l ∧ [V.int i, v] = [.int i', y] ∧ H l = some (.lst xs) ∧ xs.length < sizeLine ∧ 0 ≤ i' ∧ i' < 2 ^ 63 ∧ Q .non (upd H l (.lst (xs.take i'.toNat ++ [y] ++ xs.drop i'.toNat))) := by
  obtain ⟨hT, vs, h1, h2⟩ := E.cl k hk
  unfold insO at hm
  split at hm
  · rename_i hi
    cases hm
    exact ⟨p, vs, i, v, rfl, rfl, h1, by rw [all2_len h2, sizeLine_eq]; omega, hi.1, by omega, q _ (E.store k hk (all2_app (all2_app (all2_take _ h2) (.cons hv .nil)) (all2_drop _ h2)))⟩
  · cases hm
/-- cells by their places -/
theorem own_nd {cs : List (Cel K)} {k : Nat} {c : Cel K} (hd : (owns cs).Nodup) (h : cs[k]? = some c) : c.own.Nodup := by
  obtain ⟨l1, l2, rfl⟩ := List.append_of_mem (List.mem_of_getElem? h)
  simp only [owns, List.map_append, List.map_cons, List.flatten_append, List.flatten_cons] at hd
  exact (List.nodup_append.mp (List.nodup_append.mp hd).2.1).1
theorem pick_nd {cs : List (Cel K)} (hd : (owns cs).Nodup) : ∀ {ks : List Nat} {cs' : List (Cel K)}, ks.Nodup → ks.map (fun k => cs[k]?) = cs'.map some → (owns cs').Nodup
  | [], [], _, _ => by simp [owns]
  | [], _ :: _, _, h => by simp at h
  | _ :: _, [], _, h => by simp at h
  | k :: ks, c :: cs', hn, h => by
    simp only [List.map_cons, List.cons.injEq] at h
    have hn' := List.nodup_cons.mp hn
    have ih := pick_nd hd hn'.2 h.2
    unfold owns at ih ⊢
    rw [List.map_cons, List.flatten_cons, List.nodup_append]
    refine ⟨own_nd hd h.1, ih, fun a ha x hx z => ?_⟩
    subst z
    obtain ⟨c2, hc2, ha2⟩ := owns_mem (cs := cs') hx
    have : some c2 ∈ cs'.map some := List.mem_map.mpr ⟨c2, hc2, rfl⟩
    rw [← h.2] at this
    obtain ⟨j, hj, e⟩ := List.mem_map.mp this
    exact hn'.1 (nd_mem hd h.1 e ha ha2 ▸ hj)
theorem En.pick {cs' : List (Cel K)} (E : En K b fs cs T H) (ks : List Nat) (hn : ks.Nodup) (h : ks.map (fun k => cs[k]?) = cs'.map some) : En K b fs cs' T H :=
  ⟨E.btd, E.sup, E.td, E.wd, E.fr, E.fac, fun c hc => by
    have : some c ∈ cs'.map some := List.mem_map.mpr ⟨c, hc, rfl⟩
    rw [← h] at this
    obtain ⟨j, _, e⟩ := List.mem_map.mp this
    exact E.cel c (List.mem_of_getElem? e), pick_nd E.dis hn h⟩
def outB (o : Out ρ S) (k : S → Option ρ) : Option ρ := match o with
  | .ret r => some r
  | .nx s => k s
  | .brk s => k s
theorem outB_nx {s : S} {k : S → Option ρ} {r : ρ} (h : outB (.nx s) k = some r) : k s = some r := h
theorem outB_ret {o : Out ρ S} {k : S → Option ρ} {q r : ρ} (e : o = .ret q) (h : outB o k = some r) : q = r := by subst e; exact Option.some.inj h
end
/-- [list of numbers, number, number], ours -/
@[reducible] def cTp {K : PySem.W.Frag} (a : Addr × Addr) (s : List Int × Int × Int) : Cel K := cM (cV a.1 (.lst [.ref a.2, .int s.2.1, .int s.2.2])) (cL zI a.2 s.1)
end EB

set_option Elab.async false
set_option linter.all false
set_option maxRecDepth 100000
set_option maxHeartbeats 4000000
/-! EB, second layer: promises of the first layer within packed facts. -/
namespace EB
open PySem PySem.Spec PyProof.Rows L2
@[reducible] def cTape {K : PySem.W.Frag} (d : Addr × Addr) (n : Nat) : Cel K := ⟨[d.1, d.2], fun _ H => TpI d n H, fun _ h i => re_tape.st n _ _ (fun b w => h b (by rcases w with rfl | rfl <;> simp)) i⟩
@[reducible] def cMemo {K : PySem.W.Frag} {α : Type} (a : Addr) (kf : α → Key) (U : List α) (ok : α → Int → Prop) : Cel K := ⟨[a], fun _ H => MmI a kf U ok 0 H, fun _ h i => re_memo.st 0 _ _ (fun b w => h b (by cases w; simp)) i⟩
section
variable {K : PySem.W.Frag} {b : Bs} {fs : List (Fact K)} {cs : List (Cel K)} {T T' : AS} {H H' : Hp} {σ : L2.St} {α β γ S ι ρ : Type} {r : Rp α} {s : Rp β} {tr : TA} {te ta tb : TE} {E' : XK} {Q : VK} {D : Ends}
theorem En.runN [Mo r] {W : AS} {I : Nat → Hp → Prop} {n c0 : Nat} {φ : α → Prop} {c c' : Cel K} (E : En K b fs cs T H) (k : Nat) (hk : cs[k]? = some c) (h : (∀ x, W x → T x) → EvN K T W I c0 te σ H r φ) (ho : ∀ x, W x ↔ x ∈ c.own) (hi : c.P T H → I (n + c0) H) (ho' : c'.own = c.own) (hi' : ∀ T H, I n H → c'.P T H)
    (q : ∀ v H' d, φ d → En K b (fR r v d :: fs) (cs.set k c') T H' → Q v H') : te σ H Q :=
  have hc := E.cel c (List.mem_of_getElem? hk)
  h (fun x hx => (hc.2 x ((ho x).mp hx)).1) n H (Fr.refl H) (hi hc.1) Q fun v H' d f i rv p => q v H' d p ((E.chg k hk (f.mono fun x hx => (ho x).mp hx) (hi' T H' i) ho').add rv)
theorem En.runT [Mo r] {d : Addr × Addr} {n c0 : Nat} {φ : α → Prop} (E : En K b fs cs T H) (k : Nat) (hk : cs[k]? = some (cTape d n)) (m : Nat) (hm : m + c0 ≤ n) (h : (∀ x, WTp d x → T x) → EvN K T (WTp d) (TpI d) c0 te σ H r φ)
    (q : ∀ v H' x, φ x → En K b (fR r v x :: fs) (cs.set k (cTape d m)) T H' → Q v H') : te σ H Q :=
  En.runN (n := m) (c' := cTape d m) E k hk h (fun x => by simp [WTp]) (fun i => Re.cut re_tape i hm) rfl (fun _ _ i => i) q
theorem En.runM [Mo r] {a : Addr} {kf : γ → Key} {U : List γ} {ok : γ → Int → Prop} {φ : α → Prop} (E : En K b fs cs T H) (k : Nat) (hk : cs[k]? = some (cMemo a kf U ok)) (h : (∀ x, W1 a x → T x) → EvN K T (W1 a) (MmI a kf U ok) 0 te σ H r φ)
    (q : ∀ v H' x, φ x → En K b (fR r v x :: fs) (cs.set k (cMemo a kf U ok)) T H' → Q v H') : te σ H Q :=
  En.runN (n := 0) (c' := cMemo a kf U ok) E k hk h (fun x => by simp [W1]) (fun i => i) rfl (fun _ _ i => i) q
theorem En.tape {ns : List Int} (E : En K b fs cs T H) (h : EvA K T tr σ H (aC (zL zI) aN) (ns, ())) (hl : ns.length ≤ 63)
    (q : ∀ d H', En K b (fR zTp (.ref d.1) d :: fs) (cTape d 1000000000 :: cs) (fun x => T x ∨ x ∈ [d.1, d.2]) H' → Q (.ref d.1) H') : tCall (TSp K) [] E' tr σ H Q :=
  h H (Fr.refl H) _ fun vs H2 e2 ⟨v, _, ev, rv, hn⟩ => by
    show TSp K (vs ++ []) H2 Q E'
    rw [List.append_nil, ev, show _ = [] from hn]
    have E2 := E.ex e2
    refine ⟨T, v, ns, E2.td, rfl, rv, hl, fun ta tg H3 e3 h1 h2 hI => ?_⟩
    have hx : ∀ x ∈ [ta, tg], H2 x = none := fun x hx => by
      rcases List.mem_cons.mp hx with rfl | hx
      · exact h1
      · rw [List.mem_singleton] at hx; subst hx; exact h2
    have hne : ta ≠ tg := by obtain ⟨_, _, _, _, _, _, _, _, h9, _⟩ := hI.ex; exact h9
    refine q (ta, tg) H3 (En.add (E2.newc (c := cTape (ta, tg) 1000000000) (H' := H3) ⟨e3.fr, fun b t => t.elim .inl fun z => .inr (hx b z)⟩ e3 (fun b h => .inl h) (fun b t => ?_) hI (fun x hx' => ⟨hx x hx', .inr hx'⟩) (by simp [hne])) rfl)
    rcases t with t | t
    · exact E2.td.ex e3 b t
    · rcases List.mem_cons.mp t with rfl | t
      · exact re_tape.dom _ _ _ hI (.inl rfl)
      · rw [List.mem_singleton] at t; subst t; exact re_tape.dom _ _ _ hI (.inr rfl)
theorem En.newV {vs : List V} (E : En K b fs cs T H) (hl : vs.length ≤ 1000) (q : ∀ p H', En K b (fR zA (.ref p) p :: fs) (cV p (.lst vs) :: cs) (Tp T p) H' → Q (.ref p) H') : vs.length ≤ sizeLine ∧ ∀ p, H p = none → Q (.ref p) (upd H p (.lst vs)) :=
  ⟨by rw [sizeLine_eq]; omega, fun p hp => q p _ (En.add (E.newc (c := cV p (.lst vs)) (Wd.new hp) (Ex.new hp) (fun _ h => .inl h) ((E.td.ex (Ex.new hp)).tp upd_same) upd_same (fun a ha => by simp only [List.mem_singleton] at ha; subst ha; exact ⟨hp, .inr rfl⟩) (by simp)) rfl)⟩
theorem En.newR {vs : List V} {p : Addr} (E : En K b fs cs T H) (hp : H p = none) : En K b (fR zA (.ref p) p :: fs) (cV p (.lst vs) :: cs) (Tp T p) (upd H p (.lst vs)) :=
  En.add (E.newc (c := cV p (.lst vs)) (Wd.new hp) (Ex.new hp) (fun _ h => .inl h) ((E.td.ex (Ex.new hp)).tp upd_same) upd_same (fun a ha => by simp only [List.mem_singleton] at ha; subst ha; exact ⟨hp, .inr rfl⟩) (by simp)) rfl
/-- read at the cells that lie aside -/
theorem En.runTb {d : α} (E : En K b fs cs T H) (h : Ev K (Tb T cs) te σ H r d) (k : ∀ v H', Ex H H' → En K b fs cs T H' → r K (Tb T cs) H' v d → Q v H') : te σ H Q :=
  h H (Fr.refl H) Q fun v H' e q => k v H' e (E.ex e) q
/-- an object with one table, made of what is read aside; the cells aside are lists -/
theorem En.made {Cn : Str} {fn : List Str} {rf : Rpl β} [LiL rf] {kk p : Addr} {kf : γ → Key} {U : List γ} {ok : γ → Int → Prop} {x : β} {ks : List (Cel K)} (E : En K b fs cs T H) (e : Ex H H') (h0 : H kk = none) (h1 : H' kk = some (.dK [])) (inj : ∀ x y, kf x = kf y → x = y) (few : U.length ≤ 1000000)
    (ho : zOb Cn fn rf K (Tp (Tb T ks) kk) H' (.ref p) x) (hl : ∀ a, a ∈ owns ks → ∃ xs, H a = some (.lst xs)) [MoL rf] : En K b (fR (zOb Cn fn rf) (.ref p) x :: fs) (cMemo kk kf U ok :: cs) (Tp T kk) H' := by
  have w : Wd T H (Tp T kk) H' := ⟨e.fr, fun b t => t.elim .inl fun z => .inr (z ▸ h0)⟩
  refine En.add (E.newc (c := cMemo kk kf U ok) w e (fun _ h => .inl h) ((E.td.ex e).tp h1) (memo_new h1 inj few) (fun a ha => by simp only [List.mem_singleton] at ha; subst ha; exact ⟨h0, .inr rfl⟩) (by simp)) ?_
  refine Li.up (T1 := Tp (Tb T ks) kk) (fun a t => ?_) ho
  rcases t with t | t
  · by_cases hm : a ∈ owns ks
    · obtain ⟨xs, hx⟩ := hl a hm
      exact .inr ⟨xs, e a _ hx⟩
    · exact .inl (.inl ⟨t, hm⟩)
  · exact .inl (.inr t)
theorem En.isL [Mo r] {p : Addr} {xs : List α} (E : En K b fs cs T H) (k : Nat) (hk : cs[k]? = some (cL r p xs)) : ∃ vs, H p = some (.lst vs) := let ⟨_, vs, h, _⟩ := E.cl k hk; ⟨vs, h⟩
theorem En.isV {p : Addr} {vs : List V} (E : En K b fs cs T H) (k : Nat) (hk : cs[k]? = some (cV p (.lst vs))) : ∃ vs, H p = some (.lst vs) := ⟨vs, E.c k hk⟩
theorem En.isT {d : Addr × Addr} {n : Nat} (E : En K b fs cs T H) (k : Nat) (hk : cs[k]? = some (cTape d n)) : ∀ a, a ∈ [d.1, d.2] → ∃ vs, H a = some (.lst vs) := fun a ha => by
  obtain ⟨gs, sd, ct, h1, h2, _⟩ := (E.c k hk : TpI d n H).ex
  rcases List.mem_cons.mp ha with rfl | ha
  · exact ⟨_, h1⟩
  · rw [List.mem_singleton] at ha; subst ha; exact ⟨_, h2⟩
theorem setO_ok {xs : List α} {i : Int} {d : α} (h0 : 0 ≤ i) (h : i < (xs.length : Int)) : setO xs i d = some (xs.set i.toNat d) := by
  unfold setO ixN
  rw [if_pos h0, if_pos (by omega)]
  rfl
theorem tp_less {d : Addr × Addr} {n m : Nat} {H : Hp} (h : TpI d n H) (e : m ≤ n) : TpI d m H := Re.cut re_tape h e
theorem ev_fromL [Mo r] {p : Addr} {xs : List α} (h : Ev K T te σ H zA p) (m : zL r K T H (.ref p) xs) : Ev K T te σ H (zL r) xs := ev_hmL h m
end
end EB

set_option Elab.async false
set_option linter.all false
set_option maxRecDepth 100000
set_option maxHeartbeats 4000000
/-! EB: data of any kind. -/
namespace EB
open PySem PySem.Spec PyProof.Rows L2
mutual
inductive ZD (K : PySem.W.Frag) (T : AS) (H : Hp) : V → PyData → Prop
  | non : ZD K T H .non .none
  | bl (b : Bool) : ZD K T H (.bl b) (.bool b)
  | int (i : Int) : ZD K T H (.int i) (.int i)
  | str (x : Str) : ZD K T H (.str x) (.str x)
  | lst {a : Addr} {xs : List V} {ds : List PyData} : SL K T H a xs → ZDs K T H xs ds → ZD K T H (.ref a) (.list ds)
  | tup {a : Addr} {xs : List V} {ds : List PyData} : ST K T H a xs → ZDs K T H xs ds → ZD K T H (.ref a) (.tuple ds)
inductive ZDs (K : PySem.W.Frag) (T : AS) (H : Hp) : List V → List PyData → Prop
  | nil : ZDs K T H [] []
  | cons {v : V} {vs : List V} {d : PyData} {ds : List PyData} : ZD K T H v d → ZDs K T H vs ds → ZDs K T H (v :: vs) (d :: ds)
end
mutual
theorem ZD.wd {K : PySem.W.Frag} {T T' : AS} {H H' : Hp} (w : Wd T H T' H') : ∀ {v : V} {d : PyData}, ZD K T H v d → ZD K T' H' v d
  | _, _, .non => .non
  | _, _, .bl b => .bl b
  | _, _, .int i => .int i
  | _, _, .str x => .str x
  | _, _, .lst h q => .lst (h.wd w) (q.wd w)
  | _, _, .tup h q => .tup (h.wd w) (q.wd w)
theorem ZDs.wd {K : PySem.W.Frag} {T T' : AS} {H H' : Hp} (w : Wd T H T' H') : ∀ {v : List V} {d : List PyData}, ZDs K T H v d → ZDs K T' H' v d
  | _, _, .nil => .nil
  | _, _, .cons h q => .cons (h.wd w) (q.wd w)
end
mutual
theorem ZD.dp {K : PySem.W.Frag} {T : AS} {H : Hp} : ∀ {v : V} {d : PyData}, ZD K T H v d → Dp K H v d
  | _, _, .non => .non
  | _, _, .bl b => .bl b
  | _, _, .int i => .int i
  | _, _, .str x => .str x
  | _, _, .lst h q => .lst h.sq q.dp
  | _, _, .tup h q => .tup h.sq q.dp
theorem ZDs.dp {K : PySem.W.Frag} {T : AS} {H : Hp} : ∀ {v : List V} {d : List PyData}, ZDs K T H v d → DpAll K H v d
  | _, _, .nil => .nil
  | _, _, .cons h q => .cons h.dp q.dp
end
def zD : Rp PyData := fun K T H v d => ZD K T H v d
instance : Mo zD := ⟨fun w h => ZD.wd w h⟩
theorem ZDs.all {K : PySem.W.Frag} {T : AS} {H : Hp} : ∀ {vs : List V} {ds : List PyData}, ZDs K T H vs ds → All2 (zD K T H) vs ds
  | _, _, .nil => .nil
  | _, _, .cons h q => .cons h q.all
theorem ZDs.of {K : PySem.W.Frag} {T : AS} {H : Hp} : ∀ {vs : List V} {ds : List PyData}, All2 (zD K T H) vs ds → ZDs K T H vs ds
  | _, _, .nil => .nil
  | _, _, .cons h q => .cons h (ZDs.of q)
/-- what is data -/
class Tod {α : Type} (r : Rp α) where
  toD : α → PyData
  up : ∀ {K T H v d}, r K T H v d → ZD K T H v (toD d)
instance : Tod zD := ⟨id, fun h => h⟩
instance : Tod zI := ⟨.int, fun h => by cases h; exact .int _⟩
instance : Tod zB := ⟨.bool, fun h => by cases h; exact .bl _⟩
instance : Tod zS := ⟨.str, fun h => by cases h; exact .str _⟩
instance : Tod zN := ⟨fun _ => .none, fun h => by cases h; exact .non⟩
instance : Tod zW := ⟨fun w => .str (wS w), fun h => by obtain ⟨rfl, _⟩ := h; exact .str _⟩
section
variable {α β γ : Type} {r : Rp α} {s : Rp β} {t : Rp γ}
theorem zds_map [Tod r] {K T H} {vs : List V} {xs : List α} (h : All2 (r K T H) vs xs) : ZDs K T H vs (xs.map (Tod.toD r)) := by
  induction h with
  | nil => exact .nil
  | cons a _ ih => exact .cons (Tod.up a) ih
instance [Tod r] : Tod (zL r) := ⟨fun xs => .list (xs.map (Tod.toD r)), fun ⟨a, vs, e, h, q⟩ => by rw [e]; exact .lst h (zds_map q)⟩
instance [Tod r] : Tod (zU r) := ⟨fun xs => .tuple (xs.map (Tod.toD r)), fun ⟨a, vs, e, h, q⟩ => by rw [e]; exact .tup h (zds_map q)⟩
instance [Tod r] [Tod s] : Tod (zP r s) := ⟨fun p => .tuple [Tod.toD r p.1, Tod.toD s p.2], fun ⟨a, x, y, e, h, q, q'⟩ => by rw [e]; exact .tup h (.cons (Tod.up q) (.cons (Tod.up q') .nil))⟩
instance [Tod r] [Tod s] [Tod t] : Tod (zP3 r s t) := ⟨fun p => .tuple [Tod.toD r p.1, Tod.toD s p.2.1, Tod.toD t p.2.2], fun ⟨a, x, y, z, e, h, q, q', q2⟩ => by rw [e]; exact .tup h (.cons (Tod.up q) (.cons (Tod.up q') (.cons (Tod.up q2) .nil)))⟩
instance [Tod r] : Tod (zO r) := ⟨fun o => match o with | none => .none | some x => Tod.toD r x, fun h => by
  rcases h with ⟨rfl, rfl⟩ | ⟨x, rfl, q⟩
  · exact .non
  · exact Tod.up q⟩
/-- things of many kinds -/
class TodL {α : Type} (r : Rpl α) where
  toD : α → List PyData
  up : ∀ {K T H v d}, r K T H v d → ZDs K T H v (toD d)
instance : TodL aN := ⟨fun _ => [], fun h => by rw [show _ = [] from h]; exact .nil⟩
instance {q : Rpl β} [Tod r] [TodL q] : TodL (aC r q) := ⟨fun p => Tod.toD r p.1 :: TodL.toD q p.2, fun ⟨v, ws, e, h, k⟩ => by rw [e]; exact .cons (Tod.up h) (TodL.up k)⟩
end
/-! ### parts of data -/
def dInt : PyData → Option Int | .int i => some i | _ => none
def dBool : PyData → Option Bool | .bool b => some b | _ => none
def dStr : PyData → Option Str | .str s => some s | _ => none
def dSeq : PyData → Option (List PyData) | .list xs => some xs | .tuple xs => some xs | _ => none
def dLst : PyData → Option (List PyData) | .list xs => some xs | _ => none
def dTup : PyData → Option (List PyData) | .tuple xs => some xs | _ => none
def dNone : PyData → Bool | .none => true | _ => false
def isD (n : String) : PyData → Bool
  | .int _ => n == "int"
  | .bool _ => n == "bool" || n == "int"
  | .str _ => n == "str"
  | .list _ => n == "list"
  | .tuple _ => n == "tuple"
  | _ => false
def tyD : PyData → String
  | .none => "NoneType"
  | .bool _ => "bool"
  | .int _ => "int"
  | .str _ => "str"
  | .list _ => "list"
  | .tuple _ => "tuple"
  | .dict _ => "dict"
section
variable {K : PySem.W.Frag} {T : AS} {σ : L2.St} {H : Hp} {α β γ : Type} {r : Rp α} {s : Rp β} {te ta tb : TE} {tr : TA} {d e : PyData}
theorem ev_toD [Tod r] {x : α} (h : Ev K T te σ H r x) : Ev K T te σ H zD (Tod.toD r x) := fun H1 f Q q => h H1 f Q fun v H2 e r2 => q v H2 e (Tod.up r2)
theorem ev_dI {i : Int} (h : Ev K T te σ H zD d) (e : dInt d = some i) : Ev K T te σ H zI i := fun H1 f Q q => h H1 f Q fun v H2 e2 r2 => by
  cases r2 with
  | int j => cases e; exact q _ H2 e2 rfl
  | _ => cases e
theorem ev_dB {i : Bool} (h : Ev K T te σ H zD d) (e : dBool d = some i) : Ev K T te σ H zB i := fun H1 f Q q => h H1 f Q fun v H2 e2 r2 => by
  cases r2 with
  | bl j => cases e; exact q _ H2 e2 rfl
  | _ => cases e
theorem ev_dS {i : Str} (h : Ev K T te σ H zD d) (e : dStr d = some i) : Ev K T te σ H zS i := fun H1 f Q q => h H1 f Q fun v H2 e2 r2 => by
  cases r2 with
  | str j => cases e; exact q _ H2 e2 rfl
  | _ => cases e
theorem ev_dQ {xs : List PyData} (h : Ev K T te σ H zD d) (e : dSeq d = some xs) : Ev K T te σ H (zQ zD) xs := fun H1 f Q q => h H1 f Q fun v H2 e2 r2 => by
  cases r2 with
  | lst hs hh => cases e; exact q _ H2 e2 (.inl ⟨_, _, rfl, hs, hh.all⟩)
  | tup hs hh => cases e; exact q _ H2 e2 (.inr ⟨_, _, rfl, hs, hh.all⟩)
  | _ => cases e
theorem ev_dL {xs : List PyData} (h : Ev K T te σ H zD d) (e : dLst d = some xs) : Ev K T te σ H (zL zD) xs := fun H1 f Q q => h H1 f Q fun v H2 e2 r2 => by
  cases r2 with
  | lst hs hh => cases e; exact q _ H2 e2 ⟨_, _, rfl, hs, hh.all⟩
  | _ => cases e
theorem ev_dU {xs : List PyData} (h : Ev K T te σ H zD d) (e : dTup d = some xs) : Ev K T te σ H (zU zD) xs := fun H1 f Q q => h H1 f Q fun v H2 e2 r2 => by
  cases r2 with
  | tup hs hh => cases e; exact q _ H2 e2 ⟨_, _, rfl, hs, hh.all⟩
  | _ => cases e
theorem zd_ty {v : V} (h : ZD K T H v d) : TyX K H v (.type (tyD d)) := by
  cases h with
  | non => exact Tyd.ty (r := zN) (T := T) (a := ()) rfl
  | bl b => exact Tyd.ty (r := zB) (T := T) (a := b) rfl
  | int i => exact Tyd.ty (r := zI) (T := T) (a := i) rfl
  | str x => exact Tyd.ty (r := zS) (T := T) (a := x) rfl
  | lst hs hh => exact Tyd.ty (r := zL zD) (T := T) ⟨_, _, rfl, hs, hh.all⟩
  | tup hs hh => exact Tyd.ty (r := zU zD) (T := T) ⟨_, _, rfl, hs, hh.all⟩
theorem kit_D {n : String} {v : V} (h : ZD K T H v d) (hk : ∀ m ∈ ["NoneType", "bool", "int", "str", "list", "tuple"], kitB m n = some (m == n || (m == "bool" && n == "int"))) (hn : n ∈ ["bool", "int", "str", "list", "tuple"]) : kitB (tyD d) n = some (isD n d) := by
  have hh : ∀ m ∈ ["NoneType", "bool", "int", "str", "list", "tuple"], tyD d = m → isD n d = (m == n || (m == "bool" && n == "int")) → kitB (tyD d) n = some (isD n d) := fun m hm e1 e2 => by rw [e1, e2]; exact hk m hm
  simp only [List.mem_cons, List.not_mem_nil, or_false] at hn
  cases h with
  | non => exact hh "NoneType" (by simp) rfl (by rcases hn with rfl | rfl | rfl | rfl | rfl <;> rfl)
  | bl b => exact hh "bool" (by simp) rfl (by rcases hn with rfl | rfl | rfl | rfl | rfl <;> rfl)
  | int i => exact hh "int" (by simp) rfl (by rcases hn with rfl | rfl | rfl | rfl | rfl <;> rfl)
  | str x => exact hh "str" (by simp) rfl (by rcases hn with rfl | rfl | rfl | rfl | rfl <;> rfl)
  | lst _ _ => exact hh "list" (by simp) rfl (by rcases hn with rfl | rfl | rfl | rfl | rfl <;> rfl)
  | tup _ _ => exact hh "tuple" (by simp) rfl (by rcases hn with rfl | rfl | rfl | rfl | rfl <;> rfl)
theorem kits_ok : ∀ n ∈ ["bool", "int", "str", "list", "tuple"], ∀ m ∈ ["NoneType", "bool", "int", "str", "list", "tuple"], kitB m n = some (m == n || (m == "bool" && n == "int")) := by decide +kernel
theorem ev_isiD {n : String} (h : Ev K T ta σ H zD d) (hn : n ∈ ["bool", "int", "str", "list", "tuple"] := by decide) : Ev K T (tCB (rIsi K) (tCons ta (tCons (tC (.ty n)) tNil))) σ H zB (isD n d) := fun H1 f Q q =>
  h H1 f _ fun v H2 e2 r2 => ⟨v, .ty n, _, _, _, rfl, .ty n, zd_ty r2, kit_ty (kit_D r2 (kits_ok n hn) hn), q _ H2 e2 rfl⟩
theorem ev_isi2D {n1 n2 : String} (h : Ev K T ta σ H zD d) (h1 : n1 ∈ ["bool", "int", "str", "list", "tuple"] := by decide) (h2 : n2 ∈ ["bool", "int", "str", "list", "tuple"] := by decide) :
    Ev K T (tCB (rIsiT K) (tCons ta (tCons (tTup (tCons (tC (.ty n1)) (tCons (tC (.ty n2)) tNil))) tNil))) σ H zB (isD n1 d || isD n2 d) := fun H1 f Q q =>
  h H1 f _ fun v H2 e2 r2 => isi2_at (zd_ty r2) (kit_D r2 (kits_ok n1 h1) h1) (kit_D r2 (kits_ok n2 h2) h2) fun H3 e3 => q _ H3 (e2.trans e3) rfl
theorem ev_isND (h : Ev K T ta σ H zD d) : Ev K T (tOp rIsN ta (tC .non)) σ H zB (dNone d) := fun H1 f Q q => h H1 f _ fun v H2 e2 r2 => ⟨rfl, q _ H2 e2 (by cases r2 <;> rfl)⟩
theorem ev_notND (h : Ev K T ta σ H zD d) : Ev K T (tOp rNotN ta (tC .non)) σ H zB (!dNone d) := fun H1 f Q q => h H1 f _ fun v H2 e2 r2 => ⟨rfl, q _ H2 e2 (by cases r2 <;> rfl)⟩
/-- == of data -/
theorem ev_eqDD (ha : Ev K T ta σ H zD d) (hb : Ev K T tb σ H zD e) (h1 : SeqAt.shaped d = true) (h2 : SeqAt.shaped e = true) : Ev K T (tOp (rEqD K) ta tb) σ H zB (PyData.eqv d e) :=
  ev_op ha hb fun x y H1 Q _ r1 r2 q => ⟨_, _, ZD.dp r1, ZD.dp r2, h1, h2, q _ H1 (Ex.refl H1) rfl⟩
theorem ev_neDD (ha : Ev K T ta σ H zD d) (hb : Ev K T tb σ H zD e) (h1 : SeqAt.shaped d = true) (h2 : SeqAt.shaped e = true) : Ev K T (tOp (rNeD K) ta tb) σ H zB (!PyData.eqv d e) :=
  ev_op ha hb fun x y H1 Q _ r1 r2 q => ⟨_, _, ZD.dp r1, ZD.dp r2, h1, h2, q _ H1 (Ex.refl H1) rfl⟩
/-- len -/
def dLen : PyData → Option Int | .list xs => some xs.length | .tuple xs => some xs.length | .str s => if s.length ≤ 1000000 then some s.length else none | _ => none
def rLenD (K : PySem.W.Frag) : List V → Hp → VK → Prop := fun xs H Q => ∃ x n, xs = [x] ∧ LenV K x H n ∧ Q (.int n) H
theorem kc_lenD {X : Cx} (hK : X.K = K := by rfl) : CallR X (.builtin "len") (rLenD K) := hK ▸ call_len
theorem ev_lenD {n : Int} (h : Ev K T ta σ H zD d) (e : dLen d = some n) : Ev K T (tCB (rLenD K) (tCons ta tNil)) σ H zI n :=
  ev_c1 h fun x H1 Q _ r2 q => by
    cases r2 with
    | lst hs hh => cases e; exact ⟨_, _, rfl, .inl ⟨_, hs.sq, rfl⟩, q _ H1 (Ex.refl H1) (by rw [all2_len hh.all]; rfl)⟩
    | tup hs hh => cases e; exact ⟨_, _, rfl, .inr ⟨_, hs.sq, rfl⟩, q _ H1 (Ex.refl H1) (by rw [all2_len hh.all]; rfl)⟩
    | str x =>
      have e' : (if x.length ≤ 1000000 then some (x.length : Int) else none) = some n := e
      split at e'
      · rename_i hl
        cases e'
        exact ⟨_, _, rfl, ⟨by rw [sizeLine_eq]; omega, rfl⟩, q _ H1 (Ex.refl H1) rfl⟩
      · cases e'
    | _ => cases e
/-- an item -/
def dIx (d : PyData) (i : Int) : Option PyData := match d with
  | .list xs => atI xs i
  | .tuple xs => atI xs i
  | .str s => if s.length ≤ 1000000 then (atI s.cps.toList i).map fun c => .str ⟨#[c]⟩ else none
  | _ => none
theorem ev_ixD {i : Int} {x : PyData} (ha : Ev K T ta σ H zD d) (hb : Ev K T tb σ H zI i) (hi : dIx d i = some x) : Ev K T (tOp (rIx K) ta tb) σ H zD x :=
  ev_op ha hb fun v w H1 Q _ r1 r2 q => by
    cases r1 with
    | lst hs hh =>
      obtain ⟨u, hu, hr⟩ := all2_at hh.all hi
      exact .inl ⟨_, _, i, u, rfl, r2, hs.sq, hu, q u H1 (Ex.refl H1) hr⟩
    | tup hs hh =>
      obtain ⟨u, hu, hr⟩ := all2_at hh.all hi
      exact .inr (.inl ⟨_, _, i, u, rfl, r2, hs.sq, hu, q u H1 (Ex.refl H1) hr⟩)
    | str s =>
      simp only [dIx] at hi
      split at hi
      · rename_i hl
        cases hc : atI s.cps.toList i with
        | none => rw [hc] at hi; cases hi
        | some c =>
          rw [hc] at hi
          cases hi
          exact .inr (.inr ⟨s, i, c, rfl, r2, by rw [sizeLine_eq]; omega, hc, q _ H1 (Ex.refl H1) (.str _)⟩)
      · cases hi
    | _ => cases hi
/-- texts -/
theorem ei_strS {s : Str} (h : Ev K T te σ H zS s) (hl : s.length ≤ 1000000) : EvI K T (iStr te) σ H zS (s.cps.toList.map fun c => (⟨#[c]⟩ : Str)) := fun H1 f R q => h H1 f _ fun v H2 e2 r2 => by
  refine ⟨_, r2, q _ H2 e2 ⟨⟨_, _, _, ?_, walk_str, fun _ _ => trivial, fun i H' v H'' hi _ y => ?_⟩, ?_⟩⟩
  · simp
  · obtain ⟨rfl, c, hc, rfl⟩ := y
    exact ⟨Ex.refl _, ⟨#[c]⟩, by rw [List.getElem?_map]; simp only [Array.getElem?_toList] ; rw [hc]; rfl, fun _ _ _ => rfl⟩
  · rw [List.length_map, sizeLine_eq]
    have : s.cps.toList.length = s.length := by simp [Str.length]
    omega
def inSgn (c : Str) (s : Str) : Option Bool := match c.cps.toList with
  | [x] => some (decide (x ∈ s.cps.toList))
  | _ => none
theorem ev_inS {c s : Str} {x : Bool} (ha : Ev K T ta σ H zS c) (hb : Ev K T tb σ H zS s) (h : inSgn c s = some x) : Ev K T (tOp rInSg ta tb) σ H zB x :=
  ev_op ha hb fun v w H1 Q _ r1 r2 q => by
    unfold inSgn at h
    split at h
    · rename_i y hy
      cases h
      have hc : c = ⟨#[y]⟩ := by
        cases c with
        | mk a =>
          have : a = #[y] := by
            apply Array.ext'
            simpa using hy
          rw [this]
      exact ⟨y, s, by rw [show v = .str c from r1, hc], r2, q _ H1 (Ex.refl H1) rfl⟩
    · cases h
end
end EB

set_option Elab.async false
set_option linter.all false
set_option maxRecDepth 100000
set_option maxHeartbeats 4000000
/-! EB: exceptions. -/
namespace EB
open PySem PySem.Spec PyProof.Rows L2
/-! ### several clauses with names -/
abbrev Hdl := Value × Nat × (Addr → Value → Option Addr → TS)
def wManyAs (K : PySem.W.Frag) (Wout : WX) (D : Ends) : List Hdl → WX
  | [] => Wout
  | (c, i, ts) :: r => fun cls d σ H => ∃ b, PySem.W.exmOne K cls c = some b ∧ (b = true → ∀ a, H a = none → ts a cls d { nx := fun σ' H' => D.nx (σ'.set i none) H', rt := D.rt, bk := fun σ' H' => D.bk (σ'.set i none) H', ct := fun σ' H' => D.ct (σ'.set i none) H' } (σ.set i (some (.ref a))) H) ∧
    (b = false → wManyAs K Wout D r cls d σ H)
inductive HdsAs (X : Cx) : List ExceptHandler → List Hdl → Prop
  | nil : HdsAs X [] []
  | cons {x n : Str} {c : Value} {i : Nat} {ts : Addr → Value → Option Addr → TS} {b₀ : Stmt} {suite : List Stmt} {np pos' : Pos} {hds : List ExceptHandler} {l : List Hdl} (hi : X.N[i]? = some n) (hln : X.env.kindOf n = some .local) (hc : Names X x c)
      (hsu : ∀ (a : Addr) (oe : Obj) (cls : Value) (d : Option Addr) (pn : List (Addr × Obj)), Zc cls d oe → (∃ vs, oe.data = .fields vs) → PSs (X.suite a ((a, oe) :: pn)) (b₀ :: suite) (ts a cls d)) (r : HdsAs X hds l) :
      HdsAs X (.ExceptHandler (some (.Name x np)) (some n) (b₀ :: suite) pos' :: hds) ((c, i, ts) :: l)
section
variable {X : Cx} {body : List Stmt} {h₀ : ExceptHandler} {hds : List ExceptHandler} {l : List Hdl} {pos : Pos} {tb : WX → TS} {Wout : WX}
theorem ps_try_manyAs (hs : X.stack = X.env :: X.outer) (hf : X.env.frame = some X.env.locals) (hN : X.N.Nodup) (tk : Takes X Wout)
    (hb : ∀ (W : WX) (pn : List (Addr × Obj)) (xe : Value → Shared → Prop), Takes (X.tr pn xe) W → PassesOwn (model X.prog X.w) X.A X.env xe → PSs (X.tr pn xe) body (tb W))
    (hh : HdsAs X (h₀ :: hds) l) : PS X (.Try body (h₀ :: hds) [] [] pos) (fun D σ H => tb (wManyAs X.K Wout D l) D σ H) := by
  refine ⟨fun pins s σ H D I h => ?_⟩
  have ok := I.ok
  have hfr : X.A.frames = some (X.env :: X.outer) := by rw [ok.frames, hs]
  refine wpAny_Try_except ?_
  refine wpAny_mono ((hb (wManyAs X.K Wout D l) (X.pn ++ pins) (fun e s₁ => wpAny (model X.prog X.w) X.A (noteFrame e X.env) (fun _ s₂ => wpAny (model X.prog X.w) X.A (setFlight e none) (fun _ s₃ =>
    wpAny (model X.prog X.w) X.A (handleBy e X.env (h₀ :: hds)) (SP X pins D) X.xe s₃) X.xe s₂) X.xe s₁) (fun u s' xx => ?_) PassesOwn.looking).run [] s σ H D (I.toTry _) h) (fun f s1 hsp => ?_) (fun e s1 he => he)
  · obtain ⟨a, B, sI, pins', σ', H', cls, d, rfl, J', nb, up, sky, na, os, ag, w⟩ := xx
    have J : Inv X pins σ' H' sI := J'.ofTry ok
    have sky' : Sky B (X.env :: X.outer) a (Zc cls d) X.env.locals s'.heap := by rw [← hs]; exact sky
    show wpAny (model X.prog X.w) X.A (noteFrame (.ref a) X.env) _ _ _
    refine Sky.land Zc.steady hfr hf sky' fun h3 fl3 up3 => ?_
    have J3 : Inv X pins σ' H' { s' with heap := h3 } := J.landed nb fl3.1 (up.trans up3) os ag
    obtain ⟨oe3, vs3, he3, hz3, hd3⟩ := fl3.there
    have notFr : ∀ {h : Heap} {o : Obj} {vs : Array Value}, h.FunFrames B (X.env :: X.outer) → h.get? a = some o → o.data = .fields vs → a ∉ frs (X.env :: X.outer) := fun {h o vs} ff e dd hm => by
      obtain ⟨_, o', e', hnf⟩ := ff.mem hm
      rw [e] at e'; cases e'
      exact hnf _ dd
    have nfr := notFr fl3.2.2.1 he3 hd3
    have nL : a ≠ X.env.locals := fun z => nfr (List.mem_filterMap.mpr ⟨X.env, List.mem_cons_self, by rw [hf, z]⟩)
    have nF : a ∉ X.fs := fun hm => by
      obtain ⟨e, he, q⟩ := List.mem_filterMap.mp hm
      exact nfr (List.mem_filterMap.mpr ⟨e, List.mem_cons_of_mem _ he, q⟩)
    have S3 := J3.suite he3 hd3 na nL nF
    have go : ∀ {hds' : List ExceptHandler} {l' : List Hdl}, HdsAs X hds' l' → wManyAs X.K Wout D l' cls d σ' H' →
        wpAny (model X.prog X.w) X.A (handleBy (.ref a) X.env hds') (SP X pins D) X.xe { s' with heap := h3 } := by
      intro hds' l' hk
      induction hk with
      | nil =>
        intro w
        refine wpAny_handleBy_nil ?_
        obtain ⟨k1, k2, k3, oe, vs, T, oT, ts', he, hz, hd, h1, hr⟩ := id fl3
        unfold PySem.passOn
        refine wpAny_bind (wpAny_field he hd h1 ?_)
        rw [if_neg (show ¬ ((Value.ref T == Value.none) = true) from by simp)]
        have fin : wpAny (model X.prog X.w) X.A (setFlight (.ref a) X.env.frame) (fun _ s4 => wpAny (model X.prog X.w) X.A (throw (.ref a) : Sem Flow) (SP X pins D) X.xe s4) X.xe { s' with heap := h3 } := by
          rw [hf]
          refine HandSPX.setFlight_upZ fl3 fun h4 hh4 up4 => wpAny_throw (tk _ _ ?_)
          exact ⟨a, B, sI, pins, σ', H', cls, d, rfl, J, nb, (up.trans up3).trans up4, .inr (.inr (by rw [hs]; exact hh4)), na, os, ag, w⟩
        first
          | exact wpAny_bind (wpAny_pure (wpAny_bind fin))
          | exact wpAny_bind fin
      | @cons x n c i ts b₀ suite np pos' hds2 l2 hi hln hc hsu r ih =>
        intro w
        have hloc : Loc X.env.scope n := .inl hln
        obtain ⟨b, hb1, hyes, hno⟩ := w
        refine wpAny_handleBy_cons (codeAny_handlers_test ?_) (by intro q; cases q)
        have LT : PySem.W.Looks (model X.prog X.w) h3 (typeOf (.ref a)) cls := fun A Q E s k q => wpAny_typeOf_ref (k _ _ he3) (by rw [hz3.1]; exact q)
        have LM := PySem.W.exm_one (M := model X.prog X.w) (J3.kIn) LT hb1
        have test : ∀ {Q : Value → Shared → Prop} {E : Value → Shared → Prop}, Q c { s' with heap := h3 } → wpAny (model X.prog X.w) (X.A.mark (some (.ref a))) (eval (.Name x np) X.env) Q E { s' with heap := h3 } := fun {Q E} q => by
          obtain ⟨hg, hdbg, hm | ⟨hm, hv, hnn⟩⟩ := hc
          · exact ld_glob (X := X.suite a ((a, oe3) :: (X.pn ++ pins))) S3 hg hm q hdbg
          · exact ld_blt (X := X.suite a ((a, oe3) :: (X.pn ++ pins))) S3 hg hm hv q hnn hdbg
        refine test (LM.here ?_)
        cases b with
        | true =>
          refine codeAny_handlers_suite_as ?_
          refine HandSPX.lands_againZ fl3 fun h4 fl4 up4 => ?_
          have J4 : Inv X pins σ' H' { s' with heap := h4 } := J.landed nb fl4.1 ((up.trans up3).trans up4) os ag
          obtain ⟨oe4, vs4, he4, hz4, hd4⟩ := fl4.there
          have S4 := J4.suite he4 hd4 na nL nF
          refine store_ok (X := X.suite a ((a, oe4) :: (X.pn ++ pins))) (v := .ref a) S4 hN hi hloc rfl (fun s5 S5 => ?_) (.inr hln)
          refine wpAny_mono ((hsu a oe4 cls d (X.pn ++ pins) hz4 ⟨_, hd4⟩).run [] s5 _ H' _ S5 (hyes rfl a na)) (fun f s6 hsp => ?_) (fun _ _ z => False.elim z)
          have end_ : ∀ {σ6 : L2.St} {H6 : Hp} {Q : Shared → Prop}, Inv (X.suite a ((a, oe4) :: (X.pn ++ pins))) [] σ6 H6 s6 → (∀ s7, Inv X pins (σ6.set i none) H6 s7 → Q s7) →
              wpAny (model X.prog X.w) X.A (do bindName X.env n .none; unbindBehindTheSuite X.env n pos') (fun _ s7 => Q s7) X.xe s6 := fun {σ6 H6 Q} S6 hq => gone_ok (S6.unsuite ok) hN hi hln hq
          cases f with
          | next =>
            obtain ⟨σ6, H6, S6, q6⟩ := hsp
            exact end_ S6 fun s7 J7 => ⟨_, _, J7, q6⟩
          | brk =>
            obtain ⟨σ6, H6, S6, q6⟩ := hsp
            exact end_ S6 fun s7 J7 => ⟨_, _, J7, q6⟩
          | cont =>
            obtain ⟨σ6, H6, S6, q6⟩ := hsp
            exact end_ S6 fun s7 J7 => ⟨_, _, J7, q6⟩
          | ret u =>
            obtain ⟨v6, σ6, H6, S6, r6, q6⟩ := hsp
            exact end_ S6 fun s7 J7 => ⟨_, _, _, J7, r6, q6⟩
        | false =>
          show wpAny _ X.A (handleBy (.ref a) X.env hds2) _ _ _
          exact ih (hno rfl)
    exact go hh w
  · cases f with
    | next =>
      obtain ⟨σ', H', J', q⟩ := hsp
      exact wpAny_execs_nil ⟨σ', H', J'.ofTry ok, q⟩
    | brk =>
      obtain ⟨σ', H', J', q⟩ := hsp
      exact ⟨σ', H', J'.ofTry ok, q⟩
    | cont =>
      obtain ⟨σ', H', J', q⟩ := hsp
      exact ⟨σ', H', J'.ofTry ok, q⟩
    | ret u =>
      obtain ⟨v, σ', H', J', r, q⟩ := hsp
      exact ⟨v, σ', H', J'.ofTry ok, r, q⟩
end
/-! ### isinstance of the caught one -/
/-- what the class D must say -/
structure IsC (K : PySem.W.Frag) (D : Addr) : Prop where
  hg : PySem.W.findIn K (.ref D) "__getattribute__" = some (some (.builtin "BaseException.__getattribute__"))
  hk : PySem.W.findIn K (.ref D) "__getattr__" = some none
  hs : PySem.W.subIn K (.ref D) (.type "BaseException") = some true
  hd : (PySem.W.clsIn K D).isSome = true
  ha : PySem.W.findIn K (.ref D) "__class__" = some (some (.builtin "object.__class__"))
  hn : PySem.W.specialIn K (.builtin "object.__class__") "__get__" = some (some (.builtin "getset_descriptor.__get__"))
  ht : PySem.W.takesIn K (.builtin "object.__class__") = some true
  hm : PySem.W.mroIn K D (.type "object") = some true
/-- isinstance(e, c) -/
def rIsX (K : PySem.W.Frag) (a : Addr) (cls : Value) (d : Option Addr) : List V → Hp → VK → Prop := fun xs H Q => ∃ (D dd : Addr) (fs : List (Str × V)) (c : V) (cv : Value) (b : Bool), cls = .ref D ∧ d = some dd ∧ H dd = some (.xd fs) ∧ IsC K D ∧
  xs = [.ref a, c] ∧ ClsV c cv ∧ PySem.W.kitOne K (.ref D) cv = some b ∧ Q (.bl b) H
/-- isinstance(e, (c1, c2, ..)) -/
def rIsXT (K : PySem.W.Frag) (a : Addr) (cls : Value) (d : Option Addr) : List V → Hp → VK → Prop := fun xs H Q => ∃ (D dd : Addr) (fs : List (Str × V)) (tp : Addr) (cs : List V) (us : List Value) (b : Bool), cls = .ref D ∧ d = some dd ∧ H dd = some (.xd fs) ∧ IsC K D ∧
  xs = [.ref a, .ref tp] ∧ H tp = some (.tup cs) ∧ Paired ClsV cs us ∧ PySem.W.kitAny K (.ref D) us = some b ∧ Q (.bl b) H
section
variable {X : Cx} {a : Addr} {cls : Value} {d : Option Addr} {oe : Obj} {pn pins : List (Addr × Obj)} {σ : L2.St} {H : Hp} {s : Shared}
theorem inst_x {D dd : Addr} {fs : List (Str × V)} (hz : Zc cls d oe) (hf : ∃ vs, oe.data = .fields vs) (I : Inv (X.suite a ((a, oe) :: pn)) pins σ H s) (ec : cls = .ref D) (ed : d = some dd) (ea : H dd = some (.xd fs)) : ∃ od, PySem.W.InstAt s.heap a oe D (some od) := by
  subst ec
  subst ed
  obtain ⟨ha, _⟩ := I.pin (a, oe) (List.mem_append_left _ List.mem_cons_self)
  obtain ⟨vs, hd⟩ := hf
  have hx : ObjOk X.prog X.w H s.heap dd (.xd fs) := I.hok dd _ ea
  obtain ⟨mA, hns, hr⟩ := hx
  obtain ⟨od, ho, hl⟩ := lookIn_ns hns
  exact ⟨od, ha, hz.1, by unfold PySem.W.notCls; rw [hd] <;> rfl, by rw [hz.2]; exact ho⟩
theorem call_isX (hz : Zc cls d oe) (hf : ∃ vs, oe.data = .fields vs) : CallR (X.suite a ((a, oe) :: pn)) (.builtin "isinstance") (rIsX X.K a cls d) := by
  intro pins s σ H xs us Q I r h
  obtain ⟨D, dd, fs, c, cv, b, ec, ed, ea, C, rfl, hc, e, q⟩ := h
  obtain ⟨u1, u2, rfl, r1, r2⟩ := vals2 r
  cases (show u1 = Value.ref a from r1)
  have e2 := hc.eq r2
  subst e2
  obtain ⟨od, J⟩ := inst_x hz hf I ec ed ea
  exact PySem.W.kia_one (PySem.W.kitx_exc C.hd C.hg C.hk C.hs C.ha C.hn C.ht C.hm) I.kIn J e (fun z => nomatch z) fun tk => ⟨.bl b, H, I.tok tk, rfl, q⟩
theorem call_isXT (hz : Zc cls d oe) (hf : ∃ vs, oe.data = .fields vs) : CallR (X.suite a ((a, oe) :: pn)) (.builtin "isinstance") (rIsXT X.K a cls d) := by
  intro pins s σ H xs us Q I r h
  obtain ⟨D, dd, fs, tp, cs, ws, b, ec, ed, ea, C, rfl, hT, k, e, q⟩ := h
  obtain ⟨u1, u2, rfl, r1, r2⟩ := vals2 r
  cases (show u1 = Value.ref a from r1)
  cases (show u2 = Value.ref tp from r2)
  obtain ⟨od, J⟩ := inst_x hz hf I ec ed ea
  obtain ⟨_, its, rv, o, h1, h2, n, h3⟩ := (show ObjOk X.prog X.w H s.heap tp (.tup cs) from I.hok tp _ hT)
  have e3 := ClsV.all k rv
  subst e3
  obtain ⟨oc, od, dt, sl⟩ := o
  simp only at h2 h3
  subst h2 h3
  exact PySem.W.kia_tup (PySem.W.kitx_exc C.hd C.hg C.hk C.hs C.ha C.hn C.ht C.hm) I.kIn J h1 e (fun z => nomatch z) fun tk => ⟨.bl b, H, I.tok tk, rfl, q⟩
end
/-! ### what the written part says of an own class of errors -/
def oexB (K : PySem.W.Frag) (C : Addr) : Bool := match K.lookup C with
  | some ⟨.type t, dd, .cls cd, sl⟩ => t == "type" && (match cd.mro with
    | .ref c :: bm => decide (c = C) && PySem.HandSPX.refsVE bm
    | _ => false) && cd.hasDict && !cd.hasDel && (match sl.toList with
    | [_, _, _, _, some (.builtin n), _] => n == "ValueError.__new__"
    | _ => false)
  | _ => false
theorem oexB_ok {K : PySem.W.Frag} {C : Addr} (h : oexB K C = true) : ∃ nm q N bs bm sn sub ab col dd k0 k1 k2 k3 k5, K.lookup C = some (excClassObj nm q C N bs bm true sn sub ab col dd k0 k1 k2 k3 k5 "ValueError.__new__") ∧ PySem.HandSPX.refsVE bm = true := by
  unfold oexB at h
  split at h
  · rename_i t dd cd sl e
    simp only [Bool.and_eq_true, Bool.not_eq_true'] at h
    obtain ⟨⟨⟨⟨h1, h2⟩, h3⟩, h4⟩, h5⟩ := h
    split at h2
    · rename_i c bm em
      split at h5
      · rename_i k0 k1 k2 k3 n k5 es
        simp only [Bool.and_eq_true, decide_eq_true_eq] at h2
        obtain ⟨nm, bs, mro, ns, qn, hd, sn, sb, ab, col, del⟩ := cd
        dsimp only at em h3 h4
        have ht : t = "type" := by simpa using h1
        have hn : n = "ValueError.__new__" := by simpa using h5
        have hs : sl = #[k0, k1, k2, k3, some (.builtin n), k5] := by apply Array.ext'; simpa using es
        subst ht
        subst hn
        subst hs
        subst em
        subst h3
        subst h4
        obtain ⟨hc, hr⟩ := h2
        subst hc
        exact ⟨nm, qn, ns, bs, bm, sn, sb, ab, col, dd, k0, k1, k2, k3, k5, e, hr⟩
      · cases h5
    · cases h2
  · cases h
def eqV (o : Option (Option Value)) (v : Value) : Bool := decide (o = some (some v))
def isB (K : PySem.W.Frag) (D : Addr) : Bool := decide (PySem.W.findIn K (.ref D) "__getattribute__" = some (some (.builtin "BaseException.__getattribute__"))) && (decide (PySem.W.findIn K (.ref D) "__getattr__" = some none) && (decide (PySem.W.subIn K (.ref D) (.type "BaseException") = some true) && ((PySem.W.clsIn K D).isSome && (decide (PySem.W.findIn K (.ref D) "__class__" = some (some (.builtin "object.__class__"))) &&
  (decide (PySem.W.specialIn K (.builtin "object.__class__") "__get__" = some (some (.builtin "getset_descriptor.__get__"))) && (decide (PySem.W.takesIn K (.builtin "object.__class__") = some true) && decide (PySem.W.mroIn K D (.type "object") = some true)))))))
theorem ba2 {a b : Bool} (h : (a && b) = true) : a = true ∧ b = true := Bool.and_eq_true_iff.mp h
theorem isB_ok {K : PySem.W.Frag} {D : Addr} (h : isB K D = true) : IsC K D := by
  obtain ⟨h1, h⟩ := ba2 h
  obtain ⟨h2, h⟩ := ba2 h
  obtain ⟨h3, h⟩ := ba2 h
  obtain ⟨h4, h⟩ := ba2 h
  obtain ⟨h5, h⟩ := ba2 h
  obtain ⟨h6, h⟩ := ba2 h
  obtain ⟨h7, h8⟩ := ba2 h
  exact ⟨of_decide_eq_true h1, of_decide_eq_true h2, of_decide_eq_true h3, h4, of_decide_eq_true h5, of_decide_eq_true h6, of_decide_eq_true h7, of_decide_eq_true h8⟩
/-- an own class of errors with one field -/
structure ErrC (K : PySem.W.Frag) (x f : Str) : Prop where
  oex : OexC K (He.ga K x)
  is : IsC K (He.ga K x)
  xf : XfC K (He.ga K x)
  nof : PySem.W.findIn K (.ref (He.ga K x)) f = some none
  ini : PySem.W.findIn K (.ref (He.ga K x)) "__init__" = some (some (.ref (He.ma K (He.ga K x) "__init__")))
  fn : PySem.W.typeIn K (.ref (He.ma K (He.ga K x) "__init__")) = some (.type "function")
def errB (K : PySem.W.Frag) (x f : Str) : Bool := oexB K (He.ga K x) && (decide (PySem.W.findIn K (.ref (He.ga K x)) "__setattr__" = some (some (.builtin "object.__setattr__"))) && (decide (PySem.W.subIn K (.ref (He.ga K x)) (.type "BaseException") = some true) && (decide (PySem.W.typeIn K (.ref (He.ga K x)) = some (.type "type")) && (PySem.W.keepIn K (.ref (He.ga K x)) &&
  (isB K (He.ga K x) && (xfB K (He.ga K x) && (decide (PySem.W.findIn K (.ref (He.ga K x)) f = some none) && (decide (PySem.W.findIn K (.ref (He.ga K x)) "__init__" = some (some (.ref (He.ma K (He.ga K x) "__init__")))) && decide (PySem.W.typeIn K (.ref (He.ma K (He.ga K x) "__init__")) = some (.type "function"))))))))))
theorem errB_ok {K : PySem.W.Frag} {x f : Str} (h : errB K x f = true) : ErrC K x f := by
  obtain ⟨h1, h⟩ := ba2 h
  obtain ⟨h2, h⟩ := ba2 h
  obtain ⟨h3, h⟩ := ba2 h
  obtain ⟨h4, h⟩ := ba2 h
  obtain ⟨h5, h⟩ := ba2 h
  obtain ⟨h6, h⟩ := ba2 h
  obtain ⟨h7, h⟩ := ba2 h
  obtain ⟨h8, h⟩ := ba2 h
  obtain ⟨h9, h10⟩ := ba2 h
  exact ⟨⟨oexB_ok h1, of_decide_eq_true h2, of_decide_eq_true h3, of_decide_eq_true h4, h5⟩, isB_ok h6, xfB_ok h7, of_decide_eq_true h8, of_decide_eq_true h9, of_decide_eq_true h10⟩
/-- does the clause for y take an error of the class x -/
def exmB (K : PySem.W.Frag) (x y : Str) (b : Bool) : Bool := decide (PySem.W.exmOne K (.ref (He.ga K x)) (.ref (He.ga K y)) = some b)
def kioB (K : PySem.W.Frag) (x y : Str) (b : Bool) : Bool := decide (PySem.W.kitOne K (.ref (He.ga K x)) (.ref (He.ga K y)) = some b)
def kitTB (K : PySem.W.Frag) (x : Str) (t : String) (b : Bool) : Bool := decide (PySem.W.kitOne K (.ref (He.ga K x)) (.type t) = some b)
end EB

set_option Elab.async false
set_option linter.all false
set_option maxRecDepth 100000
set_option maxHeartbeats 4000000
/-! EB: promises of defs that may raise; raise, try. -/
namespace EB
open PySem PySem.Spec PyProof.Rows L2
/-- an error: its class and field, what it holds -/
structure Err where
  k : Str × Str
  x : PyData
/-- the dict of an error -/
def zX (f : Str) : Rp PyData := fun K T H v x => ∃ dd u, v = .ref dd ∧ ¬ T dd ∧ H dd = some (.xd [(f, u)]) ∧ ZD K T H u x
instance {f : Str} : Mo (zX f) := ⟨fun w ⟨p, u, e, n, h, q⟩ => ⟨p, u, e, fun t => (w.nw p t).elim n fun z => (by rw [h] at z; cases z), w.fr.keep p _ n h, q.wd w⟩⟩
def XSp (K : PySem.W.Frag) {α β : Type} (ra : Rpl α) (r : Rp β) (m : α → Option (Except Err β)) : Sp := fun vs H Q E =>
  ∃ (T : AS) (a : α) (o : Except Err β), TD T H ∧ ra K T H vs a ∧ m a = some o ∧ (∀ d, o = .ok d → ∀ v H', Ex H H' → r K T H' v d → Q v H') ∧
    (∀ e : Err, o = .error e → ∀ d H', Ex H H' → zX e.k.2 K T H' (.ref d) e.x → E (.ref (He.ga K e.k.1)) (some d) H')
theorem XSp_len {K : PySem.W.Frag} {α β : Type} {ra : Rpl α} {r : Rp β} {m : α → Option (Except Err β)} {n : Nat} (h : ∀ K T H vs a, ra K T H vs a → vs.length = n) : ∀ vs H Q E, XSp K ra r m vs H Q E → vs.length = n := fun vs H Q E ⟨T, a, _, _, hr, _⟩ => h K T H vs a hr
/-- __init__ of an own class of errors -/
def spErr (K : PySem.W.Frag) (C : Addr) (f : Str) : Sp := fun vs H Q _ => ∃ a v, vs = [.ref a, v] ∧ H a = some (exo a C none) ∧ ∀ dx, H dx = none → dx ≠ a → Q .non (upd (upd H dx (exd dx [(f, v)])) a (exo a C (some dx)))
theorem spErr_len {K : PySem.W.Frag} {C : Addr} {f : Str} : ∀ vs H Q E, spErr K C f vs H Q E → vs.length = 2 := fun vs H Q E ⟨a, v, e, _⟩ => by rw [e]; rfl
/-- a def that may raise -/
structure OkX (P : Program) (w : World) (K : PySem.W.Frag) (mg : Str → Option Value) (base : Heap) (k : Nat) (x : Str × Option Str) (ps : List Str) (sp : Sp) : Prop where
  ex : ∃ fd, FnOk P w K mg base (L2.CX P w) k (He.fAd K x) fd ps sp ∧ Binds K fd ps [] ∧ PySem.W.keepIn K (.ref (He.fAd K x)) = true
theorem mk_okX {P : Program} {w : World} {K : PySem.W.Frag} {mg : Str → Option Value} {base : Heap} {k : Nat} {at_ : Str × Option Str} {x qual : Str} {params : Arguments} {body : List Stmt} {scope : Scope} {kws : List (Str × V)} {N ps : List Str} {sp : Sp} {fd : FuncData}
    (F : FunD K x qual params body scope [] kws (He.fAd K at_) fd) (S : FnScope N ps scope) (hb : Binds K fd ps []) (len : ∀ vs H Q E, sp vs H Q E → vs.length = ps.length)
    (hbody : ∀ (cdv : Value) (A : Around) (outer : List Env) (s : Shared) (H : Hp) (vs : List V) (Q : VK) (E : XK), Room k (A.deeper (envOfC qual scope s.heap.objs.size (He.fAd K at_) cdv)) → sp vs H Q E →
      ∃ t, PSs (cxOf (L2.CX P w) P w K mg base N qual scope (He.fAd K at_) cdv A outer s H E) body t ∧ t { nx := fun _ H' => Q .non H', rt := Q } (start N vs) H) : OkX P w K mg base (k + 1) at_ ps sp :=
  ⟨fd, F.ok S len fun cdv A outer s H vs Q E hr h => hbody cdv A outer s H vs Q E hr h, hb, F.kp⟩
/-- nobody takes what is raised: nothing is -/
theorem passNo {X : Cx} (σ : L2.St) : PassesAt (L2.CX X.prog X.w) X σ (fun _ _ _ => False) := fun _ _ _ _ _ _ ⟨_, _, _, _, _, _, _, _, _, _, _, _, h⟩ => h.elim
def WNo : WX := fun _ _ _ _ => False
section
variable {X : Cx} {k j : Nat} {x : Str} {ps : List Str} {sp : Sp} {p pos apos : Pos} {e o : Expr} {es : List Expr} {t : TA} {ta : TE} {W : WX}
/-- f(..), what it raises goes to W -/
theorem px_call (F : OkX X.prog X.w X.K X.mg X.base k (x, none) ps sp) (tk : ∀ σ, PassesAt (L2.CX X.prog X.w) X σ (WE W σ)) (hr : Room j X.A) (hk : k ≤ j) (hg : Gl X x) (hm : X.mg x = some (.ref (He.ga X.K x))) (ha : PA X (e :: es) t) (hdb : (x == ("__debug__" : Str)) = false := by decide)
    (he : starEach (e :: es) X.env = (false, eval e X.env) :: starEach es X.env := by rfl) (hpl : (backTo pos (starEach es X.env)).any (·.1) = false := by rfl) : PE X (.Call (.Name x p) (e :: es) [] pos) (tCallS sp (WE W) t) := by
  obtain ⟨fd, f, b, kp⟩ := F.ex
  exact pe_callS f (hr.mono hk) hg hm kp b tk ha hdb he hpl
/-- C(e), an own class of errors -/
theorem px_mk {f : Str} (T : ErrC X.K x f) (F : Ok X.prog X.w X.K X.mg X.base k (x, some "__init__") ["self", f] (spErr X.K (He.ga X.K x) f)) (hr : Room j X.A) (hk : k + 1 ≤ j) (hg : Gl X x) (hm : X.mg x = some (.ref (He.ga X.K x))) (ha : PA X (e :: es) t)
    (hdb : (x == ("__debug__" : Str)) = false := by decide) (he : starEach (e :: es) X.env = (false, eval e X.env) :: starEach es X.env := by rfl) (hpl : (backTo pos (starEach es X.env)).any (·.1) = false := by rfl) :
    PMk X (.Call (.Name x p) (e :: es) [] pos) (tMkO (He.ga X.K x) (spErr X.K (He.ga X.K x) f) [] t) := by
  obtain ⟨fd, F1, b, kp⟩ := F.ex
  exact pmk_oex T.oex T.ini T.fn F1 (hr.mono hk) b .nil pass0 hg hm ha hdb he hpl
end
/-- raise C(e) -/
def tRaiseX (W : WX) (t : L2.St → Hp → XK → Prop) : TS := fun _ σ H => t σ H fun cls d H' => W cls d σ H'
section
variable {K : PySem.W.Frag} {T : AS} {σ : L2.St} {H : Hp} {α β γ : Type} {r : Rp α} {s : Rp β} {te ta tb : TE} {tr : TA} {D : Ends} {W : WX}
theorem st_raise {C : Addr} {f : Str} {x : PyData} (hT : TD T H) (h : Ev K T te σ H zD x) (k : ∀ d H', Ex H H' → zX f K T H' (.ref d) x → W (.ref C) (some d) σ H') : tRaiseX W (tMkO C (spErr K C f) [] (tCons te tNil)) D σ H := by
  refine h H (Fr.refl H) _ fun v H1 e1 r1 => ⟨by simp, fun a ha => ?_⟩
  have hT1 := hT.ex e1
  refine ⟨a, v, rfl, upd_same, fun dx n ne => ⟨rfl, dx, [(f, v)], upd_same, ?_, ?_, ?_⟩⟩
  · rw [upd_ne ne, upd_same]
  · rw [upd_ne ne] at n; exact n
  · rw [upd_ne ne] at n
    have ndx : ∀ {b : Addr} {o : HO}, H1 b = some o → b ≠ dx := fun {b o} h z => by rw [z, n] at h; cases h
    have na : ∀ {b : Addr} {o : HO}, H1 b = some o → b ≠ a := fun {b o} h z => by rw [z, ha] at h; cases h
    have ex : Ex H1 (upd (del (upd (upd (upd H1 a (exo a C none)) dx (exd dx [(f, v)])) a (exo a C (some dx))) a) dx (.xd [(f, v)])) := fun b o hb => by
      rw [upd_ne (ndx hb), del_ne (na hb), upd_ne (na hb), upd_ne (ndx hb), upd_ne (na hb)]; exact hb
    refine k dx _ (e1.trans ex) ⟨dx, v, rfl, fun t => ?_, upd_same, ZD.wd (Wd.ex ex) r1⟩
    obtain ⟨o, ho⟩ := hT1 dx t
    rw [n] at ho; cases ho
/-- what is raised, in the midst of an expression -/
def EvE (K : PySem.W.Frag) (T : AS) (te : TE) (σ : L2.St) (H : Hp) (W : WX) (e : Err) : Prop :=
  ∀ H1, Fr T H H1 → (∀ d H2, Ex H1 H2 → zX e.k.2 K T H2 (.ref d) e.x → W (.ref (He.ga K e.k.1)) (some d) σ H2) → ∀ Q, te σ H1 Q
def EvAE (K : PySem.W.Frag) (T : AS) (te : TA) (σ : L2.St) (H : Hp) (W : WX) (e : Err) : Prop :=
  ∀ H1, Fr T H H1 → (∀ d H2, Ex H1 H2 → zX e.k.2 K T H2 (.ref d) e.x → W (.ref (He.ga K e.k.1)) (some d) σ H2) → ∀ Q, te σ H1 Q
theorem ev_callX {ra : Rpl β} {m : β → Option (Except Err α)} {a : β} {d : α} {EE : L2.St → XK} (hT : TD T H) (h : EvA K T tr σ H ra a) (hm : m a = some (.ok d)) : Ev K T (tCallS (XSp K ra r m) EE tr) σ H r d := fun H1 g Q q =>
  h H1 g _ fun vs H2 e2 r2 => ⟨T, a, .ok d, (hT.fr g).ex e2, r2, hm, fun d' e' v H3 e3 r3 => by cases e'; exact q v H3 (e2.trans e3) r3, fun e e' => by cases e'⟩
theorem ee_callX {ra : Rpl β} {m : β → Option (Except Err α)} {a : β} {e : Err} (hT : TD T H) (h : EvA K T tr σ H ra a) (hm : m a = some (.error e)) : EvE K T (tCallS (XSp K ra r m) (WE W) tr) σ H W e := fun H1 g k Q =>
  h H1 g _ fun vs H2 e2 r2 => ⟨T, a, .error e, (hT.fr g).ex e2, r2, hm, fun d' e' => (by cases e'), fun e' he d H3 e3 z => by cases he; exact k d H3 (e2.trans e3) z⟩
theorem ee_tup {e : Err} (h : EvAE K T tr σ H W e) : EvE K T (tTup tr) σ H W e := fun H1 g k Q => h H1 g k _
theorem ee_lst {e : Err} (h : EvAE K T tr σ H W e) : EvE K T (tLst tr) σ H W e := fun H1 g k Q => h H1 g k _
theorem ee_a0 {e : Err} (h : EvE K T te σ H W e) : EvAE K T (tCons te tr) σ H W e := fun H1 g k Q => h H1 g k _
theorem ee_a1 {e : Err} {d : α} (h0 : Ev K T ta σ H r d) (h : EvAE K T tr σ H W e) : EvAE K T (tCons ta tr) σ H W e := fun H1 g k Q => h0 H1 g _ fun v H2 e2 _ => h H2 (g.trans e2.fr) (fun d H3 e3 z => k d H3 (e2.trans e3) z) _
theorem st_retE {e : Err} (h : EvE K T te σ H W e) (k : ∀ d H2, Ex H H2 → zX e.k.2 K T H2 (.ref d) e.x → W (.ref (He.ga K e.k.1)) (some d) σ H2) : tRet te D σ H := h H (Fr.refl H) k _
theorem st_asgE {e : Err} {g : TG} (h : EvE K T te σ H W e) (k : ∀ d H2, Ex H H2 → zX e.k.2 K T H2 (.ref d) e.x → W (.ref (He.ga K e.k.1)) (some d) σ H2) : tAsg te g D σ H := h H (Fr.refl H) k _
theorem st_dropE {e : Err} (h : EvE K T te σ H W e) (k : ∀ d H2, Ex H H2 → zX e.k.2 K T H2 (.ref d) e.x → W (.ref (He.ga K e.k.1)) (some d) σ H2) : tDrop te D σ H := h H (Fr.refl H) k _
/-! ### in a clause -/
theorem ev_xf {C a dd i : _} {f : Str} {x : PyData} (e : σ[i]? = some (some (.ref a))) (h : zX f K T H (.ref dd) x) : Ev K T (tXf a (.ref C) (some dd) C f (tVar i)) σ H zD x := fun H1 g Q q => by
  obtain ⟨p, u, e1, n, h1, z⟩ := Mo.fr g h
  cases e1
  exact ⟨_, e, rfl, rfl, dd, _, u, rfl, h1, by simp [List.lookup], q u H1 (Ex.refl H1) z⟩
theorem ev_isX {a dd i : _} {x y f : Str} {b : Bool} {d : PyData} (I : IsC K (He.ga K x)) (hk : kioB K x y b = true) (e : σ[i]? = some (some (.ref a))) (h : zX f K T H (.ref dd) d) :
    Ev K T (tCB (rIsX K a (.ref (He.ga K x)) (some dd)) (tCons (tVar i) (tCons (tC (.ref (He.ga K y))) tNil))) σ H zB b := fun H1 g Q q => by
  obtain ⟨p, u, e1, n, h1, z⟩ := Mo.fr g h
  cases e1
  exact ⟨_, e, He.ga K x, dd, _, .ref (He.ga K y), _, b, rfl, rfl, h1, I, rfl, .own _, of_decide_eq_true hk, q _ H1 (Ex.refl H1) rfl⟩
theorem ev_isXT {a dd i : _} {x f : Str} {n : String} {b : Bool} {d : PyData} (I : IsC K (He.ga K x)) (hk : kitTB K x n b = true) (e : σ[i]? = some (some (.ref a))) (h : zX f K T H (.ref dd) d) :
    Ev K T (tCB (rIsX K a (.ref (He.ga K x)) (some dd)) (tCons (tVar i) (tCons (tC (.ty n)) tNil))) σ H zB b := fun H1 g Q q => by
  obtain ⟨p, u, e1, n, h1, z⟩ := Mo.fr g h
  cases e1
  exact ⟨_, e, He.ga K x, dd, _, .ty _, _, b, rfl, rfl, h1, I, rfl, .ty _, of_decide_eq_true hk, q _ H1 (Ex.refl H1) rfl⟩
/-- isinstance(e, (C1, C2, ..)) -/
def kanyB (K : PySem.W.Frag) (x : Str) (ys : List Str) (b : Bool) : Bool := decide (PySem.W.kitAny K (.ref (He.ga K x)) (ys.map fun y => .ref (He.ga K y)) = some b)
def tNs (K : PySem.W.Frag) : List Str → TA
  | [] => tNil
  | y :: ys => tCons (tC (.ref (He.ga K y))) (tNs K ys)
theorem tNs_run : ∀ {ys : List Str} {Q : List V → Hp → Prop}, Q (ys.map fun y => V.ref (He.ga K y)) H → tNs K ys σ H Q
  | [], Q, h => h
  | y :: ys, Q, h => tNs_run (ys := ys) (Q := fun vs H => Q (_ :: vs) H) h
theorem paired_own : ∀ {ys : List Str}, Paired ClsV (ys.map fun y => V.ref (He.ga K y)) (ys.map fun y => Value.ref (He.ga K y))
  | [] => .nil
  | _ :: _ => .cons (.own _) paired_own
theorem ev_isXs {a dd i : _} {x f : Str} {ys : List Str} {b : Bool} {d : PyData} (I : IsC K (He.ga K x)) (hk : kanyB K x ys b = true) (hl : ys.length ≤ 1000) (e : σ[i]? = some (some (.ref a))) (h : zX f K T H (.ref dd) d) :
    Ev K T (tCB (rIsXT K a (.ref (He.ga K x)) (some dd)) (tCons (tVar i) (tCons (tTup (tNs K ys)) tNil))) σ H zB b := fun H1 g Q q => by
  obtain ⟨p, u, e1, n, h1, z⟩ := Mo.fr g h
  cases e1
  refine ⟨_, e, tNs_run ⟨by rw [List.length_map, sizeLine_eq]; omega, fun tp hp => ?_⟩⟩
  refine ⟨He.ga K x, dd, [(f, u)], tp, _, _, b, rfl, rfl, ?_, I, rfl, upd_same, paired_own, of_decide_eq_true hk, q _ _ (Ex.new hp) rfl⟩
  rw [upd_ne (fun z => by rw [z, hp] at h1; cases h1)]; exact h1
/-! ### mirrors -/
theorem catx {α β : Type} {o : Option (Except Err α)} {k : α → Option β} {h : Err → Option β} {r : β} (e : (o.bind fun z => match z with
    | .ok d => k d
    | .error x => h x) = some r) : (∃ d, o = some (.ok d) ∧ k d = some r) ∨ ∃ x, o = some (.error x) ∧ h x = some r := by
  obtain ⟨z, h1, h2⟩ := bnd e
  cases z with
  | ok d => exact .inl ⟨d, h1, h2⟩
  | error x => exact .inr ⟨x, h1, h2⟩
def catX {α β : Type} (o : Option (Except Err α)) (k : α → Option β) (h : Err → Option β) : Option β := o.bind fun z => match z with
    | .ok d => k d
    | .error x => h x
theorem catX_or {α β : Type} {o : Option (Except Err α)} {k : α → Option β} {h : Err → Option β} {r : β} (e : catX o k h = some r) : (∃ d, o = some (.ok d) ∧ k d = some r) ∨ ∃ x, o = some (.error x) ∧ h x = some r := catx e
/-- no error -/
def okX {α : Type} (o : Option (Except Err α)) : Option α := o.bind fun z => match z with
    | .ok d => some d
    | .error _ => none
theorem okX_ok {α : Type} {o : Option (Except Err α)} {d : α} (e : okX o = some d) : o = some (.ok d) := by
  rcases catx (k := some) (h := fun _ => none) e with ⟨z, h1, h2⟩ | ⟨x, _, h2⟩
  · cases h2; exact h1
  · cases h2
/-! ### which clause -/
theorem wm_yes {c : Value} {i : Nat} {ts : Addr → Value → Option Addr → TS} {l : List Hdl} {Wout : WX} {cls : Value} {d : Option Addr} (h : PySem.W.exmOne K cls c = some true)
    (k : ∀ a, H a = none → ts a cls d { nx := fun σ' H' => D.nx (σ'.set i none) H', rt := D.rt, bk := fun σ' H' => D.bk (σ'.set i none) H', ct := fun σ' H' => D.ct (σ'.set i none) H' } (σ.set i (some (.ref a))) H) : wManyAs K Wout D ((c, i, ts) :: l) cls d σ H :=
  ⟨true, h, fun _ => k, fun z => by cases z⟩
theorem wm_no {c : Value} {i : Nat} {ts : Addr → Value → Option Addr → TS} {l : List Hdl} {Wout : WX} {cls : Value} {d : Option Addr} (h : PySem.W.exmOne K cls c = some false) (k : wManyAs K Wout D l cls d σ H) : wManyAs K Wout D ((c, i, ts) :: l) cls d σ H :=
  ⟨false, h, fun z => (by cases z), fun _ => k⟩
/-! ### in the packed form -/
variable {b : Bs} {fs : List (Fact K)} {cs : List (Cel K)}
theorem En.err (E : En K b fs cs T H) {e : Err} {R : Addr → Hp → Prop} (k : ∀ d H2, En K b (fR (zX e.k.2) (.ref d) e.x :: fs) cs T H2 → R d H2) :
    ∀ d H2, Ex H H2 → zX e.k.2 K T H2 (.ref d) e.x → R d H2 := fun d H2 e2 z => k d H2 ((E.ex e2).add z)
theorem En.raise (E : En K b fs cs T H) {x f : Str} {d : PyData} (h : Ev K T te σ H zD d) (k : ∀ p H2, En K b (fR (zX f) (.ref p) d :: fs) cs T H2 → W (.ref (He.ga K x)) (some p) σ H2) : tRaiseX W (tMkO (He.ga K x) (spErr K (He.ga K x) f) [] (tCons te tNil)) D σ H :=
  st_raise E.td h fun p H2 e2 z => k p H2 ((E.ex e2).add z)
end
end EB

set_option Elab.async false
set_option linter.all false
set_option maxRecDepth 100000
set_option maxHeartbeats 4000000
/-! EB: texts, lists put together, data read off our lists, boxes. -/
namespace EB
open PySem PySem.Spec PyProof.Rows L2
def ixS (s : Str) (i : Int) : Option Str := if s.length ≤ 1000000 then (atI s.cps.toList i).map fun c => ⟨#[c]⟩ else none
def strB (i : Int) : Option (List Bool) := if i = 0 then some [false] else if i = 1 then some [true] else none
def strI (i : Int) : Str := toString i
def rStrI : List V → Hp → VK → Prop := fun xs H Q => ∃ i, xs = [.int i] ∧ i.natAbs.log2 < 1920 ∧ Q (.str (toString i)) H
theorem call_strI {X : Cx} : CallR X (.type "str") rStrI := call_str_int
mutual
def noL : PyData → Bool
  | .list _ => false
  | .dict _ => false
  | .tuple xs => noLs xs
  | _ => true
def noLs : List PyData → Bool
  | [] => true
  | x :: xs => noL x && noLs xs
end
section
variable {K : PySem.W.Frag} {T T' : AS} {σ : L2.St} {H : Hp} {α β γ : Type} {r : Rp α} {s : Rp β} {te ta tb : TE} {tr : TA} {tl th : TO} {Q : VK}
theorem ev_WS {w : List Bool} (h : Ev K T te σ H zW w) : Ev K T te σ H zS (wS w) := fun H1 f Q q => h H1 f Q fun v H2 e r2 => q v H2 e r2.1
theorem ev_catS {i j : Str} (ha : Ev K T ta σ H zS i) (hb : Ev K T tb σ H zS j) (hl : i.length + j.length ≤ 1000000) : Ev K T (tOp rCatS ta tb) σ H zS (i ++ j) :=
  ev_op ha hb fun x y H1 Q _ h1 h2 q => ⟨_, _, h1, h2, by rw [sizeLine_eq]; omega, q _ H1 (Ex.refl H1) rfl⟩
theorem ev_ixS {z c : Str} {i : Int} (ha : Ev K T ta σ H zS z) (hb : Ev K T tb σ H zI i) (hi : ixS z i = some c) : Ev K T (tOp rIxS ta tb) σ H zS c :=
  ev_op ha hb fun x y H1 Q _ h1 h2 q => by
    unfold ixS at hi
    split at hi
    · rename_i hl
      cases hc : atI z.cps.toList i with
      | none => rw [hc] at hi; cases hi
      | some c' =>
        rw [hc] at hi
        cases hi
        exact ⟨z, i, c', h1, h2, by rw [sizeLine_eq]; omega, hc, q _ H1 (Ex.refl H1) rfl⟩
    · cases hi
theorem ev_slS {z : Str} {lo hi : Option Int} (h : Ev K T te σ H zS z) (h1 : EvO T tl σ H lo) (h2 : EvO T th σ H hi) (hz : z.length ≤ 1000000) : Ev K T (tSl rSlS te tl th) σ H zS (cutS z lo hi) := fun H1 f Q q =>
  h H1 f _ fun v H2 e2 r2 => h1 H2 (f.trans e2.fr) _ fun H3 e3 => h2 H3 ((f.trans e2.fr).trans e3.fr) _ fun H4 e4 => by
    cases r2
    exact ⟨z, rfl, by rw [sizeLine_eq]; omega, q _ _ ((e2.trans e3).trans e4) rfl⟩
theorem ev_lenS {z : Str} (h : Ev K T te σ H zS z) (hz : z.length ≤ 1000000) : Ev K T (tCB rLenStr (tCons te tNil)) σ H zI (z.length : Int) := ev_c1 h fun x H1 Q _ e q => ⟨z, by rw [show x = .str z from e], by rw [sizeLine_eq]; omega, q _ H1 (Ex.refl H1) rfl⟩
theorem all2_text {vs : List V} {ys : List Str} (h : All2 (zS K T H) vs ys) : vs = ys.map V.str := by
  induction h with
  | nil => rfl
  | cons a _ ih => rw [List.map_cons, ← ih, show _ = V.str _ from a]
theorem ev_joinS {a : Str} {ys : List Str} (ha : Ev K T ta σ H zS a) (hb : Ev K T tb σ H (zL zS) ys) (hl : (ys.map (·.length)).sum + ys.length * a.length ≤ 1000000) : Ev K T (tM1 (rJoin K) ta tb) σ H zS (Txt.join a ys) := fun H1 f Q q => ha H1 f _ fun v H2 e2 r2 => by
  cases r2
  refine ⟨⟨_, rfl⟩, hb H2 (f.trans e2.fr) _ fun y H3 e3 r3 => ?_⟩
  obtain ⟨p, vs, rfl, hs, hall⟩ := r3
  have e := all2_text hall
  exact ⟨a, p, ys, rfl, rfl, .inl (by rw [← e]; exact hs.sq), by omega, q _ _ (e2.trans e3) rfl⟩
theorem ev_strB {i : Int} {w : List Bool} (h : Ev K T te σ H zI i) (hw : strB i = some w) : Ev K T (tCB rStrI (tCons te tNil)) σ H zW w := ev_c1 h fun x H1 Q _ e q => by
  unfold strB at hw
  split at hw
  · rename_i e0; cases hw; subst e0
    exact ⟨0, by rw [show x = .int 0 from e], by decide +kernel, q _ H1 (Ex.refl H1) ⟨by decide +kernel, by decide⟩⟩
  · split at hw
    · rename_i _ e0; cases hw; subst e0
      exact ⟨1, by rw [show x = .int 1 from e], by decide +kernel, q _ H1 (Ex.refl H1) ⟨by decide +kernel, by decide⟩⟩
    · cases hw
theorem ev_strI {i : Int} (h : Ev K T te σ H zI i) (hw : i.natAbs.log2 < 1920) : Ev K T (tCB rStrI (tCons te tNil)) σ H zS (strI i) := ev_c1 h fun x H1 Q _ e q => ⟨i, by rw [show x = .int i from e], hw, q _ H1 (Ex.refl H1) rfl⟩
/-- lists of data -/
theorem all2_D [Tod r] {vs : List V} {xs : List α} (h : All2 (r K T H) vs xs) : All2 (zD K T H) vs (xs.map (Tod.toD r)) := (zds_map h).all
theorem ev_LD [Tod r] {xs : List α} (h : Ev K T te σ H (zL r) xs) : Ev K T te σ H (zL zD) (xs.map (Tod.toD r)) := fun H1 f Q q => h H1 f Q fun v H2 e ⟨a, vs, e1, hs, hh⟩ => q v H2 e ⟨a, vs, e1, hs, all2_D hh⟩
theorem ev_UD [Tod r] {xs : List α} (h : Ev K T te σ H (zU r) xs) : Ev K T te σ H (zU zD) (xs.map (Tod.toD r)) := fun H1 f Q q => h H1 f Q fun v H2 e ⟨a, vs, e1, hs, hh⟩ => q v H2 e ⟨a, vs, e1, hs, all2_D hh⟩
theorem all2_dS : ∀ {vs : List V} {ds : List PyData} {ys : List Str}, All2 (zD K T H) vs ds → mapO dStr ds = some ys → All2 (zS K T H) vs ys
  | _, _, _, .nil, h => by cases h; exact .nil
  | _, _, _, .cons a t, h => by
    obtain ⟨y, h1, h⟩ := bnd h
    obtain ⟨zs, h2, h⟩ := bnd h
    cases h
    refine .cons ?_ (all2_dS t h2)
    cases a with
    | str x => cases h1; rfl
    | _ => cases h1
/-- a list of data that are texts -/
theorem ev_LdS {ds : List PyData} {ys : List Str} (h : Ev K T te σ H (zL zD) ds) (e : mapO dStr ds = some ys) : Ev K T te σ H (zL zS) ys := fun H1 f Q q => h H1 f Q fun v H2 e2 ⟨a, vs, e1, hs, hh⟩ => q v H2 e2 ⟨a, vs, e1, hs, all2_dS hh e⟩
/-! ### lists put together -/
def EvH (K : PySem.W.Frag) (T : AS) {α : Type} (te : TE) (σ : L2.St) (H : Hp) (r : Rp α) (xs : List α) : Prop :=
  ∀ H1, Fr T H H1 → ∀ Q : VK, (∀ p vs H2, Ex H1 H2 → H2 p = some (.lst vs) → All2 (r K T H2) vs xs → Q (.ref p) H2) → te σ H1 Q
theorem eh_F [Mo r] {xs : List α} (h : EvF K T te σ H r xs) : EvH K T te σ H r xs := fun H1 f Q q => h H1 f Q fun p H2 H3 e2 n f3 e3 m => by
  obtain ⟨vs, h1, h2⟩ := m.ex
  exact q p vs H3 (e2.trans e3) h1 (all2_imp (fun _ _ z => Mo.wd (Wd.sub fun _ t => .inl t) z) h2)
theorem ef_cat [Mo r] {xs ys : List α} (ha : EvH K T ta σ H r xs) (hb : EvH K T tb σ H r ys) (hl : xs.length + ys.length ≤ 1000000) : EvF K T (tOp rCat ta tb) σ H r (xs ++ ys) := fun H1 f Q q =>
  ha H1 f _ fun p vs H2 e2 h2 r2 => hb H2 (f.trans e2.fr) _ fun p' vs' H3 e3 h3 r3 =>
    ⟨p, p', vs, vs', rfl, rfl, e3 _ _ h2, h3, by rw [all2_len r2, all2_len r3, sizeLine_eq]; omega, fun a ha =>
      let ⟨x, y, z⟩ := hm_new ha (all2_app (all2_imp (fun _ _ z => Mo.fr e3.fr z) r2) r3); q a H3 _ (e2.trans e3) ha x y z⟩
theorem all2_flat {F : V → α → Prop} {vs : List V} {xs : List α} (h : All2 F vs xs) : ∀ n : Nat, All2 F (List.replicate n vs).flatten (List.replicate n xs).flatten
  | 0 => .nil
  | n + 1 => by
    rw [List.replicate_succ, List.replicate_succ, List.flatten_cons, List.flatten_cons]
    exact all2_app h (all2_flat h n)
theorem ef_rep [Mo r] {xs : List α} {k : Int} (ha : EvH K T ta σ H r xs) (hb : Ev K T tb σ H zI k) (hl : -100000 ≤ k ∧ k ≤ 100000 ∧ xs.length ≤ 100) : EvF K T (tOp rRep ta tb) σ H r (List.replicate k.toNat xs).flatten := fun H1 f Q q =>
  ha H1 f _ fun p vs H2 e2 h2 r2 => hb H2 (f.trans e2.fr) _ fun v H3 e3 h3 => by
    cases h3
    refine ⟨p, k, vs, rfl, rfl, e3 _ _ h2, by omega, by omega, ?_, fun a ha => ?_⟩
    · rw [all2_len r2, sizeLine_eq]
      have h1 : k.toNat ≤ 100000 := by omega
      have := Nat.mul_le_mul hl.2.2 h1
      omega
    · obtain ⟨x, y, z⟩ := hm_new (K := K) (T := T) (r := r) ha (all2_flat (all2_imp (fun _ _ z => Mo.fr e3.fr z) r2) k.toNat)
      exact q a H3 _ (e2.trans e3) ha x y z
variable {b : Bs} {fs : List (Fact K)} {cs : List (Cel K)}
theorem En.ehB [Mo r] {p : Addr} {xs : List α} {i : Nat} (E : En K b fs cs T H) (k : Nat) (hk : cs[k]? = some (cL r p xs)) (hi : σ[i]? = some (some (.ref p))) : EvH K (Tb T cs) (tVar i) σ H r xs := fun H1 f Q q => by
  obtain ⟨hT, vs, h1, h2⟩ := E.cl k hk
  have nb : ¬ Tb T cs p := fun z => z.2 (mem_owns (List.mem_of_getElem? hk) (by simp))
  exact ⟨_, hi, q p vs H1 (Ex.refl H1) (f.keep p _ nb h1) (all2_imp (fun _ _ z => Mo.wd (Wd.of f) (Mo.wd (Wd.sub fun _ h => h.1) z)) h2)⟩
/-! ### data without lists, read off our lists -/
mutual
theorem ZD.up {v : V} : ∀ {d : PyData}, ZD K T H v d → noL d = true → (∀ a, T' a → ¬ T a → ∀ xs, ¬ Rd H a (.tup xs)) → ZD K T' H v d
  | _, .non, _, _ => .non
  | _, .bl b, _, _ => .bl b
  | _, .int i, _, _ => .int i
  | _, .str x, _, _ => .str x
  | _, .lst _ _, n, _ => by cases n
  | _, .tup h q, n, k => .tup (h.elim (fun z => .inl ⟨fun t => k _ t z.1 _ z.2, z.2⟩) .inr) (q.up n k)
theorem ZDs.up {vs : List V} : ∀ {ds : List PyData}, ZDs K T H vs ds → noLs ds = true → (∀ a, T' a → ¬ T a → ∀ xs, ¬ Rd H a (.tup xs)) → ZDs K T' H vs ds
  | _, .nil, _, _ => .nil
  | _, .cons h q, n, k => .cons (h.up (Bool.and_eq_true_iff.mp n).1 k) (q.up (Bool.and_eq_true_iff.mp n).2 k)
end
def Cel.nt (c : Cel K) : Prop := ∀ T H, c.P T H → ∀ a ∈ c.own, ∃ vs, H a = some (.lst vs)
theorem nt_L [Mo r] {p : Addr} {xs : List α} : (cL (K := K) r p xs).nt := fun T H ⟨vs, h, _⟩ a ha => by rw [List.mem_singleton] at ha; subst ha; exact ⟨vs, h⟩
theorem nt_V {p : Addr} {vs : List V} : (cV (K := K) p (.lst vs)).nt := fun T H h a ha => by rw [List.mem_singleton] at ha; subst ha; exact ⟨vs, h⟩
theorem nt_M {c d : Cel K} (h1 : c.nt) (h2 : d.nt) : (cM c d).nt := fun T H h a ha => (List.mem_append.mp ha).elim (h1 T H h.1 a) (h2 T H h.2 a)
def Nts : List (Cel K) → Prop
  | [] => True
  | c :: r => c.nt ∧ Nts r
theorem Nts.get : ∀ {cs : List (Cel K)}, Nts cs → ∀ c ∈ cs, c.nt
  | [], _, c, h => by cases h
  | _ :: _, h, c, hc => (List.mem_cons.mp hc).elim (fun e => e ▸ h.1) (Nts.get h.2 c)
theorem En.runBD {d : PyData} (E : En K b fs cs T H) (h : Ev K (Tb T cs) te σ H zD d) (hn : noL d = true) (nt : Nts cs) (k : ∀ v H', En K b (fR zD v d :: fs) cs T H' → Q v H') : te σ H Q :=
  h H (Fr.refl H) Q fun v H' e q => by
    have E2 := E.ex e
    refine k v H' (E2.add (f := fR zD v d) (ZD.up q hn fun a t nt' xs z => ?_))
    have hm : a ∈ owns cs := Classical.byContradiction fun n => nt' ⟨t, n⟩
    obtain ⟨c, hc, ha⟩ := owns_mem hm
    obtain ⟨vs, hv⟩ := nt.get c hc T H' (E2.cel c hc).1 a ha
    rcases z with z | ⟨o, z⟩ <;> (rw [hv] at z; cases z)
/-- our list, its items told as data -/
theorem En.cellD [Mo r] [Tod r] {p : Addr} {xs : List α} (E : En K b fs cs T H) (k : Nat) (hk : cs[k]? = some (cL r p xs)) : En K b fs (cs.set k (cL zD p (xs.map (Tod.toD r)))) T H :=
  E.retell k hk (fun ⟨vs, h1, h2⟩ => ⟨vs, h1, all2_D h2⟩) rfl
/-! ### a box: four numbers, a list that stays -/
abbrev Bx := Int × Int × Int × Int × List Int
@[reducible] def cBx (p : Addr) (s : Bx) : Cel K := ⟨[p], fun T H => ∃ v, H p = some (.lst [.int s.1, .int s.2.1, .int s.2.2.1, .int s.2.2.2.1, v]) ∧ zL zI K T H v s.2.2.2.2,
  fun w h ⟨v, h1, h2⟩ => ⟨v, by rw [h p (by simp)]; exact h1, Mo.wd w h2⟩⟩
theorem nt_B {p : Addr} {s : Bx} : (cBx (K := K) p s).nt := fun T H ⟨v, h, _⟩ a ha => by rw [List.mem_singleton] at ha; subst ha; exact ⟨_, h⟩
theorem En.openBx {p : Addr} {s : Bx} (E : En K b fs (cBx p s :: cs) T H) : ∃ v, En K b (fR (zL zI) v s.2.2.2.2 :: fs) (cV p (.lst [.int s.1, .int s.2.1, .int s.2.2.1, .int s.2.2.2.1, v]) :: cs) T H := by
  obtain ⟨v, h1, h2⟩ := E.c 0 rfl
  exact ⟨v, En.add (E.retell (c' := cV p (.lst [.int s.1, .int s.2.1, .int s.2.2.1, .int s.2.2.2.1, v])) 0 rfl (fun _ => h1) rfl) h2⟩
theorem En.closeBx {p : Addr} {a1 a2 a3 a4 : Int} {v : V} {xs : List Int} (E : En K b fs (cV p (.lst [.int a1, .int a2, .int a3, .int a4, v]) :: cs) T H) (j : Nat) (hj : fs[j]? = some (fR (zL zI) v xs)) : En K b fs (cBx p (a1, a2, a3, a4, xs) :: cs) T H :=
  E.retell (c' := cBx p (a1, a2, a3, a4, xs)) 0 rfl (fun h => ⟨v, h, E.at j hj⟩) rfl
/-- a box is made anew of its parts -/
theorem En.copyBx {p : Addr} {s : Bx} {i : Nat} (E : En K b fs cs T H) (k : Nat) (hk : cs[k]? = some (cBx p s)) (hi : σ[i]? = some (some (.ref p))) (q : ∀ x H', En K b (fR zA (.ref x) x :: fs) (cBx x s :: cs) (Tp T x) H' → Q (.ref x) H') :
    tLst (tCons (tCB rInt1 (tCons (tOp (rIxL K) (tVar i) (tC (.int 0))) tNil)) (tCons (tOp (rIxL K) (tVar i) (tC (.int 1))) (tCons (tOp (rIxL K) (tVar i) (tC (.int 2))) (tCons (tOp (rIxL K) (tVar i) (tC (.int 3))) (tCons (tOp (rIxL K) (tVar i) (tC (.int 4))) tNil))))) σ H Q := by
  obtain ⟨v, h1, h2⟩ := E.c k hk
  have sq : SqL K H p [.int s.1, .int s.2.1, .int s.2.2.1, .int s.2.2.2.1, v] := .inl (.inl h1)
  refine ⟨.ref p, hi, ⟨p, _, 0, .int s.1, rfl, rfl, sq, rfl, .inl ⟨s.1, rfl, ?_⟩⟩⟩
  refine ⟨.ref p, hi, ⟨p, _, 1, .int s.2.1, rfl, rfl, sq, rfl, ?_⟩⟩
  refine ⟨.ref p, hi, ⟨p, _, 2, .int s.2.2.1, rfl, rfl, sq, rfl, ?_⟩⟩
  refine ⟨.ref p, hi, ⟨p, _, 3, .int s.2.2.2.1, rfl, rfl, sq, rfl, ?_⟩⟩
  refine ⟨.ref p, hi, ⟨p, _, 4, v, rfl, rfl, sq, rfl, ?_⟩⟩
  refine ⟨by show 5 ≤ sizeLine; rw [sizeLine_eq]; omega, fun x hx => ?_⟩
  have ex : Ex H (upd H x (.lst [.int s.1, .int s.2.1, .int s.2.2.1, .int s.2.2.2.1, v])) := Ex.new hx
  refine q x _ (En.add (E.newc (c := cBx x s) (T' := Tp T x) ⟨ex.fr, fun b t => t.elim .inl fun z => .inr (z ▸ hx)⟩ ex (fun b h => .inl h) ((E.td.ex ex).tp upd_same) ⟨v, upd_same, Mo.wd (Wd.ex ex) (Mo.wd (Wd.lift hx) h2)⟩ (fun a ha => ?_) (by simp)) rfl)
  rw [List.mem_singleton] at ha
  subst ha
  exact ⟨hx, .inr rfl⟩
end
end EB

set_option Elab.async false
set_option linter.all false
set_option maxRecDepth 100000
set_option maxHeartbeats 4000000
/-! EB: what the second generator wants besides. -/
namespace EB
open PySem PySem.Spec PyProof.Rows L2
def catE {α β : Type} (o : Option (Except Err α)) (k : α → Option β) (h : Str × Str → PyData → Option β) : Option β := o.bind fun z => match z with
    | .ok d => k d
    | .error x => h x.k x.x
theorem catE_or {α β : Type} {o : Option (Except Err α)} {k : α → Option β} {h : Str × Str → PyData → Option β} {r : β} (e : catE o k h = some r) : (∃ d, o = some (.ok d) ∧ k d = some r) ∨ ∃ c x, o = some (.error ⟨c, x⟩) ∧ h c x = some r := by
  obtain ⟨z, h1, h2⟩ := bnd e
  cases z with
  | ok d => exact .inl ⟨d, h1, h2⟩
  | error x => exact .inr ⟨x.k, x.x, h1, h2⟩
theorem bt_ValueError : bootBuiltins "ValueError" = some (.type "ValueError") := by decide +kernel
theorem bt_Exception : bootBuiltins "Exception" = some (.type "Exception") := by decide +kernel
theorem iteT {P R : Prop} (h : P) : if true = true then P else R := h
theorem iteF {P R : Prop} (h : R) : if false = true then P else R := h
theorem takesNo {X : Cx} : Takes X WNo := fun _ _ ⟨_, _, _, _, _, _, _, _, _, _, _, _, _, _, _, _, w⟩ => w.elim
section
variable {X : Cx} {W : WX} {e : Expr} {t : L2.St → Hp → XK → Prop} {pos : Pos} {K : PySem.W.Frag} {a : Addr} {cls : Value} {d : Option Addr} {oe : Obj} {pn : List (Addr × Obj)}
theorem ps_raiseQ (hc : X.calm = true) (tk : Takes X W) (he : PMk X e t) : PS X (.Raise (some e) none pos) (tRaiseX W t) := ps_raise hc tk he
theorem pe_gint {x : Str} {i : Int} (hg : Gl X x) (h : ∃ t, X.mg x = some (.int i t)) (hd : (x == ("__debug__" : Str)) = false := by decide) : PE X (.Name x pos) (tC (.int i)) := let ⟨t, q⟩ := h; pe_glob (v := .int i) hg q ⟨t, rfl⟩ hd
theorem kx_isX (hz : Zc cls d oe) (hf : ∃ vs, oe.data = .fields vs) (hK : X.K = K := by rfl) : CallR (X.suite a ((a, oe) :: pn)) (.builtin "isinstance") (rIsX K a cls d) := hK ▸ call_isX hz hf
theorem kx_isXT (hz : Zc cls d oe) (hf : ∃ vs, oe.data = .fields vs) (hK : X.K = K := by rfl) : CallR (X.suite a ((a, oe) :: pn)) (.builtin "isinstance") (rIsXT K a cls d) := hK ▸ call_isXT hz hf
theorem kx_xf {C : Addr} {te : TE} {n : Str} (T : XfC K C) (hno : PySem.W.findIn K (.ref C) n = some none) (hz : Zc cls d oe) (hf : ∃ vs, oe.data = .fields vs) (he : PE (X.suite a ((a, oe) :: pn)) e te) (hb : attributeBase e n X.env (eval e X.env) = eval e X.env := by rfl) (hK : X.K = K := by rfl) :
    PE (X.suite a ((a, oe) :: pn)) (.Attribute e n pos) (tXf a cls d C n te) := by
  subst hK
  exact pe_xf T hno hz hf he hb
end
section
variable {K : PySem.W.Frag} {b : Bs} {fs : List (Fact K)} {cs : List (Cel K)} {T T' : AS} {σ : L2.St} {H : Hp} {α β γ S : Type} {r : Rp α} {s : Rp β} {te ta tb tc : TE} {tr : TA} {Q : VK} {D : Ends} {E' : XK}
theorem ev_toDL {xs : List PyData} (h : Ev K T te σ H (zL zD) xs) : Ev K T te σ H zD (.list xs) := fun H1 f Q q => h H1 f Q fun v H2 e ⟨a, vs, e1, hs, hh⟩ => q v H2 e (by rw [e1]; exact .lst hs (.of hh))
theorem ev_toDU {xs : List PyData} (h : Ev K T te σ H (zU zD) xs) : Ev K T te σ H zD (.tuple xs) := fun H1 f Q q => h H1 f Q fun v H2 e ⟨a, vs, e1, hs, hh⟩ => q v H2 e (by rw [e1]; exact .tup hs (.of hh))
theorem zd_L {v : V} {xs : List PyData} (h : zL zD K T H v xs) : zD K T H v (.list xs) := by obtain ⟨a, vs, e1, hs, hh⟩ := h; rw [e1]; exact .lst hs (.of hh)
theorem zd_U {v : V} {xs : List PyData} (h : zU zD K T H v xs) : zD K T H v (.tuple xs) := by obtain ⟨a, vs, e1, hs, hh⟩ := h; rw [e1]; exact .tup hs (.of hh)
theorem zd_up [Tod r] {v : V} {x : α} (h : r K T H v x) : zD K T H v (Tod.toD r x) := Tod.up h
theorem vd_I {v : V} {d : PyData} {i : Int} (h : zD K T H v d) (e : dInt d = some i) : zI K T H v i := by
  cases h with
  | int j => cases e; rfl
  | _ => cases e
theorem vd_B {v : V} {d : PyData} {i : Bool} (h : zD K T H v d) (e : dBool d = some i) : zB K T H v i := by
  cases h with
  | bl j => cases e; rfl
  | _ => cases e
theorem vd_S {v : V} {d : PyData} {i : Str} (h : zD K T H v d) (e : dStr d = some i) : zS K T H v i := by
  cases h with
  | str j => cases e; rfl
  | _ => cases e
theorem vs_W {v : V} {w : List Bool} (h : zW K T H v w) : zS K T H v (wS w) := h.1
theorem ev_chain {g g' : Int → Int → Bool} {i j k : Int} (ha : Ev K T ta σ H zI i) (hb : Ev K T tb σ H zI j) (hc : Ev K T tc σ H zI k) :
    Ev K T (tChain (rI0 fun i j => .bl (g i j)) (rI0 fun i j => .bl (g' i j)) ta tb tc) σ H zB (g i j && g' j k) := fun H1 f Q q => ha H1 f _ fun x H2 e2 r2 => hb H2 (f.trans e2.fr) _ fun y H3 e3 r3 => by
  cases r2; cases r3
  refine ⟨i, j, rfl, rfl, g i j, rfl, ?_⟩
  cases hg : g i j with
  | true => exact hc H3 ((f.trans e2.fr).trans e3.fr) _ fun z H4 e4 r4 => by cases r4; exact ⟨j, k, rfl, rfl, q _ _ ((e2.trans e3).trans e4) (show V.bl (g' j k) = .bl (g i j && g' j k) by rw [hg]; rfl)⟩
  | false => exact q _ _ (e2.trans e3) (show V.bl false = .bl (g i j && g' j k) by rw [hg]; rfl)
/-! ### tests, way by way -/
theorem En.test2 {tt : TT} {d : Bool} {Qb : Bool → Hp → Prop} (E : En K b fs cs T H) (h : EvT T tt σ H d) (k1 : d = true → ∀ H', En K b fs cs T H' → Qb true H') (k2 : d = false → ∀ H', En K b fs cs T H' → Qb false H') : tt σ H Qb :=
  h H (Fr.refl H) Qb fun H' e => by
    cases d with
    | true => exact k1 rfl H' (E.ex e)
    | false => exact k2 rfl H' (E.ex e)
theorem En.test2B {tt : TT} {d : Bool} {Qb : Bool → Hp → Prop} (E : En K b fs cs T H) (h : EvT (Tb T cs) tt σ H d) (k1 : d = true → ∀ H', En K b fs cs T H' → Qb true H') (k2 : d = false → ∀ H', En K b fs cs T H' → Qb false H') : tt σ H Qb :=
  h H (Fr.refl H) Qb fun H' e => by
    cases d with
    | true => exact k1 rfl H' (E.ex e)
    | false => exact k2 rfl H' (E.ex e)
theorem tb2 {v : V} {d : Bool} {Pb : Bool → Prop} (h : zB K T H v d) (k1 : d = true → Pb true) (k2 : d = false → Pb false) : ∃ c, v = .bl c ∧ Pb c := ⟨d, h, by
  cases d with
  | true => exact k1 rfl
  | false => exact k2 rfl⟩
theorem tb2i {v : V} {d : Bool} {P R : Prop} (h : zB K T H v d) (k1 : d = true → P) (k2 : d = false → R) : ∃ c, v = .bl c ∧ (if c = true then P else R) := ⟨d, h, by
  cases d with
  | true => exact k1 rfl
  | false => exact k2 rfl⟩
theorem boolQ {Qb : Bool → Hp → Prop} {d : Bool} (k1 : d = true → Qb true H) (k2 : d = false → Qb false H) : Qb d H := by
  cases d with
  | true => exact k1 rfl
  | false => exact k2 rfl
theorem tb_open {Qb : Bool → Hp → Prop} (h : te σ H fun x H1 => ∃ c, x = .bl c ∧ Qb c H1) : tB te σ H Qb := h
/-! ### calls whose arguments stand -/
theorem En.callF {ra : Rpl β} [Mo r] {m : β → Option α} {vs : List V} {a : β} {d : α} (E : En K b fs cs T H) (h : ra K T H vs a) (hm : m a = some d) (q : ∀ v H', En K b (fR r v d :: fs) cs T H' → Q v H') : FSp K ra r m (vs ++ []) H Q E' := by
  rw [List.append_nil]
  exact ⟨T, a, d, E.td, h, hm, fun v H' e z => q v H' ((E.ex e).add z)⟩
theorem En.callG {ra : Rpl β} [Mo r] {c : β → S → Cel K} {m : β → S → Option (α × S)} {vs : List V} {a : β} {s0 s1 : S} {d : α} (E : En K b fs cs T H) (h : ra K T H vs a) (k : Nat) (hk : cs[k]? = some (c a s0)) (hm : m a s0 = some (d, s1)) (ho : (c a s1).own = (c a s0).own)
    (q : ∀ v H', En K b (fR r v d :: fs) (cs.set k (c a s1)) T H' → Q v H') : GSp K ra c r m (vs ++ []) H Q E' := by
  rw [List.append_nil]
  have hc := E.cel _ (List.mem_of_getElem? hk)
  refine ⟨T, a, s0, d, s1, E.td, h, hc.1, fun x hx => (hc.2 x hx).1, ?_, hm, fun v H3 f3 c3 r3 => q v H3 ((E.chg k hk f3 c3 ho).add r3)⟩
  have hd := E.dis
  obtain ⟨l1, l2, rfl⟩ := List.append_of_mem (List.mem_of_getElem? hk)
  simp only [owns, List.map_append, List.map_cons, List.flatten_append, List.flatten_cons] at hd
  exact (List.nodup_append.mp (List.nodup_append.mp hd).2.1).1
/-- lists and tuples whose items stand -/
theorem En.lstV [Mo r] {R : Addr → Prop} {vs : List V} {xs : List α} (E : En K b fs cs T H) (h : All2 (r K T H) vs xs) (hl : xs.length ≤ 1000) (q : ∀ p, En K b (fR (zL r) (.ref p) xs :: fs) cs T (upd H p (.lst vs)) → R p) : vs.length ≤ sizeLine ∧ ∀ p, H p = none → R p :=
  ⟨by rw [all2_len h, sizeLine_eq]; omega, fun p hp => q p ((E.ex (Ex.new hp)).add ⟨p, vs, rfl, .new ((E.td).new hp) upd_same, all2_imp (fun _ _ z => Mo.fr (Ex.new hp).fr z) h⟩)⟩
theorem En.tupV [Mo r] {R : Addr → Prop} {vs : List V} {xs : List α} (E : En K b fs cs T H) (h : All2 (r K T H) vs xs) (hl : xs.length ≤ 1000) (q : ∀ p, En K b (fR (zU r) (.ref p) xs :: fs) cs T (upd H p (.tup vs)) → R p) : vs.length ≤ sizeLine ∧ ∀ p, H p = none → R p :=
  ⟨by rw [all2_len h, sizeLine_eq]; omega, fun p hp => q p ((E.ex (Ex.new hp)).add ⟨p, vs, rfl, .new ((E.td).new hp) upd_same, all2_imp (fun _ _ z => Mo.fr (Ex.new hp).fr z) h⟩)⟩
theorem En.newLV [Mo r] {R : Addr → Prop} {vs : List V} {xs : List α} (E : En K b fs cs T H) (h : All2 (r K T H) vs xs) (hl : xs.length ≤ 1000) (q : ∀ p, En K b (fR zA (.ref p) p :: fs) (cL r p xs :: cs) (Tp T p) (upd H p (.lst vs)) → R p) : vs.length ≤ sizeLine ∧ ∀ p, H p = none → R p :=
  ⟨by rw [all2_len h, sizeLine_eq]; omega, fun p hp => by
    have e : Ex H (upd H p (.lst vs)) := Ex.new hp
    refine q p (En.add (E.newc (c := cL r p xs) (T' := Tp T p) ⟨e.fr, fun b t => t.elim .inl fun z => .inr (z ▸ hp)⟩ e (fun b h => .inl h) ((E.td.ex e).tp upd_same) ⟨vs, upd_same, all2_imp (fun _ _ z => Mo.fr e.fr (Mo.lift hp z)) h⟩ (fun a ha => ?_) (by simp)) rfl)
    rw [List.mem_singleton] at ha
    subst ha
    exact ⟨hp, .inr rfl⟩⟩
/-- a call that may raise, its arguments at hand: it does not -/
theorem En.callX {ra : Rpl β} [Mo r] {m : β → Option (Except Err α)} {vs : List V} {a : β} {d : α} {EE : XK} (E : En K b fs cs T H) (h : ra K T H vs a) (hm : m a = some (.ok d)) (q : ∀ v H', En K b (fR r v d :: fs) cs T H' → Q v H') : XSp K ra r m vs H Q EE :=
  ⟨T, a, .ok d, E.td, h, hm, fun d' e' v H3 e3 r3 => by cases e'; exact q v H3 ((E.ex e3).add r3), fun e e' => by cases e'⟩
end
end EB
namespace EB
open PySem PySem.Spec PyProof.Rows L2
section
variable {K : PySem.W.Frag} {b : Bs} {fs : List (Fact K)} {cs : List (Cel K)} {T : AS} {σ : L2.St} {H : Hp} {α : Type} {r : Rp α} {te : TE} {Q : VK}
/-- a new list, made by what only reads; our lists are read, too -/
theorem En.viaB [Mo r] [At r] {fs' : List (Fact K)} {xs : List α} (E : En K b fs cs T H) (hf : Fcs (Tb T cs) H fs') (h : ∀ Q : VK, En K ⟨Tb T cs, [], H⟩ fs' [] (Tb T cs) H → (∀ p H' fs2, En K ⟨Tb T cs, [], H⟩ fs2 [cL r p xs] (Tp (Tb T cs) p) H' → Q (.ref p) H') → te σ H Q)
    (k : ∀ p H', En K b (fR zA (.ref p) p :: fs) (cL r p xs :: cs) (Tp T p) H' → Q (.ref p) H') : te σ H Q :=
  h Q (En.start E.tdB hf) fun p H' fs2 E' => by
    have e : Ex H H' := E'.isEx
    have hn : H p = none := by
      rcases (E'.cel _ List.mem_cons_self).2 p (by simp) with ⟨_, h | h⟩
      · cases h
      · exact h
    obtain ⟨vs, h1, h2⟩ := E'.c 0 rfl
    refine k p H' (En.add (E.newc (c := cL r p xs) (T' := Tp T p) ⟨e.fr, fun b t => t.elim .inl fun z => .inr (z ▸ hn)⟩ e (fun b h => .inl h) ((E.td.ex e).tp h1) ⟨vs, h1, all2_imp (fun _ _ z => At.up z) h2⟩ (fun a ha => ?_) (by simp)) rfl)
    rw [List.mem_singleton] at ha
    subst ha
    exact ⟨hn, .inr rfl⟩
end
end EB
namespace EB
open PySem PySem.Spec PyProof.Rows L2
theorem EvF.to {K : PySem.W.Frag} {T : AS} {σ : L2.St} {H : Hp} {α : Type} {r : Rp α} {te : TE} {xs ys : List α} (h : EvF K T te σ H r xs) (e : xs = ys) : EvF K T te σ H r ys := e ▸ h
theorem all2_to {α : Type} {F : V → α → Prop} {vs : List V} {xs ys : List α} (h : All2 F vs xs) (e : xs = ys) : All2 F vs ys := e ▸ h
end EB
namespace EB
open PySem PySem.Spec PyProof.Rows L2
theorem len00 : ∀ K T H vs a, aN K T H vs a → vs.length = 0 := fun _ _ _ _ _ h => len0 h
/-- a box is made -/
abbrev sp_box (K : PySem.W.Frag) (n1 n2 n3 n4 : Int) : Sp := NewSp K (aC (zL zI) aN) (fun (p : Addr) (s : Bx) => cBx p s) (fun p => .ref p) (fun a => some (n1, n2, n3, n4, a.1))
theorem box_new {K : PySem.W.Frag} {T : AS} {σ : L2.St} {H : Hp} {tl : TE} {xs : List Int} {n1 n2 n3 n4 : Int} {D : Ends} (hT : TD T H) (h : Ev K T tl σ H (zL zI) xs)
    (q : ∀ (i : Addr) H', Ex H H' → (cBx (K := K) i (n1, n2, n3, n4, xs)).own.Nodup → (∀ x ∈ (cBx (K := K) i (n1, n2, n3, n4, xs)).own, H x = none ∧ ∃ o, H' x = some o) → (cBx (K := K) i (n1, n2, n3, n4, xs)).P (fun b => T b ∨ b ∈ (cBx (K := K) i (n1, n2, n3, n4, xs)).own) H' → D.rt (.ref i) H') :
    tRet (tLst (tCons (tC (.int n1)) (tCons (tC (.int n2)) (tCons (tC (.int n3)) (tCons (tC (.int n4)) (tCons tl tNil)))))) D σ H := by
  refine h H (Fr.refl H) _ fun v H2 e2 r2 => ⟨by show 5 ≤ sizeLine; rw [sizeLine_eq]; omega, fun p hp => ?_⟩
  have e3 : Ex H2 (upd H2 p (.lst [.int n1, .int n2, .int n3, .int n4, v])) := Ex.new hp
  have hn : H p = none := by
    cases hh : H p with
    | none => rfl
    | some o => rw [e2 p o hh] at hp; cases hp
  refine q p _ (e2.trans e3) (by simp) (fun x hx => ?_) ⟨v, upd_same, Mo.wd (Wd.ex e3) (Mo.wd ⟨Fr.refl H2, fun b t => ?_⟩ r2)⟩
  · rw [List.mem_singleton] at hx; subst hx; exact ⟨hn, _, upd_same⟩
  · rcases t with t | t
    · exact .inl t
    · rw [List.mem_singleton] at t; subst t; exact .inr hp
end EB
namespace EB
open PySem PySem.Spec PyProof.Rows L2
theorem mk_fn {P : Program} {w : World} {K : PySem.W.Frag} {mg : Str → Option Value} {base : Heap} {k : Nat} {at_ : Str × Option Str} {x qual : Str} {params : Arguments} {body : List Stmt} {scope : Scope} {kws : List (Str × V)} {N ps : List Str} {sp : Sp} {fd : FuncData}
    (F : FunD K x qual params body scope [] kws (He.fAd K at_) fd) (S : FnScope N ps scope) (len : ∀ vs H Q E, sp vs H Q E → vs.length = ps.length)
    (hbody : ∀ (cdv : Value) (A : Around) (outer : List Env) (s : Shared) (H : Hp) (vs : List V) (Q : VK) (E : XK), Room k (A.deeper (envOfC qual scope s.heap.objs.size (He.fAd K at_) cdv)) → sp vs H Q E →
      ∃ t, PSs (cxOf CX0 P w K mg base N qual scope (He.fAd K at_) cdv A outer s H E).nox body t ∧ t { nx := fun _ H' => Q .non H', rt := Q } (start N vs) H) : FnOk P w K mg base CX0 (k + 1) (He.fAd K at_) fd ps sp :=
  F.ok S len fun cdv A outer s H vs Q E hr h => let ⟨t, h1, h2⟩ := hbody cdv A outer s H vs Q E hr h; ⟨t, h1.nox, h2⟩
/-- what a law is asked -/
def spLaw (K : PySem.W.Frag) : Sp := fun vs H Q _ => ∃ (a : Addr) (ns : List Int), vs = [.ref a] ∧ SqL K H a (ns.map V.int) ∧ ns.length ≤ 63 ∧ ∀ H', Q (.bl true) H'
theorem law_imp {K : PySem.W.Frag} {m : List Int → Option Bool} (h : ∀ ns, ns.length ≤ 63 → m ns = some true) : ∀ vs H Q E, spLaw K vs H Q E → FSp K (aC (zL zI) aN) zB (fun (a : List Int × Unit) => m a.1) vs H Q E := fun vs H Q E ⟨a, ns, e, hs, hl, hQ⟩ =>
  ⟨T0, (ns, ()), true, td0, ⟨.ref a, [], e, ⟨a, _, rfl, hs.elim (fun z => .inl ⟨id, z⟩) .inr, all2_ints⟩, rfl⟩, h ns hl, fun v H' _ r => by cases r; exact hQ H'⟩
end EB
namespace EB
open PySem PySem.Spec PyProof.Rows L2
def kany2B (K : PySem.W.Frag) (x y1 y2 : Str) (b : Bool) : Bool := decide (PySem.W.kitAny K (.ref (He.ga K x)) [.ref (He.ga K y1), .ref (He.ga K y2)] = some b)
theorem kany2 {K : PySem.W.Frag} {x y1 y2 : Str} {b : Bool} (h : kany2B K x y1 y2 b = true) : kanyB K x [y1, y2] b = true := h
end EB
namespace EB
open PySem PySem.Spec PyProof.Rows L2
/-- *, one factor small or both not too great -/
def CMulV (i j : Int) : Prop := CMul i j ∨ CMulW i j
instance {i j : Int} : Decidable (CMulV i j) := by unfold CMulV CMul; infer_instance
theorem op_mulV {X : Cx} : OpR X (binaryOp .Mult) (rI CMulV fun i j => .int (i * j)) := opI fun _ _ _ _ _ _ _ hc q => mul_int q (hc.elim CMul.ok CMulW.ok)
theorem ev_mulV {K : PySem.W.Frag} {T : AS} {σ : L2.St} {H : Hp} {ta tb : TE} {i j : Int} (ha : Ev K T ta σ H zI i) (hb : Ev K T tb σ H zI j) (hc : CMulV i j) : Ev K T (tOp (rI CMulV fun i j => .int (i * j)) ta tb) σ H zI (i * j) := ev_IC (fun _ => rfl) ha hb hc
end EB

set_option Elab.async false
set_option linter.all false
set_option maxRecDepth 100000
set_option maxHeartbeats 4000000
/-! what an Option-valued reckoning tells: Y o Q -/
namespace EB
open PySem PySem.Spec PyProof.Rows L2
def Y {α : Type} (o : Option α) (Q : α → Prop) : Prop := ∃ v, o = some v ∧ Q v
section
variable {α β S ρ : Type} {Q : β → Prop} {P : α → Prop}
theorem Y.of {o : Option β} {v : β} (h : o = some v) (q : Q v) : Y o Q := ⟨v, h, q⟩
theorem Y.ret {v : β} (q : Q v) : Y (some v) Q := ⟨v, rfl, q⟩
theorem Y.bind {o : Option α} {f : α → Option β} (h : Y o P) (k : ∀ v, P v → Y (f v) Q) : Y (o.bind f) Q := by
  obtain ⟨v, rfl, p⟩ := h
  exact k v p
theorem Y.be {o : Option α} {f : α → Option β} {v : α} (h : o = some v) (k : Y (f v) Q) : Y (o.bind f) Q := by rw [h]; exact k
theorem Y.bs {f : α → Option β} {v : α} (k : Y (f v) Q) : Y ((some v).bind f) Q := k
theorem Y.grd {c : Prop} [Decidable c] {f : Unit → Option β} (h : c) (k : Y (f ()) Q) : Y ((grd c).bind f) Q := by rw [grd_some h]; exact k
theorem Y.ite {c : Prop} [Decidable c] {x y : Option β} (a : c → Y x Q) (b : ¬ c → Y y Q) : Y (if c then x else y) Q := by
  split
  · exact a ‹_›
  · exact b ‹_›
theorem Y.iteD {c : Prop} [Decidable c] {x y : Option β} (a : c → Y x Q) (b : ¬ c → Y y Q) : Y (if decide c = true then x else y) Q := by
  split
  · exact a (of_decide_eq_true ‹_›)
  · exact b (of_decide_eq_false (Bool.not_eq_true _ ▸ ‹_›))
theorem Y.pos {c : Prop} [Decidable c] {x y : Option β} (h : c) (a : Y x Q) : Y (if c then x else y) Q := by rw [if_pos h]; exact a
theorem Y.neg {c : Prop} [Decidable c] {x y : Option β} (h : ¬ c) (a : Y y Q) : Y (if c then x else y) Q := by rw [if_neg h]; exact a
theorem Y.mono {o : Option α} {P' : α → Prop} (h : Y o P) (k : ∀ v, P v → P' v) : Y o P' := by
  obtain ⟨v, e, p⟩ := h
  exact ⟨v, e, k v p⟩
theorem Y.eq {o : Option α} {v : α} (h : Y o (· = v)) : o = some v := by
  obtain ⟨u, e, p⟩ := h
  rw [e, p]
theorem Y.pure {o : Option α} {v : α} (h : o = some v) : Y o (· = v) := ⟨v, h, rfl⟩
/-- a loop's part with a tail -/
theorem Y.assoc {γ : Type} {o : Option α} {f : α → Option γ} {g : γ → Option β} (h : Y (o.bind fun x => (f x).bind g) Q) : Y ((o.bind f).bind g) Q := by
  cases o <;> exact h
theorem Y.forL {f : S → α → Option S} (I : Nat → S → Prop) : ∀ (xs : List α) (k : Nat) (s : S), I k s → (∀ i x s, xs[i]? = some x → I (k + i) s → Y (f s x) (I (k + i + 1))) → Y (forP f s xs) (I (k + xs.length))
  | [], k, s, h, _ => ⟨s, rfl, h⟩
  | x :: xs, k, s, h, st => by
    obtain ⟨s1, e1, h1⟩ := st 0 x s rfl h
    obtain ⟨s2, e2, h2⟩ := Y.forL I xs (k + 1) s1 h1 fun i y s hy hp => by
      have := st (i + 1) y s (by simpa using hy) (by rw [show k + (i + 1) = k + 1 + i by omega]; exact hp)
      rw [show k + 1 + i + 1 = k + (i + 1) + 1 by omega]; exact this
    refine ⟨s2, ?_, by rw [List.length_cons, show k + (xs.length + 1) = k + 1 + xs.length by omega]; exact h2⟩
    simp only [forP, e1, Option.bind_some, e2]
theorem Y.forR {f : S → Int → Option S} (I : Nat → S → Prop) {n : Nat} {s : S} {lo : Int} (h0 : I 0 s) (st : ∀ (i : Nat) s, i < n → I i s → Y (f s (lo + (i : Int))) (I (i + 1))) : Y (forP f s (rng lo n)) (I n) := by
  have := Y.forL I (rng lo n) 0 s h0 fun i x s hx hp => by
    have hi : i < n := by have := (List.getElem?_eq_some_iff.mp hx).1; rwa [rng_len] at this
    rw [rng_get hi] at hx
    have hx' : x = lo + (i : Int) := (Option.some.inj hx).symm
    subst hx'
    rw [Nat.zero_add] at hp ⊢
    exact st i s hi hp
  rw [rng_len, Nat.zero_add] at this
  exact this
/-- a loop with a way out -/
theorem Y.forOL {f : S → α → Option (Out ρ S)} (I : Nat → S → Prop) (B : S → Prop) (R : ρ → Prop) : ∀ (xs : List α) (k : Nat) (s : S), I k s →
    (∀ i x s, xs[i]? = some x → I (k + i) s → Y (f s x) fun o => match o with | .nx s' => I (k + i + 1) s' | .brk s' => B s' | .ret r => R r) →
    Y (forO f s xs) fun o => match o with | .nx s' => I (k + xs.length) s' ∨ B s' | .brk _ => False | .ret r => R r
  | [], k, s, h, _ => ⟨.nx s, rfl, .inl h⟩
  | x :: xs, k, s, h, st => by
    obtain ⟨o, e1, h1⟩ := st 0 x s rfl h
    unfold forO
    rw [e1]
    cases o with
    | nx s' =>
      have := Y.forOL I B R xs (k + 1) s' h1 fun i y s hy hp => by
        have := st (i + 1) y s (by simpa using hy) (by rw [show k + (i + 1) = k + 1 + i by omega]; exact hp)
        rw [show k + 1 + i + 1 = k + (i + 1) + 1 by omega]; exact this
      rw [show k + 1 + xs.length = k + (x :: xs).length by rw [List.length_cons]; omega] at this
      exact this
    | brk s' => exact ⟨.nx s', rfl, .inr h1⟩
    | ret r => exact ⟨.ret r, rfl, h1⟩
/-- a loop that only goes on -/
theorem Y.forON {f : S → α → Option (Out ρ S)} (I : Nat → S → Prop) (xs : List α) (s : S) (h0 : I 0 s)
    (st : ∀ i x s, xs[i]? = some x → I i s → Y (f s x) fun o => ∃ s', o = .nx s' ∧ I (i + 1) s') : Y (forO f s xs) fun o => ∃ s', o = .nx s' ∧ I xs.length s' := by
  have := Y.forOL (ρ := ρ) (f := f) I (fun _ => False) (fun _ => False) xs 0 s h0 fun i x s hx hp => by
    rw [Nat.zero_add] at hp ⊢
    refine (st i x s hx hp).mono ?_
    rintro o ⟨s', rfl, h⟩
    exact h
  refine this.mono ?_
  rintro o h
  cases o with
  | nx s' => exact ⟨s', rfl, by simpa using h⟩
  | brk s' => exact h.elim
  | ret r => exact h.elim
theorem Y.forORN {f : S → Int → Option (Out ρ S)} (I : Nat → S → Prop) {n : Nat} {lo : Int} {s : S} (h0 : I 0 s)
    (st : ∀ (i : Nat) s, i < n → I i s → Y (f s (lo + (i : Int))) fun o => ∃ s', o = .nx s' ∧ I (i + 1) s') : Y (forO f s (rng lo n)) fun o => ∃ s', o = .nx s' ∧ I n s' := by
  have := Y.forON (ρ := ρ) (f := f) I (rng lo n) s h0 fun i x s hx hp => by
    have hi : i < n := by have := (List.getElem?_eq_some_iff.mp hx).1; rwa [rng_len] at this
    rw [rng_get hi] at hx
    have hx' : x = lo + (i : Int) := (Option.some.inj hx).symm
    subst hx'
    exact st i s hi hp
  rw [rng_len] at this
  exact this
theorem Y.mapO {f : α → Option β} {g : α → β} : ∀ {xs : List α}, (∀ x ∈ xs, f x = some (g x)) → mapO f xs = some (xs.map g)
  | [], _ => rfl
  | x :: xs, h => by
    simp only [EB.mapO, h x List.mem_cons_self, Y.mapO (xs := xs) fun y hy => h y (List.mem_cons_of_mem _ hy), Option.bind_some, List.map_cons]
/-- a comprehension over a range -/
theorem Y.mapR {f : Int → Option β} {g : Int → β} {lo : Int} {n : Nat} (h : ∀ x, lo ≤ x → x < lo + n → f x = some (g x)) : EB.mapO f (rng lo n) = some ((rng lo n).map g) :=
  Y.mapO fun x hx => h x (mem_rng hx).1 (mem_rng hx).2
/-- a comprehension whose items each have some property -/
theorem Y.mapP {f : α → Option β} {g : α → β → Prop} : ∀ {xs : List α}, (∀ x ∈ xs, Y (f x) (g x)) → Y (EB.mapO f xs) fun ys => ys.length = xs.length ∧ ∀ (i : Nat) x y, xs[i]? = some x → ys[i]? = some y → g x y
  | [], _ => ⟨[], rfl, rfl, fun i x y hx => by simp at hx⟩
  | x :: xs, h => by
    obtain ⟨y, e, gy⟩ := h x List.mem_cons_self
    obtain ⟨ys, e2, hl, hg⟩ := Y.mapP (xs := xs) fun z hz => h z (List.mem_cons_of_mem _ hz)
    refine ⟨y :: ys, by simp only [EB.mapO, e, e2, Option.bind_some], by simp [hl], fun i a b ha hb => ?_⟩
    cases i with
    | zero => cases ha; cases hb; exact gy
    | succ i => exact hg i a b (by simpa using ha) (by simpa using hb)
/-- a loop with a way out that is not taken, as one without -/
theorem forO_eq {f : S → α → Option (Out ρ S)} {c : S → α → Option S} : ∀ {xs : List α} {s s' : S}, (∀ x ∈ xs, ∀ s s', c s x = some s' → f s x = some (.nx s')) → forP c s xs = some s' → forO f s xs = some (.nx s')
  | [], s, s', _, h => by cases h; rfl
  | x :: xs, s, s', st, h => by
    obtain ⟨s1, h1, h2⟩ := bnd h
    unfold forO
    rw [st x List.mem_cons_self s s1 h1]
    exact forO_eq (fun y hy => st y (List.mem_cons_of_mem _ hy)) h2
theorem mapO_all {f : α → Option β} {P : β → Prop} {xs : List α} {ys : List β} (h : EB.mapO f xs = some ys) (hp : ∀ x y, f x = some y → P y) : ys.length = xs.length ∧ ∀ y ∈ ys, P y := by
  have e := mapO_mem h
  refine ⟨by have := congrArg List.length e; simpa using this.symm, fun y hy => ?_⟩
  have : some y ∈ ys.map some := List.mem_map.mpr ⟨y, hy, rfl⟩
  rw [← e] at this
  obtain ⟨x, _, ex⟩ := List.mem_map.mp this
  exact hp x y ex
theorem Y.at {xs : List α} {i : Int} {f : α → Option β} (d0 : α) (h0 : 0 ≤ i) (h : i < (xs.length : Int)) (k : Y (f (xs.getD i.toNat d0)) Q) : Y ((atI xs i).bind f) Q := Y.be (at_get h0 h) k
theorem getD_memI {xs : List α} {i : Int} {d0 : α} (h0 : 0 ≤ i) (h : i < (xs.length : Int)) : xs.getD i.toNat d0 ∈ xs := by
  have hk : i.toNat < xs.length := by omega
  rw [List.getD_eq_getElem?_getD, List.getElem?_eq_getElem hk]
  exact List.getElem_mem hk
theorem atI_in {xs : List α} {i : Int} (h0 : 0 ≤ i) (h : i < (xs.length : Int)) : ∃ x, atI xs i = some x ∧ x ∈ xs ∧ xs[i.toNat]? = some x := by
  have hk : i.toNat < xs.length := by omega
  refine ⟨xs[i.toNat], ?_, List.getElem_mem hk, List.getElem?_eq_getElem hk⟩
  have := atI_nat (List.getElem?_eq_getElem hk)
  rwa [show ((i.toNat : Nat) : Int) = i by omega] at this
end
/-! ### texts -/
theorem str_len_app (a b : Str) : (a ++ b).length = a.length + b.length := by
  show (a.cps ++ b.cps).size = _
  rw [Array.size_append]; rfl
theorem strOk_app (a b : Str) : PyData.strOk (a ++ b) = (PyData.strOk a && PyData.strOk b) := by
  show (a.cps ++ b.cps).all _ = (a.cps.all _ && b.cps.all _)
  rw [Array.all_append]
theorem strOk_one {c : Nat} (h : c < 0x110000) : PyData.strOk ⟨#[c]⟩ = true := by
  simp [PyData.strOk, h]
theorem strOk_w (w : List Bool) : PyData.strOk (wS w) = true := strOk_wS w
theorem shaped_str {s : Str} (h : PyData.strOk s = true) : SeqAt.shaped (.str s) = true := by simp [SeqAt.shaped, PyData.canLay0, PyData.depth, h]
end EB

set_option Elab.async false
set_option linter.all false
set_option maxRecDepth 100000
set_option maxHeartbeats 4000000

namespace EB
open PySem PySem.Spec PyProof.Rows L2

def top (i : Nat) : Stmt := PySem.Challenge.pw_everybudget_k04_whole_schedules_and_coun.main.body.getD i (.Pass ⟨0, 0, 0, 0⟩)
abbrev s_InvalidNumber___init__ : Stmt := inClass (top 2) 0
theorem sc_InvalidNumber___init__ : FnScope ["self", "number"] ["self", "number"] (defScope s_InvalidNumber___init__) := ⟨rfl, rfl, rfl, by decide +kernel, rfl, by decide +kernel, by decide +kernel⟩
abbrev s_InvalidRows___init__ : Stmt := inClass (top 3) 0
theorem sc_InvalidRows___init__ : FnScope ["self", "rows"] ["self", "rows"] (defScope s_InvalidRows___init__) := ⟨rfl, rfl, rfl, by decide +kernel, rfl, by decide +kernel, by decide +kernel⟩
abbrev s_InvalidLot___init__ : Stmt := inClass (top 4) 0
theorem sc_InvalidLot___init__ : FnScope ["self", "lot"] ["self", "lot"] (defScope s_InvalidLot___init__) := ⟨rfl, rfl, rfl, by decide +kernel, rfl, by decide +kernel, by decide +kernel⟩
abbrev s_is_integer : Stmt := top 6
theorem sc_is_integer : FnScope ["value"] ["value"] (defScope s_is_integer) := ⟨rfl, rfl, rfl, by decide +kernel, rfl, by decide +kernel, by decide +kernel⟩
abbrev s_is_between : Stmt := top 7
theorem sc_is_between : FnScope ["value", "least", "most"] ["value", "least", "most"] (defScope s_is_between) := ⟨rfl, rfl, rfl, by decide +kernel, rfl, by decide +kernel, by decide +kernel⟩
abbrev s_is_row : Stmt := top 8
theorem sc_is_row : FnScope ["value"] ["value"] (defScope s_is_row) := ⟨rfl, rfl, rfl, by decide +kernel, rfl, by decide +kernel, by decide +kernel⟩
abbrev s_is_word : Stmt := top 9
theorem sc_is_word : FnScope ["value", "character"] ["value"] (defScope s_is_word) := ⟨rfl, rfl, rfl, by decide +kernel, rfl, by decide +kernel, by decide +kernel⟩
abbrev s_are_rows : Stmt := top 11
theorem sc_are_rows : FnScope ["value", "word"] ["value"] (defScope s_are_rows) := ⟨rfl, rfl, rfl, by decide +kernel, rfl, by decide +kernel, by decide +kernel⟩
abbrev s_check_number : Stmt := top 13
theorem sc_check_number : FnScope ["value", "least", "most"] ["value", "least", "most"] (defScope s_check_number) := ⟨rfl, rfl, rfl, by decide +kernel, rfl, by decide +kernel, by decide +kernel⟩
abbrev s_check_rows_alone : Stmt := top 14
theorem sc_check_rows_alone : FnScope ["rows"] ["rows"] (defScope s_check_rows_alone) := ⟨rfl, rfl, rfl, by decide +kernel, rfl, by decide +kernel, by decide +kernel⟩
abbrev s_ways : Stmt := top 15
theorem sc_ways : FnScope ["many", "chosen", "found", "k"] ["many", "chosen"] (defScope s_ways) := ⟨rfl, rfl, rfl, by decide +kernel, rfl, by decide +kernel, by decide +kernel⟩
abbrev s_row_of_schedule : Stmt := top 20
theorem sc_row_of_schedule : FnScope ["rows", "schedule", "program", "place"] ["rows", "schedule"] (defScope s_row_of_schedule) := ⟨rfl, rfl, rfl, by decide +kernel, rfl, by decide +kernel, by decide +kernel⟩
abbrev s_power_of : Stmt := top 21
theorem sc_power_of : FnScope ["base", "many", "found", "_"] ["base", "many"] (defScope s_power_of) := ⟨rfl, rfl, rfl, by decide +kernel, rfl, by decide +kernel, by decide +kernel⟩
abbrev s_schedules : Stmt := top 22
theorem sc_schedules : FnScope ["programs", "length", "switches", "total", "many"] ["programs", "length", "switches"] (defScope s_schedules) := ⟨rfl, rfl, rfl, by decide +kernel, rfl, by decide +kernel, by decide +kernel⟩
abbrev s_schedule_count : Stmt := top 23
theorem sc_schedule_count : FnScope ["programs", "length", "switches"] ["programs", "length", "switches"] (defScope s_schedule_count) := ⟨rfl, rfl, rfl, by decide +kernel, rfl, by decide +kernel, by decide +kernel⟩
abbrev s__law_box : Stmt := top 25
theorem sc__law_box : FnScope ["script"] ["script"] (defScope s__law_box) := ⟨rfl, rfl, rfl, by decide +kernel, rfl, by decide +kernel, by decide +kernel⟩
abbrev s__law_draw : Stmt := top 26
theorem sc__law_draw : FnScope ["box", "many", "cell", "k", "told"] ["box", "many"] (defScope s__law_draw) := ⟨rfl, rfl, rfl, by decide +kernel, rfl, by decide +kernel, by decide +kernel⟩
abbrev s__law_same : Stmt := top 27
theorem sc__law_same : FnScope ["due", "told", "k"] ["due", "told"] (defScope s__law_same) := ⟨rfl, rfl, rfl, by decide +kernel, rfl, by decide +kernel, by decide +kernel⟩
abbrev s__law_word : Stmt := top 28
theorem sc__law_word : FnScope ["number", "length", "word", "k"] ["number", "length"] (defScope s__law_word) := ⟨rfl, rfl, rfl, by decide +kernel, rfl, by decide +kernel, by decide +kernel⟩
abbrev s__law_rows : Stmt := top 29
theorem sc__law_rows : FnScope ["box", "programs", "length", "rows", "q"] ["box", "programs", "length"] (defScope s__law_rows) := ⟨rfl, rfl, rfl, by decide +kernel, rfl, by decide +kernel, by decide +kernel⟩
abbrev s__law_wrong_rows : Stmt := top 30
theorem sc__law_wrong_rows : FnScope ["box", "rows", "menu", "way", "at", "bad", "word", "spot"] ["box", "rows"] (defScope s__law_wrong_rows) := ⟨rfl, rfl, rfl, by decide +kernel, rfl, by decide +kernel, by decide +kernel⟩
abbrev s__law_told : Stmt := top 31
theorem sc__law_told : FnScope ["what", "first", "second", "third", "e"] ["what", "first", "second", "third"] (defScope s__law_told) := ⟨rfl, rfl, rfl, by decide +kernel, rfl, by decide +kernel, by decide +kernel⟩
abbrev s__law_schedule : Stmt := top 32
theorem sc__law_schedule : FnScope ["box", "programs", "length", "way", "schedule", "k"] ["box", "programs", "length"] (defScope s__law_schedule) := ⟨rfl, rfl, rfl, by decide +kernel, rfl, by decide +kernel, by decide +kernel⟩
abbrev s__law_due : Stmt := top 33
theorem sc__law_due : FnScope ["rows", "schedule", "k"] ["rows", "schedule"] (defScope s__law_due) := ⟨rfl, rfl, rfl, by decide +kernel, rfl, by decide +kernel, by decide +kernel⟩
abbrev s__law_count : Stmt := top 34
theorem sc__law_count : FnScope ["programs", "length", "switches", "ways_v", "k", "less", "u"] ["programs", "length", "switches"] (defScope s__law_count) := ⟨rfl, rfl, rfl, by decide +kernel, rfl, by decide +kernel, by decide +kernel⟩
abbrev s__law_wrong_schedule : Stmt := top 35
theorem sc__law_wrong_schedule : FnScope ["box", "programs", "good", "bad", "way", "at", "odd"] ["box", "programs", "good"] (defScope s__law_wrong_schedule) := ⟨rfl, rfl, rfl, by decide +kernel, rfl, by decide +kernel, by decide +kernel⟩
abbrev s__law_one : Stmt := top 36
theorem sc__law_one : FnScope ["box", "rows", "schedule", "handed_rows", "handed", "seed", "bad", "twin", "wrong", "told", "at", "q"] ["box", "rows", "schedule"] (defScope s__law_one) := ⟨rfl, rfl, rfl, by decide +kernel, rfl, by decide +kernel, by decide +kernel⟩
abbrev s__law_numbers : Stmt := top 37
theorem sc__law_numbers : FnScope ["box", "three", "due", "which", "first", "k", "odd"] ["box"] (defScope s__law_numbers) := ⟨rfl, rfl, rfl, by decide +kernel, rfl, by decide +kernel, by decide +kernel⟩
abbrev s__law_all : Stmt := top 38
theorem sc__law_all : FnScope ["box", "programs", "length", "rows", "many", "k", "counts", "number", "switches", "schedule", "turns"] ["box"] (defScope s__law_all) := ⟨rfl, rfl, rfl, by decide +kernel, rfl, by decide +kernel, by decide +kernel⟩
abbrev s__law_closing : Stmt := top 39
theorem sc__law_closing : FnScope [] [] (defScope s__law_closing) := ⟨rfl, rfl, rfl, by decide +kernel, rfl, by decide +kernel, by decide +kernel⟩
abbrev s_law : Stmt := top 40
theorem sc_law : FnScope ["script", "box", "programs", "rows", "turn", "schedule"] ["script"] (defScope s_law) := ⟨rfl, rfl, rfl, by decide +kernel, rfl, by decide +kernel, by decide +kernel⟩
def fn : List He.DefD := [⟨("InvalidNumber", some "__init__"), "__init__", "InvalidNumber.__init__", defArgs s_InvalidNumber___init__, defBody s_InvalidNumber___init__, defScope s_InvalidNumber___init__, [], []⟩,
  ⟨("InvalidRows", some "__init__"), "__init__", "InvalidRows.__init__", defArgs s_InvalidRows___init__, defBody s_InvalidRows___init__, defScope s_InvalidRows___init__, [], []⟩,
  ⟨("InvalidLot", some "__init__"), "__init__", "InvalidLot.__init__", defArgs s_InvalidLot___init__, defBody s_InvalidLot___init__, defScope s_InvalidLot___init__, [], []⟩,
  ⟨("is_integer", none), "is_integer", "is_integer", defArgs s_is_integer, defBody s_is_integer, defScope s_is_integer, [], []⟩,
  ⟨("is_between", none), "is_between", "is_between", defArgs s_is_between, defBody s_is_between, defScope s_is_between, [], []⟩,
  ⟨("is_row", none), "is_row", "is_row", defArgs s_is_row, defBody s_is_row, defScope s_is_row, [], []⟩,
  ⟨("is_word", none), "is_word", "is_word", defArgs s_is_word, defBody s_is_word, defScope s_is_word, [], []⟩,
  ⟨("are_rows", none), "are_rows", "are_rows", defArgs s_are_rows, defBody s_are_rows, defScope s_are_rows, [], []⟩,
  ⟨("check_number", none), "check_number", "check_number", defArgs s_check_number, defBody s_check_number, defScope s_check_number, [], []⟩,
  ⟨("check_rows_alone", none), "check_rows_alone", "check_rows_alone", defArgs s_check_rows_alone, defBody s_check_rows_alone, defScope s_check_rows_alone, [], []⟩,
  ⟨("ways", none), "ways", "ways", defArgs s_ways, defBody s_ways, defScope s_ways, [], []⟩,
  ⟨("row_of_schedule", none), "row_of_schedule", "row_of_schedule", defArgs s_row_of_schedule, defBody s_row_of_schedule, defScope s_row_of_schedule, [], []⟩,
  ⟨("power_of", none), "power_of", "power_of", defArgs s_power_of, defBody s_power_of, defScope s_power_of, [], []⟩,
  ⟨("schedules", none), "schedules", "schedules", defArgs s_schedules, defBody s_schedules, defScope s_schedules, [], []⟩,
  ⟨("schedule_count", none), "schedule_count", "schedule_count", defArgs s_schedule_count, defBody s_schedule_count, defScope s_schedule_count, [], []⟩,
  ⟨("_law_box", none), "_law_box", "_law_box", defArgs s__law_box, defBody s__law_box, defScope s__law_box, [], []⟩,
  ⟨("_law_draw", none), "_law_draw", "_law_draw", defArgs s__law_draw, defBody s__law_draw, defScope s__law_draw, [], []⟩,
  ⟨("_law_same", none), "_law_same", "_law_same", defArgs s__law_same, defBody s__law_same, defScope s__law_same, [], []⟩,
  ⟨("_law_word", none), "_law_word", "_law_word", defArgs s__law_word, defBody s__law_word, defScope s__law_word, [], []⟩,
  ⟨("_law_rows", none), "_law_rows", "_law_rows", defArgs s__law_rows, defBody s__law_rows, defScope s__law_rows, [], []⟩,
  ⟨("_law_wrong_rows", none), "_law_wrong_rows", "_law_wrong_rows", defArgs s__law_wrong_rows, defBody s__law_wrong_rows, defScope s__law_wrong_rows, [], []⟩,
  ⟨("_law_told", none), "_law_told", "_law_told", defArgs s__law_told, defBody s__law_told, defScope s__law_told, [], []⟩,
  ⟨("_law_schedule", none), "_law_schedule", "_law_schedule", defArgs s__law_schedule, defBody s__law_schedule, defScope s__law_schedule, [], []⟩,
  ⟨("_law_due", none), "_law_due", "_law_due", defArgs s__law_due, defBody s__law_due, defScope s__law_due, [], []⟩,
  ⟨("_law_count", none), "_law_count", "_law_count", defArgs s__law_count, defBody s__law_count, defScope s__law_count, [], []⟩,
  ⟨("_law_wrong_schedule", none), "_law_wrong_schedule", "_law_wrong_schedule", defArgs s__law_wrong_schedule, defBody s__law_wrong_schedule, defScope s__law_wrong_schedule, [], []⟩,
  ⟨("_law_one", none), "_law_one", "_law_one", defArgs s__law_one, defBody s__law_one, defScope s__law_one, [], []⟩,
  ⟨("_law_numbers", none), "_law_numbers", "_law_numbers", defArgs s__law_numbers, defBody s__law_numbers, defScope s__law_numbers, [], []⟩,
  ⟨("_law_all", none), "_law_all", "_law_all", defArgs s__law_all, defBody s__law_all, defScope s__law_all, [], []⟩,
  ⟨("_law_closing", none), "_law_closing", "_law_closing", defArgs s__law_closing, defBody s__law_closing, defScope s__law_closing, [], []⟩,
  ⟨("law", none), "law", "law", defArgs s_law, defBody s_law, defScope s_law, [], []⟩]
def fa : List He.Fa := [.glo "is_integer", .glo "is_between", .glo "is_row", .glo "is_word", .glo "are_rows", .glo "check_number", .glo "check_rows_alone", .glo "ways", .glo "row_of_schedule", .glo "power_of", .glo "schedules", .glo "schedule_count", .glo "_law_box", .glo "_law_draw", .glo "_law_same", .glo "_law_word", .glo "_law_rows", .glo "_law_wrong_rows", .glo "_law_told", .glo "_law_schedule", .glo "_law_due", .glo "_law_count", .glo "_law_wrong_schedule", .glo "_law_one", .glo "_law_numbers", .glo "_law_all", .glo "_law_closing", .glo "law", .glo "BudgetError", .glo "InvalidNumber", .glo "InvalidRows", .glo "InvalidLot", .int "MOST_PROGRAMS" 12, .int "MOST_LENGTH" 12, .int "MOST_SWITCHES" 12, .free "ValueError", .free "all", .free "bool", .free "enumerate", .free "int", .free "isinstance", .free "len", .free "list", .free "max", .free "min", .free "range", .free "str", .free "sum", .free "tuple"]
def exs (K : PySem.W.Frag) : List Bool := [errB K "InvalidNumber" "number",
  errB K "InvalidRows" "rows",
  errB K "InvalidLot" "lot",
  exmB K "InvalidNumber" "InvalidRows" false,
  exmB K "InvalidNumber" "InvalidLot" false,
  exmB K "InvalidNumber" "InvalidNumber" true,
  kioB K "InvalidNumber" "BudgetError" true,
  kitTB K "InvalidNumber" "ValueError" true,
  exmB K "InvalidRows" "InvalidRows" true,
  kany2B K "InvalidRows" "InvalidLot" "InvalidNumber" false,
  kioB K "InvalidRows" "BudgetError" true,
  exmB K "InvalidLot" "InvalidRows" false,
  exmB K "InvalidLot" "InvalidLot" true,
  kioB K "InvalidLot" "InvalidNumber" false,
  kioB K "InvalidLot" "BudgetError" true,
  kitTB K "InvalidLot" "ValueError" true]
def ex (K : PySem.W.Frag) : Bool := (exs K).all id
structure Tx (K : PySem.W.Frag) (mg : Str → Option Value) : Prop where
  g : ∀ (i : Nat) (x : Str), fa[i]? = some (.glo x) → mg x = some (.ref (He.ga K x))
  n : ∀ (i : Nat) (x : Str), fa[i]? = some (.free x) → mg x = none
  f : ∀ (i : Nat) (f : He.Fa), fa[i]? = some f → f.ok K = true
  d : ∀ (i : Nat) (d : He.DefD), fn[i]? = some d → ∃ fd, FunD K d.name d.qual d.params d.body d.scope (d.dvs K) (d.kws K) (He.fAd K d.at_) fd
  e : ex K = true
  i : ∀ (i : Nat) (x : Str) (z : Int), fa[i]? = some (.int x z) → ∃ t, mg x = some (.int z t)
theorem tx_of {w : World} {K : PySem.W.Frag} {h : Heap} {mg : Str → Option Value} (X : K.In h) (G : h.Ns mainGlobals mg) (c : He.SaysX fa fn [] [] ex w h K) : Tx K mg :=
  ⟨fun i x e => He.glo_ok X G (c.t.d.fact i e), fun i x e => He.free_ok X G (c.t.d.fact i e), fun i f e => c.t.d.fact i e, fun i d e => c.t.d.def_ i e, c.more, fun i x z e => He.int_ok X G (c.t.d.fact i e)⟩
section
variable {K : PySem.W.Frag} {mg : Str → Option Value} (S : Tx K mg)
include S
theorem g_is_integer : mg "is_integer" = some (.ref (He.ga K "is_integer")) := S.g 0 _ rfl
theorem g_is_between : mg "is_between" = some (.ref (He.ga K "is_between")) := S.g 1 _ rfl
theorem g_is_row : mg "is_row" = some (.ref (He.ga K "is_row")) := S.g 2 _ rfl
theorem g_is_word : mg "is_word" = some (.ref (He.ga K "is_word")) := S.g 3 _ rfl
theorem g_are_rows : mg "are_rows" = some (.ref (He.ga K "are_rows")) := S.g 4 _ rfl
theorem g_check_number : mg "check_number" = some (.ref (He.ga K "check_number")) := S.g 5 _ rfl
theorem g_check_rows_alone : mg "check_rows_alone" = some (.ref (He.ga K "check_rows_alone")) := S.g 6 _ rfl
theorem g_ways : mg "ways" = some (.ref (He.ga K "ways")) := S.g 7 _ rfl
theorem g_row_of_schedule : mg "row_of_schedule" = some (.ref (He.ga K "row_of_schedule")) := S.g 8 _ rfl
theorem g_power_of : mg "power_of" = some (.ref (He.ga K "power_of")) := S.g 9 _ rfl
theorem g_schedules : mg "schedules" = some (.ref (He.ga K "schedules")) := S.g 10 _ rfl
theorem g_schedule_count : mg "schedule_count" = some (.ref (He.ga K "schedule_count")) := S.g 11 _ rfl
theorem g__law_box : mg "_law_box" = some (.ref (He.ga K "_law_box")) := S.g 12 _ rfl
theorem g__law_draw : mg "_law_draw" = some (.ref (He.ga K "_law_draw")) := S.g 13 _ rfl
theorem g__law_same : mg "_law_same" = some (.ref (He.ga K "_law_same")) := S.g 14 _ rfl
theorem g__law_word : mg "_law_word" = some (.ref (He.ga K "_law_word")) := S.g 15 _ rfl
theorem g__law_rows : mg "_law_rows" = some (.ref (He.ga K "_law_rows")) := S.g 16 _ rfl
theorem g__law_wrong_rows : mg "_law_wrong_rows" = some (.ref (He.ga K "_law_wrong_rows")) := S.g 17 _ rfl
theorem g__law_told : mg "_law_told" = some (.ref (He.ga K "_law_told")) := S.g 18 _ rfl
theorem g__law_schedule : mg "_law_schedule" = some (.ref (He.ga K "_law_schedule")) := S.g 19 _ rfl
theorem g__law_due : mg "_law_due" = some (.ref (He.ga K "_law_due")) := S.g 20 _ rfl
theorem g__law_count : mg "_law_count" = some (.ref (He.ga K "_law_count")) := S.g 21 _ rfl
theorem g__law_wrong_schedule : mg "_law_wrong_schedule" = some (.ref (He.ga K "_law_wrong_schedule")) := S.g 22 _ rfl
theorem g__law_one : mg "_law_one" = some (.ref (He.ga K "_law_one")) := S.g 23 _ rfl
theorem g__law_numbers : mg "_law_numbers" = some (.ref (He.ga K "_law_numbers")) := S.g 24 _ rfl
theorem g__law_all : mg "_law_all" = some (.ref (He.ga K "_law_all")) := S.g 25 _ rfl
theorem g__law_closing : mg "_law_closing" = some (.ref (He.ga K "_law_closing")) := S.g 26 _ rfl
theorem g_law : mg "law" = some (.ref (He.ga K "law")) := S.g 27 _ rfl
theorem g_BudgetError : mg "BudgetError" = some (.ref (He.ga K "BudgetError")) := S.g 28 _ rfl
theorem g_InvalidNumber : mg "InvalidNumber" = some (.ref (He.ga K "InvalidNumber")) := S.g 29 _ rfl
theorem g_InvalidRows : mg "InvalidRows" = some (.ref (He.ga K "InvalidRows")) := S.g 30 _ rfl
theorem g_InvalidLot : mg "InvalidLot" = some (.ref (He.ga K "InvalidLot")) := S.g 31 _ rfl
theorem m_ValueError : mg "ValueError" = none := S.n 35 _ rfl
theorem m_all : mg "all" = none := S.n 36 _ rfl
theorem m_bool : mg "bool" = none := S.n 37 _ rfl
theorem m_enumerate : mg "enumerate" = none := S.n 38 _ rfl
theorem m_int : mg "int" = none := S.n 39 _ rfl
theorem m_isinstance : mg "isinstance" = none := S.n 40 _ rfl
theorem m_len : mg "len" = none := S.n 41 _ rfl
theorem m_list : mg "list" = none := S.n 42 _ rfl
theorem m_max : mg "max" = none := S.n 43 _ rfl
theorem m_min : mg "min" = none := S.n 44 _ rfl
theorem m_range : mg "range" = none := S.n 45 _ rfl
theorem m_str : mg "str" = none := S.n 46 _ rfl
theorem m_sum : mg "sum" = none := S.n 47 _ rfl
theorem m_tuple : mg "tuple" = none := S.n 48 _ rfl
theorem d_InvalidNumber___init__ : ∃ fd, FunD K "__init__" "InvalidNumber.__init__" (defArgs s_InvalidNumber___init__) (defBody s_InvalidNumber___init__) (defScope s_InvalidNumber___init__) [] [] (He.fAd K ("InvalidNumber", some "__init__")) fd := S.d 0 _ rfl
theorem d_InvalidRows___init__ : ∃ fd, FunD K "__init__" "InvalidRows.__init__" (defArgs s_InvalidRows___init__) (defBody s_InvalidRows___init__) (defScope s_InvalidRows___init__) [] [] (He.fAd K ("InvalidRows", some "__init__")) fd := S.d 1 _ rfl
theorem d_InvalidLot___init__ : ∃ fd, FunD K "__init__" "InvalidLot.__init__" (defArgs s_InvalidLot___init__) (defBody s_InvalidLot___init__) (defScope s_InvalidLot___init__) [] [] (He.fAd K ("InvalidLot", some "__init__")) fd := S.d 2 _ rfl
theorem d_is_integer : ∃ fd, FunD K "is_integer" "is_integer" (defArgs s_is_integer) (defBody s_is_integer) (defScope s_is_integer) [] [] (He.fAd K ("is_integer", none)) fd := S.d 3 _ rfl
theorem d_is_between : ∃ fd, FunD K "is_between" "is_between" (defArgs s_is_between) (defBody s_is_between) (defScope s_is_between) [] [] (He.fAd K ("is_between", none)) fd := S.d 4 _ rfl
theorem d_is_row : ∃ fd, FunD K "is_row" "is_row" (defArgs s_is_row) (defBody s_is_row) (defScope s_is_row) [] [] (He.fAd K ("is_row", none)) fd := S.d 5 _ rfl
theorem d_is_word : ∃ fd, FunD K "is_word" "is_word" (defArgs s_is_word) (defBody s_is_word) (defScope s_is_word) [] [] (He.fAd K ("is_word", none)) fd := S.d 6 _ rfl
theorem d_are_rows : ∃ fd, FunD K "are_rows" "are_rows" (defArgs s_are_rows) (defBody s_are_rows) (defScope s_are_rows) [] [] (He.fAd K ("are_rows", none)) fd := S.d 7 _ rfl
theorem d_check_number : ∃ fd, FunD K "check_number" "check_number" (defArgs s_check_number) (defBody s_check_number) (defScope s_check_number) [] [] (He.fAd K ("check_number", none)) fd := S.d 8 _ rfl
theorem d_check_rows_alone : ∃ fd, FunD K "check_rows_alone" "check_rows_alone" (defArgs s_check_rows_alone) (defBody s_check_rows_alone) (defScope s_check_rows_alone) [] [] (He.fAd K ("check_rows_alone", none)) fd := S.d 9 _ rfl
theorem d_ways : ∃ fd, FunD K "ways" "ways" (defArgs s_ways) (defBody s_ways) (defScope s_ways) [] [] (He.fAd K ("ways", none)) fd := S.d 10 _ rfl
theorem d_row_of_schedule : ∃ fd, FunD K "row_of_schedule" "row_of_schedule" (defArgs s_row_of_schedule) (defBody s_row_of_schedule) (defScope s_row_of_schedule) [] [] (He.fAd K ("row_of_schedule", none)) fd := S.d 11 _ rfl
theorem d_power_of : ∃ fd, FunD K "power_of" "power_of" (defArgs s_power_of) (defBody s_power_of) (defScope s_power_of) [] [] (He.fAd K ("power_of", none)) fd := S.d 12 _ rfl
theorem d_schedules : ∃ fd, FunD K "schedules" "schedules" (defArgs s_schedules) (defBody s_schedules) (defScope s_schedules) [] [] (He.fAd K ("schedules", none)) fd := S.d 13 _ rfl
theorem d_schedule_count : ∃ fd, FunD K "schedule_count" "schedule_count" (defArgs s_schedule_count) (defBody s_schedule_count) (defScope s_schedule_count) [] [] (He.fAd K ("schedule_count", none)) fd := S.d 14 _ rfl
theorem d__law_box : ∃ fd, FunD K "_law_box" "_law_box" (defArgs s__law_box) (defBody s__law_box) (defScope s__law_box) [] [] (He.fAd K ("_law_box", none)) fd := S.d 15 _ rfl
theorem d__law_draw : ∃ fd, FunD K "_law_draw" "_law_draw" (defArgs s__law_draw) (defBody s__law_draw) (defScope s__law_draw) [] [] (He.fAd K ("_law_draw", none)) fd := S.d 16 _ rfl
theorem d__law_same : ∃ fd, FunD K "_law_same" "_law_same" (defArgs s__law_same) (defBody s__law_same) (defScope s__law_same) [] [] (He.fAd K ("_law_same", none)) fd := S.d 17 _ rfl
theorem d__law_word : ∃ fd, FunD K "_law_word" "_law_word" (defArgs s__law_word) (defBody s__law_word) (defScope s__law_word) [] [] (He.fAd K ("_law_word", none)) fd := S.d 18 _ rfl
theorem d__law_rows : ∃ fd, FunD K "_law_rows" "_law_rows" (defArgs s__law_rows) (defBody s__law_rows) (defScope s__law_rows) [] [] (He.fAd K ("_law_rows", none)) fd := S.d 19 _ rfl
theorem d__law_wrong_rows : ∃ fd, FunD K "_law_wrong_rows" "_law_wrong_rows" (defArgs s__law_wrong_rows) (defBody s__law_wrong_rows) (defScope s__law_wrong_rows) [] [] (He.fAd K ("_law_wrong_rows", none)) fd := S.d 20 _ rfl
theorem d__law_told : ∃ fd, FunD K "_law_told" "_law_told" (defArgs s__law_told) (defBody s__law_told) (defScope s__law_told) [] [] (He.fAd K ("_law_told", none)) fd := S.d 21 _ rfl
theorem d__law_schedule : ∃ fd, FunD K "_law_schedule" "_law_schedule" (defArgs s__law_schedule) (defBody s__law_schedule) (defScope s__law_schedule) [] [] (He.fAd K ("_law_schedule", none)) fd := S.d 22 _ rfl
theorem d__law_due : ∃ fd, FunD K "_law_due" "_law_due" (defArgs s__law_due) (defBody s__law_due) (defScope s__law_due) [] [] (He.fAd K ("_law_due", none)) fd := S.d 23 _ rfl
theorem d__law_count : ∃ fd, FunD K "_law_count" "_law_count" (defArgs s__law_count) (defBody s__law_count) (defScope s__law_count) [] [] (He.fAd K ("_law_count", none)) fd := S.d 24 _ rfl
theorem d__law_wrong_schedule : ∃ fd, FunD K "_law_wrong_schedule" "_law_wrong_schedule" (defArgs s__law_wrong_schedule) (defBody s__law_wrong_schedule) (defScope s__law_wrong_schedule) [] [] (He.fAd K ("_law_wrong_schedule", none)) fd := S.d 25 _ rfl
theorem d__law_one : ∃ fd, FunD K "_law_one" "_law_one" (defArgs s__law_one) (defBody s__law_one) (defScope s__law_one) [] [] (He.fAd K ("_law_one", none)) fd := S.d 26 _ rfl
theorem d__law_numbers : ∃ fd, FunD K "_law_numbers" "_law_numbers" (defArgs s__law_numbers) (defBody s__law_numbers) (defScope s__law_numbers) [] [] (He.fAd K ("_law_numbers", none)) fd := S.d 27 _ rfl
theorem d__law_all : ∃ fd, FunD K "_law_all" "_law_all" (defArgs s__law_all) (defBody s__law_all) (defScope s__law_all) [] [] (He.fAd K ("_law_all", none)) fd := S.d 28 _ rfl
theorem d__law_closing : ∃ fd, FunD K "_law_closing" "_law_closing" (defArgs s__law_closing) (defBody s__law_closing) (defScope s__law_closing) [] [] (He.fAd K ("_law_closing", none)) fd := S.d 29 _ rfl
theorem d_law : ∃ fd, FunD K "law" "law" (defArgs s_law) (defBody s_law) (defScope s_law) [] [] (He.fAd K ("law", none)) fd := S.d 30 _ rfl
theorem ext (i : Nat) (b : Bool) (h : (exs K)[i]? = some b) : b = true := List.all_eq_true.mp S.e b (List.mem_of_getElem? h)
theorem x_0 : (errB K "InvalidNumber" "number") = true := ext S 0 _ rfl
theorem x_1 : (errB K "InvalidRows" "rows") = true := ext S 1 _ rfl
theorem x_2 : (errB K "InvalidLot" "lot") = true := ext S 2 _ rfl
theorem x_3 : (exmB K "InvalidNumber" "InvalidRows" false) = true := ext S 3 _ rfl
theorem x_4 : (exmB K "InvalidNumber" "InvalidLot" false) = true := ext S 4 _ rfl
theorem x_5 : (exmB K "InvalidNumber" "InvalidNumber" true) = true := ext S 5 _ rfl
theorem x_6 : (kioB K "InvalidNumber" "BudgetError" true) = true := ext S 6 _ rfl
theorem x_7 : (kitTB K "InvalidNumber" "ValueError" true) = true := ext S 7 _ rfl
theorem x_8 : (exmB K "InvalidRows" "InvalidRows" true) = true := ext S 8 _ rfl
theorem x_9 : (kany2B K "InvalidRows" "InvalidLot" "InvalidNumber" false) = true := ext S 9 _ rfl
theorem x_10 : (kioB K "InvalidRows" "BudgetError" true) = true := ext S 10 _ rfl
theorem x_11 : (exmB K "InvalidLot" "InvalidRows" false) = true := ext S 11 _ rfl
theorem x_12 : (exmB K "InvalidLot" "InvalidLot" true) = true := ext S 12 _ rfl
theorem x_13 : (kioB K "InvalidLot" "InvalidNumber" false) = true := ext S 13 _ rfl
theorem x_14 : (kioB K "InvalidLot" "BudgetError" true) = true := ext S 14 _ rfl
theorem x_15 : (kitTB K "InvalidLot" "ValueError" true) = true := ext S 15 _ rfl
theorem gi_MOST_PROGRAMS : ∃ t, mg "MOST_PROGRAMS" = some (.int 12 t) := S.i 32 _ _ rfl
theorem gi_MOST_LENGTH : ∃ t, mg "MOST_LENGTH" = some (.int 12 t) := S.i 33 _ _ rfl
theorem gi_MOST_SWITCHES : ∃ t, mg "MOST_SWITCHES" = some (.int 12 t) := S.i 34 _ _ rfl
theorem er_InvalidNumber : ErrC K "InvalidNumber" "number" := errB_ok (x_0 S)
theorem er_InvalidRows : ErrC K "InvalidRows" "rows" := errB_ok (x_1 S)
theorem er_InvalidLot : ErrC K "InvalidLot" "lot" := errB_ok (x_2 S)
end

section
end
end EB

set_option Elab.async false
set_option linter.all false
set_option maxRecDepth 100000
set_option maxHeartbeats 4000000

namespace EB
open PySem PySem.Spec PyProof.Rows L2

section
variable {P : Program} {w : World} {K : PySem.W.Frag} {mg : Str → Option Value} {base : Heap}

theorem ok_InvalidNumber___init__ (S : Tx K mg) : Ok P w K mg base 1 ("InvalidNumber", some "__init__") ["self", "number"] ((fun K => spErr K (He.ga K "InvalidNumber") "number") K) := by
  obtain ⟨fd, D⟩ := d_InvalidNumber___init__ S
  refine mk_ok D sc_InvalidNumber___init__ (D.bindsN fun _ _ _ _ _ _ us hl => match us, hl with | [_, _], _ => rfl) spErr_len (fun cdv A outer s H vs Q E hr h => ?_)
  obtain ⟨a, v, rfl, ha, hQ⟩ := h
  exact ⟨_, (pss_one (ps_ost (pv 0) (pv 1))), _, rfl, _, rfl, a, _, rfl, (er_InvalidNumber S).oex, (er_InvalidNumber S).nof, .inl ⟨ha, fun dx n ne => hQ dx n ne⟩⟩

theorem ok_InvalidRows___init__ (S : Tx K mg) : Ok P w K mg base 1 ("InvalidRows", some "__init__") ["self", "rows"] ((fun K => spErr K (He.ga K "InvalidRows") "rows") K) := by
  obtain ⟨fd, D⟩ := d_InvalidRows___init__ S
  refine mk_ok D sc_InvalidRows___init__ (D.bindsN fun _ _ _ _ _ _ us hl => match us, hl with | [_, _], _ => rfl) spErr_len (fun cdv A outer s H vs Q E hr h => ?_)
  obtain ⟨a, v, rfl, ha, hQ⟩ := h
  exact ⟨_, (pss_one (ps_ost (pv 0) (pv 1))), _, rfl, _, rfl, a, _, rfl, (er_InvalidRows S).oex, (er_InvalidRows S).nof, .inl ⟨ha, fun dx n ne => hQ dx n ne⟩⟩

theorem ok_InvalidLot___init__ (S : Tx K mg) : Ok P w K mg base 1 ("InvalidLot", some "__init__") ["self", "lot"] ((fun K => spErr K (He.ga K "InvalidLot") "lot") K) := by
  obtain ⟨fd, D⟩ := d_InvalidLot___init__ S
  refine mk_ok D sc_InvalidLot___init__ (D.bindsN fun _ _ _ _ _ _ us hl => match us, hl with | [_, _], _ => rfl) spErr_len (fun cdv A outer s H vs Q E hr h => ?_)
  obtain ⟨a, v, rfl, ha, hQ⟩ := h
  exact ⟨_, (pss_one (ps_ost (pv 0) (pv 1))), _, rfl, _, rfl, a, _, rfl, (er_InvalidLot S).oex, (er_InvalidLot S).nof, .inl ⟨ha, fun dx n ne => hQ dx n ne⟩⟩

def m_is_integer (p_value : PyData) : Option Bool :=
some ((isD "int" p_value) && (!(isD "bool" p_value)))
abbrev sp_is_integer (K : PySem.W.Frag) : Sp := FSp K (aC zD aN) zB (fun (a : PyData × Unit) => m_is_integer a.1)
theorem ok_is_integer (S : Tx K mg)  : Ok P w K mg base 1 ("is_integer", none) ["value"] (sp_is_integer K) := by
  obtain ⟨fd, D⟩ := d_is_integer S
  refine mk_ok D sc_is_integer (D.bindsN fun _ _ _ _ _ _ us hl => match us, hl with | [_], _ => rfl) (FSp_len len1) (fun cdv A outer s H00 vs Q E hr h => ?_)
  obtain ⟨T00, ⟨p_value, _⟩, res, hT, ⟨v_value, _, rfl, r_value, rfl⟩, hm, hQ⟩ := h
  refine ⟨_, (pss_one (ps_ret (pe_and (pe_callB (kc_isi (K := K)) (by rfl) (m_isinstance S) bt_isinstance (pa_cons (pv 0) (pa_cons (pe_cls (by rfl) (m_int S) bt_int) pa_nil))) (pe_one (pe_not (pe_callB (kc_isi (K := K)) (by rfl) (m_isinstance S) bt_isinstance (pa_cons (pv 0) (pa_cons (pe_cls (by rfl) (m_bool S) bt_bool) pa_nil)))))))), ?_⟩
  have E : En K ⟨T00, [], H00⟩ [(fR zD v_value p_value)] [] T00 H00 := En.start hT ⟨r_value, trivial⟩
  replace hm : m_is_integer p_value = some res := hm
  unfold m_is_integer at hm
  refine ret_open ?_
  refine En.run E (ev_andV (ev_isiD (n := "int") (ev_var (i := 0) rfl (E.rd (r := zD) (v := v_value) (d := p_value) 0 rfl))) fun hc1 => (ev_notV (ev_isiD (n := "bool") (ev_var (i := 0) rfl (E.rd (r := zD) (v := v_value) (d := p_value) 0 rfl))))) fun v2 H E => ?_
  have hr9 := Option.some.inj hm
  subst res
  exact hQ _ _ (En.isEx E) (En.out E (En.at E (f := (fR zB v2 ((isD "int" p_value) && (!(isD "bool" p_value))))) 0 rfl))

def m_is_between (p_value : PyData) (p_least : Int) (p_most : Int) : Option Bool :=
((m_is_integer p_value).bind fun (r3 : Bool) =>
((if r3 = true then ((dInt p_value).bind fun (x4 : Int) =>
some ((decide (p_least ≤ x4)) && (decide (x4 ≤ p_most)))) else some false).bind fun (b6 : Bool) =>
some b6))
abbrev sp_is_between (K : PySem.W.Frag) : Sp := FSp K (aC zD (aC zI (aC zI aN))) zB (fun (a : PyData × Int × Int × Unit) => m_is_between a.1 a.2.1 a.2.2.1)
theorem ok_is_between (S : Tx K mg) (G_is_integer : Ok P w K mg base 1 ("is_integer", none) ["value"] (sp_is_integer K)) : Ok P w K mg base 2 ("is_between", none) ["value", "least", "most"] (sp_is_between K) := by
  obtain ⟨fd, D⟩ := d_is_between S
  refine mk_ok D sc_is_between (D.bindsN fun _ _ _ _ _ _ us hl => match us, hl with | [_, _, _], _ => rfl) (FSp_len len3) (fun cdv A outer s H00 vs Q E hr h => ?_)
  obtain ⟨T00, ⟨p_value, p_least, p_most, _⟩, res, hT, ⟨v_value, _, rfl, r_value, v_least, _, rfl, r_least, v_most, _, rfl, r_most, rfl⟩, hm, hQ⟩ := h
  refine ⟨_, (pss_one (ps_ret (pe_and (pe_callG G_is_integer hr (by omega) (by rfl) (g_is_integer S) (pa_cons (pv 0) pa_nil)) (pe_one (pe_chain op_le op_le (pv 1) (pv 0) (pv 2)))))), ?_⟩
  have E : En K ⟨T00, [], H00⟩ [(fR zD v_value p_value), (fR zI v_least p_least), (fR zI v_most p_most)] [] T00 H00 := En.start hT ⟨r_value, r_least, r_most, trivial⟩
  replace hm : m_is_between p_value p_least p_most = some res := hm
  unfold m_is_between at hm
  refine ret_open ?_
  obtain ⟨r3, h_r3, hm⟩ := bnd hm
  obtain ⟨b6, h_b6, hm⟩ := bnd hm
  refine En.run E (ev_andO (ev_callO E.td (ea_cons (ev_var (i := 0) rfl (E.rd (r := zD) (v := v_value) (d := p_value) 0 rfl)) ea_nil) h_r3) (fun hc5 y7 hy7 => by
          obtain ⟨x4, h_x4, hy7⟩ := bnd hy7; cases hy7; exact (ev_chain (g := (fun i j => decide (i ≤ j))) (g' := (fun i j => decide (i ≤ j))) (ev_var (i := 1) rfl (E.rd (r := zI) (v := v_least) (d := p_least) 1 rfl)) (ev_dI (ev_var (i := 0) rfl (E.rd (r := zD) (v := v_value) (d := p_value) 0 rfl)) h_x4) (ev_var (i := 2) rfl (E.rd (r := zI) (v := v_most) (d := p_most) 2 rfl)))) h_b6) fun v8 H E => ?_
  have hr9 := Option.some.inj hm
  subst res
  exact hQ _ _ (En.isEx E) (En.out E (En.at E (f := (fR zB v8 b6)) 0 rfl))

def m_is_row (p_value : PyData) : Option Bool :=
some (isD "tuple" p_value || isD "list" p_value)
abbrev sp_is_row (K : PySem.W.Frag) : Sp := FSp K (aC zD aN) zB (fun (a : PyData × Unit) => m_is_row a.1)
theorem ok_is_row (S : Tx K mg)  : Ok P w K mg base 1 ("is_row", none) ["value"] (sp_is_row K) := by
  obtain ⟨fd, D⟩ := d_is_row S
  refine mk_ok D sc_is_row (D.bindsN fun _ _ _ _ _ _ us hl => match us, hl with | [_], _ => rfl) (FSp_len len1) (fun cdv A outer s H00 vs Q E hr h => ?_)
  obtain ⟨T00, ⟨p_value, _⟩, res, hT, ⟨v_value, _, rfl, r_value, rfl⟩, hm, hQ⟩ := h
  refine ⟨_, (pss_one (ps_ret (pe_callB (kc_isiT (K := K)) (by rfl) (m_isinstance S) bt_isinstance (pa_cons (pv 0) (pa_cons (pe_tup (pa_cons (pe_cls (by rfl) (m_tuple S) bt_tuple) (pa_cons (pe_cls (by rfl) (m_list S) bt_list) pa_nil))) pa_nil))))), ?_⟩
  have E : En K ⟨T00, [], H00⟩ [(fR zD v_value p_value)] [] T00 H00 := En.start hT ⟨r_value, trivial⟩
  replace hm : m_is_row p_value = some res := hm
  unfold m_is_row at hm
  refine ret_open ?_
  refine En.run E (ev_isi2D (n1 := "tuple") (n2 := "list") (ev_var (i := 0) rfl (E.rd (r := zD) (v := v_value) (d := p_value) 0 rfl))) fun v9 H E => ?_
  have hr9 := Option.some.inj hm
  subst res
  exact hQ _ _ (En.isEx E) (En.out E (En.at E (f := (fR zB v9 (isD "tuple" p_value || isD "list" p_value))) 0 rfl))

def m_is_word (p_value : PyData) : Option Bool :=
((if (isD "str" p_value) = true then ((dStr p_value).bind fun (x10 : Str) =>
((grd (x10.length ≤ 1000000)).bind fun (u11 : Unit) =>
((mapO (fun (x12 : Str) =>
((inSgn x12 ("01" : Str)).bind fun (x13 : Bool) =>
some x13)) (x10.cps.toList.map fun c => (⟨#[c]⟩ : Str))).bind fun (x14 : (List Bool)) =>
some ((x14).all id)))) else some false).bind fun (b16 : Bool) =>
some b16)
abbrev sp_is_word (K : PySem.W.Frag) : Sp := FSp K (aC zD aN) zB (fun (a : PyData × Unit) => m_is_word a.1)
theorem ok_is_word (S : Tx K mg)  : Ok P w K mg base 1 ("is_word", none) ["value"] (sp_is_word K) := by
  obtain ⟨fd, D⟩ := d_is_word S
  refine mk_ok D sc_is_word (D.bindsN fun _ _ _ _ _ _ us hl => match us, hl with | [_], _ => rfl) (FSp_len len1) (fun cdv A outer s H00 vs Q E hr h => ?_)
  obtain ⟨T00, ⟨p_value, _⟩, res, hT, ⟨v_value, _, rfl, r_value, rfl⟩, hm, hQ⟩ := h
  refine ⟨_, (pss_one (ps_ret (pe_and (pe_callB (kc_isi (K := K)) (by rfl) (m_isinstance S) bt_isinstance (pa_cons (pv 0) (pa_cons (pe_cls (by rfl) (m_str S) bt_str) pa_nil))) (pe_one (pe_callB (kr_all (K := K) rfl) (by rfl) (m_all S) bt_all (pa_cons (pe_lc (own := [("character", 1)]) (by rfl) sc_is_word.nd (pi_str (pv 0)) (blkOk_by (N := ["value", "character"]) (sc := defScope s_is_word) (by decide +kernel)) (fun _ _ _ _ _ => pg_name (i := 1) sc_is_word.nd rfl (.inl rfl)) (fun _ _ _ _ _ => pts_nil) (fun _ _ _ _ _ => (pe_cmpR op_inSg (pv 1) pe_str (by rfl)))) pa_nil)))))), ?_⟩
  have E : En K ⟨T00, [], H00⟩ [(fR zD v_value p_value)] [] T00 H00 := En.start hT ⟨r_value, trivial⟩
  replace hm : m_is_word p_value = some res := hm
  unfold m_is_word at hm
  refine ret_open ?_
  obtain ⟨b16, h_b16, hm⟩ := bnd hm
  refine En.run E (ev_andO (ev_isiD (n := "str") (ev_var (i := 0) rfl (E.rd (r := zD) (v := v_value) (d := p_value) 0 rfl))) (fun hc15 y17 hy17 => by
          obtain ⟨x10, h_x10, hy17⟩ := bnd hy17; obtain ⟨u11, h_u11, hy17⟩ := bnd hy17; obtain ⟨x14, h_x14, hy17⟩ := bnd hy17; cases hy17; exact (ev_all (ev_lcO1 E.td (ei_strS (ev_dS (ev_var (i := 0) rfl (E.rd (r := zD) (v := v_value) (d := p_value) 0 rfl)) h_x10) (grd_ok h_u11)) h_x14 (fun T12 H12 v12 x12 L12 hT12 hx12 r12 Q12 q12 => q12 _ wipe1 (fun y12 hy12 => by
          obtain ⟨x13, h_x13, hy12⟩ := bnd hy12; cases hy12; exact (ev_inS (ev_var (i := 1) rfl r12) ev_str h_x13)))))) h_b16) fun v18 H E => ?_
  have hr9 := Option.some.inj hm
  subst res
  exact hQ _ _ (En.isEx E) (En.out E (En.at E (f := (fR zB v18 b16)) 0 rfl))

def m_are_rows (p_value : PyData) : Option Bool :=
((m_is_row p_value).bind fun (r19 : Bool) =>
((if (!r19) = true then some true else ((dLen p_value).bind fun (x20 : Int) =>
((if (decide (x20 = (0 : Int))) = true then some true else ((dSeq p_value).bind fun (x21 : List PyData) =>
((mapO (fun (x22 : PyData) =>
((m_is_word x22).bind fun (r23 : Bool) =>
some r23)) x21).bind fun (x24 : (List Bool)) =>
some (!((x24).all id))))).bind fun (b26 : Bool) =>
some b26))).bind fun (b29 : Bool) =>
(if b29 = true then
some false
else
((dSeq p_value).bind fun (x32 : List PyData) =>
((mapO (fun (x33 : PyData) =>
((dLen x33).bind fun (x34 : Int) =>
((dIx p_value (0 : Int)).bind fun (x35 : PyData) =>
((dLen x35).bind fun (x36 : Int) =>
some (decide (x34 = x36)))))) x32).bind fun (x37 : (List Bool)) =>
some ((x37).all id))))))
abbrev sp_are_rows (K : PySem.W.Frag) : Sp := FSp K (aC zD aN) zB (fun (a : PyData × Unit) => m_are_rows a.1)
theorem ok_are_rows (S : Tx K mg) (G_is_row : Ok P w K mg base 1 ("is_row", none) ["value"] (sp_is_row K)) (G_is_word : Ok P w K mg base 1 ("is_word", none) ["value"] (sp_is_word K)) : Ok P w K mg base 2 ("are_rows", none) ["value"] (sp_are_rows K) := by
  obtain ⟨fd, D⟩ := d_are_rows S
  refine mk_ok D sc_are_rows (D.bindsN fun _ _ _ _ _ _ us hl => match us, hl with | [_], _ => rfl) (FSp_len len1) (fun cdv A outer s H00 vs Q E hr h => ?_)
  obtain ⟨T00, ⟨p_value, _⟩, res, hT, ⟨v_value, _, rfl, r_value, rfl⟩, hm, hQ⟩ := h
  refine ⟨_, (pss_cons (ps_if (PW.pt (pw_or (pt_not (pt_val (pe_callG G_is_row hr (by omega) (by rfl) (g_is_row S) (pa_cons (pv 0) pa_nil)))) (pw_or (pt_cmpR op_eq (pe_callB (kc_lenD (K := K)) (by rfl) (m_len S) bt_len (pa_cons (pv 0) pa_nil)) pe_int (nomark _)) (pw_or1 (pt_not (pt_val (pe_callB (kr_all (K := K) rfl) (by rfl) (m_all S) bt_all (pa_cons (pe_lc (own := [("word", 1)]) (by rfl) sc_are_rows.nd (kp_seq (K := K) (pv 0)) (blkOk_by (N := ["value", "word"]) (sc := defScope s_are_rows) (by decide +kernel)) (fun _ _ _ _ _ => pg_name (i := 1) sc_are_rows.nd rfl (.inl rfl)) (fun _ _ _ _ _ => pts_nil) (fun _ _ _ _ _ => (pe_callG G_is_word hr (by omega) (by rfl) (g_is_word S) (pa_cons (pv 1) pa_nil)))) pa_nil)))))))) (pss_one (ps_ret pe_bl)) pss_nil) (pss_one (ps_ret (pe_callB (kr_all (K := K) rfl) (by rfl) (m_all S) bt_all (pa_cons (pe_lc (own := [("word", 1)]) (by rfl) sc_are_rows.nd (kp_seq (K := K) (pv 0)) (blkOk_by (N := ["value", "word"]) (sc := defScope s_are_rows) (by decide +kernel)) (fun _ _ _ _ _ => pg_name (i := 1) sc_are_rows.nd rfl (.inl rfl)) (fun _ _ _ _ _ => pts_nil) (fun _ _ _ _ _ => (pe_cmpR op_eq (pe_callB (kc_lenD (K := K)) (by rfl) (m_len S) bt_len (pa_cons (pv 1) pa_nil)) (pe_callB (kc_lenD (K := K)) (by rfl) (m_len S) bt_len (pa_cons (pe_ix (kx_seq (K := K)) (pv 0) pe_int (fun _ _ => rfl)) pa_nil)) (nomark _)))) pa_nil))))), ?_⟩
  have E : En K ⟨T00, [], H00⟩ [(fR zD v_value p_value)] [] T00 H00 := En.start hT ⟨r_value, trivial⟩
  replace hm : m_are_rows p_value = some res := hm
  unfold m_are_rows at hm
  refine ifs_open ?_
  obtain ⟨r19, h_r19, hm⟩ := bnd hm
  obtain ⟨b29, h_b29, hm⟩ := bnd hm
  refine En.test E (et_orO (et_not (et_B (K := K) (ev_callO E.td (ea_cons (ev_var (i := 0) rfl (E.rd (r := zD) (v := v_value) (d := p_value) 0 rfl)) ea_nil) h_r19))) (fun hc28 y30 hy30 => by
          obtain ⟨x20, h_x20, hy30⟩ := bnd hy30; obtain ⟨b26, h_b26, hy30⟩ := bnd hy30; cases hy30; exact (et_orO (et_test (K := K) (ev_eqI (ev_lenD (ev_var (i := 0) rfl (E.rd (r := zD) (v := v_value) (d := p_value) 0 rfl)) h_x20) ev_int)) (fun hc25 y27 hy27 => by
          obtain ⟨x21, h_x21, hy27⟩ := bnd hy27; obtain ⟨x24, h_x24, hy27⟩ := bnd hy27; cases hy27; exact (et_not (et_B (K := K) (ev_all (ev_lcO1 E.td (ei_seq (ev_dQ (ev_var (i := 0) rfl (E.rd (r := zD) (v := v_value) (d := p_value) 0 rfl)) h_x21)) h_x24 (fun T22 H22 v22 x22 L22 hT22 hx22 r22 Q22 q22 => q22 _ wipe1 (fun y22 hy22 => by
          obtain ⟨r23, h_r23, hy22⟩ := bnd hy22; cases hy22; exact (ev_callO hT22 (ea_cons (ev_var (i := 1) rfl r22) ea_nil) h_r23)))))))) h_b26)) h_b29) fun H E => ?_
  refine iteB (fun hc39 => ?_) (fun hc39 => ?_)
  · rw [if_pos hc39] at hm
    refine ret_open ?_
    refine En.run E ev_bl fun v31 H E => ?_
    have hr9 := Option.some.inj hm
    subst res
    exact hQ _ _ (En.isEx E) (En.out E (En.at E (f := (fR zB v31 false)) 0 rfl))
  · rw [if_neg (by rw [hc39]; decide)] at hm
    first | refine nx_ ?_ | skip
    refine ret_open ?_
    obtain ⟨x32, h_x32, hm⟩ := bnd hm
    obtain ⟨x37, h_x37, hm⟩ := bnd hm
    refine En.run E (ev_all (ev_lcO1 E.td (ei_seq (ev_dQ (ev_var (i := 0) rfl (E.rd (r := zD) (v := v_value) (d := p_value) 0 rfl)) h_x32)) h_x37 (fun T33 H33 v33 x33 L33 hT33 hx33 r33 Q33 q33 => q33 _ wipe1 (fun y33 hy33 => by
          obtain ⟨x34, h_x34, hy33⟩ := bnd hy33; obtain ⟨x35, h_x35, hy33⟩ := bnd hy33; obtain ⟨x36, h_x36, hy33⟩ := bnd hy33; cases hy33; exact (ev_eqI (ev_lenD (ev_var (i := 1) rfl r33) h_x34) (ev_lenD (ev_ixD (ev_var (i := 0) rfl (L33.ap (E.rd (r := zD) (v := v_value) (d := p_value) 0 rfl))) ev_int h_x35) h_x36)))))) fun v38 H E => ?_
    have hr9 := Option.some.inj hm
    subst res
    exact hQ _ _ (En.isEx E) (En.out E (En.at E (f := (fR zB v38 ((x37).all id))) 0 rfl))

def m_check_number (p_value : PyData) (p_least : Int) (p_most : Int) : Option (Except Err Unit) :=
((m_is_between p_value p_least p_most).bind fun (r40 : Bool) =>
(if (!r40) = true then
some (.error ⟨("InvalidNumber", "number"), p_value⟩)
else
some (.ok ())))
abbrev sp_check_number (K : PySem.W.Frag) : Sp := XSp K (aC zD (aC zI (aC zI aN))) zN (fun (a : PyData × Int × Int × Unit) => m_check_number a.1 a.2.1 a.2.2.1)
theorem ok_check_number (S : Tx K mg) (G_InvalidNumber___init__ : Ok P w K mg base 1 ("InvalidNumber", some "__init__") ["self", "number"] ((fun K => spErr K (He.ga K "InvalidNumber") "number") K)) (G_is_between : Ok P w K mg base 2 ("is_between", none) ["value", "least", "most"] (sp_is_between K)) : OkX P w K mg base 3 ("check_number", none) ["value", "least", "most"] (sp_check_number K) := by
  obtain ⟨fd, D⟩ := d_check_number S
  refine mk_okX D sc_check_number (D.bindsN fun _ _ _ _ _ _ us hl => match us, hl with | [_, _, _], _ => rfl) (XSp_len len3) (fun cdv A outer s H00 vs Q E hr h => ?_)
  obtain ⟨T00, ⟨p_value, p_least, p_most, _⟩, res, hT, ⟨v_value, _, rfl, r_value, v_least, _, rfl, r_least, v_most, _, rfl, r_most, rfl⟩, hm, hQ, hX⟩ := h
  refine ⟨_, (pss_one (ps_if (pt_not (pt_val (pe_callG G_is_between hr (by omega) (by rfl) (g_is_between S) (pa_cons (pv 0) (pa_cons (pv 1) (pa_cons (pv 2) pa_nil)))))) (pss_one (ps_raiseQ rfl (takes_of rfl rfl rfl rfl) (px_mk (f := "number") (er_InvalidNumber S) G_InvalidNumber___init__ hr (by omega) (by rfl) (g_InvalidNumber S) (pa_cons (pv 0) pa_nil)))) pss_nil)), ?_⟩
  have E : En K ⟨T00, [], H00⟩ [(fR zD v_value p_value), (fR zI v_least p_least), (fR zI v_most p_most)] [] T00 H00 := En.start hT ⟨r_value, r_least, r_most, trivial⟩
  replace hm : m_check_number p_value p_least p_most = some res := hm
  unfold m_check_number at hm
  refine ifs_open ?_
  obtain ⟨r40, h_r40, hm⟩ := bnd hm
  refine En.test E (et_not (et_B (K := K) (ev_callO E.td (ea_cons (ev_var (i := 0) rfl (E.rd (r := zD) (v := v_value) (d := p_value) 0 rfl)) (ea_cons (ev_var (i := 1) rfl (E.rd (r := zI) (v := v_least) (d := p_least) 1 rfl)) (ea_cons (ev_var (i := 2) rfl (E.rd (r := zI) (v := v_most) (d := p_most) 2 rfl)) ea_nil))) h_r40))) fun H E => ?_
  refine iteB (fun hc42 => ?_) (fun hc42 => ?_)
  · rw [if_pos hc42] at hm
    refine En.raise (x := "InvalidNumber") (f := "number") E (ev_var (i := 0) rfl (E.rd (r := zD) (v := v_value) (d := p_value) 0 rfl)) fun p41 H E => ?_
    have hr9 := Option.some.inj hm
    subst res
    exact hX _ rfl _ _ (En.isEx E) (En.out E (En.at E (f := (fR (zX "number") (.ref p41) p_value)) 0 rfl))
  · rw [if_neg (by rw [hc42]; decide)] at hm
    have hr9 := Option.some.inj hm
    subst res
    exact hQ _ rfl _ _ (En.isEx E) rfl

def m_check_rows_alone (p_rows : PyData) : Option (Except Err Unit) :=
((m_are_rows p_rows).bind fun (r43 : Bool) =>
(if (!r43) = true then
some (.error ⟨("InvalidRows", "rows"), p_rows⟩)
else
some (.ok ())))
abbrev sp_check_rows_alone (K : PySem.W.Frag) : Sp := XSp K (aC zD aN) zN (fun (a : PyData × Unit) => m_check_rows_alone a.1)
theorem ok_check_rows_alone (S : Tx K mg) (G_InvalidRows___init__ : Ok P w K mg base 1 ("InvalidRows", some "__init__") ["self", "rows"] ((fun K => spErr K (He.ga K "InvalidRows") "rows") K)) (G_are_rows : Ok P w K mg base 2 ("are_rows", none) ["value"] (sp_are_rows K)) : OkX P w K mg base 3 ("check_rows_alone", none) ["rows"] (sp_check_rows_alone K) := by
  obtain ⟨fd, D⟩ := d_check_rows_alone S
  refine mk_okX D sc_check_rows_alone (D.bindsN fun _ _ _ _ _ _ us hl => match us, hl with | [_], _ => rfl) (XSp_len len1) (fun cdv A outer s H00 vs Q E hr h => ?_)
  obtain ⟨T00, ⟨p_rows, _⟩, res, hT, ⟨v_rows, _, rfl, r_rows, rfl⟩, hm, hQ, hX⟩ := h
  refine ⟨_, (pss_one (ps_if (pt_not (pt_val (pe_callG G_are_rows hr (by omega) (by rfl) (g_are_rows S) (pa_cons (pv 0) pa_nil)))) (pss_one (ps_raiseQ rfl (takes_of rfl rfl rfl rfl) (px_mk (f := "rows") (er_InvalidRows S) G_InvalidRows___init__ hr (by omega) (by rfl) (g_InvalidRows S) (pa_cons (pv 0) pa_nil)))) pss_nil)), ?_⟩
  have E : En K ⟨T00, [], H00⟩ [(fR zD v_rows p_rows)] [] T00 H00 := En.start hT ⟨r_rows, trivial⟩
  replace hm : m_check_rows_alone p_rows = some res := hm
  unfold m_check_rows_alone at hm
  refine ifs_open ?_
  obtain ⟨r43, h_r43, hm⟩ := bnd hm
  refine En.test E (et_not (et_B (K := K) (ev_callO E.td (ea_cons (ev_var (i := 0) rfl (E.rd (r := zD) (v := v_rows) (d := p_rows) 0 rfl)) ea_nil) h_r43))) fun H E => ?_
  refine iteB (fun hc45 => ?_) (fun hc45 => ?_)
  · rw [if_pos hc45] at hm
    refine En.raise (x := "InvalidRows") (f := "rows") E (ev_var (i := 0) rfl (E.rd (r := zD) (v := v_rows) (d := p_rows) 0 rfl)) fun p44 H E => ?_
    have hr9 := Option.some.inj hm
    subst res
    exact hX _ rfl _ _ (En.isEx E) (En.out E (En.at E (f := (fR (zX "rows") (.ref p44) p_rows)) 0 rfl))
  · rw [if_neg (by rw [hc45]; decide)] at hm
    have hr9 := Option.some.inj hm
    subst res
    exact hQ _ rfl _ _ (En.isEx E) rfl

def m_ways (p_many : Int) (p_chosen : Int) : Option Int :=
(if ((decide (p_chosen < (0 : Int))) || (decide (p_many < p_chosen))) = true then
some (0 : Int)
else
((grd (p_chosen ≤ 1000000 ∧ -1000000 ≤ p_chosen)).bind fun (u49 : Unit) =>
((forP (fun (s50 : Int) (x54 : Int) =>
((grd (CMulV s50 (p_many - x54))).bind fun (u64 : Unit) =>
((grd (CDivW (s50 * (p_many - x54)) (x54 + (1 : Int)))).bind fun (u65 : Unit) =>
((some ((s50 * (p_many - x54)) / (x54 + (1 : Int)))).bind fun (d67 : Int) =>
some d67)))) (1 : Int) (rng 0 (p_chosen).toNat)).bind fun (s52 : Int) =>
some s52)))
abbrev sp_ways (K : PySem.W.Frag) : Sp := FSp K (aC zI (aC zI aN)) zI (fun (a : Int × Int × Unit) => m_ways a.1 a.2.1)
theorem ok_ways (S : Tx K mg)  : Ok P w K mg base 1 ("ways", none) ["many", "chosen"] (sp_ways K) := by
  obtain ⟨fd, D⟩ := d_ways S
  refine mk_ok D sc_ways (D.bindsN fun _ _ _ _ _ _ us hl => match us, hl with | [_, _], _ => rfl) (FSp_len len2) (fun cdv A outer s H00 vs Q E hr h => ?_)
  obtain ⟨T00, ⟨p_many, p_chosen, _⟩, res, hT, ⟨v_many, _, rfl, r_many, v_chosen, _, rfl, r_chosen, rfl⟩, hm, hQ⟩ := h
  refine ⟨_, (pss_cons (ps_if (PW.pt (pw_or (pt_cmpR op_lt (pv 1) pe_int (nomark _)) (pw_or1 (pt_cmpR op_gt (pv 1) (pv 0) (nomark _))))) (pss_one (ps_ret pe_int)) pss_nil) (pss_cons (ps_set (i := 2) sc_ways.nd rfl (.inl rfl) pe_int) (pss_cons (ps_for PassesOwn.never rfl (pi_range1 (by rfl) (m_range S) (pa_cons (pv 1) pa_nil)) (pg_name (i := 3) sc_ways.nd rfl (.inl rfl)) (pss_one (ps_set (i := 2) sc_ways.nd rfl (.inl rfl) (pe_op op_fdivW (pe_op op_mulV (pv 2) (pe_op op_sub (pv 0) (pv 3))) (pe_op op_add (pv 3) pe_int))))) (pss_one (ps_ret (pv 2)))))), ?_⟩
  have E : En K ⟨T00, [], H00⟩ [(fR zI v_many p_many), (fR zI v_chosen p_chosen)] [] T00 H00 := En.start hT ⟨r_many, r_chosen, trivial⟩
  replace hm : m_ways p_many p_chosen = some res := hm
  unfold m_ways at hm
  refine ifs_open ?_
  refine En.test E (et_or (et_test (K := K) (ev_lt (ev_var (i := 1) rfl (E.rd (r := zI) (v := v_chosen) (d := p_chosen) 1 rfl)) ev_int)) fun hc46 => (et_test (K := K) (ev_gt (ev_var (i := 1) rfl (E.rd (r := zI) (v := v_chosen) (d := p_chosen) 1 rfl)) (ev_var (i := 0) rfl (E.rd (r := zI) (v := v_many) (d := p_many) 0 rfl))))) fun H E => ?_
  refine iteB (fun hc69 => ?_) (fun hc69 => ?_)
  · rw [if_pos hc69] at hm
    refine ret_open ?_
    refine En.run E ev_int fun v47 H E => ?_
    have hr9 := Option.some.inj hm
    subst res
    exact hQ _ _ (En.isEx E) (En.out E (En.at E (f := (fR zI v47 (0 : Int))) 0 rfl))
  · rw [if_neg (by rw [hc69]; decide)] at hm
    first | refine nx_ ?_ | skip
    refine asg_open ?_
    refine En.run E ev_int fun v48 H E => ?_
    first | refine nx_ ?_ | skip
    obtain ⟨u49, h_u49, hm⟩ := bnd hm
    obtain ⟨s52, h_s52, hm⟩ := bnd hm
    refine En.forP (K := K) (fun (b53 : Bs) (s50 : Int) (T : AS) (σ9 : L2.St) (H9 : Hp) => ∃ (u61 : Option V), ∃ (v62 : V), ∃ (u63 : Option V), σ9 = [some v_many, u61, some v62, u63] ∧ En K b53 [(fR zI v_many p_many), (fR zI v62 s50)] [] T H9) E (ei_range (ea_cons (ev_var (i := 1) rfl (E.rd (r := zI) (v := v_chosen) (d := p_chosen) 2 rfl)) ea_nil) (grd_ok h_u49).1 (grd_ok h_u49).2) h_s52 (fun H E => ⟨_, v48, _, rfl, (En.facts (En.pick E [] (by decide) rfl) ⟨(E.rd (r := zI) (v := v_many) (d := p_many) 1 rfl), (E.rd (r := zI) (v := v48) (d := (1 : Int)) 0 rfl), trivial⟩)⟩) (by rintro _ _ _ _ _ ⟨u61, v62, u63, rfl, E⟩; exact ⟨En.wd E, En.td E⟩) (fun b53 s50 x54 o51 T _ H1 H v55 D56 hx56 hI56 ex56 hr56 hm hrt56 hn56 => ?_) (fun H2 T _ H E2 hI56 => ?_)
    · obtain ⟨u61, v62, u63, rfl, E⟩ := hI56
      replace E := En.add (f := (fR zI v55 x54)) (En.ex E ex56) hr56
      refine gn ?_
      refine asg_open ?_
      obtain ⟨u64, h_u64, hm⟩ := bnd hm
      obtain ⟨u65, h_u65, hm⟩ := bnd hm
      obtain ⟨d67, e_d67, hm⟩ := bnd hm
      refine En.run E (Ev.to (ev_fdivW (ev_mulV (ev_var (i := 2) rfl (E.rd (r := zI) (v := v62) (d := s50) 2 rfl)) (ev_sub (ev_var (i := 0) rfl (E.rd (r := zI) (v := v_many) (d := p_many) 1 rfl)) (ev_var (i := 3) rfl (E.rd (r := zI) (v := v55) (d := x54) 0 rfl))) (grd_ok h_u64)) (ev_add (ev_var (i := 3) rfl (E.rd (r := zI) (v := v55) (d := x54) 0 rfl)) ev_int) (grd_ok h_u65)) (Option.some.inj e_d67)) fun v66 H E => ?_
      have hj9 := Option.some.inj hm
      subst o51
      exact (hn56 _ _ _ ⟨_, v66, _, rfl, (En.facts (En.pick E [] (by decide) rfl) ⟨(E.rd (r := zI) (v := v_many) (d := p_many) 2 rfl), (E.rd (r := zI) (v := v66) (d := d67) 0 rfl), trivial⟩)⟩).1
    · obtain ⟨u61, v62, u63, rfl, E⟩ := hI56
      replace E := En.back E2 E
      first | refine nx_ ?_ | skip
      refine ret_open ?_
      refine En.run E (ev_var (i := 2) rfl (E.rd (r := zI) (v := v62) (d := s52) 1 rfl)) fun v68 H E => ?_
      have hr9 := Option.some.inj hm
      subst res
      exact hQ _ _ (En.isEx E) (En.out E (En.at E (f := (fR zI v68 s52)) 0 rfl))

def m_row_of_schedule (p_rows : PyData) (p_schedule : PyData) : Option (Except Err Str) :=
catE (m_check_rows_alone p_rows) (fun (d70 : Unit) =>
((m_is_row p_schedule).bind fun (r74 : Bool) =>
((if (!r74) = true then some true else ((dLen p_schedule).bind fun (x75 : Int) =>
((dIx p_rows (0 : Int)).bind fun (x76 : PyData) =>
((dLen x76).bind fun (x77 : Int) =>
some (!decide (x75 = x77)))))).bind fun (b79 : Bool) =>
(if b79 = true then
some (.error ⟨("InvalidLot", "lot"), p_schedule⟩)
else
((dSeq p_schedule).bind fun (x82 : List PyData) =>
((mapO (fun (x83 : PyData) =>
((dLen p_rows).bind fun (x86 : Int) =>
((m_is_between x83 (0 : Int) (x86 - (1 : Int))).bind fun (r87 : Bool) =>
some r87))) x82).bind fun (x88 : (List Bool)) =>
(if (!((x88).all id)) = true then
some (.error ⟨("InvalidLot", "lot"), p_schedule⟩)
else
((dSeq p_schedule).bind fun (x90 : List PyData) =>
((mapO (fun (x91 : (Int × PyData)) =>
((dInt ((x91).2)).bind fun (x92 : Int) =>
((dIx p_rows x92).bind fun (x93 : PyData) =>
((dIx x93 ((x91).1)).bind fun (x94 : PyData) =>
some x94)))) (enL x90)).bind fun (x95 : (List PyData)) =>
((mapO dStr x95).bind fun (x96 : List Str) =>
((grd ((x96.map (·.length)).sum + x96.length * (wS ([] : List Bool)).length ≤ 1000000)).bind fun (u97 : Unit) =>
some (.ok (Txt.join (wS ([] : List Bool)) x96))))))))))))) (fun (k71 : Str × Str) (y72 : PyData) =>
some (.error ⟨k71, y72⟩))
abbrev sp_row_of_schedule (K : PySem.W.Frag) : Sp := XSp K (aC zD (aC zD aN)) zS (fun (a : PyData × PyData × Unit) => m_row_of_schedule a.1 a.2.1)
theorem ok_row_of_schedule (S : Tx K mg) (G_InvalidLot___init__ : Ok P w K mg base 1 ("InvalidLot", some "__init__") ["self", "lot"] ((fun K => spErr K (He.ga K "InvalidLot") "lot") K)) (G_check_rows_alone : OkX P w K mg base 3 ("check_rows_alone", none) ["rows"] (sp_check_rows_alone K)) (G_is_between : Ok P w K mg base 2 ("is_between", none) ["value", "least", "most"] (sp_is_between K)) (G_is_row : Ok P w K mg base 1 ("is_row", none) ["value"] (sp_is_row K)) : OkX P w K mg base 4 ("row_of_schedule", none) ["rows", "schedule"] (sp_row_of_schedule K) := by
  obtain ⟨fd, D⟩ := d_row_of_schedule S
  refine mk_okX D sc_row_of_schedule (D.bindsN fun _ _ _ _ _ _ us hl => match us, hl with | [_, _], _ => rfl) (XSp_len len2) (fun cdv A outer s H00 vs Q E hr h => ?_)
  obtain ⟨T00, ⟨p_rows, p_schedule, _⟩, res, hT, ⟨v_rows, _, rfl, r_rows, v_schedule, _, rfl, r_schedule, rfl⟩, hm, hQ, hX⟩ := h
  refine ⟨_, (pss_cons (ps_expr (px_call G_check_rows_alone (fun σ => passAt (takes_of rfl rfl rfl rfl) σ) hr (by omega) (by rfl) (g_check_rows_alone S) (pa_cons (pv 0) pa_nil))) (pss_cons (ps_if (PW.pt (pw_or (pt_not (pt_val (pe_callG G_is_row hr (by omega) (by rfl) (g_is_row S) (pa_cons (pv 1) pa_nil)))) (pw_or1 (pt_cmpR op_ne (pe_callB (kc_lenD (K := K)) (by rfl) (m_len S) bt_len (pa_cons (pv 1) pa_nil)) (pe_callB (kc_lenD (K := K)) (by rfl) (m_len S) bt_len (pa_cons (pe_ix (kx_seq (K := K)) (pv 0) pe_int (fun _ _ => rfl)) pa_nil)) (nomark _))))) (pss_one (ps_raiseQ rfl (takes_of rfl rfl rfl rfl) (px_mk (f := "lot") (er_InvalidLot S) G_InvalidLot___init__ hr (by omega) (by rfl) (g_InvalidLot S) (pa_cons (pv 1) pa_nil)))) pss_nil) (pss_cons (ps_if (pt_not (pt_val (pe_callB (kr_all (K := K) rfl) (by rfl) (m_all S) bt_all (pa_cons (pe_lc (own := [("program", 2)]) (by rfl) sc_row_of_schedule.nd (kp_seq (K := K) (pv 1)) (blkOk_by (N := ["rows", "schedule", "program", "place"]) (sc := defScope s_row_of_schedule) (by decide +kernel)) (fun _ _ _ _ _ => pg_name (i := 2) sc_row_of_schedule.nd rfl (.inl rfl)) (fun _ _ _ _ _ => pts_nil) (fun _ _ _ _ _ => (pe_callG G_is_between hr (by omega) (by rfl) (g_is_between S) (pa_cons (pv 2) (pa_cons pe_int (pa_cons (pe_op op_sub (pe_callB (kc_lenD (K := K)) (by rfl) (m_len S) bt_len (pa_cons (pv 0) pa_nil)) pe_int) pa_nil)))))) pa_nil)))) (pss_one (ps_raiseQ rfl (takes_of rfl rfl rfl rfl) (px_mk (f := "lot") (er_InvalidLot S) G_InvalidLot___init__ hr (by omega) (by rfl) (g_InvalidLot S) (pa_cons (pv 1) pa_nil)))) pss_nil) (pss_one (ps_ret (ke_join (K := K) pe_str (pe_lc (own := [("place", 3), ("program", 2)]) (by rfl) sc_row_of_schedule.nd (pi_en (K := K) (by rfl) (m_enumerate S) (pa_cons (pv 1) pa_nil)) (blkOk_by (N := ["rows", "schedule", "program", "place"]) (sc := defScope s_row_of_schedule) (by decide +kernel)) (fun _ _ _ _ _ => kg_tup (K := K) (n := 2) rfl (pgs_cons (pg_name (i := 3) sc_row_of_schedule.nd rfl (.inl rfl)) (pgs_cons (pg_name (i := 2) sc_row_of_schedule.nd rfl (.inl rfl)) pgs_nil))) (fun _ _ _ _ _ => pts_nil) (fun _ _ _ _ _ => (pe_ix (kx_seq (K := K)) (pe_ix (kx_seq (K := K)) (pv 0) (pv 2) (fun _ _ => rfl)) (pv 3) (fun _ _ => rfl)))))))))), ?_⟩
  have E : En K ⟨T00, [], H00⟩ [(fR zD v_rows p_rows), (fR zD v_schedule p_schedule)] [] T00 H00 := En.start hT ⟨r_rows, r_schedule, trivial⟩
  replace hm : m_row_of_schedule p_rows p_schedule = some res := hm
  unfold m_row_of_schedule at hm
  rcases catE_or hm with ⟨d70, h_d70, hm⟩ | ⟨k71, y72, h_d70, hm⟩
  · refine drop_open ?_
    refine En.run E (ev_callX E.td (ea_cons (ev_var (i := 0) rfl (E.rd (r := zD) (v := v_rows) (d := p_rows) 0 rfl)) ea_nil) h_d70) fun v73 H E => ?_
    first | refine nx_ ?_ | skip
    refine ifs_open ?_
    obtain ⟨r74, h_r74, hm⟩ := bnd hm
    obtain ⟨b79, h_b79, hm⟩ := bnd hm
    refine En.test E (et_orO (et_not (et_B (K := K) (ev_callO E.td (ea_cons (ev_var (i := 1) rfl (E.rd (r := zD) (v := v_schedule) (d := p_schedule) 2 rfl)) ea_nil) h_r74))) (fun hc78 y80 hy80 => by
          obtain ⟨x75, h_x75, hy80⟩ := bnd hy80; obtain ⟨x76, h_x76, hy80⟩ := bnd hy80; obtain ⟨x77, h_x77, hy80⟩ := bnd hy80; cases hy80; exact (et_test (K := K) (ev_neI (ev_lenD (ev_var (i := 1) rfl (E.rd (r := zD) (v := v_schedule) (d := p_schedule) 2 rfl)) h_x75) (ev_lenD (ev_ixD (ev_var (i := 0) rfl (E.rd (r := zD) (v := v_rows) (d := p_rows) 1 rfl)) ev_int h_x76) h_x77)))) h_b79) fun H E => ?_
    refine iteB (fun hc100 => ?_) (fun hc100 => ?_)
    · rw [if_pos hc100] at hm
      refine En.raise (x := "InvalidLot") (f := "lot") E (ev_var (i := 1) rfl (E.rd (r := zD) (v := v_schedule) (d := p_schedule) 2 rfl)) fun p81 H E => ?_
      have hr9 := Option.some.inj hm
      subst res
      exact hX _ rfl _ _ (En.isEx E) (En.out E (En.at E (f := (fR (zX "lot") (.ref p81) p_schedule)) 0 rfl))
    · rw [if_neg (by rw [hc100]; decide)] at hm
      first | refine nx_ ?_ | skip
      refine ifs_open ?_
      obtain ⟨x82, h_x82, hm⟩ := bnd hm
      obtain ⟨x88, h_x88, hm⟩ := bnd hm
      refine En.test E (et_not (et_B (K := K) (ev_all (ev_lcO1 E.td (ei_seq (ev_dQ (ev_var (i := 1) rfl (E.rd (r := zD) (v := v_schedule) (d := p_schedule) 2 rfl)) h_x82)) h_x88 (fun T83 H83 v83 x83 L83 hT83 hx83 r83 Q83 q83 => q83 _ wipe1 (fun y83 hy83 => by
          obtain ⟨x86, h_x86, hy83⟩ := bnd hy83; obtain ⟨r87, h_r87, hy83⟩ := bnd hy83; cases hy83; exact (ev_callO hT83 (ea_cons (ev_var (i := 2) rfl r83) (ea_cons ev_int (ea_cons (ev_sub (ev_lenD (ev_var (i := 0) rfl (L83.ap (E.rd (r := zD) (v := v_rows) (d := p_rows) 1 rfl))) h_x86) ev_int) ea_nil))) h_r87))))))) fun H E => ?_
      refine iteB (fun hc99 => ?_) (fun hc99 => ?_)
      · rw [if_pos hc99] at hm
        refine En.raise (x := "InvalidLot") (f := "lot") E (ev_var (i := 1) rfl (E.rd (r := zD) (v := v_schedule) (d := p_schedule) 2 rfl)) fun p89 H E => ?_
        have hr9 := Option.some.inj hm
        subst res
        exact hX _ rfl _ _ (En.isEx E) (En.out E (En.at E (f := (fR (zX "lot") (.ref p89) p_schedule)) 0 rfl))
      · rw [if_neg (by rw [hc99]; decide)] at hm
        first | refine nx_ ?_ | skip
        refine ret_open ?_
        obtain ⟨x90, h_x90, hm⟩ := bnd hm
        obtain ⟨x95, h_x95, hm⟩ := bnd hm
        obtain ⟨x96, h_x96, hm⟩ := bnd hm
        obtain ⟨u97, h_u97, hm⟩ := bnd hm
        refine En.run E (ev_joinS (ev_WS (ev_word [] (by decide) (by decide))) (ev_LdS (ev_lcO1 E.td (ei_en (ev_dQ (ev_var (i := 1) rfl (E.rd (r := zD) (v := v_schedule) (d := p_schedule) 2 rfl)) h_x90)) h_x95 (fun T91 H91 v91 x91 L91 hT91 hx91 r91 Q91 q91 => g2_tup r91 fun w91_0 r91_0 w91_1 r91_1 => q91 _ (by rfl) (fun y91 hy91 => by
          obtain ⟨x92, h_x92, hy91⟩ := bnd hy91; obtain ⟨x93, h_x93, hy91⟩ := bnd hy91; obtain ⟨x94, h_x94, hy91⟩ := bnd hy91; cases hy91; exact (ev_ixD (ev_ixD (ev_var (i := 0) rfl (L91.ap (E.rd (r := zD) (v := v_rows) (d := p_rows) 1 rfl))) (ev_dI (ev_var (i := 2) rfl r91_1) h_x92) h_x93) (ev_var (i := 3) rfl r91_0) h_x94)))) h_x96) (grd_ok h_u97)) fun v98 H E => ?_
        have hr9 := Option.some.inj hm
        subst res
        exact hQ _ rfl _ _ (En.isEx E) (En.out E (En.at E (f := (fR zS v98 (Txt.join (wS ([] : List Bool)) x96))) 0 rfl))
  · refine st_dropE (ee_callX E.td (ea_cons (ev_var (i := 0) rfl (E.rd (r := zD) (v := v_rows) (d := p_rows) 0 rfl)) ea_nil) h_d70) (En.err (e := ⟨k71, y72⟩) E fun p101 H E => ?_)
    have hr9 := Option.some.inj hm
    subst res
    exact hX _ rfl _ _ (En.isEx E) (En.out E (En.at E (f := (fR (zX k71.2) (.ref p101) y72)) 0 rfl))

def m_power_of (p_base : Int) (p_many : Int) : Option Int :=
((grd (p_many ≤ 1000000 ∧ -1000000 ≤ p_many)).bind fun (u103 : Unit) =>
((forP (fun (s104 : Int) (x108 : Int) =>
((grd (CMulV s104 p_base)).bind fun (u117 : Unit) =>
((some (s104 * p_base)).bind fun (d119 : Int) =>
some d119))) (1 : Int) (rng 0 (p_many).toNat)).bind fun (s106 : Int) =>
some s106))
abbrev sp_power_of (K : PySem.W.Frag) : Sp := FSp K (aC zI (aC zI aN)) zI (fun (a : Int × Int × Unit) => m_power_of a.1 a.2.1)
theorem ok_power_of (S : Tx K mg)  : Ok P w K mg base 1 ("power_of", none) ["base", "many"] (sp_power_of K) := by
  obtain ⟨fd, D⟩ := d_power_of S
  refine mk_ok D sc_power_of (D.bindsN fun _ _ _ _ _ _ us hl => match us, hl with | [_, _], _ => rfl) (FSp_len len2) (fun cdv A outer s H00 vs Q E hr h => ?_)
  obtain ⟨T00, ⟨p_base, p_many, _⟩, res, hT, ⟨v_base, _, rfl, r_base, v_many, _, rfl, r_many, rfl⟩, hm, hQ⟩ := h
  refine ⟨_, (pss_cons (ps_set (i := 2) sc_power_of.nd rfl (.inl rfl) pe_int) (pss_cons (ps_for PassesOwn.never rfl (pi_range1 (by rfl) (m_range S) (pa_cons (pv 1) pa_nil)) (pg_name (i := 3) sc_power_of.nd rfl (.inl rfl)) (pss_one (ps_set (i := 2) sc_power_of.nd rfl (.inl rfl) (pe_op op_mulV (pv 2) (pv 0))))) (pss_one (ps_ret (pv 2))))), ?_⟩
  have E : En K ⟨T00, [], H00⟩ [(fR zI v_base p_base), (fR zI v_many p_many)] [] T00 H00 := En.start hT ⟨r_base, r_many, trivial⟩
  replace hm : m_power_of p_base p_many = some res := hm
  unfold m_power_of at hm
  refine asg_open ?_
  refine En.run E ev_int fun v102 H E => ?_
  first | refine nx_ ?_ | skip
  obtain ⟨u103, h_u103, hm⟩ := bnd hm
  obtain ⟨s106, h_s106, hm⟩ := bnd hm
  refine En.forP (K := K) (fun (b107 : Bs) (s104 : Int) (T : AS) (σ9 : L2.St) (H9 : Hp) => ∃ (u114 : Option V), ∃ (v115 : V), ∃ (u116 : Option V), σ9 = [some v_base, u114, some v115, u116] ∧ En K b107 [(fR zI v_base p_base), (fR zI v115 s104)] [] T H9) E (ei_range (ea_cons (ev_var (i := 1) rfl (E.rd (r := zI) (v := v_many) (d := p_many) 2 rfl)) ea_nil) (grd_ok h_u103).1 (grd_ok h_u103).2) h_s106 (fun H E => ⟨_, v102, _, rfl, (En.facts (En.pick E [] (by decide) rfl) ⟨(E.rd (r := zI) (v := v_base) (d := p_base) 1 rfl), (E.rd (r := zI) (v := v102) (d := (1 : Int)) 0 rfl), trivial⟩)⟩) (by rintro _ _ _ _ _ ⟨u114, v115, u116, rfl, E⟩; exact ⟨En.wd E, En.td E⟩) (fun b107 s104 x108 o105 T _ H1 H v109 D110 hx110 hI110 ex110 hr110 hm hrt110 hn110 => ?_) (fun H2 T _ H E2 hI110 => ?_)
  · obtain ⟨u114, v115, u116, rfl, E⟩ := hI110
    replace E := En.add (f := (fR zI v109 x108)) (En.ex E ex110) hr110
    refine gn ?_
    refine asg_open ?_
    obtain ⟨u117, h_u117, hm⟩ := bnd hm
    obtain ⟨d119, e_d119, hm⟩ := bnd hm
    refine En.run E (Ev.to (ev_mulV (ev_var (i := 2) rfl (E.rd (r := zI) (v := v115) (d := s104) 2 rfl)) (ev_var (i := 0) rfl (E.rd (r := zI) (v := v_base) (d := p_base) 1 rfl)) (grd_ok h_u117)) (Option.some.inj e_d119)) fun v118 H E => ?_
    have hj9 := Option.some.inj hm
    subst o105
    exact (hn110 _ _ _ ⟨_, v118, _, rfl, (En.facts (En.pick E [] (by decide) rfl) ⟨(E.rd (r := zI) (v := v_base) (d := p_base) 2 rfl), (E.rd (r := zI) (v := v118) (d := d119) 0 rfl), trivial⟩)⟩).1
  · obtain ⟨u114, v115, u116, rfl, E⟩ := hI110
    replace E := En.back E2 E
    first | refine nx_ ?_ | skip
    refine ret_open ?_
    refine En.run E (ev_var (i := 2) rfl (E.rd (r := zI) (v := v115) (d := s106) 1 rfl)) fun v120 H E => ?_
    have hr9 := Option.some.inj hm
    subst res
    exact hQ _ _ (En.isEx E) (En.out E (En.at E (f := (fR zI v120 s106)) 0 rfl))

def m_schedules (p_programs : Int) (p_length : Int) (p_switches : Int) : Option Int :=
(if (decide (p_length = (0 : Int))) = true then
some (1 : Int)
else
((grd (((mn2 p_switches (p_length - (1 : Int))) + (1 : Int)) ≤ 1000000 ∧ -1000000 ≤ ((mn2 p_switches (p_length - (1 : Int))) + (1 : Int)))).bind fun (u123 : Unit) =>
((forP (fun (s124 : Int) (x128 : Int) =>
((m_ways (p_length - (1 : Int)) x128).bind fun (r140 : Int) =>
((grd (CMulV r140 p_programs)).bind fun (u141 : Unit) =>
((m_power_of (p_programs - (1 : Int)) x128).bind fun (r142 : Int) =>
((grd (CMulV (r140 * p_programs) r142)).bind fun (u143 : Unit) =>
((some (s124 + ((r140 * p_programs) * r142))).bind fun (d145 : Int) =>
some d145)))))) (0 : Int) (rng 0 (((mn2 p_switches (p_length - (1 : Int))) + (1 : Int))).toNat)).bind fun (s126 : Int) =>
some s126)))
abbrev sp_schedules (K : PySem.W.Frag) : Sp := FSp K (aC zI (aC zI (aC zI aN))) zI (fun (a : Int × Int × Int × Unit) => m_schedules a.1 a.2.1 a.2.2.1)
theorem ok_schedules (S : Tx K mg) (G_power_of : Ok P w K mg base 1 ("power_of", none) ["base", "many"] (sp_power_of K)) (G_ways : Ok P w K mg base 1 ("ways", none) ["many", "chosen"] (sp_ways K)) : Ok P w K mg base 2 ("schedules", none) ["programs", "length", "switches"] (sp_schedules K) := by
  obtain ⟨fd, D⟩ := d_schedules S
  refine mk_ok D sc_schedules (D.bindsN fun _ _ _ _ _ _ us hl => match us, hl with | [_, _, _], _ => rfl) (FSp_len len3) (fun cdv A outer s H00 vs Q E hr h => ?_)
  obtain ⟨T00, ⟨p_programs, p_length, p_switches, _⟩, res, hT, ⟨v_programs, _, rfl, r_programs, v_length, _, rfl, r_length, v_switches, _, rfl, r_switches, rfl⟩, hm, hQ⟩ := h
  refine ⟨_, (pss_cons (ps_if (pt_cmpR op_eq (pv 1) pe_int (nomark _)) (pss_one (ps_ret pe_int)) pss_nil) (pss_cons (ps_set (i := 3) sc_schedules.nd rfl (.inl rfl) pe_int) (pss_cons (ps_for PassesOwn.never rfl (pi_range1 (by rfl) (m_range S) (pa_cons (pe_op op_add (pe_callB call_min2Q (by rfl) (m_min S) bt_min (pa_cons (pv 2) (pa_cons (pe_op op_sub (pv 1) pe_int) pa_nil))) pe_int) pa_nil)) (pg_name (i := 4) sc_schedules.nd rfl (.inl rfl)) (pss_one (ps_aug (i := 3) sc_schedules.nd rfl (.inl rfl) (pe_op op_mulV (pe_op op_mulV (pe_callG G_ways hr (by omega) (by rfl) (g_ways S) (pa_cons (pe_op op_sub (pv 1) pe_int) (pa_cons (pv 4) pa_nil))) (pv 0)) (pe_callG G_power_of hr (by omega) (by rfl) (g_power_of S) (pa_cons (pe_op op_sub (pv 0) pe_int) (pa_cons (pv 4) pa_nil)))) ip_add))) (pss_one (ps_ret (pv 3)))))), ?_⟩
  have E : En K ⟨T00, [], H00⟩ [(fR zI v_programs p_programs), (fR zI v_length p_length), (fR zI v_switches p_switches)] [] T00 H00 := En.start hT ⟨r_programs, r_length, r_switches, trivial⟩
  replace hm : m_schedules p_programs p_length p_switches = some res := hm
  unfold m_schedules at hm
  refine ifs_open ?_
  refine En.test E (et_test (K := K) (ev_eqI (ev_var (i := 1) rfl (E.rd (r := zI) (v := v_length) (d := p_length) 1 rfl)) ev_int)) fun H E => ?_
  refine iteB (fun hc147 => ?_) (fun hc147 => ?_)
  · rw [if_pos hc147] at hm
    refine ret_open ?_
    refine En.run E ev_int fun v121 H E => ?_
    have hr9 := Option.some.inj hm
    subst res
    exact hQ _ _ (En.isEx E) (En.out E (En.at E (f := (fR zI v121 (1 : Int))) 0 rfl))
  · rw [if_neg (by rw [hc147]; decide)] at hm
    first | refine nx_ ?_ | skip
    refine asg_open ?_
    refine En.run E ev_int fun v122 H E => ?_
    first | refine nx_ ?_ | skip
    obtain ⟨u123, h_u123, hm⟩ := bnd hm
    obtain ⟨s126, h_s126, hm⟩ := bnd hm
    refine En.forP (K := K) (fun (b127 : Bs) (s124 : Int) (T : AS) (σ9 : L2.St) (H9 : Hp) => ∃ (u137 : Option V), ∃ (v138 : V), ∃ (u139 : Option V), σ9 = [some v_programs, some v_length, u137, some v138, u139] ∧ En K b127 [(fR zI v_programs p_programs), (fR zI v_length p_length), (fR zI v138 s124)] [] T H9) E (ei_range (ea_cons (ev_add (ev_min2 (ev_var (i := 2) rfl (E.rd (r := zI) (v := v_switches) (d := p_switches) 3 rfl)) (ev_sub (ev_var (i := 1) rfl (E.rd (r := zI) (v := v_length) (d := p_length) 2 rfl)) ev_int)) ev_int) ea_nil) (grd_ok h_u123).1 (grd_ok h_u123).2) h_s126 (fun H E => ⟨_, v122, _, rfl, (En.facts (En.pick E [] (by decide) rfl) ⟨(E.rd (r := zI) (v := v_programs) (d := p_programs) 1 rfl), (E.rd (r := zI) (v := v_length) (d := p_length) 2 rfl), (E.rd (r := zI) (v := v122) (d := (0 : Int)) 0 rfl), trivial⟩)⟩) (by rintro _ _ _ _ _ ⟨u137, v138, u139, rfl, E⟩; exact ⟨En.wd E, En.td E⟩) (fun b127 s124 x128 o125 T _ H1 H v129 D130 hx130 hI130 ex130 hr130 hm hrt130 hn130 => ?_) (fun H2 T _ H E2 hI130 => ?_)
    · obtain ⟨u137, v138, u139, rfl, E⟩ := hI130
      replace E := En.add (f := (fR zI v129 x128)) (En.ex E ex130) hr130
      refine gn ?_
      obtain ⟨r140, h_r140, hm⟩ := bnd hm
      obtain ⟨u141, h_u141, hm⟩ := bnd hm
      obtain ⟨r142, h_r142, hm⟩ := bnd hm
      obtain ⟨u143, h_u143, hm⟩ := bnd hm
      obtain ⟨d145, e_d145, hm⟩ := bnd hm
      refine En.augI (f := fun i j => i + j) E rfl (E.rd (r := zI) (v := v138) (d := s124) 3 rfl) (ev_mulV (ev_mulV (ev_callO E.td (ea_cons (ev_sub (ev_var (i := 1) rfl (E.rd (r := zI) (v := v_length) (d := p_length) 2 rfl)) ev_int) (ea_cons (ev_var (i := 4) rfl (E.rd (r := zI) (v := v129) (d := x128) 0 rfl)) ea_nil)) h_r140) (ev_var (i := 0) rfl (E.rd (r := zI) (v := v_programs) (d := p_programs) 1 rfl)) (grd_ok h_u141)) (ev_callO E.td (ea_cons (ev_sub (ev_var (i := 0) rfl (E.rd (r := zI) (v := v_programs) (d := p_programs) 1 rfl)) ev_int) (ea_cons (ev_var (i := 4) rfl (E.rd (r := zI) (v := v129) (d := x128) 0 rfl)) ea_nil)) h_r142) (grd_ok h_u143)) fun v144 H E => ?_
      rw [show s124 + ((r140 * p_programs) * r142) = d145 from Option.some.inj e_d145] at E
      have hj9 := Option.some.inj hm
      subst o125
      exact (hn130 _ _ _ ⟨_, v144, _, rfl, (En.facts (En.pick E [] (by decide) rfl) ⟨(E.rd (r := zI) (v := v_programs) (d := p_programs) 2 rfl), (E.rd (r := zI) (v := v_length) (d := p_length) 3 rfl), (E.rd (r := zI) (v := v144) (d := d145) 0 rfl), trivial⟩)⟩).1
    · obtain ⟨u137, v138, u139, rfl, E⟩ := hI130
      replace E := En.back E2 E
      first | refine nx_ ?_ | skip
      refine ret_open ?_
      refine En.run E (ev_var (i := 3) rfl (E.rd (r := zI) (v := v138) (d := s126) 2 rfl)) fun v146 H E => ?_
      have hr9 := Option.some.inj hm
      subst res
      exact hQ _ _ (En.isEx E) (En.out E (En.at E (f := (fR zI v146 s126)) 0 rfl))

def m_schedule_count (p_programs : PyData) (p_length : PyData) (p_switches : PyData) : Option (Except Err Int) :=
catE (m_check_number p_programs (1 : Int) (12 : Int)) (fun (d148 : Unit) =>
catE (m_check_number p_length (0 : Int) (12 : Int)) (fun (d152 : Unit) =>
catE (m_check_number p_switches (0 : Int) (12 : Int)) (fun (d156 : Unit) =>
((dInt p_programs).bind fun (x166 : Int) =>
((dInt p_length).bind fun (x167 : Int) =>
((dInt p_switches).bind fun (x168 : Int) =>
((m_schedules x166 x167 x168).bind fun (r169 : Int) =>
some (.ok r169)))))) (fun (k157 : Str × Str) (y158 : PyData) =>
some (.error ⟨k157, y158⟩))) (fun (k153 : Str × Str) (y154 : PyData) =>
some (.error ⟨k153, y154⟩))) (fun (k149 : Str × Str) (y150 : PyData) =>
some (.error ⟨k149, y150⟩))
abbrev sp_schedule_count (K : PySem.W.Frag) : Sp := XSp K (aC zD (aC zD (aC zD aN))) zI (fun (a : PyData × PyData × PyData × Unit) => m_schedule_count a.1 a.2.1 a.2.2.1)
theorem ok_schedule_count (S : Tx K mg) (G_check_number : OkX P w K mg base 3 ("check_number", none) ["value", "least", "most"] (sp_check_number K)) (G_schedules : Ok P w K mg base 2 ("schedules", none) ["programs", "length", "switches"] (sp_schedules K)) : OkX P w K mg base 4 ("schedule_count", none) ["programs", "length", "switches"] (sp_schedule_count K) := by
  obtain ⟨fd, D⟩ := d_schedule_count S
  refine mk_okX D sc_schedule_count (D.bindsN fun _ _ _ _ _ _ us hl => match us, hl with | [_, _, _], _ => rfl) (XSp_len len3) (fun cdv A outer s H00 vs Q E hr h => ?_)
  obtain ⟨T00, ⟨p_programs, p_length, p_switches, _⟩, res, hT, ⟨v_programs, _, rfl, r_programs, v_length, _, rfl, r_length, v_switches, _, rfl, r_switches, rfl⟩, hm, hQ, hX⟩ := h
  refine ⟨_, (pss_cons (ps_expr (px_call G_check_number (fun σ => passAt (takes_of rfl rfl rfl rfl) σ) hr (by omega) (by rfl) (g_check_number S) (pa_cons (pv 0) (pa_cons pe_int (pa_cons (pe_gint (by rfl) (gi_MOST_PROGRAMS S)) pa_nil))))) (pss_cons (ps_expr (px_call G_check_number (fun σ => passAt (takes_of rfl rfl rfl rfl) σ) hr (by omega) (by rfl) (g_check_number S) (pa_cons (pv 1) (pa_cons pe_int (pa_cons (pe_gint (by rfl) (gi_MOST_LENGTH S)) pa_nil))))) (pss_cons (ps_expr (px_call G_check_number (fun σ => passAt (takes_of rfl rfl rfl rfl) σ) hr (by omega) (by rfl) (g_check_number S) (pa_cons (pv 2) (pa_cons pe_int (pa_cons (pe_gint (by rfl) (gi_MOST_SWITCHES S)) pa_nil))))) (pss_one (ps_ret (pe_callG G_schedules hr (by omega) (by rfl) (g_schedules S) (pa_cons (pv 0) (pa_cons (pv 1) (pa_cons (pv 2) pa_nil))))))))), ?_⟩
  have E : En K ⟨T00, [], H00⟩ [(fR zD v_programs p_programs), (fR zD v_length p_length), (fR zD v_switches p_switches)] [] T00 H00 := En.start hT ⟨r_programs, r_length, r_switches, trivial⟩
  replace hm : m_schedule_count p_programs p_length p_switches = some res := hm
  unfold m_schedule_count at hm
  rcases catE_or hm with ⟨d148, h_d148, hm⟩ | ⟨k149, y150, h_d148, hm⟩
  · refine drop_open ?_
    refine En.run E (ev_callX E.td (ea_cons (ev_var (i := 0) rfl (E.rd (r := zD) (v := v_programs) (d := p_programs) 0 rfl)) (ea_cons ev_int (ea_cons ev_int ea_nil))) h_d148) fun v151 H E => ?_
    first | refine nx_ ?_ | skip
    rcases catE_or hm with ⟨d152, h_d152, hm⟩ | ⟨k153, y154, h_d152, hm⟩
    · refine drop_open ?_
      refine En.run E (ev_callX E.td (ea_cons (ev_var (i := 1) rfl (E.rd (r := zD) (v := v_length) (d := p_length) 2 rfl)) (ea_cons ev_int (ea_cons ev_int ea_nil))) h_d152) fun v155 H E => ?_
      first | refine nx_ ?_ | skip
      rcases catE_or hm with ⟨d156, h_d156, hm⟩ | ⟨k157, y158, h_d156, hm⟩
      · refine drop_open ?_
        refine En.run E (ev_callX E.td (ea_cons (ev_var (i := 2) rfl (E.rd (r := zD) (v := v_switches) (d := p_switches) 4 rfl)) (ea_cons ev_int (ea_cons ev_int ea_nil))) h_d156) fun v159 H E => ?_
        first | refine nx_ ?_ | skip
        refine ret_open ?_
        obtain ⟨x166, h_x166, hm⟩ := bnd hm
        obtain ⟨x167, h_x167, hm⟩ := bnd hm
        obtain ⟨x168, h_x168, hm⟩ := bnd hm
        obtain ⟨r169, h_r169, hm⟩ := bnd hm
        refine En.run E (ev_callO E.td (ea_cons (ev_dI (ev_var (i := 0) rfl (E.rd (r := zD) (v := v_programs) (d := p_programs) 3 rfl)) h_x166) (ea_cons (ev_dI (ev_var (i := 1) rfl (E.rd (r := zD) (v := v_length) (d := p_length) 4 rfl)) h_x167) (ea_cons (ev_dI (ev_var (i := 2) rfl (E.rd (r := zD) (v := v_switches) (d := p_switches) 5 rfl)) h_x168) ea_nil))) h_r169) fun v170 H E => ?_
        have hr9 := Option.some.inj hm
        subst res
        exact hQ _ rfl _ _ (En.isEx E) (En.out E (En.at E (f := (fR zI v170 r169)) 0 rfl))
      · refine st_dropE (ee_callX E.td (ea_cons (ev_var (i := 2) rfl (E.rd (r := zD) (v := v_switches) (d := p_switches) 4 rfl)) (ea_cons ev_int (ea_cons ev_int ea_nil))) h_d156) (En.err (e := ⟨k157, y158⟩) E fun p171 H E => ?_)
        have hr9 := Option.some.inj hm
        subst res
        exact hX _ rfl _ _ (En.isEx E) (En.out E (En.at E (f := (fR (zX k157.2) (.ref p171) y158)) 0 rfl))
    · refine st_dropE (ee_callX E.td (ea_cons (ev_var (i := 1) rfl (E.rd (r := zD) (v := v_length) (d := p_length) 2 rfl)) (ea_cons ev_int (ea_cons ev_int ea_nil))) h_d152) (En.err (e := ⟨k153, y154⟩) E fun p172 H E => ?_)
      have hr9 := Option.some.inj hm
      subst res
      exact hX _ rfl _ _ (En.isEx E) (En.out E (En.at E (f := (fR (zX k153.2) (.ref p172) y154)) 0 rfl))
  · refine st_dropE (ee_callX E.td (ea_cons (ev_var (i := 0) rfl (E.rd (r := zD) (v := v_programs) (d := p_programs) 0 rfl)) (ea_cons ev_int (ea_cons ev_int ea_nil))) h_d148) (En.err (e := ⟨k149, y150⟩) E fun p173 H E => ?_)
    have hr9 := Option.some.inj hm
    subst res
    exact hX _ rfl _ _ (En.isEx E) (En.out E (En.at E (f := (fR (zX k149.2) (.ref p173) y150)) 0 rfl))

def m__law_draw (p_many : Int) (s00 : Bx) : Option (Int × Bx) :=
(((if ((decide (s00.1 < (1 : Int))) || (decide (s00.2.1 < (1 : Int)))) = true then
(((if (decide (s00.2.2.2.1 < (mn2 ((s00.2.2.2.2).length : Int) (63 : Int)))) = true then
((atI s00.2.2.2.2 s00.2.2.2.1).bind fun (x219 : Int) =>
some x219)
else
some (0 : Int))).bind fun (j215 : Int) =>
((some (s00.2.2.2.1 + (1 : Int))).bind fun (d223 : Int) =>
(((if (decide ((1000000000000000000 : Int) ≤ j215)) = true then
((grd (CMulV s00.2.2.1 s00.2.2.1)).bind fun (u235 : Unit) =>
((some (((s00.2.2.1 * s00.2.2.1) + j215) % (2147483647 : Int))).bind fun (d237 : Int) =>
some (j215, (60 : Int), d237)))
else
some (s00.1, (0 : Int), s00.2.2.1))).bind fun (j230 : Int × Int × Int) =>
some (j215, j230.1, j230.2.1, j230.2.2, d223))))
else
some ((0 : Int), s00.1, s00.2.1, s00.2.2.1, s00.2.2.2.1))).bind fun (j206 : Int × Int × Int × Int × Int) =>
(if (decide ((0 : Int) < j206.2.2.1)) = true then
((some (j206.2.2.1 - (1 : Int))).bind fun (d241 : Int) =>
((grd (0 < p_many)).bind fun (u242 : Unit) =>
((some (j206.2.1 % p_many)).bind fun (d244 : Int) =>
((grd (CDivW j206.2.1 p_many)).bind fun (u245 : Unit) =>
((some (j206.2.1 / p_many)).bind fun (d247 : Int) =>
some (d244, (d247, d241, j206.2.2.2.1, j206.2.2.2.2, s00.2.2.2.2)))))))
else
((forP (fun (s249 : Int) (x253 : Int) =>
((grd (CMulV s249 s249)).bind fun (u263 : Unit) =>
((grd (CMulV j206.1 (48271 : Int))).bind fun (u264 : Unit) =>
((grd (CMulV j206.2.2.2.2 (7919 : Int))).bind fun (u265 : Unit) =>
((some ((((((s249 * s249) + (j206.1 * (48271 : Int))) + (j206.2.2.2.2 * (7919 : Int))) + (11 : Int)) + x253) % (2147483647 : Int))).bind fun (d267 : Int) =>
some d267))))) j206.2.2.2.1 (rng 0 ((2 : Int)).toNat)).bind fun (s251 : Int) =>
((grd (CDivW s251 (37 : Int))).bind fun (u268 : Unit) =>
((grd (0 < p_many)).bind fun (u269 : Unit) =>
some (((s251 / (37 : Int)) % p_many), (j206.2.1, j206.2.2.1, s251, j206.2.2.2.2, s00.2.2.2.2)))))))
abbrev sp__law_draw (K : PySem.W.Frag) : Sp := GSp K (aC zA (aC zI aN)) (fun (a : Addr × Int × Unit) (s : Bx) => cBx a.1 s) zI (fun (a : Addr × Int × Unit) (s : Bx) => m__law_draw a.2.1 s)
theorem ok__law_draw (S : Tx K mg)  : Ok P w K mg base 1 ("_law_draw", none) ["box", "many"] (sp__law_draw K) := by
  obtain ⟨fd, D⟩ := d__law_draw S
  refine mk_ok D sc__law_draw (D.bindsN fun _ _ _ _ _ _ us hl => match us, hl with | [_, _], _ => rfl) (GSp_len len2) (fun cdv A outer s H00 vs Q E hr h => ?_)
  obtain ⟨T00, ⟨p_box, p_many, _⟩, s00, res, sres, hT, ⟨v_box, _, rfl, r_box, v_many, _, rfl, r_many, rfl⟩, hc, hTc, hnd, hm, hQ⟩ := h
  obtain rfl : v_box = .ref p_box := r_box
  refine ⟨_, (pss_cons (ps_set (i := 2) sc__law_draw.nd rfl (.inl rfl) pe_int) (pss_cons (ps_if (PW.pt (pw_or (pt_cmpR op_lt (pe_ix (kx_list (K := K)) (pv 0) pe_int (fun _ _ => rfl)) pe_int (nomark _)) (pw_or1 (pt_cmpR op_lt (pe_ix (kx_list (K := K)) (pv 0) pe_int (fun _ _ => rfl)) pe_int (nomark _))))) (pss_cons (ps_asg pe_int (pg_sub (pv 0) pe_int set_list)) (pss_cons (ps_if (pt_cmpR op_lt (pe_ix (kx_list (K := K)) (pv 0) pe_int (fun _ _ => rfl)) (pe_callB call_min2Q (by rfl) (m_min S) bt_min (pa_cons (pe_callB (kc_len (K := K)) (by rfl) (m_len S) bt_len (pa_cons (pe_ix (kx_list (K := K)) (pv 0) pe_int (fun _ _ => rfl)) pa_nil)) (pa_cons pe_int pa_nil))) (nomark _)) (pss_one (ps_set (i := 2) sc__law_draw.nd rfl (.inl rfl) (pe_ix (kx_list (K := K)) (pe_ix (kx_list (K := K)) (pv 0) pe_int (fun _ _ => rfl)) (pe_ix (kx_list (K := K)) (pv 0) pe_int (fun _ _ => rfl)) (fun _ _ => rfl)))) pss_nil) (pss_cons (ps_asg (pe_op op_add (pe_ix (kx_list (K := K)) (pv 0) pe_int (fun _ _ => rfl)) pe_int) (pg_sub (pv 0) pe_int set_list)) (pss_one (ps_if (pt_cmpR op_ge (pv 2) pe_int (nomark _)) (pss_cons (ps_asg (pv 2) (pg_sub (pv 0) pe_int set_list)) (pss_cons (ps_asg pe_int (pg_sub (pv 0) pe_int set_list)) (pss_one (ps_asg (pe_op op_mod (pe_callTy call_int1Q (by rfl) (m_int S) bt_int (pa_cons (pe_op op_add (pe_op op_mulV (pe_ix (kx_list (K := K)) (pv 0) pe_int (fun _ _ => rfl)) (pe_ix (kx_list (K := K)) (pv 0) pe_int (fun _ _ => rfl))) (pv 2)) pa_nil)) pe_int) (pg_sub (pv 0) pe_int set_list))))) pss_nil))))) pss_nil) (pss_cons (ps_if (pt_cmpR op_gt (pe_ix (kx_list (K := K)) (pv 0) pe_int (fun _ _ => rfl)) pe_int (nomark _)) (pss_cons (ps_asg (pe_op op_sub (pe_ix (kx_list (K := K)) (pv 0) pe_int (fun _ _ => rfl)) pe_int) (pg_sub (pv 0) pe_int set_list)) (pss_cons (ps_set (i := 4) sc__law_draw.nd rfl (.inl rfl) (pe_op op_mod (pe_callTy call_int1Q (by rfl) (m_int S) bt_int (pa_cons (pe_ix (kx_list (K := K)) (pv 0) pe_int (fun _ _ => rfl)) pa_nil)) (pv 1))) (pss_cons (ps_asg (pe_op op_fdivW (pe_callTy call_int1Q (by rfl) (m_int S) bt_int (pa_cons (pe_ix (kx_list (K := K)) (pv 0) pe_int (fun _ _ => rfl)) pa_nil)) (pv 1)) (pg_sub (pv 0) pe_int set_list)) (pss_one (ps_ret (pv 4)))))) pss_nil) (pss_cons (ps_for PassesOwn.never rfl (pi_range1 (by rfl) (m_range S) (pa_cons pe_int pa_nil)) (pg_name (i := 3) sc__law_draw.nd rfl (.inl rfl)) (pss_one (ps_asg (pe_op op_mod (pe_callTy call_int1Q (by rfl) (m_int S) bt_int (pa_cons (pe_op op_add (pe_op op_add (pe_op op_add (pe_op op_add (pe_op op_mulV (pe_ix (kx_list (K := K)) (pv 0) pe_int (fun _ _ => rfl)) (pe_ix (kx_list (K := K)) (pv 0) pe_int (fun _ _ => rfl))) (pe_op op_mulV (pv 2) pe_int)) (pe_op op_mulV (pe_ix (kx_list (K := K)) (pv 0) pe_int (fun _ _ => rfl)) pe_int)) pe_int) (pv 3)) pa_nil)) pe_int) (pg_sub (pv 0) pe_int set_list)))) (pss_one (ps_ret (pe_op op_mod (pe_callTy call_int1Q (by rfl) (m_int S) bt_int (pa_cons (pe_op op_fdivW (pe_ix (kx_list (K := K)) (pv 0) pe_int (fun _ _ => rfl)) pe_int) pa_nil)) (pv 1)))))))), ?_⟩
  have E : En K ⟨T00, [p_box], H00⟩ [(fR zI v_many p_many)] [(cBx p_box s00)] T00 H00 := En.start1 (c := (cBx p_box s00)) hT ⟨r_many, trivial⟩ hc hTc hnd
  obtain ⟨v174, E⟩ := En.openBx E
  replace hm : m__law_draw p_many s00 = some (res, sres) := hm
  unfold m__law_draw at hm
  refine asg_open ?_
  refine En.run E ev_int fun v175 H E => ?_
  first | refine nx_ ?_ | skip
  obtain ⟨j206, hm9, hm8⟩ := bnd hm
  refine seq_open ?_
  refine cut_ (fun σ9 H9 => ∃ (T : AS), ∃ (v207 : V), ∃ (u208 : Option V), ∃ (u209 : Option V), σ9 = [some (.ref p_box), some v_many, some v207, u208, u209] ∧ En K ⟨T00, [p_box], H00⟩ [(fR zI v_many p_many), (fR zI v207 j206.1), (fR (zL zI) v174 s00.2.2.2.2)] [(cV p_box (.lst [.int j206.2.1, .int j206.2.2.1, .int j206.2.2.2.1, .int j206.2.2.2.2, v174]))] T H9) ?_ fun rest => ?_
  · rintro _ H ⟨T, v207, u208, u209, rfl, E⟩
    have hm := hm8
    first | refine nx_ ?_ | skip
    refine ifs_open ?_
    refine En.testB E (et_test (K := K) (ev_gt (ev_ixV (r := zI) (v := .int j206.2.2.1) (d := j206.2.2.1) (ev_var (i := 0) rfl (show zA K _ _ (.ref p_box) p_box from rfl)) ev_int (E.cvB 0 rfl) rfl rfl) ev_int)) fun H E => ?_
    refine iteB (fun hc271 => ?_) (fun hc271 => ?_)
    · rw [if_pos hc271] at hm
      refine asgt_open ?_
      obtain ⟨d241, e_d241, hm⟩ := bnd hm
      refine En.runB E (Ev.to (ev_sub (ev_ixV (r := zI) (v := .int j206.2.2.1) (d := j206.2.2.1) (ev_var (i := 0) rfl (show zA K _ _ (.ref p_box) p_box from rfl)) ev_int (E.cvB 0 rfl) rfl rfl) ev_int) (Option.some.inj e_d241)) fun v240 H E => ?_
      obtain rfl : v240 = .int d241 := E.at (f := (fR zI v240 d241)) 0 rfl
      refine En.setraw (p := p_box) (vs := [.int j206.2.1, .int j206.2.2.1, .int j206.2.2.2.1, .int j206.2.2.2.2, v174]) (v := .int d241) (j := 1) E rfl 0 rfl ev_int rfl fun H E => ?_
      first | refine nx_ ?_ | skip
      refine asg_open ?_
      obtain ⟨u242, h_u242, hm⟩ := bnd hm
      obtain ⟨d244, e_d244, hm⟩ := bnd hm
      refine En.runB E (Ev.to (ev_mod (ev_intI (ev_ixV (r := zI) (v := .int j206.2.1) (d := j206.2.1) (ev_var (i := 0) rfl (show zA K _ _ (.ref p_box) p_box from rfl)) ev_int (E.cvB 0 rfl) rfl rfl)) (ev_var (i := 1) rfl (E.rdB (r := zI) (v := v_many) (d := p_many) 1 rfl)) (grd_ok h_u242)) (Option.some.inj e_d244)) fun v243 H E => ?_
      first | refine nx_ ?_ | skip
      refine asgt_open ?_
      obtain ⟨u245, h_u245, hm⟩ := bnd hm
      obtain ⟨d247, e_d247, hm⟩ := bnd hm
      refine En.runB E (Ev.to (ev_fdivW (ev_intI (ev_ixV (r := zI) (v := .int j206.2.1) (d := j206.2.1) (ev_var (i := 0) rfl (show zA K _ _ (.ref p_box) p_box from rfl)) ev_int (E.cvB 0 rfl) rfl rfl)) (ev_var (i := 1) rfl (E.rdB (r := zI) (v := v_many) (d := p_many) 2 rfl)) (grd_ok h_u245)) (Option.some.inj e_d247)) fun v246 H E => ?_
      obtain rfl : v246 = .int d247 := E.at (f := (fR zI v246 d247)) 0 rfl
      refine En.setraw (p := p_box) (vs := [.int j206.2.1, .int d241, .int j206.2.2.2.1, .int j206.2.2.2.2, v174]) (v := .int d247) (j := 0) E rfl 0 rfl ev_int rfl fun H E => ?_
      first | refine nx_ ?_ | skip
      refine ret_open ?_
      refine En.run E (ev_var (i := 4) rfl (E.rd (r := zI) (v := v243) (d := d244) 1 rfl)) fun v248 H E => ?_
      have hr9 := Prod.mk.inj (Option.some.inj hm)
      have hr8 := hr9.1
      have hr7 := hr9.2
      subst res
      subst sres
      have E9 := En.closeBx (En.pick (cs' := [(cV p_box (.lst [.int d247, .int d241, .int j206.2.2.2.1, .int j206.2.2.2.2, v174]))]) E [0] (by decide) rfl) 6 rfl
      exact hQ _ _ (En.fr E9) (En.outc E9 (c := (cBx p_box (d247, d241, j206.2.2.2.1, j206.2.2.2.2, s00.2.2.2.2))) 0 rfl) (En.out E9 (En.at E9 (f := (fR zI v248 d244)) 0 rfl))
    · rw [if_neg (by rw [hc271]; decide)] at hm
      first | refine nx_ ?_ | skip
      obtain ⟨s251, h_s251, hm⟩ := bnd hm
      refine En.forP (K := K) (fun (b252 : Bs) (s249 : Int) (T : AS) (σ9 : L2.St) (H9 : Hp) => ∃ (u261 : Option V), ∃ (u262 : Option V), σ9 = [some (.ref p_box), some v_many, some v207, u261, u262] ∧ En K b252 [(fR zI v_many p_many), (fR zI v207 j206.1), (fR (zL zI) v174 s00.2.2.2.2)] [(cV p_box (.lst [.int j206.2.1, .int j206.2.2.1, .int s249, .int j206.2.2.2.2, v174]))] T H9) E (ei_range (ea_cons ev_int ea_nil) (by decide) (by decide)) h_s251 (fun H E => ⟨_, _, rfl, (En.facts (En.pick E [0] (by decide) rfl) ⟨(E.rd (r := zI) (v := v_many) (d := p_many) 0 rfl), (E.rd (r := zI) (v := v207) (d := j206.1) 1 rfl), (E.rd (r := (zL zI)) (v := v174) (d := s00.2.2.2.2) 2 rfl), trivial⟩)⟩) (by rintro _ _ _ _ _ ⟨u261, u262, rfl, E⟩; exact ⟨En.wd E, En.td E⟩) (fun b252 s249 x253 o250 T _ H1 H v254 D255 hx255 hI255 ex255 hr255 hm hrt255 hn255 => ?_) (fun H2 T _ H E2 hI255 => ?_)
      · obtain ⟨u261, u262, rfl, E⟩ := hI255
        replace E := En.add (f := (fR zI v254 x253)) (En.ex E ex255) hr255
        refine gn ?_
        refine asgt_open ?_
        obtain ⟨u263, h_u263, hm⟩ := bnd hm
        obtain ⟨u264, h_u264, hm⟩ := bnd hm
        obtain ⟨u265, h_u265, hm⟩ := bnd hm
        obtain ⟨d267, e_d267, hm⟩ := bnd hm
        refine En.runB E (Ev.to (ev_mod (ev_intI (ev_add (ev_add (ev_add (ev_add (ev_mulV (ev_ixV (r := zI) (v := .int s249) (d := s249) (ev_var (i := 0) rfl (show zA K _ _ (.ref p_box) p_box from rfl)) ev_int (E.cvB 0 rfl) rfl rfl) (ev_ixV (r := zI) (v := .int s249) (d := s249) (ev_var (i := 0) rfl (show zA K _ _ (.ref p_box) p_box from rfl)) ev_int (E.cvB 0 rfl) rfl rfl) (grd_ok h_u263)) (ev_mulV (ev_var (i := 2) rfl (E.rdB (r := zI) (v := v207) (d := j206.1) 2 rfl)) ev_int (grd_ok h_u264))) (ev_mulV (ev_ixV (r := zI) (v := .int j206.2.2.2.2) (d := j206.2.2.2.2) (ev_var (i := 0) rfl (show zA K _ _ (.ref p_box) p_box from rfl)) ev_int (E.cvB 0 rfl) rfl rfl) ev_int (grd_ok h_u265))) ev_int) (ev_var (i := 3) rfl (E.rdB (r := zI) (v := v254) (d := x253) 0 rfl)))) ev_int (by decide)) (Option.some.inj e_d267)) fun v266 H E => ?_
        obtain rfl : v266 = .int d267 := E.at (f := (fR zI v266 d267)) 0 rfl
        refine En.setraw (p := p_box) (vs := [.int j206.2.1, .int j206.2.2.1, .int s249, .int j206.2.2.2.2, v174]) (v := .int d267) (j := 2) E rfl 0 rfl ev_int rfl fun H E => ?_
        have hj9 := Option.some.inj hm
        subst o250
        exact (hn255 _ _ _ ⟨_, _, rfl, (En.facts (En.pick E [0] (by decide) rfl) ⟨(E.rd (r := zI) (v := v_many) (d := p_many) 2 rfl), (E.rd (r := zI) (v := v207) (d := j206.1) 3 rfl), (E.rd (r := (zL zI)) (v := v174) (d := s00.2.2.2.2) 4 rfl), trivial⟩)⟩).1
      · obtain ⟨u261, u262, rfl, E⟩ := hI255
        replace E := En.back E2 E
        first | refine nx_ ?_ | skip
        refine ret_open ?_
        obtain ⟨u268, h_u268, hm⟩ := bnd hm
        obtain ⟨u269, h_u269, hm⟩ := bnd hm
        refine En.runB E (ev_mod (ev_intI (ev_fdivW (ev_ixV (r := zI) (v := .int s251) (d := s251) (ev_var (i := 0) rfl (show zA K _ _ (.ref p_box) p_box from rfl)) ev_int (E.cvB 0 rfl) rfl rfl) ev_int (grd_ok h_u268))) (ev_var (i := 1) rfl (E.rdB (r := zI) (v := v_many) (d := p_many) 0 rfl)) (grd_ok h_u269)) fun v270 H E => ?_
        have hr9 := Prod.mk.inj (Option.some.inj hm)
        have hr8 := hr9.1
        have hr7 := hr9.2
        subst res
        subst sres
        have E9 := En.closeBx (En.pick (cs' := [(cV p_box (.lst [.int j206.2.1, .int j206.2.2.1, .int s251, .int j206.2.2.2.2, v174]))]) E [0] (by decide) rfl) 3 rfl
        exact hQ _ _ (En.fr E9) (En.outc E9 (c := (cBx p_box (j206.2.1, j206.2.2.1, s251, j206.2.2.2.2, s00.2.2.2.2))) 0 rfl) (En.out E9 (En.at E9 (f := (fR zI v270 ((s251 / (37 : Int)) % p_many))) 0 rfl))
  · have hm := hm9
    refine ifs_open ?_
    refine En.testB E (et_or (et_test (K := K) (ev_lt (ev_ixV (r := zI) (v := .int s00.1) (d := s00.1) (ev_var (i := 0) rfl (show zA K _ _ (.ref p_box) p_box from rfl)) ev_int (E.cvB 0 rfl) rfl rfl) ev_int)) fun hc210 => (et_test (K := K) (ev_lt (ev_ixV (r := zI) (v := .int s00.2.1) (d := s00.2.1) (ev_var (i := 0) rfl (show zA K _ _ (.ref p_box) p_box from rfl)) ev_int (E.cvB 0 rfl) rfl rfl) ev_int))) fun H E => ?_
    refine iteB (fun hc239 => ?_) (fun hc239 => ?_)
    · rw [if_pos hc239] at hm
      refine asgt_open ?_
      refine En.run E ev_int fun v211 H E => ?_
      obtain rfl : v211 = .int (0 : Int) := E.at (f := (fR zI v211 (0 : Int))) 0 rfl
      refine En.setraw (p := p_box) (vs := [.int s00.1, .int s00.2.1, .int s00.2.2.1, .int s00.2.2.2.1, v174]) (v := .int (0 : Int)) (j := 1) E rfl 0 rfl ev_int rfl fun H E => ?_
      first | refine nx_ ?_ | skip
      obtain ⟨j215, hm9, hm8⟩ := bnd hm
      refine seq_open ?_
      refine cut_ (fun σ9 H9 => ∃ (T : AS), ∃ (v216 : V), ∃ (u217 : Option V), ∃ (u218 : Option V), σ9 = [some (.ref p_box), some v_many, some v216, u217, u218] ∧ En K ⟨T00, [p_box], H00⟩ [(fR zI v_many p_many), (fR zI v216 j215), (fR (zL zI) v174 s00.2.2.2.2)] [(cV p_box (.lst [.int s00.1, .int (0 : Int), .int s00.2.2.1, .int s00.2.2.2.1, v174]))] T H9) ?_ fun rest => ?_
      · rintro _ H ⟨T, v216, u217, u218, rfl, E⟩
        have hm := hm8
        first | refine nx_ ?_ | skip
        refine asgt_open ?_
        obtain ⟨d223, e_d223, hm⟩ := bnd hm
        refine En.runB E (Ev.to (ev_add (ev_ixV (r := zI) (v := .int s00.2.2.2.1) (d := s00.2.2.2.1) (ev_var (i := 0) rfl (show zA K _ _ (.ref p_box) p_box from rfl)) ev_int (E.cvB 0 rfl) rfl rfl) ev_int) (Option.some.inj e_d223)) fun v222 H E => ?_
        obtain rfl : v222 = .int d223 := E.at (f := (fR zI v222 d223)) 0 rfl
        refine En.setraw (p := p_box) (vs := [.int s00.1, .int (0 : Int), .int s00.2.2.1, .int s00.2.2.2.1, v174]) (v := .int d223) (j := 3) E rfl 0 rfl ev_int rfl fun H E => ?_
        first | refine nx_ ?_ | skip
        obtain ⟨j230, hm9, hm8⟩ := bnd hm
        refine cut_ (fun σ9 H9 => ∃ (T : AS), ∃ (u231 : Option V), ∃ (u232 : Option V), σ9 = [some (.ref p_box), some v_many, some v216, u231, u232] ∧ En K ⟨T00, [p_box], H00⟩ [(fR zI v_many p_many), (fR zI v216 j215), (fR (zL zI) v174 s00.2.2.2.2)] [(cV p_box (.lst [.int j230.1, .int j230.2.1, .int j230.2.2, .int d223, v174]))] T H9) ?_ fun rest => ?_
        · rintro _ H ⟨T, u231, u232, rfl, E⟩
          have hm := hm8
          have hj9 := Option.some.inj hm
          subst j206
          exact rest _ _ ⟨_, v216, _, _, rfl, (En.facts (En.pick E [0] (by decide) rfl) ⟨(E.rd (r := zI) (v := v_many) (d := p_many) 0 rfl), (E.rd (r := zI) (v := v216) (d := j215) 1 rfl), (E.rd (r := (zL zI)) (v := v174) (d := s00.2.2.2.2) 2 rfl), trivial⟩)⟩
        · have hm := hm9
          refine ifs_open ?_
          refine En.test E (et_test (K := K) (ev_ge (ev_var (i := 2) rfl (E.rd (r := zI) (v := v216) (d := j215) 2 rfl)) ev_int)) fun H E => ?_
          refine iteB (fun hc238 => ?_) (fun hc238 => ?_)
          · rw [if_pos hc238] at hm
            refine asgt_open ?_
            refine En.run E (ev_var (i := 2) rfl (E.rd (r := zI) (v := v216) (d := j215) 2 rfl)) fun v233 H E => ?_
            obtain rfl : v233 = .int j215 := E.at (f := (fR zI v233 j215)) 0 rfl
            refine En.setraw (p := p_box) (vs := [.int s00.1, .int (0 : Int), .int s00.2.2.1, .int d223, v174]) (v := .int j215) (j := 0) E rfl 0 rfl ev_int rfl fun H E => ?_
            first | refine nx_ ?_ | skip
            refine asgt_open ?_
            refine En.run E ev_int fun v234 H E => ?_
            obtain rfl : v234 = .int (60 : Int) := E.at (f := (fR zI v234 (60 : Int))) 0 rfl
            refine En.setraw (p := p_box) (vs := [.int j215, .int (0 : Int), .int s00.2.2.1, .int d223, v174]) (v := .int (60 : Int)) (j := 1) E rfl 0 rfl ev_int rfl fun H E => ?_
            first | refine nx_ ?_ | skip
            refine asgt_open ?_
            obtain ⟨u235, h_u235, hm⟩ := bnd hm
            obtain ⟨d237, e_d237, hm⟩ := bnd hm
            refine En.runB E (Ev.to (ev_mod (ev_intI (ev_add (ev_mulV (ev_ixV (r := zI) (v := .int s00.2.2.1) (d := s00.2.2.1) (ev_var (i := 0) rfl (show zA K _ _ (.ref p_box) p_box from rfl)) ev_int (E.cvB 0 rfl) rfl rfl) (ev_ixV (r := zI) (v := .int s00.2.2.1) (d := s00.2.2.1) (ev_var (i := 0) rfl (show zA K _ _ (.ref p_box) p_box from rfl)) ev_int (E.cvB 0 rfl) rfl rfl) (grd_ok h_u235)) (ev_var (i := 2) rfl (E.rdB (r := zI) (v := v216) (d := j215) 4 rfl)))) ev_int (by decide)) (Option.some.inj e_d237)) fun v236 H E => ?_
            obtain rfl : v236 = .int d237 := E.at (f := (fR zI v236 d237)) 0 rfl
            refine En.setraw (p := p_box) (vs := [.int j215, .int (60 : Int), .int s00.2.2.1, .int d223, v174]) (v := .int d237) (j := 2) E rfl 0 rfl ev_int rfl fun H E => ?_
            have hj9 := Option.some.inj hm
            subst j230
            exact rest _ _ ⟨_, _, _, rfl, (En.facts (En.pick E [0] (by decide) rfl) ⟨(E.rd (r := zI) (v := v_many) (d := p_many) 4 rfl), (E.rd (r := zI) (v := v216) (d := j215) 5 rfl), (E.rd (r := (zL zI)) (v := v174) (d := s00.2.2.2.2) 6 rfl), trivial⟩)⟩
          · rw [if_neg (by rw [hc238]; decide)] at hm
            have hj9 := Option.some.inj hm
            subst j230
            exact rest _ _ ⟨_, _, _, rfl, (En.facts (En.pick E [0] (by decide) rfl) ⟨(E.rd (r := zI) (v := v_many) (d := p_many) 1 rfl), (E.rd (r := zI) (v := v216) (d := j215) 2 rfl), (E.rd (r := (zL zI)) (v := v174) (d := s00.2.2.2.2) 3 rfl), trivial⟩)⟩
      · have hm := hm9
        refine ifs_open ?_
        refine En.testB E (et_test (K := K) (ev_lt (ev_ixV (r := zI) (v := .int s00.2.2.2.1) (d := s00.2.2.2.1) (ev_var (i := 0) rfl (show zA K _ _ (.ref p_box) p_box from rfl)) ev_int (E.cvB 0 rfl) rfl rfl) (ev_min2 (ev_lenL (ev_ixV (r := (zL zI)) (v := v174) (d := s00.2.2.2.2) (ev_var (i := 0) rfl (show zA K _ _ (.ref p_box) p_box from rfl)) ev_int (E.cvB 0 rfl) rfl (E.rdB (r := (zL zI)) (v := v174) (d := s00.2.2.2.2) 2 rfl))) ev_int))) fun H E => ?_
        refine iteB (fun hc221 => ?_) (fun hc221 => ?_)
        · rw [if_pos hc221] at hm
          refine asg_open ?_
          obtain ⟨x219, h_x219, hm⟩ := bnd hm
          refine En.runB E (ev_ixL (ev_ixV (r := (zL zI)) (v := v174) (d := s00.2.2.2.2) (ev_var (i := 0) rfl (show zA K _ _ (.ref p_box) p_box from rfl)) ev_int (E.cvB 0 rfl) rfl (E.rdB (r := (zL zI)) (v := v174) (d := s00.2.2.2.2) 2 rfl)) (ev_ixV (r := zI) (v := .int s00.2.2.2.1) (d := s00.2.2.2.1) (ev_var (i := 0) rfl (show zA K _ _ (.ref p_box) p_box from rfl)) ev_int (E.cvB 0 rfl) rfl rfl) h_x219) fun v220 H E => ?_
          have hj9 := Option.some.inj hm
          subst j215
          exact rest _ _ ⟨_, v220, _, _, rfl, (En.facts (En.pick E [0] (by decide) rfl) ⟨(E.rd (r := zI) (v := v_many) (d := p_many) 4 rfl), (E.rd (r := zI) (v := v220) (d := x219) 0 rfl), (E.rd (r := (zL zI)) (v := v174) (d := s00.2.2.2.2) 3 rfl), trivial⟩)⟩
        · rw [if_neg (by rw [hc221]; decide)] at hm
          have hj9 := Option.some.inj hm
          subst j215
          exact rest _ _ ⟨_, v175, _, _, rfl, (En.facts (En.pick E [0] (by decide) rfl) ⟨(E.rd (r := zI) (v := v_many) (d := p_many) 3 rfl), (E.rd (r := zI) (v := v175) (d := (0 : Int)) 1 rfl), (E.rd (r := (zL zI)) (v := v174) (d := s00.2.2.2.2) 2 rfl), trivial⟩)⟩
    · rw [if_neg (by rw [hc239]; decide)] at hm
      have hj9 := Option.some.inj hm
      subst j206
      exact rest _ _ ⟨_, v175, _, _, rfl, (En.facts (En.pick E [0] (by decide) rfl) ⟨(E.rd (r := zI) (v := v_many) (d := p_many) 2 rfl), (E.rd (r := zI) (v := v175) (d := (0 : Int)) 0 rfl), (E.rd (r := (zL zI)) (v := v174) (d := s00.2.2.2.2) 1 rfl), trivial⟩)⟩

def m__law_same : Nat → PyData → PyData → Option Bool
  | 0, _, _ => none
  | n9 + 1, p_due, p_told =>
    (if (dNone p_due) = true then
    some (dNone p_told)
    else
    (if (isD "bool" p_due) = true then
    ((if (isD "bool" p_told) = true then ((grd (SeqAt.shaped p_told = true)).bind fun (u273 : Unit) =>
    ((grd (SeqAt.shaped p_due = true)).bind fun (u274 : Unit) =>
    some (PyData.eqv p_told p_due))) else some false).bind fun (b276 : Bool) =>
    some b276)
    else
    (if (isD "int" p_due) = true then
    ((if (isD "int" p_told) = true then ((if (!(isD "bool" p_told)) = true then ((grd (SeqAt.shaped p_told = true)).bind fun (u279 : Unit) =>
    ((grd (SeqAt.shaped p_due = true)).bind fun (u280 : Unit) =>
    some (PyData.eqv p_told p_due))) else some false).bind fun (b282 : Bool) =>
    some b282) else some false).bind fun (b285 : Bool) =>
    some b285)
    else
    (if (isD "str" p_due) = true then
    ((if (isD "str" p_told) = true then ((dStr p_told).bind fun (x288 : Str) =>
    ((grd (SeqAt.shaped (PyData.str x288) = true)).bind fun (u289 : Unit) =>
    ((grd (SeqAt.shaped p_due = true)).bind fun (u290 : Unit) =>
    some (PyData.eqv (PyData.str x288) p_due)))) else some false).bind fun (b292 : Bool) =>
    some b292)
    else
    (if ((isD "tuple" p_due) && (!(isD "tuple" p_told))) = true then
    some false
    else
    (if ((isD "list" p_due) && (!(isD "list" p_told))) = true then
    some false
    else
    ((dLen p_told).bind fun (x299 : Int) =>
    ((dLen p_due).bind fun (x300 : Int) =>
    ((if (decide (x299 = x300)) = true then ((dLen p_due).bind fun (x301 : Int) =>
    ((grd (x301 ≤ 1000000 ∧ -1000000 ≤ x301)).bind fun (u302 : Unit) =>
    ((mapO (fun (x303 : Int) =>
    ((dIx p_due x303).bind fun (x308 : PyData) =>
    ((dIx p_told x303).bind fun (x309 : PyData) =>
    ((m__law_same n9 x308 x309).bind fun (r310 : Bool) =>
    some r310)))) (rng 0 (x301).toNat)).bind fun (x311 : (List Bool)) =>
    some ((x311).all id)))) else some false).bind fun (b313 : Bool) =>
    some b313)))))))))
abbrev sp__law_same (n : Nat) (K : PySem.W.Frag) : Sp := FSp K (aC zD (aC zD aN)) zB (fun (a : PyData × PyData × Unit) => m__law_same n a.1 a.2.1)
theorem okn__law_same (S : Tx K mg)  : ∀ n, Ok P w K mg base (1 + n) ("_law_same", none) ["due", "told"] (sp__law_same n K) := by
  obtain ⟨fd, D⟩ := d__law_same S
  intro n
  induction n with
  | zero =>
    refine mk_ok (k := 0) D sc__law_same (D.bindsN fun _ _ _ _ _ _ us hl => match us, hl with | [_, _], _ => rfl) (FSp_len len2) (fun cdv A outer s H00 vs Q E hr h => ?_)
    obtain ⟨T00, ⟨p_due, p_told, _⟩, res, hT, ⟨v_due, _, rfl, r_due, v_told, _, rfl, r_told, rfl⟩, hm, hQ⟩ := h
    cases hm
  | succ n9 ih =>
    refine mk_ok (k := 1 + n9) D sc__law_same (D.bindsN fun _ _ _ _ _ _ us hl => match us, hl with | [_, _], _ => rfl) (FSp_len len2) (fun cdv A outer s H00 vs Q E hr h => ?_)
    obtain ⟨T00, ⟨p_due, p_told, _⟩, res, hT, ⟨v_due, _, rfl, r_due, v_told, _, rfl, r_told, rfl⟩, hm, hQ⟩ := h
    refine ⟨_, (pss_cons (ps_if (pt_cmpR op_isN (pv 0) pe_non (nomark _)) (pss_one (ps_ret (pe_cmpR op_isN (pv 1) pe_non (nomark _)))) pss_nil) (pss_cons (ps_if (pt_val (pe_callB (kc_isi (K := K)) (by rfl) (m_isinstance S) bt_isinstance (pa_cons (pv 0) (pa_cons (pe_cls (by rfl) (m_bool S) bt_bool) pa_nil)))) (pss_one (ps_ret (pe_and (pe_callB (kc_isi (K := K)) (by rfl) (m_isinstance S) bt_isinstance (pa_cons (pv 1) (pa_cons (pe_cls (by rfl) (m_bool S) bt_bool) pa_nil))) (pe_one (pe_cmpR (op_eqDQ (room_64 hr)) (pv 1) (pv 0) (nomark _)))))) pss_nil) (pss_cons (ps_if (pt_val (pe_callB (kc_isi (K := K)) (by rfl) (m_isinstance S) bt_isinstance (pa_cons (pv 0) (pa_cons (pe_cls (by rfl) (m_int S) bt_int) pa_nil)))) (pss_one (ps_ret (pe_and (pe_callB (kc_isi (K := K)) (by rfl) (m_isinstance S) bt_isinstance (pa_cons (pv 1) (pa_cons (pe_cls (by rfl) (m_int S) bt_int) pa_nil))) (pe_and (pe_not (pe_callB (kc_isi (K := K)) (by rfl) (m_isinstance S) bt_isinstance (pa_cons (pv 1) (pa_cons (pe_cls (by rfl) (m_bool S) bt_bool) pa_nil)))) (pe_one (pe_cmpR (op_eqDQ (room_64 hr)) (pv 1) (pv 0) (nomark _))))))) pss_nil) (pss_cons (ps_if (pt_val (pe_callB (kc_isi (K := K)) (by rfl) (m_isinstance S) bt_isinstance (pa_cons (pv 0) (pa_cons (pe_cls (by rfl) (m_str S) bt_str) pa_nil)))) (pss_one (ps_ret (pe_and (pe_callB (kc_isi (K := K)) (by rfl) (m_isinstance S) bt_isinstance (pa_cons (pv 1) (pa_cons (pe_cls (by rfl) (m_str S) bt_str) pa_nil))) (pe_one (pe_cmpR (op_eqDQ (room_64 hr)) (pv 1) (pv 0) (nomark _)))))) pss_nil) (pss_cons (ps_if (PW.pt (pw_and (pt_val (pe_callB (kc_isi (K := K)) (by rfl) (m_isinstance S) bt_isinstance (pa_cons (pv 0) (pa_cons (pe_cls (by rfl) (m_tuple S) bt_tuple) pa_nil)))) (pw_and1 (pt_not (pt_val (pe_callB (kc_isi (K := K)) (by rfl) (m_isinstance S) bt_isinstance (pa_cons (pv 1) (pa_cons (pe_cls (by rfl) (m_tuple S) bt_tuple) pa_nil)))))))) (pss_one (ps_ret pe_bl)) pss_nil) (pss_cons (ps_if (PW.pt (pw_and (pt_val (pe_callB (kc_isi (K := K)) (by rfl) (m_isinstance S) bt_isinstance (pa_cons (pv 0) (pa_cons (pe_cls (by rfl) (m_list S) bt_list) pa_nil)))) (pw_and1 (pt_not (pt_val (pe_callB (kc_isi (K := K)) (by rfl) (m_isinstance S) bt_isinstance (pa_cons (pv 1) (pa_cons (pe_cls (by rfl) (m_list S) bt_list) pa_nil)))))))) (pss_one (ps_ret pe_bl)) pss_nil) (pss_one (ps_ret (pe_and (pe_cmpR op_eq (pe_callB (kc_lenD (K := K)) (by rfl) (m_len S) bt_len (pa_cons (pv 1) pa_nil)) (pe_callB (kc_lenD (K := K)) (by rfl) (m_len S) bt_len (pa_cons (pv 0) pa_nil)) (nomark _)) (pe_one (pe_callB (kr_all (K := K) rfl) (by rfl) (m_all S) bt_all (pa_cons (pe_lc (own := [("k", 2)]) (by rfl) sc__law_same.nd (pi_range1 (by rfl) (m_range S) (pa_cons (pe_callB (kc_lenD (K := K)) (by rfl) (m_len S) bt_len (pa_cons (pv 0) pa_nil)) pa_nil)) (blkOk_by (N := ["due", "told", "k"]) (sc := defScope s__law_same) (by decide +kernel)) (fun _ _ _ _ _ => pg_name (i := 2) sc__law_same.nd rfl (.inl rfl)) (fun _ _ _ _ _ => pts_nil) (fun _ _ _ _ _ => (pe_callG ih hr (by omega) (by rfl) (g__law_same S) (pa_cons (pe_ix (kx_seq (K := K)) (pv 0) (pv 2) (fun _ _ => rfl)) (pa_cons (pe_ix (kx_seq (K := K)) (pv 1) (pv 2) (fun _ _ => rfl)) pa_nil))))) pa_nil)))))))))))), ?_⟩
    have E : En K ⟨T00, [], H00⟩ [(fR zD v_due p_due), (fR zD v_told p_told)] [] T00 H00 := En.start hT ⟨r_due, r_told, trivial⟩
    replace hm : m__law_same (n9 + 1) p_due p_told = some res := hm
    unfold m__law_same at hm
    refine ifs_open ?_
    refine En.test E (et_test (K := K) (ev_isND (ev_var (i := 0) rfl (E.rd (r := zD) (v := v_due) (d := p_due) 0 rfl)))) fun H E => ?_
    refine iteB (fun hc321 => ?_) (fun hc321 => ?_)
    · rw [if_pos hc321] at hm
      refine ret_open ?_
      refine En.run E (ev_isND (ev_var (i := 1) rfl (E.rd (r := zD) (v := v_told) (d := p_told) 1 rfl))) fun v272 H E => ?_
      have hr9 := Option.some.inj hm
      subst res
      exact hQ _ _ (En.isEx E) (En.out E (En.at E (f := (fR zB v272 (dNone p_told))) 0 rfl))
    · rw [if_neg (by rw [hc321]; decide)] at hm
      first | refine nx_ ?_ | skip
      refine ifs_open ?_
      refine En.test E (et_B (K := K) (ev_isiD (n := "bool") (ev_var (i := 0) rfl (E.rd (r := zD) (v := v_due) (d := p_due) 0 rfl)))) fun H E => ?_
      refine iteB (fun hc320 => ?_) (fun hc320 => ?_)
      · rw [if_pos hc320] at hm
        refine ret_open ?_
        obtain ⟨b276, h_b276, hm⟩ := bnd hm
        refine En.run E (ev_andO (ev_isiD (n := "bool") (ev_var (i := 1) rfl (E.rd (r := zD) (v := v_told) (d := p_told) 1 rfl))) (fun hc275 y277 hy277 => by
          obtain ⟨u273, h_u273, hy277⟩ := bnd hy277; obtain ⟨u274, h_u274, hy277⟩ := bnd hy277; cases hy277; exact (ev_eqDD (ev_var (i := 1) rfl (E.rd (r := zD) (v := v_told) (d := p_told) 1 rfl)) (ev_var (i := 0) rfl (E.rd (r := zD) (v := v_due) (d := p_due) 0 rfl)) (grd_ok h_u273) (grd_ok h_u274))) h_b276) fun v278 H E => ?_
        have hr9 := Option.some.inj hm
        subst res
        exact hQ _ _ (En.isEx E) (En.out E (En.at E (f := (fR zB v278 b276)) 0 rfl))
      · rw [if_neg (by rw [hc320]; decide)] at hm
        first | refine nx_ ?_ | skip
        refine ifs_open ?_
        refine En.test E (et_B (K := K) (ev_isiD (n := "int") (ev_var (i := 0) rfl (E.rd (r := zD) (v := v_due) (d := p_due) 0 rfl)))) fun H E => ?_
        refine iteB (fun hc319 => ?_) (fun hc319 => ?_)
        · rw [if_pos hc319] at hm
          refine ret_open ?_
          obtain ⟨b285, h_b285, hm⟩ := bnd hm
          refine En.run E (ev_andO (ev_isiD (n := "int") (ev_var (i := 1) rfl (E.rd (r := zD) (v := v_told) (d := p_told) 1 rfl))) (fun hc284 y286 hy286 => by
          obtain ⟨b282, h_b282, hy286⟩ := bnd hy286; cases hy286; exact (ev_andO (ev_notV (ev_isiD (n := "bool") (ev_var (i := 1) rfl (E.rd (r := zD) (v := v_told) (d := p_told) 1 rfl)))) (fun hc281 y283 hy283 => by
          obtain ⟨u279, h_u279, hy283⟩ := bnd hy283; obtain ⟨u280, h_u280, hy283⟩ := bnd hy283; cases hy283; exact (ev_eqDD (ev_var (i := 1) rfl (E.rd (r := zD) (v := v_told) (d := p_told) 1 rfl)) (ev_var (i := 0) rfl (E.rd (r := zD) (v := v_due) (d := p_due) 0 rfl)) (grd_ok h_u279) (grd_ok h_u280))) h_b282)) h_b285) fun v287 H E => ?_
          have hr9 := Option.some.inj hm
          subst res
          exact hQ _ _ (En.isEx E) (En.out E (En.at E (f := (fR zB v287 b285)) 0 rfl))
        · rw [if_neg (by rw [hc319]; decide)] at hm
          first | refine nx_ ?_ | skip
          refine ifs_open ?_
          refine En.test E (et_B (K := K) (ev_isiD (n := "str") (ev_var (i := 0) rfl (E.rd (r := zD) (v := v_due) (d := p_due) 0 rfl)))) fun H E => ?_
          refine iteB (fun hc318 => ?_) (fun hc318 => ?_)
          · rw [if_pos hc318] at hm
            refine ret_open ?_
            obtain ⟨b292, h_b292, hm⟩ := bnd hm
            refine En.run E (ev_andO (ev_isiD (n := "str") (ev_var (i := 1) rfl (E.rd (r := zD) (v := v_told) (d := p_told) 1 rfl))) (fun hc291 y293 hy293 => by
          obtain ⟨x288, h_x288, hy293⟩ := bnd hy293; obtain ⟨u289, h_u289, hy293⟩ := bnd hy293; obtain ⟨u290, h_u290, hy293⟩ := bnd hy293; cases hy293; exact (ev_eqDD (ev_toD (ev_dS (ev_var (i := 1) rfl (E.rd (r := zD) (v := v_told) (d := p_told) 1 rfl)) h_x288)) (ev_var (i := 0) rfl (E.rd (r := zD) (v := v_due) (d := p_due) 0 rfl)) (grd_ok h_u289) (grd_ok h_u290))) h_b292) fun v294 H E => ?_
            have hr9 := Option.some.inj hm
            subst res
            exact hQ _ _ (En.isEx E) (En.out E (En.at E (f := (fR zB v294 b292)) 0 rfl))
          · rw [if_neg (by rw [hc318]; decide)] at hm
            first | refine nx_ ?_ | skip
            refine ifs_open ?_
            refine En.test E (et_and (et_B (K := K) (ev_isiD (n := "tuple") (ev_var (i := 0) rfl (E.rd (r := zD) (v := v_due) (d := p_due) 0 rfl)))) fun hc295 => (et_not (et_B (K := K) (ev_isiD (n := "tuple") (ev_var (i := 1) rfl (E.rd (r := zD) (v := v_told) (d := p_told) 1 rfl)))))) fun H E => ?_
            refine iteB (fun hc317 => ?_) (fun hc317 => ?_)
            · rw [if_pos hc317] at hm
              refine ret_open ?_
              refine En.run E ev_bl fun v296 H E => ?_
              have hr9 := Option.some.inj hm
              subst res
              exact hQ _ _ (En.isEx E) (En.out E (En.at E (f := (fR zB v296 false)) 0 rfl))
            · rw [if_neg (by rw [hc317]; decide)] at hm
              first | refine nx_ ?_ | skip
              refine ifs_open ?_
              refine En.test E (et_and (et_B (K := K) (ev_isiD (n := "list") (ev_var (i := 0) rfl (E.rd (r := zD) (v := v_due) (d := p_due) 0 rfl)))) fun hc297 => (et_not (et_B (K := K) (ev_isiD (n := "list") (ev_var (i := 1) rfl (E.rd (r := zD) (v := v_told) (d := p_told) 1 rfl)))))) fun H E => ?_
              refine iteB (fun hc316 => ?_) (fun hc316 => ?_)
              · rw [if_pos hc316] at hm
                refine ret_open ?_
                refine En.run E ev_bl fun v298 H E => ?_
                have hr9 := Option.some.inj hm
                subst res
                exact hQ _ _ (En.isEx E) (En.out E (En.at E (f := (fR zB v298 false)) 0 rfl))
              · rw [if_neg (by rw [hc316]; decide)] at hm
                first | refine nx_ ?_ | skip
                refine ret_open ?_
                obtain ⟨x299, h_x299, hm⟩ := bnd hm
                obtain ⟨x300, h_x300, hm⟩ := bnd hm
                obtain ⟨b313, h_b313, hm⟩ := bnd hm
                refine En.run E (ev_andO (ev_eqI (ev_lenD (ev_var (i := 1) rfl (E.rd (r := zD) (v := v_told) (d := p_told) 1 rfl)) h_x299) (ev_lenD (ev_var (i := 0) rfl (E.rd (r := zD) (v := v_due) (d := p_due) 0 rfl)) h_x300)) (fun hc312 y314 hy314 => by
          obtain ⟨x301, h_x301, hy314⟩ := bnd hy314; obtain ⟨u302, h_u302, hy314⟩ := bnd hy314; obtain ⟨x311, h_x311, hy314⟩ := bnd hy314; cases hy314; exact (ev_all (ev_lcO1 E.td (ei_range (ea_cons (ev_lenD (ev_var (i := 0) rfl (E.rd (r := zD) (v := v_due) (d := p_due) 0 rfl)) h_x301) ea_nil) (grd_ok h_u302).1 (grd_ok h_u302).2) h_x311 (fun T303 H303 v303 x303 L303 hT303 hx303 r303 Q303 q303 => q303 _ wipe1 (fun y303 hy303 => by
          obtain ⟨x308, h_x308, hy303⟩ := bnd hy303; obtain ⟨x309, h_x309, hy303⟩ := bnd hy303; obtain ⟨r310, h_r310, hy303⟩ := bnd hy303; cases hy303; exact (ev_callO hT303 (ea_cons (ev_ixD (ev_var (i := 0) rfl (L303.ap (E.rd (r := zD) (v := v_due) (d := p_due) 0 rfl))) (ev_var (i := 2) rfl r303) h_x308) (ea_cons (ev_ixD (ev_var (i := 1) rfl (L303.ap (E.rd (r := zD) (v := v_told) (d := p_told) 1 rfl))) (ev_var (i := 2) rfl r303) h_x309) ea_nil)) h_r310)))))) h_b313) fun v315 H E => ?_
                have hr9 := Option.some.inj hm
                subst res
                exact hQ _ _ (En.isEx E) (En.out E (En.at E (f := (fR zB v315 b313)) 0 rfl))
theorem ok__law_same (S : Tx K mg)  : Ok P w K mg base 7 ("_law_same", none) ["due", "told"] ((sp__law_same 6) K) := okn__law_same S  6

def m__law_told (p_what : Int) (p_first : PyData) (p_second : PyData) (p_third : PyData) : Option PyData :=
(if (decide (p_what = (0 : Int))) = true then
catE (m_row_of_schedule p_first p_second) (fun (d323 : Str) =>
some (PyData.tuple ([(PyData.str ("told" : Str)), (PyData.str d323)]))) (fun (k324 : Str × Str) (y325 : PyData) =>
(if k324 = (("InvalidNumber" : Str), ("number" : Str)) then
(if ((!true) || (!true)) = true then
some (PyData.tuple ([(PyData.str ("mixed" : Str)), PyData.none]))
else
some (PyData.tuple ([(PyData.str ("number" : Str)), y325])))
else
(if k324 = (("InvalidRows" : Str), ("rows" : Str)) then
(if (false || (!true)) = true then
some (PyData.tuple ([(PyData.str ("mixed" : Str)), PyData.none]))
else
some (PyData.tuple ([(PyData.str ("rows" : Str)), y325])))
else
(if k324 = (("InvalidLot" : Str), ("lot" : Str)) then
(if (false || ((!true) || (!true))) = true then
some (PyData.tuple ([(PyData.str ("mixed" : Str)), PyData.none]))
else
some (PyData.tuple ([(PyData.str ("lot" : Str)), y325])))
else
none))))
else
catE (m_schedule_count p_first p_second p_third) (fun (d347 : Int) =>
some (PyData.tuple ([(PyData.str ("told" : Str)), (PyData.int d347)]))) (fun (k348 : Str × Str) (y349 : PyData) =>
(if k348 = (("InvalidNumber" : Str), ("number" : Str)) then
(if ((!true) || (!true)) = true then
some (PyData.tuple ([(PyData.str ("mixed" : Str)), PyData.none]))
else
some (PyData.tuple ([(PyData.str ("number" : Str)), y349])))
else
(if k348 = (("InvalidRows" : Str), ("rows" : Str)) then
(if (false || (!true)) = true then
some (PyData.tuple ([(PyData.str ("mixed" : Str)), PyData.none]))
else
some (PyData.tuple ([(PyData.str ("rows" : Str)), y349])))
else
(if k348 = (("InvalidLot" : Str), ("lot" : Str)) then
(if (false || ((!true) || (!true))) = true then
some (PyData.tuple ([(PyData.str ("mixed" : Str)), PyData.none]))
else
some (PyData.tuple ([(PyData.str ("lot" : Str)), y349])))
else
none)))))
abbrev sp__law_told (K : PySem.W.Frag) : Sp := FSp K (aC zI (aC zD (aC zD (aC zD aN)))) zD (fun (a : Int × PyData × PyData × PyData × Unit) => m__law_told a.1 a.2.1 a.2.2.1 a.2.2.2.1)
theorem ok__law_told (S : Tx K mg) (G_row_of_schedule : OkX P w K mg base 4 ("row_of_schedule", none) ["rows", "schedule"] (sp_row_of_schedule K)) (G_schedule_count : OkX P w K mg base 4 ("schedule_count", none) ["programs", "length", "switches"] (sp_schedule_count K)) : Ok P w K mg base 5 ("_law_told", none) ["what", "first", "second", "third"] (sp__law_told K) := by
  obtain ⟨fd, D⟩ := d__law_told S
  refine mk_ok D sc__law_told (D.bindsN fun _ _ _ _ _ _ us hl => match us, hl with | [_, _, _, _], _ => rfl) (FSp_len len4) (fun cdv A outer s H00 vs Q E hr h => ?_)
  obtain ⟨T00, ⟨p_what, p_first, p_second, p_third, _⟩, res, hT, ⟨v_what, _, rfl, r_what, v_first, _, rfl, r_first, v_second, _, rfl, r_second, v_third, _, rfl, r_third, rfl⟩, hm, hQ⟩ := h
  refine ⟨_, (pss_one (ps_try_manyAs rfl rfl sc__law_told.nd takesNo (fun W322 pn322 xe322 tk322 hp322 => (pss_cons (ps_if (pt_cmpR op_eq (pv 0) pe_int (nomark _)) (pss_one (ps_ret (pe_tup (pa_cons pe_str (pa_cons (px_call G_row_of_schedule (fun σ => passAt tk322 σ) hr (by omega) (by rfl) (g_row_of_schedule S) (pa_cons (pv 1) (pa_cons (pv 2) pa_nil))) pa_nil))))) pss_nil) (pss_one (ps_ret (pe_tup (pa_cons pe_str (pa_cons (px_call G_schedule_count (fun σ => passAt tk322 σ) hr (by omega) (by rfl) (g_schedule_count S) (pa_cons (pv 1) (pa_cons (pv 2) (pa_cons (pv 3) pa_nil)))) pa_nil))))))) (.cons (i := 4) rfl rfl ⟨rfl, by decide, .inl (g_InvalidRows S)⟩ (fun a9 oe9 cls9 d9 pn9 hz9 hf9 => (pss_cons (ps_if (PW.pt (pw_or (pt_val (pe_callB (kx_isXT (K := K) hz9 hf9) (by rfl) (m_isinstance S) bt_isinstance (pa_cons (pv 4) (pa_cons (pe_tup (pa_cons (pe_glob (v := .ref (He.ga K "InvalidLot")) (by rfl) (g_InvalidLot S) rfl) (pa_cons (pe_glob (v := .ref (He.ga K "InvalidNumber")) (by rfl) (g_InvalidNumber S) rfl) pa_nil))) pa_nil)))) (pw_or1 (pt_not (pt_val (pe_callB (kx_isX (K := K) hz9 hf9) (by rfl) (m_isinstance S) bt_isinstance (pa_cons (pv 4) (pa_cons (pe_glob (v := .ref (He.ga K "BudgetError")) (by rfl) (g_BudgetError S) rfl) pa_nil)))))))) (pss_one (ps_ret (pe_tup (pa_cons pe_str (pa_cons pe_non pa_nil))))) pss_nil) (pss_one (ps_ret (pe_tup (pa_cons pe_str (pa_cons (kx_xf (K := K) (er_InvalidRows S).xf (er_InvalidRows S).nof hz9 hf9 (pv 4)) pa_nil))))))) (.cons (i := 4) rfl rfl ⟨rfl, by decide, .inl (g_InvalidLot S)⟩ (fun a9 oe9 cls9 d9 pn9 hz9 hf9 => (pss_cons (ps_if (PW.pt (pw_or (pt_val (pe_callB (kx_isX (K := K) hz9 hf9) (by rfl) (m_isinstance S) bt_isinstance (pa_cons (pv 4) (pa_cons (pe_glob (v := .ref (He.ga K "InvalidNumber")) (by rfl) (g_InvalidNumber S) rfl) pa_nil)))) (pw_or (pt_not (pt_val (pe_callB (kx_isX (K := K) hz9 hf9) (by rfl) (m_isinstance S) bt_isinstance (pa_cons (pv 4) (pa_cons (pe_glob (v := .ref (He.ga K "BudgetError")) (by rfl) (g_BudgetError S) rfl) pa_nil))))) (pw_or1 (pt_not (pt_val (pe_callB (kx_isX (K := K) hz9 hf9) (by rfl) (m_isinstance S) bt_isinstance (pa_cons (pv 4) (pa_cons (pe_cls (by rfl) (m_ValueError S) bt_ValueError) pa_nil))))))))) (pss_one (ps_ret (pe_tup (pa_cons pe_str (pa_cons pe_non pa_nil))))) pss_nil) (pss_one (ps_ret (pe_tup (pa_cons pe_str (pa_cons (kx_xf (K := K) (er_InvalidLot S).xf (er_InvalidLot S).nof hz9 hf9 (pv 4)) pa_nil))))))) (.cons (i := 4) rfl rfl ⟨rfl, by decide, .inl (g_InvalidNumber S)⟩ (fun a9 oe9 cls9 d9 pn9 hz9 hf9 => (pss_cons (ps_if (PW.pt (pw_or (pt_not (pt_val (pe_callB (kx_isX (K := K) hz9 hf9) (by rfl) (m_isinstance S) bt_isinstance (pa_cons (pv 4) (pa_cons (pe_glob (v := .ref (He.ga K "BudgetError")) (by rfl) (g_BudgetError S) rfl) pa_nil))))) (pw_or1 (pt_not (pt_val (pe_callB (kx_isX (K := K) hz9 hf9) (by rfl) (m_isinstance S) bt_isinstance (pa_cons (pv 4) (pa_cons (pe_cls (by rfl) (m_ValueError S) bt_ValueError) pa_nil)))))))) (pss_one (ps_ret (pe_tup (pa_cons pe_str (pa_cons pe_non pa_nil))))) pss_nil) (pss_one (ps_ret (pe_tup (pa_cons pe_str (pa_cons (kx_xf (K := K) (er_InvalidNumber S).xf (er_InvalidNumber S).nof hz9 hf9 (pv 4)) pa_nil))))))) .nil))))), ?_⟩
  have E : En K ⟨T00, [], H00⟩ [(fR zI v_what p_what), (fR zD v_first p_first), (fR zD v_second p_second), (fR zD v_third p_third)] [] T00 H00 := En.start hT ⟨r_what, r_first, r_second, r_third, trivial⟩
  replace hm : m__law_told p_what p_first p_second p_third = some res := hm
  unfold m__law_told at hm
  refine ifs_open ?_
  refine En.test E (et_test (K := K) (ev_eqI (ev_var (i := 0) rfl (E.rd (r := zI) (v := v_what) (d := p_what) 0 rfl)) ev_int)) fun H E => ?_
  refine iteB (fun hc371 => ?_) (fun hc371 => ?_)
  · rw [if_pos hc371] at hm
    rcases catE_or hm with ⟨d323, h_d323, hm⟩ | ⟨k324, y325, h_d323, hm⟩
    · refine ret_open ?_
      refine En.run E (ev_toDU (ev_tupU (r := zD) (xs := [(PyData.str ("told" : Str)), (PyData.str d323)]) E.td (eh_cons (ev_toD ev_str) (eh_cons (ev_toD (ev_callX E.td (ea_cons (ev_var (i := 1) rfl (E.rd (r := zD) (v := v_first) (d := p_first) 1 rfl)) (ea_cons (ev_var (i := 2) rfl (E.rd (r := zD) (v := v_second) (d := p_second) 2 rfl)) ea_nil)) h_d323)) eh_nil)) (Nat.le_of_ble_eq_true rfl))) fun v326 H E => ?_
      have hr9 := Option.some.inj hm
      subst res
      exact hQ _ _ (En.isEx E) (En.out E (En.at E (f := (fR zD v326 (PyData.tuple ([(PyData.str ("told" : Str)), (PyData.str d323)])))) 0 rfl))
    · refine st_retE (ee_tup (ee_a1 ev_str (ee_a0 (ee_callX E.td (ea_cons (ev_var (i := 1) rfl (E.rd (r := zD) (v := v_first) (d := p_first) 1 rfl)) (ea_cons (ev_var (i := 2) rfl (E.rd (r := zD) (v := v_second) (d := p_second) 2 rfl)) ea_nil)) h_d323)))) (En.err (e := ⟨k324, y325⟩) E fun p327 H E => ?_)
      by_cases hk346 : k324 = (("InvalidNumber" : Str), ("number" : Str))
      · rw [if_pos hk346] at hm
        subst hk346
        refine wm_no (of_decide_eq_true (x_3 S)) ?_
        refine wm_no (of_decide_eq_true (x_4 S)) ?_
        refine wm_yes (of_decide_eq_true (x_5 S)) fun a328 haa328 => ?_
        refine ifs_open ?_
        refine En.test E (et_or (et_not (et_B (K := K) (ev_isX (i := 4) (er_InvalidNumber S).is (x_6 S) rfl (E.rd (r := (zX "number")) (v := (.ref p327)) (d := y325) 0 rfl)))) fun hc329 => (et_not (et_B (K := K) (ev_isXT (i := 4) (er_InvalidNumber S).is (x_7 S) rfl (E.rd (r := (zX "number")) (v := (.ref p327)) (d := y325) 0 rfl))))) fun H E => ?_
        refine iteB (fun hc332 => ?_) (fun hc332 => ?_)
        · rw [if_pos hc332] at hm
          refine ret_open ?_
          refine En.run E (ev_toDU (ev_tupU (r := zD) (xs := [(PyData.str ("mixed" : Str)), PyData.none]) E.td (eh_cons (ev_toD ev_str) (eh_cons (ev_toD ev_non) eh_nil)) (Nat.le_of_ble_eq_true rfl))) fun v330 H E => ?_
          have hr9 := Option.some.inj hm
          subst res
          exact hQ _ _ (En.isEx E) (En.out E (En.at E (f := (fR zD v330 (PyData.tuple ([(PyData.str ("mixed" : Str)), PyData.none])))) 0 rfl))
        · rw [if_neg (by rw [hc332]; decide)] at hm
          first | refine nx_ ?_ | skip
          refine ret_open ?_
          refine En.run E (ev_toDU (ev_tupU (r := zD) (xs := [(PyData.str ("number" : Str)), y325]) E.td (eh_cons (ev_toD ev_str) (eh_cons (ev_xf (i := 4) rfl (E.rd (r := (zX "number")) (v := (.ref p327)) (d := y325) 0 rfl)) eh_nil)) (Nat.le_of_ble_eq_true rfl))) fun v331 H E => ?_
          have hr9 := Option.some.inj hm
          subst res
          exact hQ _ _ (En.isEx E) (En.out E (En.at E (f := (fR zD v331 (PyData.tuple ([(PyData.str ("number" : Str)), y325])))) 0 rfl))
      · rw [if_neg hk346] at hm
        by_cases hk345 : k324 = (("InvalidRows" : Str), ("rows" : Str))
        · rw [if_pos hk345] at hm
          subst hk345
          refine wm_yes (of_decide_eq_true (x_8 S)) fun a333 haa333 => ?_
          refine ifs_open ?_
          refine En.test E (et_or (et_B (K := K) (ev_isXs (i := 4) (ys := ["InvalidLot", "InvalidNumber"]) (er_InvalidRows S).is (kany2 (x_9 S)) (by decide) rfl (E.rd (r := (zX "rows")) (v := (.ref p327)) (d := y325) 0 rfl))) fun hc334 => (et_not (et_B (K := K) (ev_isX (i := 4) (er_InvalidRows S).is (x_10 S) rfl (E.rd (r := (zX "rows")) (v := (.ref p327)) (d := y325) 0 rfl))))) fun H E => ?_
          refine iteB (fun hc337 => ?_) (fun hc337 => ?_)
          · rw [if_pos hc337] at hm
            refine ret_open ?_
            refine En.run E (ev_toDU (ev_tupU (r := zD) (xs := [(PyData.str ("mixed" : Str)), PyData.none]) E.td (eh_cons (ev_toD ev_str) (eh_cons (ev_toD ev_non) eh_nil)) (Nat.le_of_ble_eq_true rfl))) fun v335 H E => ?_
            have hr9 := Option.some.inj hm
            subst res
            exact hQ _ _ (En.isEx E) (En.out E (En.at E (f := (fR zD v335 (PyData.tuple ([(PyData.str ("mixed" : Str)), PyData.none])))) 0 rfl))
          · rw [if_neg (by rw [hc337]; decide)] at hm
            first | refine nx_ ?_ | skip
            refine ret_open ?_
            refine En.run E (ev_toDU (ev_tupU (r := zD) (xs := [(PyData.str ("rows" : Str)), y325]) E.td (eh_cons (ev_toD ev_str) (eh_cons (ev_xf (i := 4) rfl (E.rd (r := (zX "rows")) (v := (.ref p327)) (d := y325) 0 rfl)) eh_nil)) (Nat.le_of_ble_eq_true rfl))) fun v336 H E => ?_
            have hr9 := Option.some.inj hm
            subst res
            exact hQ _ _ (En.isEx E) (En.out E (En.at E (f := (fR zD v336 (PyData.tuple ([(PyData.str ("rows" : Str)), y325])))) 0 rfl))
        · rw [if_neg hk345] at hm
          by_cases hk344 : k324 = (("InvalidLot" : Str), ("lot" : Str))
          · rw [if_pos hk344] at hm
            subst hk344
            refine wm_no (of_decide_eq_true (x_11 S)) ?_
            refine wm_yes (of_decide_eq_true (x_12 S)) fun a338 haa338 => ?_
            refine ifs_open ?_
            refine En.test E (et_or (et_B (K := K) (ev_isX (i := 4) (er_InvalidLot S).is (x_13 S) rfl (E.rd (r := (zX "lot")) (v := (.ref p327)) (d := y325) 0 rfl))) fun hc340 => (et_or (et_not (et_B (K := K) (ev_isX (i := 4) (er_InvalidLot S).is (x_14 S) rfl (E.rd (r := (zX "lot")) (v := (.ref p327)) (d := y325) 0 rfl)))) fun hc339 => (et_not (et_B (K := K) (ev_isXT (i := 4) (er_InvalidLot S).is (x_15 S) rfl (E.rd (r := (zX "lot")) (v := (.ref p327)) (d := y325) 0 rfl)))))) fun H E => ?_
            refine iteB (fun hc343 => ?_) (fun hc343 => ?_)
            · rw [if_pos hc343] at hm
              refine ret_open ?_
              refine En.run E (ev_toDU (ev_tupU (r := zD) (xs := [(PyData.str ("mixed" : Str)), PyData.none]) E.td (eh_cons (ev_toD ev_str) (eh_cons (ev_toD ev_non) eh_nil)) (Nat.le_of_ble_eq_true rfl))) fun v341 H E => ?_
              have hr9 := Option.some.inj hm
              subst res
              exact hQ _ _ (En.isEx E) (En.out E (En.at E (f := (fR zD v341 (PyData.tuple ([(PyData.str ("mixed" : Str)), PyData.none])))) 0 rfl))
            · rw [if_neg (by rw [hc343]; decide)] at hm
              first | refine nx_ ?_ | skip
              refine ret_open ?_
              refine En.run E (ev_toDU (ev_tupU (r := zD) (xs := [(PyData.str ("lot" : Str)), y325]) E.td (eh_cons (ev_toD ev_str) (eh_cons (ev_xf (i := 4) rfl (E.rd (r := (zX "lot")) (v := (.ref p327)) (d := y325) 0 rfl)) eh_nil)) (Nat.le_of_ble_eq_true rfl))) fun v342 H E => ?_
              have hr9 := Option.some.inj hm
              subst res
              exact hQ _ _ (En.isEx E) (En.out E (En.at E (f := (fR zD v342 (PyData.tuple ([(PyData.str ("lot" : Str)), y325])))) 0 rfl))
          · rw [if_neg hk344] at hm
            cases hm
  · rw [if_neg (by rw [hc371]; decide)] at hm
    first | refine nx_ ?_ | skip
    rcases catE_or hm with ⟨d347, h_d347, hm⟩ | ⟨k348, y349, h_d347, hm⟩
    · refine ret_open ?_
      refine En.run E (ev_toDU (ev_tupU (r := zD) (xs := [(PyData.str ("told" : Str)), (PyData.int d347)]) E.td (eh_cons (ev_toD ev_str) (eh_cons (ev_toD (ev_callX E.td (ea_cons (ev_var (i := 1) rfl (E.rd (r := zD) (v := v_first) (d := p_first) 1 rfl)) (ea_cons (ev_var (i := 2) rfl (E.rd (r := zD) (v := v_second) (d := p_second) 2 rfl)) (ea_cons (ev_var (i := 3) rfl (E.rd (r := zD) (v := v_third) (d := p_third) 3 rfl)) ea_nil))) h_d347)) eh_nil)) (Nat.le_of_ble_eq_true rfl))) fun v350 H E => ?_
      have hr9 := Option.some.inj hm
      subst res
      exact hQ _ _ (En.isEx E) (En.out E (En.at E (f := (fR zD v350 (PyData.tuple ([(PyData.str ("told" : Str)), (PyData.int d347)])))) 0 rfl))
    · refine st_retE (ee_tup (ee_a1 ev_str (ee_a0 (ee_callX E.td (ea_cons (ev_var (i := 1) rfl (E.rd (r := zD) (v := v_first) (d := p_first) 1 rfl)) (ea_cons (ev_var (i := 2) rfl (E.rd (r := zD) (v := v_second) (d := p_second) 2 rfl)) (ea_cons (ev_var (i := 3) rfl (E.rd (r := zD) (v := v_third) (d := p_third) 3 rfl)) ea_nil))) h_d347)))) (En.err (e := ⟨k348, y349⟩) E fun p351 H E => ?_)
      by_cases hk370 : k348 = (("InvalidNumber" : Str), ("number" : Str))
      · rw [if_pos hk370] at hm
        subst hk370
        refine wm_no (of_decide_eq_true (x_3 S)) ?_
        refine wm_no (of_decide_eq_true (x_4 S)) ?_
        refine wm_yes (of_decide_eq_true (x_5 S)) fun a352 haa352 => ?_
        refine ifs_open ?_
        refine En.test E (et_or (et_not (et_B (K := K) (ev_isX (i := 4) (er_InvalidNumber S).is (x_6 S) rfl (E.rd (r := (zX "number")) (v := (.ref p351)) (d := y349) 0 rfl)))) fun hc353 => (et_not (et_B (K := K) (ev_isXT (i := 4) (er_InvalidNumber S).is (x_7 S) rfl (E.rd (r := (zX "number")) (v := (.ref p351)) (d := y349) 0 rfl))))) fun H E => ?_
        refine iteB (fun hc356 => ?_) (fun hc356 => ?_)
        · rw [if_pos hc356] at hm
          refine ret_open ?_
          refine En.run E (ev_toDU (ev_tupU (r := zD) (xs := [(PyData.str ("mixed" : Str)), PyData.none]) E.td (eh_cons (ev_toD ev_str) (eh_cons (ev_toD ev_non) eh_nil)) (Nat.le_of_ble_eq_true rfl))) fun v354 H E => ?_
          have hr9 := Option.some.inj hm
          subst res
          exact hQ _ _ (En.isEx E) (En.out E (En.at E (f := (fR zD v354 (PyData.tuple ([(PyData.str ("mixed" : Str)), PyData.none])))) 0 rfl))
        · rw [if_neg (by rw [hc356]; decide)] at hm
          first | refine nx_ ?_ | skip
          refine ret_open ?_
          refine En.run E (ev_toDU (ev_tupU (r := zD) (xs := [(PyData.str ("number" : Str)), y349]) E.td (eh_cons (ev_toD ev_str) (eh_cons (ev_xf (i := 4) rfl (E.rd (r := (zX "number")) (v := (.ref p351)) (d := y349) 0 rfl)) eh_nil)) (Nat.le_of_ble_eq_true rfl))) fun v355 H E => ?_
          have hr9 := Option.some.inj hm
          subst res
          exact hQ _ _ (En.isEx E) (En.out E (En.at E (f := (fR zD v355 (PyData.tuple ([(PyData.str ("number" : Str)), y349])))) 0 rfl))
      · rw [if_neg hk370] at hm
        by_cases hk369 : k348 = (("InvalidRows" : Str), ("rows" : Str))
        · rw [if_pos hk369] at hm
          subst hk369
          refine wm_yes (of_decide_eq_true (x_8 S)) fun a357 haa357 => ?_
          refine ifs_open ?_
          refine En.test E (et_or (et_B (K := K) (ev_isXs (i := 4) (ys := ["InvalidLot", "InvalidNumber"]) (er_InvalidRows S).is (kany2 (x_9 S)) (by decide) rfl (E.rd (r := (zX "rows")) (v := (.ref p351)) (d := y349) 0 rfl))) fun hc358 => (et_not (et_B (K := K) (ev_isX (i := 4) (er_InvalidRows S).is (x_10 S) rfl (E.rd (r := (zX "rows")) (v := (.ref p351)) (d := y349) 0 rfl))))) fun H E => ?_
          refine iteB (fun hc361 => ?_) (fun hc361 => ?_)
          · rw [if_pos hc361] at hm
            refine ret_open ?_
            refine En.run E (ev_toDU (ev_tupU (r := zD) (xs := [(PyData.str ("mixed" : Str)), PyData.none]) E.td (eh_cons (ev_toD ev_str) (eh_cons (ev_toD ev_non) eh_nil)) (Nat.le_of_ble_eq_true rfl))) fun v359 H E => ?_
            have hr9 := Option.some.inj hm
            subst res
            exact hQ _ _ (En.isEx E) (En.out E (En.at E (f := (fR zD v359 (PyData.tuple ([(PyData.str ("mixed" : Str)), PyData.none])))) 0 rfl))
          · rw [if_neg (by rw [hc361]; decide)] at hm
            first | refine nx_ ?_ | skip
            refine ret_open ?_
            refine En.run E (ev_toDU (ev_tupU (r := zD) (xs := [(PyData.str ("rows" : Str)), y349]) E.td (eh_cons (ev_toD ev_str) (eh_cons (ev_xf (i := 4) rfl (E.rd (r := (zX "rows")) (v := (.ref p351)) (d := y349) 0 rfl)) eh_nil)) (Nat.le_of_ble_eq_true rfl))) fun v360 H E => ?_
            have hr9 := Option.some.inj hm
            subst res
            exact hQ _ _ (En.isEx E) (En.out E (En.at E (f := (fR zD v360 (PyData.tuple ([(PyData.str ("rows" : Str)), y349])))) 0 rfl))
        · rw [if_neg hk369] at hm
          by_cases hk368 : k348 = (("InvalidLot" : Str), ("lot" : Str))
          · rw [if_pos hk368] at hm
            subst hk368
            refine wm_no (of_decide_eq_true (x_11 S)) ?_
            refine wm_yes (of_decide_eq_true (x_12 S)) fun a362 haa362 => ?_
            refine ifs_open ?_
            refine En.test E (et_or (et_B (K := K) (ev_isX (i := 4) (er_InvalidLot S).is (x_13 S) rfl (E.rd (r := (zX "lot")) (v := (.ref p351)) (d := y349) 0 rfl))) fun hc364 => (et_or (et_not (et_B (K := K) (ev_isX (i := 4) (er_InvalidLot S).is (x_14 S) rfl (E.rd (r := (zX "lot")) (v := (.ref p351)) (d := y349) 0 rfl)))) fun hc363 => (et_not (et_B (K := K) (ev_isXT (i := 4) (er_InvalidLot S).is (x_15 S) rfl (E.rd (r := (zX "lot")) (v := (.ref p351)) (d := y349) 0 rfl)))))) fun H E => ?_
            refine iteB (fun hc367 => ?_) (fun hc367 => ?_)
            · rw [if_pos hc367] at hm
              refine ret_open ?_
              refine En.run E (ev_toDU (ev_tupU (r := zD) (xs := [(PyData.str ("mixed" : Str)), PyData.none]) E.td (eh_cons (ev_toD ev_str) (eh_cons (ev_toD ev_non) eh_nil)) (Nat.le_of_ble_eq_true rfl))) fun v365 H E => ?_
              have hr9 := Option.some.inj hm
              subst res
              exact hQ _ _ (En.isEx E) (En.out E (En.at E (f := (fR zD v365 (PyData.tuple ([(PyData.str ("mixed" : Str)), PyData.none])))) 0 rfl))
            · rw [if_neg (by rw [hc367]; decide)] at hm
              first | refine nx_ ?_ | skip
              refine ret_open ?_
              refine En.run E (ev_toDU (ev_tupU (r := zD) (xs := [(PyData.str ("lot" : Str)), y349]) E.td (eh_cons (ev_toD ev_str) (eh_cons (ev_xf (i := 4) rfl (E.rd (r := (zX "lot")) (v := (.ref p351)) (d := y349) 0 rfl)) eh_nil)) (Nat.le_of_ble_eq_true rfl))) fun v366 H E => ?_
              have hr9 := Option.some.inj hm
              subst res
              exact hQ _ _ (En.isEx E) (En.out E (En.at E (f := (fR zD v366 (PyData.tuple ([(PyData.str ("lot" : Str)), y349])))) 0 rfl))
          · rw [if_neg hk368] at hm
            cases hm

end
end EB

set_option Elab.async false
set_option linter.all false
set_option maxRecDepth 100000
set_option maxHeartbeats 4000000

namespace EB
open PySem PySem.Spec PyProof.Rows L2

section
variable {P : Program} {w : World} {K : PySem.W.Frag} {mg : Str → Option Value} {base : Heap}

def m__law_word (p_number : Int) (p_length : Int) : Option (List Bool) :=
((some ([] : List Bool)).bind fun (d373 : (List Bool)) =>
((grd (p_length ≤ 1000000 ∧ -1000000 ≤ p_length)).bind fun (u374 : Unit) =>
((forP (fun (s375 : Int × (List Bool)) (x379 : Int) =>
((strB (s375.1 % (2 : Int))).bind fun (x393 : (List Bool)) =>
((grd (s375.2.length + x393.length ≤ 100000)).bind fun (u394 : Unit) =>
((some (s375.2 ++ x393)).bind fun (d396 : (List Bool)) =>
((grd (CDivW s375.1 (2 : Int))).bind fun (u397 : Unit) =>
((some (s375.1 / (2 : Int))).bind fun (d399 : Int) =>
some (d399, d396))))))) (p_number, d373) (rng 0 (p_length).toNat)).bind fun (s377 : Int × (List Bool)) =>
some s377.2)))
abbrev sp__law_word (K : PySem.W.Frag) : Sp := FSp K (aC zI (aC zI aN)) zW (fun (a : Int × Int × Unit) => m__law_word a.1 a.2.1)
theorem ok__law_word (S : Tx K mg)  : Ok P w K mg base 1 ("_law_word", none) ["number", "length"] (sp__law_word K) := by
  obtain ⟨fd, D⟩ := d__law_word S
  refine mk_ok D sc__law_word (D.bindsN fun _ _ _ _ _ _ us hl => match us, hl with | [_, _], _ => rfl) (FSp_len len2) (fun cdv A outer s H00 vs Q E hr h => ?_)
  obtain ⟨T00, ⟨p_number, p_length, _⟩, res, hT, ⟨v_number, _, rfl, r_number, v_length, _, rfl, r_length, rfl⟩, hm, hQ⟩ := h
  refine ⟨_, (pss_cons (ps_set (i := 2) sc__law_word.nd rfl (.inl rfl) pe_str) (pss_cons (ps_for PassesOwn.never rfl (pi_range1 (by rfl) (m_range S) (pa_cons (pv 1) pa_nil)) (pg_name (i := 3) sc__law_word.nd rfl (.inl rfl)) (pss_cons (ps_set (i := 2) sc__law_word.nd rfl (.inl rfl) (pe_op op_addS (pv 2) (pe_callTy call_strI (by rfl) (m_str S) bt_str (pa_cons (pe_op op_mod (pe_callTy call_int1Q (by rfl) (m_int S) bt_int (pa_cons (pv 0) pa_nil)) pe_int) pa_nil)))) (pss_one (ps_set (i := 0) sc__law_word.nd rfl (.inl rfl) (pe_op op_fdivW (pe_callTy call_int1Q (by rfl) (m_int S) bt_int (pa_cons (pv 0) pa_nil)) pe_int))))) (pss_one (ps_ret (pv 2))))), ?_⟩
  have E : En K ⟨T00, [], H00⟩ [(fR zI v_number p_number), (fR zI v_length p_length)] [] T00 H00 := En.start hT ⟨r_number, r_length, trivial⟩
  replace hm : m__law_word p_number p_length = some res := hm
  unfold m__law_word at hm
  refine asg_open ?_
  obtain ⟨d373, e_d373, hm⟩ := bnd hm
  refine En.run E (Ev.to (ev_word [] (by decide) (by decide)) (Option.some.inj e_d373)) fun v372 H E => ?_
  first | refine nx_ ?_ | skip
  obtain ⟨u374, h_u374, hm⟩ := bnd hm
  obtain ⟨s377, h_s377, hm⟩ := bnd hm
  refine En.forP (K := K) (fun (b378 : Bs) (s375 : Int × (List Bool)) (T : AS) (σ9 : L2.St) (H9 : Hp) => ∃ (v389 : V), ∃ (u390 : Option V), ∃ (v391 : V), ∃ (u392 : Option V), σ9 = [some v389, u390, some v391, u392] ∧ En K b378 [(fR zI v389 s375.1), (fR zW v391 s375.2)] [] T H9) E (ei_range (ea_cons (ev_var (i := 1) rfl (E.rd (r := zI) (v := v_length) (d := p_length) 2 rfl)) ea_nil) (grd_ok h_u374).1 (grd_ok h_u374).2) h_s377 (fun H E => ⟨v_number, _, v372, _, rfl, (En.facts (En.pick E [] (by decide) rfl) ⟨(E.rd (r := zI) (v := v_number) (d := p_number) 1 rfl), (E.rd (r := zW) (v := v372) (d := d373) 0 rfl), trivial⟩)⟩) (by rintro _ _ _ _ _ ⟨v389, u390, v391, u392, rfl, E⟩; exact ⟨En.wd E, En.td E⟩) (fun b378 s375 x379 o376 T _ H1 H v380 D381 hx381 hI381 ex381 hr381 hm hrt381 hn381 => ?_) (fun H2 T _ H E2 hI381 => ?_)
  · obtain ⟨v389, u390, v391, u392, rfl, E⟩ := hI381
    replace E := En.add (f := (fR zI v380 x379)) (En.ex E ex381) hr381
    refine gn ?_
    refine asg_open ?_
    obtain ⟨x393, h_x393, hm⟩ := bnd hm
    obtain ⟨u394, h_u394, hm⟩ := bnd hm
    obtain ⟨d396, e_d396, hm⟩ := bnd hm
    refine En.run E (Ev.to (ev_catW (ev_var (i := 2) rfl (E.rd (r := zW) (v := v391) (d := s375.2) 2 rfl)) (ev_strB (ev_mod (ev_intI (ev_var (i := 0) rfl (E.rd (r := zI) (v := v389) (d := s375.1) 1 rfl))) ev_int (by decide)) h_x393) (grd_ok h_u394)) (Option.some.inj e_d396)) fun v395 H E => ?_
    first | refine nx_ ?_ | skip
    refine asg_open ?_
    obtain ⟨u397, h_u397, hm⟩ := bnd hm
    obtain ⟨d399, e_d399, hm⟩ := bnd hm
    refine En.run E (Ev.to (ev_fdivW (ev_intI (ev_var (i := 0) rfl (E.rd (r := zI) (v := v389) (d := s375.1) 2 rfl))) ev_int (grd_ok h_u397)) (Option.some.inj e_d399)) fun v398 H E => ?_
    have hj9 := Option.some.inj hm
    subst o376
    exact (hn381 _ _ _ ⟨v398, _, v395, _, rfl, (En.facts (En.pick E [] (by decide) rfl) ⟨(E.rd (r := zI) (v := v398) (d := d399) 0 rfl), (E.rd (r := zW) (v := v395) (d := d396) 1 rfl), trivial⟩)⟩).1
  · obtain ⟨v389, u390, v391, u392, rfl, E⟩ := hI381
    replace E := En.back E2 E
    first | refine nx_ ?_ | skip
    refine ret_open ?_
    refine En.run E (ev_var (i := 2) rfl (E.rd (r := zW) (v := v391) (d := s377.2) 1 rfl)) fun v400 H E => ?_
    have hr9 := Option.some.inj hm
    subst res
    exact hQ _ _ (En.isEx E) (En.out E (En.at E (f := (fR zW v400 s377.2)) 0 rfl))

def m__law_rows (p_programs : Int) (p_length : Int) (s00 : Bx) : Option ((List (List Bool)) × Bx) :=
((some ([])).bind fun (d401 : List (List Bool)) =>
((grd (p_programs ≤ 1000000 ∧ -1000000 ≤ p_programs)).bind fun (u403 : Unit) =>
((forP (fun (s404 : (List (List Bool)) × Bx) (x408 : Int) =>
(((if (decide ((0 : Int) < x408)) = true then
((m__law_draw (4 : Int) s404.2).bind fun (q491 : Int × Bx) =>
((some (decide (q491.1 = (0 : Int)))).bind fun (d495 : Bool) =>
(if d495 = true then
((m__law_draw x408 q491.2).bind fun (q496 : Int × Bx) =>
((atI s404.1 q496.1).bind fun (x498 : (List Bool)) =>
((grd (s404.1.length < 1000000)).bind fun (_ : Unit) =>
((some (s404.1 ++ [x498])).bind fun (d500 : List (List Bool)) =>
some (d500, q496.2)))))
else
((m__law_draw (256 : Int) q491.2).bind fun (q501 : Int × Bx) =>
((m__law_word q501.1 p_length).bind fun (q504 : (List Bool)) =>
((grd (s404.1.length < 1000000)).bind fun (_ : Unit) =>
((some (s404.1 ++ [q504])).bind fun (d506 : List (List Bool)) =>
some (d506, q501.2))))))))
else
((m__law_draw (256 : Int) s404.2).bind fun (q508 : Int × Bx) =>
((m__law_word q508.1 p_length).bind fun (q511 : (List Bool)) =>
((grd (s404.1.length < 1000000)).bind fun (_ : Unit) =>
((some (s404.1 ++ [q511])).bind fun (d513 : List (List Bool)) =>
some (d513, q508.2))))))).bind fun (j488 : (List (List Bool)) × Bx) =>
some (j488.1, j488.2))) (d401, s00) (rng 0 (p_programs).toNat)).bind fun (s406 : (List (List Bool)) × Bx) =>
some (s406.1, s406.2))))
abbrev sp__law_rows (K : PySem.W.Frag) : Sp := GSp K (aC zA (aC zI (aC zI aN))) (fun (a : Addr × Int × Int × Unit) (s : Bx) => cBx a.1 s) (zL zW) (fun (a : Addr × Int × Int × Unit) (s : Bx) => m__law_rows a.2.1 a.2.2.1 s)
theorem ok__law_rows (S : Tx K mg) (G__law_draw : Ok P w K mg base 1 ("_law_draw", none) ["box", "many"] (sp__law_draw K)) (G__law_word : Ok P w K mg base 1 ("_law_word", none) ["number", "length"] (sp__law_word K)) : Ok P w K mg base 2 ("_law_rows", none) ["box", "programs", "length"] (sp__law_rows K) := by
  obtain ⟨fd, D⟩ := d__law_rows S
  refine mk_ok D sc__law_rows (D.bindsN fun _ _ _ _ _ _ us hl => match us, hl with | [_, _, _], _ => rfl) (GSp_len len3) (fun cdv A outer s H00 vs Q E hr h => ?_)
  obtain ⟨T00, ⟨p_box, p_programs, p_length, _⟩, s00, res, sres, hT, ⟨v_box, _, rfl, r_box, v_programs, _, rfl, r_programs, v_length, _, rfl, r_length, rfl⟩, hc, hTc, hnd, hm, hQ⟩ := h
  obtain rfl : v_box = .ref p_box := r_box
  refine ⟨_, (pss_cons (ps_set (i := 3) sc__law_rows.nd rfl (.inl rfl) (pe_lst pa_nil)) (pss_cons (ps_for PassesOwn.never rfl (pi_range1 (by rfl) (m_range S) (pa_cons (pv 1) pa_nil)) (pg_name (i := 4) sc__law_rows.nd rfl (.inl rfl)) (pss_one (ps_if (PW.pt (pw_and (pt_cmpR op_gt (pv 4) pe_int (nomark _)) (pw_and1 (pt_cmpR op_eq (pe_callG G__law_draw hr (by omega) (by rfl) (g__law_draw S) (pa_cons (pv 0) (pa_cons pe_int pa_nil))) pe_int (nomark _))))) (pss_one (ps_expr (pe_bm PySem.F.plainAttrs_list PySem.F.slot_list_append PySem.F.type_list_append mt_append (pv 3) (pa_cons (pe_ix (kx_list (K := K)) (pv 3) (pe_callG G__law_draw hr (by omega) (by rfl) (g__law_draw S) (pa_cons (pv 0) (pa_cons (pv 4) pa_nil))) (fun _ _ => rfl)) pa_nil)))) (pss_one (ps_expr (pe_bm PySem.F.plainAttrs_list PySem.F.slot_list_append PySem.F.type_list_append mt_append (pv 3) (pa_cons (pe_callG G__law_word hr (by omega) (by rfl) (g__law_word S) (pa_cons (pe_callG G__law_draw hr (by omega) (by rfl) (g__law_draw S) (pa_cons (pv 0) (pa_cons pe_int pa_nil))) (pa_cons (pv 2) pa_nil))) pa_nil))))))) (pss_one (ps_ret (pv 3))))), ?_⟩
  have E : En K ⟨T00, [p_box], H00⟩ [(fR zI v_programs p_programs), (fR zI v_length p_length)] [(cBx p_box s00)] T00 H00 := En.start1 (c := (cBx p_box s00)) hT ⟨r_programs, r_length, trivial⟩ hc hTc hnd
  replace hm : m__law_rows p_programs p_length s00 = some (res, sres) := hm
  unfold m__law_rows at hm
  refine asg_open ?_
  obtain ⟨d401, e_d401, hm⟩ := bnd hm
  refine En.newL (r := zW) E (EvF.to (ef_lst (xs := []) eh_nil (by decide)) (Option.some.inj e_d401)) fun p402 H E => ?_
  first | refine nx_ ?_ | skip
  obtain ⟨u403, h_u403, hm⟩ := bnd hm
  obtain ⟨s406, h_s406, hm⟩ := bnd hm
  refine En.forP (K := K) (fun (b407 : Bs) (s404 : (List (List Bool)) × Bx) (T : AS) (σ9 : L2.St) (H9 : Hp) => ∃ (u462 : Option V), ∃ (u463 : Option V), σ9 = [some (.ref p_box), u462, some v_length, some (.ref p402), u463] ∧ En K b407 [(fR zI v_length p_length)] [(cL zW p402 s404.1), (cBx p_box s404.2)] T H9) E (ei_range (ea_cons (ev_var (i := 1) rfl (E.rd (r := zI) (v := v_programs) (d := p_programs) 1 rfl)) ea_nil) (grd_ok h_u403).1 (grd_ok h_u403).2) h_s406 (fun H E => ⟨_, _, rfl, (En.facts (En.pick E [0, 1] (by decide) rfl) ⟨(E.rd (r := zI) (v := v_length) (d := p_length) 2 rfl), trivial⟩)⟩) (by rintro _ _ _ _ _ ⟨u462, u463, rfl, E⟩; exact ⟨En.wd E, En.td E⟩) (fun b407 s404 x408 o405 T _ H1 H v409 D410 hx410 hI410 ex410 hr410 hm hrt410 hn410 => ?_) (fun H2 T _ H E2 hI410 => ?_)
  · obtain ⟨u462, u463, rfl, E⟩ := hI410
    replace E := En.add (f := (fR zI v409 x408)) (En.ex E ex410) hr410
    refine gn ?_
    obtain ⟨j488, hm9, hm8⟩ := bnd hm
    refine cut_ (fun σ9 H9 => ∃ (T : AS), ∃ (u489 : Option V), ∃ (u490 : Option V), σ9 = [some (.ref p_box), u489, some v_length, some (.ref p402), u490] ∧ En K b407 [(fR zI v_length p_length)] [(cL zW p402 j488.1), (cBx p_box j488.2)] T H9) ?_ fun rest => ?_
    · rintro _ H ⟨T, u489, u490, rfl, E⟩
      have hm := hm8
      have hj9 := Option.some.inj hm
      subst o405
      exact (hn410 _ _ _ ⟨_, _, rfl, (En.facts (En.pick E [0, 1] (by decide) rfl) ⟨(E.rd (r := zI) (v := v_length) (d := p_length) 0 rfl), trivial⟩)⟩).1
    · have hm := hm9
      refine ifs_open ?_
      refine and_open ?_
      refine En.test2 E (et_test (K := K) (ev_gt (ev_var (i := 4) rfl (E.rd (r := zI) (v := v409) (d := x408) 0 rfl)) ev_int)) (fun hc514 H E => ?_) (fun hc514 H E => ?_)
      · rw [if_pos hc514] at hm
        refine iteT ?_
        refine test_open ?_
        refine op_open ?_
        obtain ⟨q491, h_q491, hm⟩ := bnd hm
        refine En.gcall E (ea_cons (ev_var (i := 0) rfl (show zA K _ _ (.ref p_box) p_box from rfl)) (ea_cons ev_int ea_nil)) 1 rfl h_q491 rfl fun v492 H E => ?_
        refine En.run E ev_int fun v493 H E => ?_
        refine of_op ?_
        obtain ⟨d495, e_d495, hm⟩ := bnd hm
        refine En.run E (Ev.to (ev_eqI (ev_var (i := 0) rfl (E.rd (r := zI) (v := v492) (d := q491.1) 1 rfl)) (ev_var (i := 1) rfl (E.rd (r := zI) (v := v493) (d := (0 : Int)) 0 rfl))) (Option.some.inj e_d495)) fun v494 H E => ?_
        refine tb2 (E.rd (r := zB) (v := v494) (d := d495) 0 rfl) (fun hc507 => ?_) (fun hc507 => ?_)
        · rw [if_pos hc507] at hm
          refine iteT ?_
          refine drop_open ?_
          refine En.bm (p := p402) (r := zW) (xs := s404.1) E rfl 0 rfl ?_
          refine cons_open ?_
          refine op_open ?_
          refine ⟨.ref p402, rfl, ?_⟩
          obtain ⟨q496, h_q496, hm⟩ := bnd hm
          refine En.gcall E (ea_cons (ev_var (i := 0) rfl (show zA K _ _ (.ref p_box) p_box from rfl)) (ea_cons (ev_var (i := 4) rfl (E.rd (r := zI) (v := v409) (d := x408) 3 rfl)) ea_nil)) 1 rfl h_q496 rfl fun v497 H E => ?_
          refine of_op ?_
          obtain ⟨x498, h_x498, hm⟩ := bnd hm
          refine En.runB E (ev_ixL (ev_var (i := 0) rfl (E.clB (r := zW) (p := p402) (xs := s404.1) 0 rfl)) (ev_var (i := 1) rfl (E.rdB (r := zI) (v := v497) (d := q496.1) 0 rfl)) h_x498) fun v499 H E => ?_
          refine nil_open ?_
          obtain ⟨_, hgd500, hm⟩ := bnd hm
          obtain ⟨d500, e_d500, hm⟩ := bnd hm
          refine En.append (r := zW) (p := p402) (xs := s404.1) E 0 rfl (E.rd (r := zW) (v := v499) (d := x498) 0 rfl) (grd_ok hgd500) fun H E => ?_
          rw [Option.some.inj e_d500] at E
          have hj9 := Option.some.inj hm
          subst j488
          exact rest _ _ ⟨_, _, _, rfl, (En.facts (En.pick E [0, 1] (by decide) rfl) ⟨(E.rd (r := zI) (v := v_length) (d := p_length) 6 rfl), trivial⟩)⟩
        · rw [if_neg (by rw [hc507]; decide)] at hm
          refine iteF ?_
          refine drop_open ?_
          refine En.bm (p := p402) (r := zW) (xs := s404.1) E rfl 0 rfl ?_
          refine cons_open ?_
          refine call_open ?_
          refine cons_open ?_
          obtain ⟨q501, h_q501, hm⟩ := bnd hm
          refine En.gcall E (ea_cons (ev_var (i := 0) rfl (show zA K _ _ (.ref p_box) p_box from rfl)) (ea_cons ev_int ea_nil)) 1 rfl h_q501 rfl fun v502 H E => ?_
          refine cons_open ?_
          refine En.run E (ev_var (i := 2) rfl (E.rd (r := zI) (v := v_length) (d := p_length) 5 rfl)) fun v503 H E => ?_
          refine nil_open ?_
          obtain ⟨q504, h_q504, hm⟩ := bnd hm
          refine En.callF (a := (q501.1, p_length, ())) E ⟨v502, _, rfl, (E.rd (r := zI) (v := v502) (d := q501.1) 1 rfl), v503, _, rfl, (E.rd (r := zI) (v := v503) (d := p_length) 0 rfl), rfl⟩ h_q504 fun v505 H E => ?_
          refine nil_open ?_
          obtain ⟨_, hgd506, hm⟩ := bnd hm
          obtain ⟨d506, e_d506, hm⟩ := bnd hm
          refine En.append (r := zW) (p := p402) (xs := s404.1) E 0 rfl (E.rd (r := zW) (v := v505) (d := q504) 0 rfl) (grd_ok hgd506) fun H E => ?_
          rw [Option.some.inj e_d506] at E
          have hj9 := Option.some.inj hm
          subst j488
          exact rest _ _ ⟨_, _, _, rfl, (En.facts (En.pick E [0, 1] (by decide) rfl) ⟨(E.rd (r := zI) (v := v_length) (d := p_length) 7 rfl), trivial⟩)⟩
      · rw [if_neg (by rw [hc514]; decide)] at hm
        refine iteF ?_
        refine iteF ?_
        refine drop_open ?_
        refine En.bm (p := p402) (r := zW) (xs := s404.1) E rfl 0 rfl ?_
        refine cons_open ?_
        refine call_open ?_
        refine cons_open ?_
        obtain ⟨q508, h_q508, hm⟩ := bnd hm
        refine En.gcall E (ea_cons (ev_var (i := 0) rfl (show zA K _ _ (.ref p_box) p_box from rfl)) (ea_cons ev_int ea_nil)) 1 rfl h_q508 rfl fun v509 H E => ?_
        refine cons_open ?_
        refine En.run E (ev_var (i := 2) rfl (E.rd (r := zI) (v := v_length) (d := p_length) 2 rfl)) fun v510 H E => ?_
        refine nil_open ?_
        obtain ⟨q511, h_q511, hm⟩ := bnd hm
        refine En.callF (a := (q508.1, p_length, ())) E ⟨v509, _, rfl, (E.rd (r := zI) (v := v509) (d := q508.1) 1 rfl), v510, _, rfl, (E.rd (r := zI) (v := v510) (d := p_length) 0 rfl), rfl⟩ h_q511 fun v512 H E => ?_
        refine nil_open ?_
        obtain ⟨_, hgd513, hm⟩ := bnd hm
        obtain ⟨d513, e_d513, hm⟩ := bnd hm
        refine En.append (r := zW) (p := p402) (xs := s404.1) E 0 rfl (E.rd (r := zW) (v := v512) (d := q511) 0 rfl) (grd_ok hgd513) fun H E => ?_
        rw [Option.some.inj e_d513] at E
        have hj9 := Option.some.inj hm
        subst j488
        exact rest _ _ ⟨_, _, _, rfl, (En.facts (En.pick E [0, 1] (by decide) rfl) ⟨(E.rd (r := zI) (v := v_length) (d := p_length) 4 rfl), trivial⟩)⟩
  · obtain ⟨u462, u463, rfl, E⟩ := hI410
    replace E := En.back E2 E
    first | refine nx_ ?_ | skip
    replace E := En.freeze (r := zW) (p := p402) (xs := s406.1) (cs := [(cBx p_box s406.2)]) E (by simp [owns])
    refine ret_open ?_
    refine En.run E (ev_var (i := 3) rfl (E.rd (r := (zL zW)) (v := (.ref p402)) (d := s406.1) 0 rfl)) fun v9 H E => ?_
    have hr9 := Prod.mk.inj (Option.some.inj hm)
    have hr8 := hr9.1
    have hr7 := hr9.2
    subst res
    subst sres
    exact hQ _ _ (En.fr E) (En.outc E (c := (cBx p_box s406.2)) 0 rfl) (En.out E (En.at E (f := (fR (zL zW) v9 s406.1)) 0 rfl))

def m__law_wrong_rows (p_rows : (List (List Bool))) (s00 : Bx) : Option (PyData × Bx) :=
((some ([PyData.none, (PyData.bool true), (PyData.int (7 : Int)), (PyData.str (wS ([] : List Bool))), (PyData.str (wS ([false, true] : List Bool))), (PyData.tuple ([] : List PyData)), (PyData.list ([] : List PyData)), (PyData.tuple ([(PyData.tuple ([] : List PyData))])), (PyData.tuple ([(PyData.str (wS ([false] : List Bool))), (PyData.str (wS ([false, true] : List Bool)))])), (PyData.list ([(PyData.str (wS ([] : List Bool))), (PyData.str (wS ([true] : List Bool)))])), (PyData.tuple ([(PyData.str ("2" : Str))])), (PyData.tuple ([(PyData.int (0 : Int))])), (PyData.list ([PyData.none])), (PyData.tuple ([(PyData.tuple ([(PyData.str (wS ([false] : List Bool))), (PyData.str (wS ([true] : List Bool)))]))]))])).bind fun (d516 : (List PyData)) =>
((m__law_draw (6 : Int) s00).bind fun (q517 : Int × Bx) =>
((m__law_draw ((p_rows).length : Int) q517.2).bind fun (q519 : Int × Bx) =>
((some ((p_rows.map (Tod.toD zW)))).bind fun (d521 : List PyData) =>
((atI p_rows q519.1).bind fun (x523 : (List Bool)) =>
(if (decide (q517.1 = (0 : Int))) = true then
((m__law_draw (14 : Int) q519.2).bind fun (q526 : Int × Bx) =>
((atI d516 q526.1).bind fun (x528 : PyData) =>
some (x528, q526.2)))
else
(((if (decide (q517.1 = (1 : Int))) = true then
((some ([PyData.none, (PyData.int (1 : Int)), (PyData.bool true), (PyData.tuple ([] : List PyData)), (PyData.list ([(PyData.str (wS ([false] : List Bool))), (PyData.str (wS ([true] : List Bool)))])), (PyData.int (0 : Int)), (PyData.int (-(1 : Int)))])).bind fun (d831 : (List PyData)) =>
((m__law_draw (7 : Int) q519.2).bind fun (q832 : Int × Bx) =>
((atI d831 q832.1).bind fun (x834 : PyData) =>
((setO d521 q519.1 x834).bind fun (d836 : List PyData) =>
some (d836, q832.2)))))
else
(((if ((decide (q517.1 = (2 : Int))) && (decide ((1 : Int) < ((p_rows).length : Int)))) = true then
((some ([false, true] : List Bool)).bind fun (d986 : (List Bool)) =>
((m__law_draw (2 : Int) q519.2).bind fun (q987 : Int × Bx) =>
((atI d986 q987.1).bind fun (x989 : Bool) =>
((some ([x989])).bind fun (d991 : (List Bool)) =>
((grd (x523.length + d991.length ≤ 100000)).bind fun (u992 : Unit) =>
((some (x523 ++ d991)).bind fun (d994 : (List Bool)) =>
((setO d521 q519.1 (PyData.str (wS d994))).bind fun (d995 : List PyData) =>
some (d995, q987.2))))))))
else
(((if ((decide (q517.1 = (3 : Int))) && ((decide ((1 : Int) < ((p_rows).length : Int))) && (decide ((0 : Int) < ((x523).length : Int))))) = true then
((some (PyData.str (wS (cutA x523 (some (1 : Int)) none)))).bind fun (d1065 : PyData) =>
((setO d521 q519.1 d1065).bind fun (d1066 : List PyData) =>
some (d1066, q519.2)))
else
(((if ((decide (q517.1 = (4 : Int))) && (decide ((0 : Int) < ((x523).length : Int)))) = true then
((m__law_draw ((x523).length : Int) q519.2).bind fun (q1098 : Int × Bx) =>
((some (cutA x523 none (some q1098.1))).bind fun (d1101 : (List Bool)) =>
((some ("2 aO-" : Str)).bind fun (d1103 : Str) =>
((m__law_draw (5 : Int) q1098.2).bind fun (q1104 : Int × Bx) =>
((ixS d1103 q1104.1).bind fun (x1106 : Str) =>
((grd ((wS d1101).length + x1106.length ≤ 1000000)).bind fun (u1108 : Unit) =>
((some ((wS d1101) ++ x1106)).bind fun (d1110 : Str) =>
((some (cutA x523 (some (q1098.1 + (1 : Int))) none)).bind fun (d1112 : (List Bool)) =>
((grd (d1110.length + (wS d1112).length ≤ 1000000)).bind fun (u1113 : Unit) =>
((some (d1110 ++ (wS d1112))).bind fun (d1115 : Str) =>
((setO d521 q519.1 (PyData.str d1115)).bind fun (d1116 : List PyData) =>
some (d1116, q1104.2))))))))))))
else
((grd (d521.length < 1000000)).bind fun (_ : Unit) =>
((some (d521 ++ [PyData.none])).bind fun (d1118 : List PyData) =>
some (d1118, q519.2))))).bind fun (j1090 : (List PyData) × Bx) =>
some (j1090.1, j1090.2)))).bind fun (j1055 : (List PyData) × Bx) =>
some (j1055.1, j1055.2)))).bind fun (j976 : (List PyData) × Bx) =>
some (j976.1, j976.2)))).bind fun (j823 : (List PyData) × Bx) =>
((m__law_draw (2 : Int) j823.2).bind fun (q1123 : Int × Bx) =>
((some (decide (q1123.1 = (0 : Int)))).bind fun (d1127 : Bool) =>
(if d1127 = true then
some ((PyData.tuple j823.1), q1123.2)
else
some ((PyData.list j823.1), q1123.2)))))))))))
abbrev sp__law_wrong_rows (K : PySem.W.Frag) : Sp := GSp K (aC zA (aC (zL zW) aN)) (fun (a : Addr × (List (List Bool)) × Unit) (s : Bx) => cBx a.1 s) zD (fun (a : Addr × (List (List Bool)) × Unit) (s : Bx) => m__law_wrong_rows a.2.1 s)
theorem ok__law_wrong_rows (S : Tx K mg) (G__law_draw : Ok P w K mg base 1 ("_law_draw", none) ["box", "many"] (sp__law_draw K)) : Ok P w K mg base 2 ("_law_wrong_rows", none) ["box", "rows"] (sp__law_wrong_rows K) := by
  obtain ⟨fd, D⟩ := d__law_wrong_rows S
  refine mk_ok D sc__law_wrong_rows (D.bindsN fun _ _ _ _ _ _ us hl => match us, hl with | [_, _], _ => rfl) (GSp_len len2) (fun cdv A outer s H00 vs Q E hr h => ?_)
  obtain ⟨T00, ⟨p_box, p_rows, _⟩, s00, res, sres, hT, ⟨v_box, _, rfl, r_box, v_rows, _, rfl, r_rows, rfl⟩, hc, hTc, hnd, hm, hQ⟩ := h
  obtain rfl : v_box = .ref p_box := r_box
  refine ⟨_, (pss_cons (ps_set (i := 2) sc__law_wrong_rows.nd rfl (.inl rfl) (pe_tup (pa_cons pe_non (pa_cons pe_bl (pa_cons pe_int (pa_cons pe_str (pa_cons pe_str (pa_cons (pe_tup pa_nil) (pa_cons (pe_lst pa_nil) (pa_cons (pe_tup (pa_cons (pe_tup pa_nil) pa_nil)) (pa_cons (pe_tup (pa_cons pe_str (pa_cons pe_str pa_nil))) (pa_cons (pe_lst (pa_cons pe_str (pa_cons pe_str pa_nil))) (pa_cons (pe_tup (pa_cons pe_str pa_nil)) (pa_cons (pe_tup (pa_cons pe_int pa_nil)) (pa_cons (pe_lst (pa_cons pe_non pa_nil)) (pa_cons (pe_tup (pa_cons (pe_tup (pa_cons pe_str (pa_cons pe_str pa_nil))) pa_nil)) pa_nil)))))))))))))))) (pss_cons (ps_set (i := 3) sc__law_wrong_rows.nd rfl (.inl rfl) (pe_callG G__law_draw hr (by omega) (by rfl) (g__law_draw S) (pa_cons (pv 0) (pa_cons pe_int pa_nil)))) (pss_cons (ps_set (i := 4) sc__law_wrong_rows.nd rfl (.inl rfl) (pe_callG G__law_draw hr (by omega) (by rfl) (g__law_draw S) (pa_cons (pv 0) (pa_cons (pe_callB (kc_len (K := K)) (by rfl) (m_len S) bt_len (pa_cons (pv 1) pa_nil)) pa_nil)))) (pss_cons (ps_set (i := 5) sc__law_wrong_rows.nd rfl (.inl rfl) (pe_callTy (kc_list (K := K)) (by rfl) (m_list S) bt_list (pa_cons (pv 1) pa_nil))) (pss_cons (ps_set (i := 6) sc__law_wrong_rows.nd rfl (.inl rfl) (pe_ix (kx_list (K := K)) (pv 1) (pv 4) (fun _ _ => rfl))) (pss_cons (ps_if (pt_cmpR op_eq (pv 3) pe_int (nomark _)) (pss_one (ps_ret (pe_ix (kx_tup (K := K)) (pv 2) (pe_callG G__law_draw hr (by omega) (by rfl) (g__law_draw S) (pa_cons (pv 0) (pa_cons pe_int pa_nil))) (fun _ _ => rfl)))) pss_nil) (pss_cons (ps_if (pt_cmpR op_eq (pv 3) pe_int (nomark _)) (pss_one (ps_asg (pe_ix (kx_tup (K := K)) (pe_tup (pa_cons pe_non (pa_cons pe_int (pa_cons pe_bl (pa_cons (pe_tup pa_nil) (pa_cons (pe_lst (pa_cons pe_str (pa_cons pe_str pa_nil))) (pa_cons pe_int (pa_cons (pe_un un_neg pe_int) pa_nil)))))))) (pe_callG G__law_draw hr (by omega) (by rfl) (g__law_draw S) (pa_cons (pv 0) (pa_cons pe_int pa_nil))) (fun _ _ => rfl)) (pg_sub (pv 5) (pv 4) set_list))) (pss_one (ps_if (PW.pt (pw_and (pt_cmpR op_eq (pv 3) pe_int (nomark _)) (pw_and1 (pt_cmpR op_gt (pe_callB (kc_len (K := K)) (by rfl) (m_len S) bt_len (pa_cons (pv 1) pa_nil)) pe_int (nomark _))))) (pss_one (ps_asg (pe_op op_addS (pv 6) (pe_ix ix_str pe_str (pe_callG G__law_draw hr (by omega) (by rfl) (g__law_draw S) (pa_cons (pv 0) (pa_cons pe_int pa_nil))) (fun _ _ => rfl))) (pg_sub (pv 5) (pv 4) set_list))) (pss_one (ps_if (PW.pt (pw_and (pt_cmpR op_eq (pv 3) pe_int (nomark _)) (pw_and (pt_cmpR op_gt (pe_callB (kc_len (K := K)) (by rfl) (m_len S) bt_len (pa_cons (pv 1) pa_nil)) pe_int (nomark _)) (pw_and1 (pt_cmpR op_gt (pe_callB call_lenS (by rfl) (m_len S) bt_len (pa_cons (pv 6) pa_nil)) pe_int (nomark _)))))) (pss_one (ps_asg (pe_slice sl_str (pv 6) (po_some pe_int) po_none) (pg_sub (pv 5) (pv 4) set_list))) (pss_one (ps_if (PW.pt (pw_and (pt_cmpR op_eq (pv 3) pe_int (nomark _)) (pw_and1 (pt_cmpR op_gt (pe_callB call_lenS (by rfl) (m_len S) bt_len (pa_cons (pv 6) pa_nil)) pe_int (nomark _))))) (pss_cons (ps_set (i := 7) sc__law_wrong_rows.nd rfl (.inl rfl) (pe_callG G__law_draw hr (by omega) (by rfl) (g__law_draw S) (pa_cons (pv 0) (pa_cons (pe_callB call_lenS (by rfl) (m_len S) bt_len (pa_cons (pv 6) pa_nil)) pa_nil)))) (pss_one (ps_asg (pe_op op_addS (pe_op op_addS (pe_slice sl_str (pv 6) po_none (po_some (pv 7))) (pe_ix ix_str pe_str (pe_callG G__law_draw hr (by omega) (by rfl) (g__law_draw S) (pa_cons (pv 0) (pa_cons pe_int pa_nil))) (fun _ _ => rfl))) (pe_slice sl_str (pv 6) (po_some (pe_op op_add (pv 7) pe_int)) po_none)) (pg_sub (pv 5) (pv 4) set_list)))) (pss_one (ps_expr (pe_bm PySem.F.plainAttrs_list PySem.F.slot_list_append PySem.F.type_list_append mt_append (pv 5) (pa_cons pe_non pa_nil))))))))))) (pss_cons (ps_if (pt_cmpR op_eq (pe_callG G__law_draw hr (by omega) (by rfl) (g__law_draw S) (pa_cons (pv 0) (pa_cons pe_int pa_nil))) pe_int (nomark _)) (pss_one (ps_ret (pe_callTy (kc_tuple (K := K)) (by rfl) (m_tuple S) bt_tuple (pa_cons (pv 5) pa_nil)))) pss_nil) (pss_one (ps_ret (pv 5))))))))))), ?_⟩
  have E : En K ⟨T00, [p_box], H00⟩ [(fR (zL zW) v_rows p_rows)] [(cBx p_box s00)] T00 H00 := En.start1 (c := (cBx p_box s00)) hT ⟨r_rows, trivial⟩ hc hTc hnd
  replace hm : m__law_wrong_rows p_rows s00 = some (res, sres) := hm
  unfold m__law_wrong_rows at hm
  refine asg_open ?_
  obtain ⟨d516, e_d516, hm⟩ := bnd hm
  refine En.run E (Ev.to (ev_tupU (r := zD) (xs := [PyData.none, (PyData.bool true), (PyData.int (7 : Int)), (PyData.str (wS ([] : List Bool))), (PyData.str (wS ([false, true] : List Bool))), (PyData.tuple ([] : List PyData)), (PyData.list ([] : List PyData)), (PyData.tuple ([(PyData.tuple ([] : List PyData))])), (PyData.tuple ([(PyData.str (wS ([false] : List Bool))), (PyData.str (wS ([false, true] : List Bool)))])), (PyData.list ([(PyData.str (wS ([] : List Bool))), (PyData.str (wS ([true] : List Bool)))])), (PyData.tuple ([(PyData.str ("2" : Str))])), (PyData.tuple ([(PyData.int (0 : Int))])), (PyData.list ([PyData.none])), (PyData.tuple ([(PyData.tuple ([(PyData.str (wS ([false] : List Bool))), (PyData.str (wS ([true] : List Bool)))]))]))]) E.td (eh_cons (ev_toD ev_non) (eh_cons (ev_toD ev_bl) (eh_cons (ev_toD ev_int) (eh_cons (ev_toD (ev_word [] (by decide) (by decide))) (eh_cons (ev_toD (ev_word [false, true] (by decide) (by decide))) (eh_cons (ev_toDU (ev_tupU (r := zD) (xs := []) E.td eh_nil (Nat.le_of_ble_eq_true rfl))) (eh_cons (ev_toDL (ev_lst (r := zD) (xs := []) E.td eh_nil (Nat.le_of_ble_eq_true rfl))) (eh_cons (ev_toDU (ev_tupU (r := zD) (xs := [(PyData.tuple ([] : List PyData))]) E.td (eh_cons (ev_toDU (ev_tupU (r := zD) (xs := []) E.td eh_nil (Nat.le_of_ble_eq_true rfl))) eh_nil) (Nat.le_of_ble_eq_true rfl))) (eh_cons (ev_toDU (ev_tupU (r := zD) (xs := [(PyData.str (wS ([false] : List Bool))), (PyData.str (wS ([false, true] : List Bool)))]) E.td (eh_cons (ev_toD (ev_word [false] (by decide) (by decide))) (eh_cons (ev_toD (ev_word [false, true] (by decide) (by decide))) eh_nil)) (Nat.le_of_ble_eq_true rfl))) (eh_cons (ev_toDL (ev_lst (r := zD) (xs := [(PyData.str (wS ([] : List Bool))), (PyData.str (wS ([true] : List Bool)))]) E.td (eh_cons (ev_toD (ev_word [] (by decide) (by decide))) (eh_cons (ev_toD (ev_word [true] (by decide) (by decide))) eh_nil)) (Nat.le_of_ble_eq_true rfl))) (eh_cons (ev_toDU (ev_tupU (r := zD) (xs := [(PyData.str ("2" : Str))]) E.td (eh_cons (ev_toD ev_str) eh_nil) (Nat.le_of_ble_eq_true rfl))) (eh_cons (ev_toDU (ev_tupU (r := zD) (xs := [(PyData.int (0 : Int))]) E.td (eh_cons (ev_toD ev_int) eh_nil) (Nat.le_of_ble_eq_true rfl))) (eh_cons (ev_toDL (ev_lst (r := zD) (xs := [PyData.none]) E.td (eh_cons (ev_toD ev_non) eh_nil) (Nat.le_of_ble_eq_true rfl))) (eh_cons (ev_toDU (ev_tupU (r := zD) (xs := [(PyData.tuple ([(PyData.str (wS ([false] : List Bool))), (PyData.str (wS ([true] : List Bool)))]))]) E.td (eh_cons (ev_toDU (ev_tupU (r := zD) (xs := [(PyData.str (wS ([false] : List Bool))), (PyData.str (wS ([true] : List Bool)))]) E.td (eh_cons (ev_toD (ev_word [false] (by decide) (by decide))) (eh_cons (ev_toD (ev_word [true] (by decide) (by decide))) eh_nil)) (Nat.le_of_ble_eq_true rfl))) eh_nil) (Nat.le_of_ble_eq_true rfl))) eh_nil)))))))))))))) (Nat.le_of_ble_eq_true rfl)) (Option.some.inj e_d516)) fun v515 H E => ?_
  first | refine nx_ ?_ | skip
  refine asg_open ?_
  obtain ⟨q517, h_q517, hm⟩ := bnd hm
  refine En.gcall E (ea_cons (ev_var (i := 0) rfl (show zA K _ _ (.ref p_box) p_box from rfl)) (ea_cons ev_int ea_nil)) 0 rfl h_q517 rfl fun v518 H E => ?_
  first | refine nx_ ?_ | skip
  refine asg_open ?_
  obtain ⟨q519, h_q519, hm⟩ := bnd hm
  refine En.gcall E (ea_cons (ev_var (i := 0) rfl (show zA K _ _ (.ref p_box) p_box from rfl)) (ea_cons (ev_lenL (ev_var (i := 1) rfl (E.rd (r := (zL zW)) (v := v_rows) (d := p_rows) 2 rfl))) ea_nil)) 0 rfl h_q519 rfl fun v520 H E => ?_
  first | refine nx_ ?_ | skip
  refine asg_open ?_
  obtain ⟨d521, e_d521, hm⟩ := bnd hm
  refine En.newL (r := zD) E (EvF.to (ef_listL (ev_LD (ev_var (i := 1) rfl (E.rd (r := (zL zW)) (v := v_rows) (d := p_rows) 3 rfl)))) (Option.some.inj e_d521)) fun p522 H E => ?_
  first | refine nx_ ?_ | skip
  refine asg_open ?_
  obtain ⟨x523, h_x523, hm⟩ := bnd hm
  refine En.run E (ev_ixL (ev_var (i := 1) rfl (E.rd (r := (zL zW)) (v := v_rows) (d := p_rows) 4 rfl)) (ev_var (i := 4) rfl (E.rd (r := zI) (v := v520) (d := q519.1) 1 rfl)) h_x523) fun v524 H E => ?_
  first | refine nx_ ?_ | skip
  refine ifs_open ?_
  refine En.test E (et_test (K := K) (ev_eqI (ev_var (i := 3) rfl (E.rd (r := zI) (v := v518) (d := q517.1) 3 rfl)) ev_int)) fun H E => ?_
  refine iteB (fun hc1131 => ?_) (fun hc1131 => ?_)
  · rw [if_pos hc1131] at hm
    refine ret_open ?_
    refine op_open ?_
    refine En.run E (ev_var (i := 2) rfl (E.rd (r := (zU zD)) (v := v515) (d := d516) 4 rfl)) fun v525 H E => ?_
    obtain ⟨q526, h_q526, hm⟩ := bnd hm
    refine En.gcall E (ea_cons (ev_var (i := 0) rfl (show zA K _ _ (.ref p_box) p_box from rfl)) (ea_cons ev_int ea_nil)) 1 rfl h_q526 rfl fun v527 H E => ?_
    refine of_op ?_
    obtain ⟨x528, h_x528, hm⟩ := bnd hm
    refine En.run E (ev_ixU (ev_var (i := 0) rfl (E.rd (r := (zU zD)) (v := v525) (d := d516) 1 rfl)) (ev_var (i := 1) rfl (E.rd (r := zI) (v := v527) (d := q526.1) 0 rfl)) h_x528) fun v529 H E => ?_
    have hr9 := Prod.mk.inj (Option.some.inj hm)
    have hr8 := hr9.1
    have hr7 := hr9.2
    subst res
    subst sres
    exact hQ _ _ (En.fr E) (En.outc E (c := (cBx p_box q526.2)) 1 rfl) (En.out E (En.at E (f := (fR zD v529 x528)) 0 rfl))
  · rw [if_neg (by rw [hc1131]; decide)] at hm
    first | refine nx_ ?_ | skip
    obtain ⟨j823, hm9, hm8⟩ := bnd hm
    refine seq_open ?_
    refine cut_ (fun σ9 H9 => ∃ (T : AS), ∃ (u824 : Option V), ∃ (u825 : Option V), ∃ (u826 : Option V), ∃ (u827 : Option V), ∃ (u828 : Option V), ∃ (u829 : Option V), σ9 = [some (.ref p_box), u824, u825, u826, u827, some (.ref p522), u828, u829] ∧ En K ⟨T00, [p_box], H00⟩ [] [(cL zD p522 j823.1), (cBx p_box j823.2)] T H9) ?_ fun rest => ?_
    · rintro _ H ⟨T, u824, u825, u826, u827, u828, u829, rfl, E⟩
      have hm := hm8
      first | refine nx_ ?_ | skip
      refine ifs_open ?_
      refine test_open ?_
      refine op_open ?_
      obtain ⟨q1123, h_q1123, hm⟩ := bnd hm
      refine En.gcall E (ea_cons (ev_var (i := 0) rfl (show zA K _ _ (.ref p_box) p_box from rfl)) (ea_cons ev_int ea_nil)) 1 rfl h_q1123 rfl fun v1124 H E => ?_
      refine En.run E ev_int fun v1125 H E => ?_
      refine of_op ?_
      obtain ⟨d1127, e_d1127, hm⟩ := bnd hm
      refine En.run E (Ev.to (ev_eqI (ev_var (i := 0) rfl (E.rd (r := zI) (v := v1124) (d := q1123.1) 1 rfl)) (ev_var (i := 1) rfl (E.rd (r := zI) (v := v1125) (d := (0 : Int)) 0 rfl))) (Option.some.inj e_d1127)) fun v1126 H E => ?_
      refine tb2 (E.rd (r := zB) (v := v1126) (d := d1127) 0 rfl) (fun hc1130 => ?_) (fun hc1130 => ?_)
      · rw [if_pos hc1130] at hm
        refine iteT ?_
        replace E := En.freeze (r := zD) (p := p522) (xs := j823.1) (cs := [(cBx p_box q1123.2)]) E (by simp [owns])
        refine ret_open ?_
        refine En.run E (ev_toDU (ev_tupL E.td (ev_var (i := 5) rfl (E.rd (r := (zL zD)) (v := (.ref p522)) (d := j823.1) 0 rfl)))) fun v1128 H E => ?_
        have hr9 := Prod.mk.inj (Option.some.inj hm)
        have hr8 := hr9.1
        have hr7 := hr9.2
        subst res
        subst sres
        exact hQ _ _ (En.fr E) (En.outc E (c := (cBx p_box q1123.2)) 0 rfl) (En.out E (En.at E (f := (fR zD v1128 (PyData.tuple j823.1))) 0 rfl))
      · rw [if_neg (by rw [hc1130]; decide)] at hm
        refine iteF ?_
        first | refine nx_ ?_ | skip
        replace E := En.freeze (r := zD) (p := p522) (xs := j823.1) (cs := [(cBx p_box q1123.2)]) E (by simp [owns])
        refine ret_open ?_
        refine En.run E (ev_toDL (ev_var (i := 5) rfl (E.rd (r := (zL zD)) (v := (.ref p522)) (d := j823.1) 0 rfl))) fun v1129 H E => ?_
        have hr9 := Prod.mk.inj (Option.some.inj hm)
        have hr8 := hr9.1
        have hr7 := hr9.2
        subst res
        subst sres
        exact hQ _ _ (En.fr E) (En.outc E (c := (cBx p_box q1123.2)) 0 rfl) (En.out E (En.at E (f := (fR zD v1129 (PyData.list j823.1))) 0 rfl))
    · have hm := hm9
      refine ifs_open ?_
      refine En.test E (et_test (K := K) (ev_eqI (ev_var (i := 3) rfl (E.rd (r := zI) (v := v518) (d := q517.1) 3 rfl)) ev_int)) fun H E => ?_
      refine iteB (fun hc1122 => ?_) (fun hc1122 => ?_)
      · rw [if_pos hc1122] at hm
        refine asgt_open ?_
        refine op_open ?_
        obtain ⟨d831, e_d831, hm⟩ := bnd hm
        refine En.run E (Ev.to (ev_tupU (r := zD) (xs := [PyData.none, (PyData.int (1 : Int)), (PyData.bool true), (PyData.tuple ([] : List PyData)), (PyData.list ([(PyData.str (wS ([false] : List Bool))), (PyData.str (wS ([true] : List Bool)))])), (PyData.int (0 : Int)), (PyData.int (-(1 : Int)))]) E.td (eh_cons (ev_toD ev_non) (eh_cons (ev_toD ev_int) (eh_cons (ev_toD ev_bl) (eh_cons (ev_toDU (ev_tupU (r := zD) (xs := []) E.td eh_nil (Nat.le_of_ble_eq_true rfl))) (eh_cons (ev_toDL (ev_lst (r := zD) (xs := [(PyData.str (wS ([false] : List Bool))), (PyData.str (wS ([true] : List Bool)))]) E.td (eh_cons (ev_toD (ev_word [false] (by decide) (by decide))) (eh_cons (ev_toD (ev_word [true] (by decide) (by decide))) eh_nil)) (Nat.le_of_ble_eq_true rfl))) (eh_cons (ev_toD ev_int) (eh_cons (ev_toD (ev_neg ev_int)) eh_nil))))))) (Nat.le_of_ble_eq_true rfl)) (Option.some.inj e_d831)) fun v830 H E => ?_
        obtain ⟨q832, h_q832, hm⟩ := bnd hm
        refine En.gcall E (ea_cons (ev_var (i := 0) rfl (show zA K _ _ (.ref p_box) p_box from rfl)) (ea_cons ev_int ea_nil)) 1 rfl h_q832 rfl fun v833 H E => ?_
        refine of_op ?_
        obtain ⟨x834, h_x834, hm⟩ := bnd hm
        refine En.run E (ev_ixU (ev_var (i := 0) rfl (E.rd (r := (zU zD)) (v := v830) (d := d831) 1 rfl)) (ev_var (i := 1) rfl (E.rd (r := zI) (v := v833) (d := q832.1) 0 rfl)) h_x834) fun v835 H E => ?_
        obtain ⟨d836, e_d836, hm⟩ := bnd hm
        refine En.setitem (r := zD) (p := p522) (xs := d521) E rfl 0 rfl (E.rd (r := zD) (v := v835) (d := x834) 0 rfl) (ev_var (i := 4) rfl (E.rd (r := zI) (v := v520) (d := q519.1) 5 rfl)) e_d836 fun H E => ?_
        have hj9 := Option.some.inj hm
        subst j823
        exact rest _ _ ⟨_, _, _, _, _, _, _, rfl, (En.facts (En.pick E [0, 1] (by decide) rfl) trivial)⟩
      · rw [if_neg (by rw [hc1122]; decide)] at hm
        obtain ⟨j976, hm9, hm8⟩ := bnd hm
        refine cut_ (fun σ9 H9 => ∃ (T : AS), ∃ (u977 : Option V), ∃ (u978 : Option V), ∃ (u979 : Option V), ∃ (u980 : Option V), ∃ (u981 : Option V), ∃ (u982 : Option V), σ9 = [some (.ref p_box), u977, u978, u979, u980, some (.ref p522), u981, u982] ∧ En K ⟨T00, [p_box], H00⟩ [] [(cL zD p522 j976.1), (cBx p_box j976.2)] T H9) ?_ fun rest => ?_
        · rintro _ H ⟨T, u977, u978, u979, u980, u981, u982, rfl, E⟩
          have hm := hm8
          have hj9 := Option.some.inj hm
          subst j823
          exact rest _ _ ⟨_, _, _, _, _, _, _, rfl, (En.facts (En.pick E [0, 1] (by decide) rfl) trivial)⟩
        · have hm := hm9
          refine ifs_open ?_
          refine En.test E (et_and (et_test (K := K) (ev_eqI (ev_var (i := 3) rfl (E.rd (r := zI) (v := v518) (d := q517.1) 3 rfl)) ev_int)) fun hc983 => (et_test (K := K) (ev_gt (ev_lenL (ev_var (i := 1) rfl (E.rd (r := (zL zW)) (v := v_rows) (d := p_rows) 5 rfl))) ev_int))) fun H E => ?_
          refine iteB (fun hc1121 => ?_) (fun hc1121 => ?_)
          · rw [if_pos hc1121] at hm
            refine asgt_open ?_
            refine op_open ?_
            refine En.run E (ev_var (i := 6) rfl (E.rd (r := zW) (v := v524) (d := x523) 0 rfl)) fun v984 H E => ?_
            refine op_open ?_
            obtain ⟨d986, e_d986, hm⟩ := bnd hm
            refine En.run E (Ev.to (ev_word [false, true] (by decide) (by decide)) (Option.some.inj e_d986)) fun v985 H E => ?_
            obtain ⟨q987, h_q987, hm⟩ := bnd hm
            refine En.gcall E (ea_cons (ev_var (i := 0) rfl (show zA K _ _ (.ref p_box) p_box from rfl)) (ea_cons ev_int ea_nil)) 1 rfl h_q987 rfl fun v988 H E => ?_
            refine of_op ?_
            obtain ⟨x989, h_x989, hm⟩ := bnd hm
            obtain ⟨d991, e_d991, hm⟩ := bnd hm
            refine En.run E (Ev.to (ev_ixW (ev_var (i := 0) rfl (E.rd (r := zW) (v := v985) (d := d986) 1 rfl)) (ev_var (i := 1) rfl (E.rd (r := zI) (v := v988) (d := q987.1) 0 rfl)) h_x989) (Option.some.inj e_d991)) fun v990 H E => ?_
            refine of_op ?_
            obtain ⟨u992, h_u992, hm⟩ := bnd hm
            obtain ⟨d994, e_d994, hm⟩ := bnd hm
            refine En.run E (Ev.to (ev_catW (ev_var (i := 0) rfl (E.rd (r := zW) (v := v984) (d := x523) 3 rfl)) (ev_var (i := 1) rfl (E.rd (r := zW) (v := v990) (d := d991) 0 rfl)) (grd_ok h_u992)) (Option.some.inj e_d994)) fun v993 H E => ?_
            replace E := En.add (f := (fR zD v993 (PyData.str (wS d994)))) E (zd_up (r := zW) (E.rd (r := zW) (v := v993) (d := d994) 0 rfl))
            obtain ⟨d995, e_d995, hm⟩ := bnd hm
            refine En.setitem (r := zD) (p := p522) (xs := d521) E rfl 0 rfl (E.rd (r := zD) (v := v993) (d := (PyData.str (wS d994))) 0 rfl) (ev_var (i := 4) rfl (E.rd (r := zI) (v := v520) (d := q519.1) 8 rfl)) e_d995 fun H E => ?_
            have hj9 := Option.some.inj hm
            subst j976
            exact rest _ _ ⟨_, _, _, _, _, _, _, rfl, (En.facts (En.pick E [0, 1] (by decide) rfl) trivial)⟩
          · rw [if_neg (by rw [hc1121]; decide)] at hm
            obtain ⟨j1055, hm9, hm8⟩ := bnd hm
            refine cut_ (fun σ9 H9 => ∃ (T : AS), ∃ (u1056 : Option V), ∃ (u1057 : Option V), ∃ (u1058 : Option V), ∃ (u1059 : Option V), ∃ (u1060 : Option V), ∃ (u1061 : Option V), σ9 = [some (.ref p_box), u1056, u1057, u1058, u1059, some (.ref p522), u1060, u1061] ∧ En K ⟨T00, [p_box], H00⟩ [] [(cL zD p522 j1055.1), (cBx p_box j1055.2)] T H9) ?_ fun rest => ?_
            · rintro _ H ⟨T, u1056, u1057, u1058, u1059, u1060, u1061, rfl, E⟩
              have hm := hm8
              have hj9 := Option.some.inj hm
              subst j976
              exact rest _ _ ⟨_, _, _, _, _, _, _, rfl, (En.facts (En.pick E [0, 1] (by decide) rfl) trivial)⟩
            · have hm := hm9
              refine ifs_open ?_
              refine En.test E (et_and (et_test (K := K) (ev_eqI (ev_var (i := 3) rfl (E.rd (r := zI) (v := v518) (d := q517.1) 3 rfl)) ev_int)) fun hc1063 => (et_and (et_test (K := K) (ev_gt (ev_lenL (ev_var (i := 1) rfl (E.rd (r := (zL zW)) (v := v_rows) (d := p_rows) 5 rfl))) ev_int)) fun hc1062 => (et_test (K := K) (ev_gt (ev_lenW (ev_var (i := 6) rfl (E.rd (r := zW) (v := v524) (d := x523) 0 rfl))) ev_int)))) fun H E => ?_
              refine iteB (fun hc1120 => ?_) (fun hc1120 => ?_)
              · rw [if_pos hc1120] at hm
                refine asgt_open ?_
                obtain ⟨d1065, e_d1065, hm⟩ := bnd hm
                refine En.run E (Ev.to (ev_toD (ev_slW (ev_var (i := 6) rfl (E.rd (r := zW) (v := v524) (d := x523) 0 rfl)) (eo_some (K := K) ev_int) eo_none)) (Option.some.inj e_d1065)) fun v1064 H E => ?_
                obtain ⟨d1066, e_d1066, hm⟩ := bnd hm
                refine En.setitem (r := zD) (p := p522) (xs := d521) E rfl 0 rfl (E.rd (r := zD) (v := v1064) (d := d1065) 0 rfl) (ev_var (i := 4) rfl (E.rd (r := zI) (v := v520) (d := q519.1) 3 rfl)) e_d1066 fun H E => ?_
                have hj9 := Option.some.inj hm
                subst j1055
                exact rest _ _ ⟨_, _, _, _, _, _, _, rfl, (En.facts (En.pick E [0, 1] (by decide) rfl) trivial)⟩
              · rw [if_neg (by rw [hc1120]; decide)] at hm
                obtain ⟨j1090, hm9, hm8⟩ := bnd hm
                refine cut_ (fun σ9 H9 => ∃ (T : AS), ∃ (u1091 : Option V), ∃ (u1092 : Option V), ∃ (u1093 : Option V), ∃ (u1094 : Option V), ∃ (u1095 : Option V), ∃ (u1096 : Option V), σ9 = [some (.ref p_box), u1091, u1092, u1093, u1094, some (.ref p522), u1095, u1096] ∧ En K ⟨T00, [p_box], H00⟩ [] [(cL zD p522 j1090.1), (cBx p_box j1090.2)] T H9) ?_ fun rest => ?_
                · rintro _ H ⟨T, u1091, u1092, u1093, u1094, u1095, u1096, rfl, E⟩
                  have hm := hm8
                  have hj9 := Option.some.inj hm
                  subst j1055
                  exact rest _ _ ⟨_, _, _, _, _, _, _, rfl, (En.facts (En.pick E [0, 1] (by decide) rfl) trivial)⟩
                · have hm := hm9
                  refine ifs_open ?_
                  refine En.test E (et_and (et_test (K := K) (ev_eqI (ev_var (i := 3) rfl (E.rd (r := zI) (v := v518) (d := q517.1) 3 rfl)) ev_int)) fun hc1097 => (et_test (K := K) (ev_gt (ev_lenW (ev_var (i := 6) rfl (E.rd (r := zW) (v := v524) (d := x523) 0 rfl))) ev_int))) fun H E => ?_
                  refine iteB (fun hc1119 => ?_) (fun hc1119 => ?_)
                  · rw [if_pos hc1119] at hm
                    refine asg_open ?_
                    obtain ⟨q1098, h_q1098, hm⟩ := bnd hm
                    refine En.gcall E (ea_cons (ev_var (i := 0) rfl (show zA K _ _ (.ref p_box) p_box from rfl)) (ea_cons (ev_lenW (ev_var (i := 6) rfl (E.rd (r := zW) (v := v524) (d := x523) 0 rfl))) ea_nil)) 1 rfl h_q1098 rfl fun v1099 H E => ?_
                    first | refine nx_ ?_ | skip
                    refine asgt_open ?_
                    refine op_open ?_
                    refine op_open ?_
                    obtain ⟨d1101, e_d1101, hm⟩ := bnd hm
                    refine En.run E (Ev.to (ev_slW (ev_var (i := 6) rfl (E.rd (r := zW) (v := v524) (d := x523) 1 rfl)) eo_none (eo_some (K := K) (ev_var (i := 7) rfl (E.rd (r := zI) (v := v1099) (d := q1098.1) 0 rfl)))) (Option.some.inj e_d1101)) fun v1100 H E => ?_
                    refine op_open ?_
                    obtain ⟨d1103, e_d1103, hm⟩ := bnd hm
                    refine En.run E (Ev.to ev_str (Option.some.inj e_d1103)) fun v1102 H E => ?_
                    obtain ⟨q1104, h_q1104, hm⟩ := bnd hm
                    refine En.gcall E (ea_cons (ev_var (i := 0) rfl (show zA K _ _ (.ref p_box) p_box from rfl)) (ea_cons ev_int ea_nil)) 1 rfl h_q1104 rfl fun v1105 H E => ?_
                    refine of_op ?_
                    obtain ⟨x1106, h_x1106, hm⟩ := bnd hm
                    refine En.run E (ev_ixS (ev_var (i := 0) rfl (E.rd (r := zS) (v := v1102) (d := d1103) 1 rfl)) (ev_var (i := 1) rfl (E.rd (r := zI) (v := v1105) (d := q1104.1) 0 rfl)) h_x1106) fun v1107 H E => ?_
                    refine of_op ?_
                    obtain ⟨u1108, h_u1108, hm⟩ := bnd hm
                    obtain ⟨d1110, e_d1110, hm⟩ := bnd hm
                    refine En.run E (Ev.to (ev_catS (ev_WS (ev_var (i := 0) rfl (E.rd (r := zW) (v := v1100) (d := d1101) 3 rfl))) (ev_var (i := 1) rfl (E.rd (r := zS) (v := v1107) (d := x1106) 0 rfl)) (grd_ok h_u1108)) (Option.some.inj e_d1110)) fun v1109 H E => ?_
                    obtain ⟨d1112, e_d1112, hm⟩ := bnd hm
                    refine En.run E (Ev.to (ev_slW (ev_var (i := 6) rfl (E.rd (r := zW) (v := v524) (d := x523) 6 rfl)) (eo_some (K := K) (ev_add (ev_var (i := 7) rfl (E.rd (r := zI) (v := v1099) (d := q1098.1) 5 rfl)) ev_int)) eo_none) (Option.some.inj e_d1112)) fun v1111 H E => ?_
                    refine of_op ?_
                    obtain ⟨u1113, h_u1113, hm⟩ := bnd hm
                    obtain ⟨d1115, e_d1115, hm⟩ := bnd hm
                    refine En.run E (Ev.to (ev_catS (ev_var (i := 0) rfl (E.rd (r := zS) (v := v1109) (d := d1110) 1 rfl)) (ev_WS (ev_var (i := 1) rfl (E.rd (r := zW) (v := v1111) (d := d1112) 0 rfl))) (grd_ok h_u1113)) (Option.some.inj e_d1115)) fun v1114 H E => ?_
                    replace E := En.add (f := (fR zD v1114 (PyData.str d1115))) E (zd_up (r := zS) (E.rd (r := zS) (v := v1114) (d := d1115) 0 rfl))
                    obtain ⟨d1116, e_d1116, hm⟩ := bnd hm
                    refine En.setitem (r := zD) (p := p522) (xs := d521) E rfl 0 rfl (E.rd (r := zD) (v := v1114) (d := (PyData.str d1115)) 0 rfl) (ev_var (i := 4) rfl (E.rd (r := zI) (v := v520) (d := q519.1) 11 rfl)) e_d1116 fun H E => ?_
                    have hj9 := Option.some.inj hm
                    subst j1090
                    exact rest _ _ ⟨_, _, _, _, _, _, _, rfl, (En.facts (En.pick E [0, 1] (by decide) rfl) trivial)⟩
                  · rw [if_neg (by rw [hc1119]; decide)] at hm
                    refine drop_open ?_
                    refine En.bm (p := p522) (r := zD) (xs := d521) E rfl 0 rfl ?_
                    refine cons_open ?_
                    refine En.run E (ev_toD ev_non) fun v1117 H E => ?_
                    refine nil_open ?_
                    obtain ⟨_, hgd1118, hm⟩ := bnd hm
                    obtain ⟨d1118, e_d1118, hm⟩ := bnd hm
                    refine En.append (r := zD) (p := p522) (xs := d521) E 0 rfl (E.rd (r := zD) (v := v1117) (d := PyData.none) 0 rfl) (grd_ok hgd1118) fun H E => ?_
                    rw [Option.some.inj e_d1118] at E
                    have hj9 := Option.some.inj hm
                    subst j1090
                    exact rest _ _ ⟨_, _, _, _, _, _, _, rfl, (En.facts (En.pick E [0, 1] (by decide) rfl) trivial)⟩

def m__law_schedule (p_programs : Int) (p_length : Int) (s00 : Bx) : Option ((List Int) × Bx) :=
((m__law_draw (3 : Int) s00).bind fun (q1132 : Int × Bx) =>
((some ([])).bind fun (d1134 : List Int) =>
((grd (p_length ≤ 1000000 ∧ -1000000 ≤ p_length)).bind fun (u1136 : Unit) =>
((forP (fun (s1137 : (List Int) × Bx) (x1141 : Int) =>
(((if (decide ((0 : Int) < x1141)) = true then
(if (decide (q1132.1 = (1 : Int))) = true then
((m__law_draw (3 : Int) s1137.2).bind fun (q1356 : Int × Bx) =>
((some (decide ((0 : Int) < q1356.1))).bind fun (d1360 : Bool) =>
(if d1360 = true then
((atI s1137.1 (x1141 - (1 : Int))).bind fun (x1361 : Int) =>
((grd (s1137.1.length < 1000000)).bind fun (_ : Unit) =>
((some (s1137.1 ++ [x1361])).bind fun (d1363 : List Int) =>
some (d1363, q1356.2))))
else
(((if ((decide ((1 : Int) < x1141)) && (decide (q1132.1 = (2 : Int)))) = true then
((atI s1137.1 (x1141 - (2 : Int))).bind fun (x1376 : Int) =>
((grd (s1137.1.length < 1000000)).bind fun (_ : Unit) =>
((some (s1137.1 ++ [x1376])).bind fun (d1378 : List Int) =>
some (d1378, q1356.2))))
else
((m__law_draw p_programs q1356.2).bind fun (q1379 : Int × Bx) =>
((grd (s1137.1.length < 1000000)).bind fun (_ : Unit) =>
((some (s1137.1 ++ [q1379.1])).bind fun (d1381 : List Int) =>
some (d1381, q1379.2)))))).bind fun (j1372 : (List Int) × Bx) =>
some (j1372.1, j1372.2)))))
else
(((if ((decide ((1 : Int) < x1141)) && (decide (q1132.1 = (2 : Int)))) = true then
((atI s1137.1 (x1141 - (2 : Int))).bind fun (x1396 : Int) =>
((grd (s1137.1.length < 1000000)).bind fun (_ : Unit) =>
((some (s1137.1 ++ [x1396])).bind fun (d1398 : List Int) =>
some (d1398, s1137.2))))
else
((m__law_draw p_programs s1137.2).bind fun (q1399 : Int × Bx) =>
((grd (s1137.1.length < 1000000)).bind fun (_ : Unit) =>
((some (s1137.1 ++ [q1399.1])).bind fun (d1401 : List Int) =>
some (d1401, q1399.2)))))).bind fun (j1392 : (List Int) × Bx) =>
some (j1392.1, j1392.2)))
else
(((if ((decide ((1 : Int) < x1141)) && (decide (q1132.1 = (2 : Int)))) = true then
((atI s1137.1 (x1141 - (2 : Int))).bind fun (x1416 : Int) =>
((grd (s1137.1.length < 1000000)).bind fun (_ : Unit) =>
((some (s1137.1 ++ [x1416])).bind fun (d1418 : List Int) =>
some (d1418, s1137.2))))
else
((m__law_draw p_programs s1137.2).bind fun (q1419 : Int × Bx) =>
((grd (s1137.1.length < 1000000)).bind fun (_ : Unit) =>
((some (s1137.1 ++ [q1419.1])).bind fun (d1421 : List Int) =>
some (d1421, q1419.2)))))).bind fun (j1412 : (List Int) × Bx) =>
some (j1412.1, j1412.2)))).bind fun (j1353 : (List Int) × Bx) =>
some (j1353.1, j1353.2))) (d1134, q1132.2) (rng 0 (p_length).toNat)).bind fun (s1139 : (List Int) × Bx) =>
some (s1139.1, s1139.2)))))
abbrev sp__law_schedule (K : PySem.W.Frag) : Sp := GSp K (aC zA (aC zI (aC zI aN))) (fun (a : Addr × Int × Int × Unit) (s : Bx) => cBx a.1 s) (zL zI) (fun (a : Addr × Int × Int × Unit) (s : Bx) => m__law_schedule a.2.1 a.2.2.1 s)
theorem ok__law_schedule (S : Tx K mg) (G__law_draw : Ok P w K mg base 1 ("_law_draw", none) ["box", "many"] (sp__law_draw K)) : Ok P w K mg base 2 ("_law_schedule", none) ["box", "programs", "length"] (sp__law_schedule K) := by
  obtain ⟨fd, D⟩ := d__law_schedule S
  refine mk_ok D sc__law_schedule (D.bindsN fun _ _ _ _ _ _ us hl => match us, hl with | [_, _, _], _ => rfl) (GSp_len len3) (fun cdv A outer s H00 vs Q E hr h => ?_)
  obtain ⟨T00, ⟨p_box, p_programs, p_length, _⟩, s00, res, sres, hT, ⟨v_box, _, rfl, r_box, v_programs, _, rfl, r_programs, v_length, _, rfl, r_length, rfl⟩, hc, hTc, hnd, hm, hQ⟩ := h
  obtain rfl : v_box = .ref p_box := r_box
  refine ⟨_, (pss_cons (ps_set (i := 3) sc__law_schedule.nd rfl (.inl rfl) (pe_callG G__law_draw hr (by omega) (by rfl) (g__law_draw S) (pa_cons (pv 0) (pa_cons pe_int pa_nil)))) (pss_cons (ps_set (i := 4) sc__law_schedule.nd rfl (.inl rfl) (pe_lst pa_nil)) (pss_cons (ps_for PassesOwn.never rfl (pi_range1 (by rfl) (m_range S) (pa_cons (pv 2) pa_nil)) (pg_name (i := 5) sc__law_schedule.nd rfl (.inl rfl)) (pss_one (ps_if (PW.pt (pw_and (pt_cmpR op_gt (pv 5) pe_int (nomark _)) (pw_and (pt_cmpR op_eq (pv 3) pe_int (nomark _)) (pw_and1 (pt_cmpR op_gt (pe_callG G__law_draw hr (by omega) (by rfl) (g__law_draw S) (pa_cons (pv 0) (pa_cons pe_int pa_nil))) pe_int (nomark _)))))) (pss_one (ps_expr (pe_bm PySem.F.plainAttrs_list PySem.F.slot_list_append PySem.F.type_list_append mt_append (pv 4) (pa_cons (pe_ix (kx_list (K := K)) (pv 4) (pe_op op_sub (pv 5) pe_int) (fun _ _ => rfl)) pa_nil)))) (pss_one (ps_if (PW.pt (pw_and (pt_cmpR op_gt (pv 5) pe_int (nomark _)) (pw_and1 (pt_cmpR op_eq (pv 3) pe_int (nomark _))))) (pss_one (ps_expr (pe_bm PySem.F.plainAttrs_list PySem.F.slot_list_append PySem.F.type_list_append mt_append (pv 4) (pa_cons (pe_ix (kx_list (K := K)) (pv 4) (pe_op op_sub (pv 5) pe_int) (fun _ _ => rfl)) pa_nil)))) (pss_one (ps_expr (pe_bm PySem.F.plainAttrs_list PySem.F.slot_list_append PySem.F.type_list_append mt_append (pv 4) (pa_cons (pe_callG G__law_draw hr (by omega) (by rfl) (g__law_draw S) (pa_cons (pv 0) (pa_cons (pv 1) pa_nil))) pa_nil))))))))) (pss_one (ps_ret (pv 4)))))), ?_⟩
  have E : En K ⟨T00, [p_box], H00⟩ [(fR zI v_programs p_programs), (fR zI v_length p_length)] [(cBx p_box s00)] T00 H00 := En.start1 (c := (cBx p_box s00)) hT ⟨r_programs, r_length, trivial⟩ hc hTc hnd
  replace hm : m__law_schedule p_programs p_length s00 = some (res, sres) := hm
  unfold m__law_schedule at hm
  refine asg_open ?_
  obtain ⟨q1132, h_q1132, hm⟩ := bnd hm
  refine En.gcall E (ea_cons (ev_var (i := 0) rfl (show zA K _ _ (.ref p_box) p_box from rfl)) (ea_cons ev_int ea_nil)) 0 rfl h_q1132 rfl fun v1133 H E => ?_
  first | refine nx_ ?_ | skip
  refine asg_open ?_
  obtain ⟨d1134, e_d1134, hm⟩ := bnd hm
  refine En.newL (r := zI) E (EvF.to (ef_lst (xs := []) eh_nil (by decide)) (Option.some.inj e_d1134)) fun p1135 H E => ?_
  first | refine nx_ ?_ | skip
  obtain ⟨u1136, h_u1136, hm⟩ := bnd hm
  obtain ⟨s1139, h_s1139, hm⟩ := bnd hm
  refine En.forP (K := K) (fun (b1140 : Bs) (s1137 : (List Int) × Bx) (T : AS) (σ9 : L2.St) (H9 : Hp) => ∃ (u1283 : Option V), ∃ (u1284 : Option V), σ9 = [some (.ref p_box), some v_programs, u1283, some v1133, some (.ref p1135), u1284] ∧ En K b1140 [(fR zI v_programs p_programs), (fR zI v1133 q1132.1)] [(cL zI p1135 s1137.1), (cBx p_box s1137.2)] T H9) E (ei_range (ea_cons (ev_var (i := 2) rfl (E.rd (r := zI) (v := v_length) (d := p_length) 3 rfl)) ea_nil) (grd_ok h_u1136).1 (grd_ok h_u1136).2) h_s1139 (fun H E => ⟨_, _, rfl, (En.facts (En.pick E [0, 1] (by decide) rfl) ⟨(E.rd (r := zI) (v := v_programs) (d := p_programs) 2 rfl), (E.rd (r := zI) (v := v1133) (d := q1132.1) 1 rfl), trivial⟩)⟩) (by rintro _ _ _ _ _ ⟨u1283, u1284, rfl, E⟩; exact ⟨En.wd E, En.td E⟩) (fun b1140 s1137 x1141 o1138 T _ H1 H v1142 D1143 hx1143 hI1143 ex1143 hr1143 hm hrt1143 hn1143 => ?_) (fun H2 T _ H E2 hI1143 => ?_)
  · obtain ⟨u1283, u1284, rfl, E⟩ := hI1143
    replace E := En.add (f := (fR zI v1142 x1141)) (En.ex E ex1143) hr1143
    refine gn ?_
    obtain ⟨j1353, hm9, hm8⟩ := bnd hm
    refine cut_ (fun σ9 H9 => ∃ (T : AS), ∃ (u1354 : Option V), ∃ (u1355 : Option V), σ9 = [some (.ref p_box), some v_programs, u1354, some v1133, some (.ref p1135), u1355] ∧ En K b1140 [(fR zI v_programs p_programs), (fR zI v1133 q1132.1)] [(cL zI p1135 j1353.1), (cBx p_box j1353.2)] T H9) ?_ fun rest => ?_
    · rintro _ H ⟨T, u1354, u1355, rfl, E⟩
      have hm := hm8
      have hj9 := Option.some.inj hm
      subst o1138
      exact (hn1143 _ _ _ ⟨_, _, rfl, (En.facts (En.pick E [0, 1] (by decide) rfl) ⟨(E.rd (r := zI) (v := v_programs) (d := p_programs) 0 rfl), (E.rd (r := zI) (v := v1133) (d := q1132.1) 1 rfl), trivial⟩)⟩).1
    · have hm := hm9
      refine ifs_open ?_
      refine and_open ?_
      refine En.test2 E (et_test (K := K) (ev_gt (ev_var (i := 5) rfl (E.rd (r := zI) (v := v1142) (d := x1141) 0 rfl)) ev_int)) (fun hc1423 H E => ?_) (fun hc1423 H E => ?_)
      · rw [if_pos hc1423] at hm
        refine iteT ?_
        refine and_open ?_
        refine En.test2 E (et_test (K := K) (ev_eqI (ev_var (i := 3) rfl (E.rd (r := zI) (v := v1133) (d := q1132.1) 2 rfl)) ev_int)) (fun hc1403 H E => ?_) (fun hc1403 H E => ?_)
        · rw [if_pos hc1403] at hm
          refine iteT ?_
          refine test_open ?_
          refine op_open ?_
          obtain ⟨q1356, h_q1356, hm⟩ := bnd hm
          refine En.gcall E (ea_cons (ev_var (i := 0) rfl (show zA K _ _ (.ref p_box) p_box from rfl)) (ea_cons ev_int ea_nil)) 1 rfl h_q1356 rfl fun v1357 H E => ?_
          refine En.run E ev_int fun v1358 H E => ?_
          refine of_op ?_
          obtain ⟨d1360, e_d1360, hm⟩ := bnd hm
          refine En.run E (Ev.to (ev_gt (ev_var (i := 0) rfl (E.rd (r := zI) (v := v1357) (d := q1356.1) 1 rfl)) (ev_var (i := 1) rfl (E.rd (r := zI) (v := v1358) (d := (0 : Int)) 0 rfl))) (Option.some.inj e_d1360)) fun v1359 H E => ?_
          refine tb2 (E.rd (r := zB) (v := v1359) (d := d1360) 0 rfl) (fun hc1383 => ?_) (fun hc1383 => ?_)
          · rw [if_pos hc1383] at hm
            refine iteT ?_
            refine drop_open ?_
            refine En.bm (p := p1135) (r := zI) (xs := s1137.1) E rfl 0 rfl ?_
            refine cons_open ?_
            obtain ⟨x1361, h_x1361, hm⟩ := bnd hm
            refine En.runB E (ev_ixL (ev_var (i := 4) rfl (E.clB (r := zI) (p := p1135) (xs := s1137.1) 0 rfl)) (ev_sub (ev_var (i := 5) rfl (E.rdB (r := zI) (v := v1142) (d := x1141) 3 rfl)) ev_int) h_x1361) fun v1362 H E => ?_
            refine nil_open ?_
            obtain ⟨_, hgd1363, hm⟩ := bnd hm
            obtain ⟨d1363, e_d1363, hm⟩ := bnd hm
            refine En.append (r := zI) (p := p1135) (xs := s1137.1) E 0 rfl (E.rd (r := zI) (v := v1362) (d := x1361) 0 rfl) (grd_ok hgd1363) fun H E => ?_
            rw [Option.some.inj e_d1363] at E
            have hj9 := Option.some.inj hm
            subst j1353
            exact rest _ _ ⟨_, _, _, rfl, (En.facts (En.pick E [0, 1] (by decide) rfl) ⟨(E.rd (r := zI) (v := v_programs) (d := p_programs) 5 rfl), (E.rd (r := zI) (v := v1133) (d := q1132.1) 6 rfl), trivial⟩)⟩
          · rw [if_neg (by rw [hc1383]; decide)] at hm
            refine iteF ?_
            obtain ⟨j1372, hm9, hm8⟩ := bnd hm
            refine cut_ (fun σ9 H9 => ∃ (T : AS), ∃ (u1373 : Option V), ∃ (u1374 : Option V), σ9 = [some (.ref p_box), some v_programs, u1373, some v1133, some (.ref p1135), u1374] ∧ En K b1140 [(fR zI v_programs p_programs), (fR zI v1133 q1132.1)] [(cL zI p1135 j1372.1), (cBx p_box j1372.2)] T H9) ?_ fun rest => ?_
            · rintro _ H ⟨T, u1373, u1374, rfl, E⟩
              have hm := hm8
              have hj9 := Option.some.inj hm
              subst j1353
              exact rest _ _ ⟨_, _, _, rfl, (En.facts (En.pick E [0, 1] (by decide) rfl) ⟨(E.rd (r := zI) (v := v_programs) (d := p_programs) 0 rfl), (E.rd (r := zI) (v := v1133) (d := q1132.1) 1 rfl), trivial⟩)⟩
            · have hm := hm9
              refine ifs_open ?_
              refine En.test E (et_and (et_test (K := K) (ev_gt (ev_var (i := 5) rfl (E.rd (r := zI) (v := v1142) (d := x1141) 3 rfl)) ev_int)) fun hc1375 => (et_test (K := K) (ev_eqI (ev_var (i := 3) rfl (E.rd (r := zI) (v := v1133) (d := q1132.1) 5 rfl)) ev_int))) fun H E => ?_
              refine iteB (fun hc1382 => ?_) (fun hc1382 => ?_)
              · rw [if_pos hc1382] at hm
                refine drop_open ?_
                refine En.bm (p := p1135) (r := zI) (xs := s1137.1) E rfl 0 rfl ?_
                refine cons_open ?_
                obtain ⟨x1376, h_x1376, hm⟩ := bnd hm
                refine En.runB E (ev_ixL (ev_var (i := 4) rfl (E.clB (r := zI) (p := p1135) (xs := s1137.1) 0 rfl)) (ev_sub (ev_var (i := 5) rfl (E.rdB (r := zI) (v := v1142) (d := x1141) 3 rfl)) ev_int) h_x1376) fun v1377 H E => ?_
                refine nil_open ?_
                obtain ⟨_, hgd1378, hm⟩ := bnd hm
                obtain ⟨d1378, e_d1378, hm⟩ := bnd hm
                refine En.append (r := zI) (p := p1135) (xs := s1137.1) E 0 rfl (E.rd (r := zI) (v := v1377) (d := x1376) 0 rfl) (grd_ok hgd1378) fun H E => ?_
                rw [Option.some.inj e_d1378] at E
                have hj9 := Option.some.inj hm
                subst j1372
                exact rest _ _ ⟨_, _, _, rfl, (En.facts (En.pick E [0, 1] (by decide) rfl) ⟨(E.rd (r := zI) (v := v_programs) (d := p_programs) 5 rfl), (E.rd (r := zI) (v := v1133) (d := q1132.1) 6 rfl), trivial⟩)⟩
              · rw [if_neg (by rw [hc1382]; decide)] at hm
                refine drop_open ?_
                refine En.bm (p := p1135) (r := zI) (xs := s1137.1) E rfl 0 rfl ?_
                refine cons_open ?_
                obtain ⟨q1379, h_q1379, hm⟩ := bnd hm
                refine En.gcall E (ea_cons (ev_var (i := 0) rfl (show zA K _ _ (.ref p_box) p_box from rfl)) (ea_cons (ev_var (i := 1) rfl (E.rd (r := zI) (v := v_programs) (d := p_programs) 4 rfl)) ea_nil)) 1 rfl h_q1379 rfl fun v1380 H E => ?_
                refine nil_open ?_
                obtain ⟨_, hgd1381, hm⟩ := bnd hm
                obtain ⟨d1381, e_d1381, hm⟩ := bnd hm
                refine En.append (r := zI) (p := p1135) (xs := s1137.1) E 0 rfl (E.rd (r := zI) (v := v1380) (d := q1379.1) 0 rfl) (grd_ok hgd1381) fun H E => ?_
                rw [Option.some.inj e_d1381] at E
                have hj9 := Option.some.inj hm
                subst j1372
                exact rest _ _ ⟨_, _, _, rfl, (En.facts (En.pick E [0, 1] (by decide) rfl) ⟨(E.rd (r := zI) (v := v_programs) (d := p_programs) 5 rfl), (E.rd (r := zI) (v := v1133) (d := q1132.1) 6 rfl), trivial⟩)⟩
        · rw [if_neg (by rw [hc1403]; decide)] at hm
          refine iteF ?_
          refine iteF ?_
          obtain ⟨j1392, hm9, hm8⟩ := bnd hm
          refine cut_ (fun σ9 H9 => ∃ (T : AS), ∃ (u1393 : Option V), ∃ (u1394 : Option V), σ9 = [some (.ref p_box), some v_programs, u1393, some v1133, some (.ref p1135), u1394] ∧ En K b1140 [(fR zI v_programs p_programs), (fR zI v1133 q1132.1)] [(cL zI p1135 j1392.1), (cBx p_box j1392.2)] T H9) ?_ fun rest => ?_
          · rintro _ H ⟨T, u1393, u1394, rfl, E⟩
            have hm := hm8
            have hj9 := Option.some.inj hm
            subst j1353
            exact rest _ _ ⟨_, _, _, rfl, (En.facts (En.pick E [0, 1] (by decide) rfl) ⟨(E.rd (r := zI) (v := v_programs) (d := p_programs) 0 rfl), (E.rd (r := zI) (v := v1133) (d := q1132.1) 1 rfl), trivial⟩)⟩
          · have hm := hm9
            refine ifs_open ?_
            refine En.test E (et_and (et_test (K := K) (ev_gt (ev_var (i := 5) rfl (E.rd (r := zI) (v := v1142) (d := x1141) 0 rfl)) ev_int)) fun hc1395 => (et_test (K := K) (ev_eqI (ev_var (i := 3) rfl (E.rd (r := zI) (v := v1133) (d := q1132.1) 2 rfl)) ev_int))) fun H E => ?_
            refine iteB (fun hc1402 => ?_) (fun hc1402 => ?_)
            · rw [if_pos hc1402] at hm
              refine drop_open ?_
              refine En.bm (p := p1135) (r := zI) (xs := s1137.1) E rfl 0 rfl ?_
              refine cons_open ?_
              obtain ⟨x1396, h_x1396, hm⟩ := bnd hm
              refine En.runB E (ev_ixL (ev_var (i := 4) rfl (E.clB (r := zI) (p := p1135) (xs := s1137.1) 0 rfl)) (ev_sub (ev_var (i := 5) rfl (E.rdB (r := zI) (v := v1142) (d := x1141) 0 rfl)) ev_int) h_x1396) fun v1397 H E => ?_
              refine nil_open ?_
              obtain ⟨_, hgd1398, hm⟩ := bnd hm
              obtain ⟨d1398, e_d1398, hm⟩ := bnd hm
              refine En.append (r := zI) (p := p1135) (xs := s1137.1) E 0 rfl (E.rd (r := zI) (v := v1397) (d := x1396) 0 rfl) (grd_ok hgd1398) fun H E => ?_
              rw [Option.some.inj e_d1398] at E
              have hj9 := Option.some.inj hm
              subst j1392
              exact rest _ _ ⟨_, _, _, rfl, (En.facts (En.pick E [0, 1] (by decide) rfl) ⟨(E.rd (r := zI) (v := v_programs) (d := p_programs) 2 rfl), (E.rd (r := zI) (v := v1133) (d := q1132.1) 3 rfl), trivial⟩)⟩
            · rw [if_neg (by rw [hc1402]; decide)] at hm
              refine drop_open ?_
              refine En.bm (p := p1135) (r := zI) (xs := s1137.1) E rfl 0 rfl ?_
              refine cons_open ?_
              obtain ⟨q1399, h_q1399, hm⟩ := bnd hm
              refine En.gcall E (ea_cons (ev_var (i := 0) rfl (show zA K _ _ (.ref p_box) p_box from rfl)) (ea_cons (ev_var (i := 1) rfl (E.rd (r := zI) (v := v_programs) (d := p_programs) 1 rfl)) ea_nil)) 1 rfl h_q1399 rfl fun v1400 H E => ?_
              refine nil_open ?_
              obtain ⟨_, hgd1401, hm⟩ := bnd hm
              obtain ⟨d1401, e_d1401, hm⟩ := bnd hm
              refine En.append (r := zI) (p := p1135) (xs := s1137.1) E 0 rfl (E.rd (r := zI) (v := v1400) (d := q1399.1) 0 rfl) (grd_ok hgd1401) fun H E => ?_
              rw [Option.some.inj e_d1401] at E
              have hj9 := Option.some.inj hm
              subst j1392
              exact rest _ _ ⟨_, _, _, rfl, (En.facts (En.pick E [0, 1] (by decide) rfl) ⟨(E.rd (r := zI) (v := v_programs) (d := p_programs) 2 rfl), (E.rd (r := zI) (v := v1133) (d := q1132.1) 3 rfl), trivial⟩)⟩
      · rw [if_neg (by rw [hc1423]; decide)] at hm
        refine iteF ?_
        refine iteF ?_
        obtain ⟨j1412, hm9, hm8⟩ := bnd hm
        refine cut_ (fun σ9 H9 => ∃ (T : AS), ∃ (u1413 : Option V), ∃ (u1414 : Option V), σ9 = [some (.ref p_box), some v_programs, u1413, some v1133, some (.ref p1135), u1414] ∧ En K b1140 [(fR zI v_programs p_programs), (fR zI v1133 q1132.1)] [(cL zI p1135 j1412.1), (cBx p_box j1412.2)] T H9) ?_ fun rest => ?_
        · rintro _ H ⟨T, u1413, u1414, rfl, E⟩
          have hm := hm8
          have hj9 := Option.some.inj hm
          subst j1353
          exact rest _ _ ⟨_, _, _, rfl, (En.facts (En.pick E [0, 1] (by decide) rfl) ⟨(E.rd (r := zI) (v := v_programs) (d := p_programs) 0 rfl), (E.rd (r := zI) (v := v1133) (d := q1132.1) 1 rfl), trivial⟩)⟩
        · have hm := hm9
          refine ifs_open ?_
          refine En.test E (et_and (et_test (K := K) (ev_gt (ev_var (i := 5) rfl (E.rd (r := zI) (v := v1142) (d := x1141) 0 rfl)) ev_int)) fun hc1415 => (et_test (K := K) (ev_eqI (ev_var (i := 3) rfl (E.rd (r := zI) (v := v1133) (d := q1132.1) 2 rfl)) ev_int))) fun H E => ?_
          refine iteB (fun hc1422 => ?_) (fun hc1422 => ?_)
          · rw [if_pos hc1422] at hm
            refine drop_open ?_
            refine En.bm (p := p1135) (r := zI) (xs := s1137.1) E rfl 0 rfl ?_
            refine cons_open ?_
            obtain ⟨x1416, h_x1416, hm⟩ := bnd hm
            refine En.runB E (ev_ixL (ev_var (i := 4) rfl (E.clB (r := zI) (p := p1135) (xs := s1137.1) 0 rfl)) (ev_sub (ev_var (i := 5) rfl (E.rdB (r := zI) (v := v1142) (d := x1141) 0 rfl)) ev_int) h_x1416) fun v1417 H E => ?_
            refine nil_open ?_
            obtain ⟨_, hgd1418, hm⟩ := bnd hm
            obtain ⟨d1418, e_d1418, hm⟩ := bnd hm
            refine En.append (r := zI) (p := p1135) (xs := s1137.1) E 0 rfl (E.rd (r := zI) (v := v1417) (d := x1416) 0 rfl) (grd_ok hgd1418) fun H E => ?_
            rw [Option.some.inj e_d1418] at E
            have hj9 := Option.some.inj hm
            subst j1412
            exact rest _ _ ⟨_, _, _, rfl, (En.facts (En.pick E [0, 1] (by decide) rfl) ⟨(E.rd (r := zI) (v := v_programs) (d := p_programs) 2 rfl), (E.rd (r := zI) (v := v1133) (d := q1132.1) 3 rfl), trivial⟩)⟩
          · rw [if_neg (by rw [hc1422]; decide)] at hm
            refine drop_open ?_
            refine En.bm (p := p1135) (r := zI) (xs := s1137.1) E rfl 0 rfl ?_
            refine cons_open ?_
            obtain ⟨q1419, h_q1419, hm⟩ := bnd hm
            refine En.gcall E (ea_cons (ev_var (i := 0) rfl (show zA K _ _ (.ref p_box) p_box from rfl)) (ea_cons (ev_var (i := 1) rfl (E.rd (r := zI) (v := v_programs) (d := p_programs) 1 rfl)) ea_nil)) 1 rfl h_q1419 rfl fun v1420 H E => ?_
            refine nil_open ?_
            obtain ⟨_, hgd1421, hm⟩ := bnd hm
            obtain ⟨d1421, e_d1421, hm⟩ := bnd hm
            refine En.append (r := zI) (p := p1135) (xs := s1137.1) E 0 rfl (E.rd (r := zI) (v := v1420) (d := q1419.1) 0 rfl) (grd_ok hgd1421) fun H E => ?_
            rw [Option.some.inj e_d1421] at E
            have hj9 := Option.some.inj hm
            subst j1412
            exact rest _ _ ⟨_, _, _, rfl, (En.facts (En.pick E [0, 1] (by decide) rfl) ⟨(E.rd (r := zI) (v := v_programs) (d := p_programs) 2 rfl), (E.rd (r := zI) (v := v1133) (d := q1132.1) 3 rfl), trivial⟩)⟩
  · obtain ⟨u1283, u1284, rfl, E⟩ := hI1143
    replace E := En.back E2 E
    first | refine nx_ ?_ | skip
    replace E := En.freeze (r := zI) (p := p1135) (xs := s1139.1) (cs := [(cBx p_box s1139.2)]) E (by simp [owns])
    refine ret_open ?_
    refine En.run E (ev_var (i := 4) rfl (E.rd (r := (zL zI)) (v := (.ref p1135)) (d := s1139.1) 0 rfl)) fun v9 H E => ?_
    have hr9 := Prod.mk.inj (Option.some.inj hm)
    have hr8 := hr9.1
    have hr7 := hr9.2
    subst res
    subst sres
    exact hQ _ _ (En.fr E) (En.outc E (c := (cBx p_box s1139.2)) 0 rfl) (En.out E (En.at E (f := (fR (zL zI) v9 s1139.1)) 0 rfl))

def m__law_due (p_rows : (List (List Bool))) (p_schedule : (List Int)) : Option (Str × (List Bool)) :=
((grd (((p_schedule).length : Int) ≤ 1000000 ∧ -1000000 ≤ ((p_schedule).length : Int))).bind fun (u1424 : Unit) =>
((mapO (fun (x1425 : Int) =>
((atI p_schedule x1425).bind fun (x1426 : Int) =>
((atI p_rows x1426).bind fun (x1427 : (List Bool)) =>
((atI x1427 x1425).bind fun (x1428 : Bool) =>
some ([x1428]))))) (rng 0 (((p_schedule).length : Int)).toNat)).bind fun (x1429 : (List (List Bool))) =>
((grd ((x1429).flatten.length ≤ 100000)).bind fun (u1430 : Unit) =>
some (("told" : Str), (x1429).flatten))))
abbrev sp__law_due (K : PySem.W.Frag) : Sp := FSp K (aC (zL zW) (aC (zL zI) aN)) (zP zS zW) (fun (a : (List (List Bool)) × (List Int) × Unit) => m__law_due a.1 a.2.1)
theorem ok__law_due (S : Tx K mg)  : Ok P w K mg base 1 ("_law_due", none) ["rows", "schedule"] (sp__law_due K) := by
  obtain ⟨fd, D⟩ := d__law_due S
  refine mk_ok D sc__law_due (D.bindsN fun _ _ _ _ _ _ us hl => match us, hl with | [_, _], _ => rfl) (FSp_len len2) (fun cdv A outer s H00 vs Q E hr h => ?_)
  obtain ⟨T00, ⟨p_rows, p_schedule, _⟩, res, hT, ⟨v_rows, _, rfl, r_rows, v_schedule, _, rfl, r_schedule, rfl⟩, hm, hQ⟩ := h
  refine ⟨_, (pss_one (ps_ret (pe_tup (pa_cons pe_str (pa_cons (ke_join (K := K) pe_str (pe_lc (own := [("k", 2)]) (by rfl) sc__law_due.nd (pi_range1 (by rfl) (m_range S) (pa_cons (pe_callB (kc_len (K := K)) (by rfl) (m_len S) bt_len (pa_cons (pv 1) pa_nil)) pa_nil)) (blkOk_by (N := ["rows", "schedule", "k"]) (sc := defScope s__law_due) (by decide +kernel)) (fun _ _ _ _ _ => pg_name (i := 2) sc__law_due.nd rfl (.inl rfl)) (fun _ _ _ _ _ => pts_nil) (fun _ _ _ _ _ => (pe_ix ix_str (pe_ix (kx_list (K := K)) (pv 0) (pe_ix (kx_list (K := K)) (pv 1) (pv 2) (fun _ _ => rfl)) (fun _ _ => rfl)) (pv 2) (fun _ _ => rfl))))) pa_nil))))), ?_⟩
  have E : En K ⟨T00, [], H00⟩ [(fR (zL zW) v_rows p_rows), (fR (zL zI) v_schedule p_schedule)] [] T00 H00 := En.start hT ⟨r_rows, r_schedule, trivial⟩
  replace hm : m__law_due p_rows p_schedule = some res := hm
  unfold m__law_due at hm
  refine ret_open ?_
  obtain ⟨u1424, h_u1424, hm⟩ := bnd hm
  obtain ⟨x1429, h_x1429, hm⟩ := bnd hm
  obtain ⟨u1430, h_u1430, hm⟩ := bnd hm
  refine En.run E (ev_tup2 E.td (ea_cons ev_str (ea_cons (ev_joinW (ev_word [] (by decide) (by decide)) (ev_lcO1 E.td (ei_range (ea_cons (ev_lenL (ev_var (i := 1) rfl (E.rd (r := (zL zI)) (v := v_schedule) (d := p_schedule) 1 rfl))) ea_nil) (grd_ok h_u1424).1 (grd_ok h_u1424).2) h_x1429 (fun T1425 H1425 v1425 x1425 L1425 hT1425 hx1425 r1425 Q1425 q1425 => q1425 _ wipe1 (fun y1425 hy1425 => by
          obtain ⟨x1426, h_x1426, hy1425⟩ := bnd hy1425; obtain ⟨x1427, h_x1427, hy1425⟩ := bnd hy1425; obtain ⟨x1428, h_x1428, hy1425⟩ := bnd hy1425; cases hy1425; exact (ev_ixW (ev_ixL (ev_var (i := 0) rfl (L1425.ap (E.rd (r := (zL zW)) (v := v_rows) (d := p_rows) 0 rfl))) (ev_ixL (ev_var (i := 1) rfl (L1425.ap (E.rd (r := (zL zI)) (v := v_schedule) (d := p_schedule) 1 rfl))) (ev_var (i := 2) rfl r1425) h_x1426) h_x1427) (ev_var (i := 2) rfl r1425) h_x1428)))) (grd_ok h_u1430)) ea_nil))) fun v1431 H E => ?_
  have hr9 := Option.some.inj hm
  subst res
  exact hQ _ _ (En.isEx E) (En.out E (En.at E (f := (fR (zP zS zW) v1431 (("told" : Str), (x1429).flatten))) 0 rfl))

def m__law_count (p_programs : Int) (p_length : Int) (p_switches : Int) : Option Int :=
(if (decide (p_length = (0 : Int))) = true then
some (1 : Int)
else
((grd (-100000 ≤ (12 : Int) ∧ (12 : Int) ≤ 100000 ∧ ([(0 : Int)] : List Int).length ≤ 100)).bind fun (u1433 : Unit) =>
((grd (([p_programs] : List Int).length + ((List.replicate ((12 : Int)).toNat ([(0 : Int)] : List Int)).flatten).length ≤ 1000000)).bind fun (u1434 : Unit) =>
((some (([p_programs] : List Int) ++ (List.replicate ((12 : Int)).toNat ([(0 : Int)] : List Int)).flatten)).bind fun (d1435 : List Int) =>
((grd (p_length ≤ 1000000 ∧ -1000000 ≤ p_length ∧ (1 : Int) ≤ 1000000 ∧ 0 ≤ (1 : Int))).bind fun (u1437 : Unit) =>
((forP (fun (s1438 : (List Int)) (x1442 : Int) =>
((grd (([(0 : Int)] : List Int).length + s1438.length ≤ 1000000)).bind fun (u1459 : Unit) =>
((some (([(0 : Int)] : List Int) ++ s1438)).bind fun (d1460 : List Int) =>
((mapO (fun (x1462 : Int) =>
((atI s1438 x1462).bind fun (x1463 : Int) =>
((atI d1460 x1462).bind fun (x1464 : Int) =>
((grd (CMulV (p_programs - (1 : Int)) x1464)).bind fun (u1465 : Unit) =>
some (x1463 + ((p_programs - (1 : Int)) * x1464)))))) (rng 0 ((13 : Int)).toNat)).bind fun (x1466 : (List Int)) =>
some x1466)))) d1435 (rng (1 : Int) (p_length - (1 : Int)).toNat)).bind fun (s1440 : (List Int)) =>
some (((cutA s1440 none (some (p_switches + (1 : Int))))).sum)))))))
abbrev sp__law_count (K : PySem.W.Frag) : Sp := FSp K (aC zI (aC zI (aC zI aN))) zI (fun (a : Int × Int × Int × Unit) => m__law_count a.1 a.2.1 a.2.2.1)
theorem ok__law_count (S : Tx K mg)  : Ok P w K mg base 1 ("_law_count", none) ["programs", "length", "switches"] (sp__law_count K) := by
  obtain ⟨fd, D⟩ := d__law_count S
  refine mk_ok D sc__law_count (D.bindsN fun _ _ _ _ _ _ us hl => match us, hl with | [_, _, _], _ => rfl) (FSp_len len3) (fun cdv A outer s H00 vs Q E hr h => ?_)
  obtain ⟨T00, ⟨p_programs, p_length, p_switches, _⟩, res, hT, ⟨v_programs, _, rfl, r_programs, v_length, _, rfl, r_length, v_switches, _, rfl, r_switches, rfl⟩, hm, hQ⟩ := h
  refine ⟨_, (pss_cons (ps_if (pt_cmpR op_eq (pv 1) pe_int (nomark _)) (pss_one (ps_ret pe_int)) pss_nil) (pss_cons (ps_set (i := 3) sc__law_count.nd rfl (.inr rfl) (pe_op op_cat (pe_lst (pa_cons (pv 0) pa_nil)) (pe_op op_rep (pe_lst (pa_cons pe_int pa_nil)) pe_int))) (pss_cons (ps_for PassesOwn.never rfl (pi_range2 (by rfl) (m_range S) (pa_cons pe_int (pa_cons (pv 1) pa_nil))) (pg_name (i := 4) sc__law_count.nd rfl (.inl rfl)) (pss_cons (ps_set (i := 5) sc__law_count.nd rfl (.inr rfl) (pe_op op_cat (pe_lst (pa_cons pe_int pa_nil)) (pv 3))) (pss_one (ps_set (i := 3) sc__law_count.nd rfl (.inr rfl) (pe_lc (own := [("u", 6)]) (by rfl) sc__law_count.nd (pi_range1 (by rfl) (m_range S) (pa_cons pe_int pa_nil)) (blkOk_by (N := ["programs", "length", "switches", "ways_v", "k", "less", "u"]) (sc := defScope s__law_count) (by decide +kernel)) (fun _ _ _ _ _ => pg_name (i := 6) sc__law_count.nd rfl (.inl rfl)) (fun _ _ _ _ _ => pts_nil) (fun _ _ _ _ _ => (pe_op op_add (pe_ix (kx_list (K := K)) (pv 3) (pv 6) (fun _ _ => rfl)) (pe_op op_mulV (pe_op op_sub (pv 0) pe_int) (pe_ix (kx_list (K := K)) (pv 5) (pv 6) (fun _ _ => rfl)))))))))) (pss_one (ps_ret (pe_callB (kr_sum (K := K) rfl) (by rfl) (m_sum S) bt_sum (pa_cons (pe_slice (ks_list (K := K)) (pv 3) po_none (po_some (pe_op op_add (pv 2) pe_int))) pa_nil))))))), ?_⟩
  have E : En K ⟨T00, [], H00⟩ [(fR zI v_programs p_programs), (fR zI v_length p_length), (fR zI v_switches p_switches)] [] T00 H00 := En.start hT ⟨r_programs, r_length, r_switches, trivial⟩
  replace hm : m__law_count p_programs p_length p_switches = some res := hm
  unfold m__law_count at hm
  refine ifs_open ?_
  refine En.test E (et_test (K := K) (ev_eqI (ev_var (i := 1) rfl (E.rd (r := zI) (v := v_length) (d := p_length) 1 rfl)) ev_int)) fun H E => ?_
  refine iteB (fun hc1469 => ?_) (fun hc1469 => ?_)
  · rw [if_pos hc1469] at hm
    refine ret_open ?_
    refine En.run E ev_int fun v1432 H E => ?_
    have hr9 := Option.some.inj hm
    subst res
    exact hQ _ _ (En.isEx E) (En.out E (En.at E (f := (fR zI v1432 (1 : Int))) 0 rfl))
  · rw [if_neg (by rw [hc1469]; decide)] at hm
    first | refine nx_ ?_ | skip
    refine asg_open ?_
    obtain ⟨u1433, h_u1433, hm⟩ := bnd hm
    obtain ⟨u1434, h_u1434, hm⟩ := bnd hm
    obtain ⟨d1435, e_d1435, hm⟩ := bnd hm
    refine En.newL (r := zI) E (EvF.to (ef_cat (eh_F (ef_lst (xs := [p_programs]) (eh_cons (ev_var (i := 0) rfl (E.rd (r := zI) (v := v_programs) (d := p_programs) 0 rfl)) eh_nil) (Nat.le_of_ble_eq_true rfl))) (eh_F (ef_rep (eh_F (ef_lst (xs := [(0 : Int)]) (eh_cons ev_int eh_nil) (Nat.le_of_ble_eq_true rfl))) ev_int (grd_ok h_u1433))) (grd_ok h_u1434)) (Option.some.inj e_d1435)) fun p1436 H E => ?_
    first | refine nx_ ?_ | skip
    obtain ⟨u1437, h_u1437, hm⟩ := bnd hm
    obtain ⟨s1440, h_s1440, hm⟩ := bnd hm
    refine En.forP (K := K) (fun (b1441 : Bs) (s1438 : (List Int)) (T : AS) (σ9 : L2.St) (H9 : Hp) => ∃ (u1454 : Option V), ∃ (p1455 : Addr), ∃ (u1456 : Option V), ∃ (u1457 : Option V), ∃ (u1458 : Option V), σ9 = [some v_programs, u1454, some v_switches, some (.ref p1455), u1456, u1457, u1458] ∧ En K b1441 [(fR zI v_programs p_programs), (fR zI v_switches p_switches)] [(cL zI p1455 s1438)] T H9) E (ei_range2 (ea_cons ev_int (ea_cons (ev_var (i := 1) rfl (E.rd (r := zI) (v := v_length) (d := p_length) 2 rfl)) ea_nil)) (grd_ok h_u1437).1 (grd_ok h_u1437).2.1 (grd_ok h_u1437).2.2.1 (grd_ok h_u1437).2.2.2) h_s1440 (fun H E => ⟨_, p1436, _, _, _, rfl, (En.facts (En.pick E [0] (by decide) rfl) ⟨(E.rd (r := zI) (v := v_programs) (d := p_programs) 1 rfl), (E.rd (r := zI) (v := v_switches) (d := p_switches) 3 rfl), trivial⟩)⟩) (by rintro _ _ _ _ _ ⟨u1454, p1455, u1456, u1457, u1458, rfl, E⟩; exact ⟨En.wd E, En.td E⟩) (fun b1441 s1438 x1442 o1439 T _ H1 H v1443 D1444 hx1444 hI1444 ex1444 hr1444 hm hrt1444 hn1444 => ?_) (fun H2 T _ H E2 hI1444 => ?_)
    · obtain ⟨u1454, p1455, u1456, u1457, u1458, rfl, E⟩ := hI1444
      replace E := En.add (f := (fR zI v1443 x1442)) (En.ex E ex1444) hr1444
      refine gn ?_
      refine asg_open ?_
      obtain ⟨u1459, h_u1459, hm⟩ := bnd hm
      obtain ⟨d1460, e_d1460, hm⟩ := bnd hm
      refine En.newLB (r := zI) E (EvF.to (ef_cat (eh_F (ef_lst (xs := [(0 : Int)]) (eh_cons ev_int eh_nil) (Nat.le_of_ble_eq_true rfl))) (E.ehB (r := zI) (p := p1455) (xs := s1438) (i := 3) 0 rfl rfl) (grd_ok h_u1459)) (Option.some.inj e_d1460)) fun p1461 H E => ?_
      first | refine nx_ ?_ | skip
      refine asg_open ?_
      obtain ⟨x1466, h_x1466, hm⟩ := bnd hm
      refine En.viaB (r := zI) (xs := x1466) (fs' := [(fR (zL zI) (.ref p1461) d1460), (fR (zL zI) (.ref p1455) s1438), (fR zA (.ref p1461) p1461), (fR zI v1443 x1442), (fR zI v_programs p_programs), (fR zI v_switches p_switches)]) E ⟨(E.clB (r := zI) (p := p1461) (xs := d1460) 0 rfl), (E.clB (r := zI) (p := p1455) (xs := s1438) 1 rfl), (E.atB (f := (fR zA (.ref p1461) p1461)) 0 rfl), (E.atB (f := (fR zI v1443 x1442)) 1 rfl), (E.atB (f := (fR zI v_programs p_programs)) 2 rfl), (E.atB (f := (fR zI v_switches p_switches)) 3 rfl), trivial⟩ (fun Q9 E q9 => En.lcP E (ei_range (ea_cons ev_int ea_nil) (by decide) (by decide)) h_x1466 (fun T1462 H1462 v1462 x1462 L1462 hT1462 hx1462 r1462 Q1462 q1462 => q1462 _ wipe1 (fun y1462 hy1462 => by
          obtain ⟨x1463, h_x1463, hy1462⟩ := bnd hy1462; obtain ⟨x1464, h_x1464, hy1462⟩ := bnd hy1462; obtain ⟨u1465, h_u1465, hy1462⟩ := bnd hy1462; cases hy1462; exact (ev_add (ev_ixL (ev_var (i := 3) rfl (L1462.ap (E.rd (r := (zL zI)) (v := (.ref p1455)) (d := s1438) 1 rfl))) (ev_var (i := 6) rfl r1462) h_x1463) (ev_mulV (ev_sub (ev_var (i := 0) rfl (L1462.ap (E.rd (r := zI) (v := v_programs) (d := p_programs) 4 rfl))) ev_int) (ev_ixL (ev_var (i := 5) rfl (L1462.ap (E.rd (r := (zL zI)) (v := (.ref p1461)) (d := d1460) 0 rfl))) (ev_var (i := 6) rfl r1462) h_x1464) (grd_ok h_u1465))))) fun p9 H9 E9 => q9 p9 H9 _ E9) fun p1467 H E => ?_
      have hj9 := Option.some.inj hm
      subst o1439
      exact (hn1444 _ _ _ ⟨_, p1467, _, _, _, rfl, (En.facts (En.pick E [0] (by decide) rfl) ⟨(E.rd (r := zI) (v := v_programs) (d := p_programs) 3 rfl), (E.rd (r := zI) (v := v_switches) (d := p_switches) 4 rfl), trivial⟩)⟩).1
    · obtain ⟨u1454, p1455, u1456, u1457, u1458, rfl, E⟩ := hI1444
      replace E := En.back E2 E
      first | refine nx_ ?_ | skip
      replace E := En.freeze (r := zI) (p := p1455) (xs := s1440) (cs := []) E (by simp [owns])
      refine ret_open ?_
      refine En.run E (ev_sum (ev_slL E.td (ev_var (i := 3) rfl (E.rd (r := (zL zI)) (v := (.ref p1455)) (d := s1440) 0 rfl)) eo_none (eo_some (K := K) (ev_add (ev_var (i := 2) rfl (E.rd (r := zI) (v := v_switches) (d := p_switches) 2 rfl)) ev_int)))) fun v1468 H E => ?_
      have hr9 := Option.some.inj hm
      subst res
      exact hQ _ _ (En.isEx E) (En.out E (En.at E (f := (fR zI v1468 (((cutA s1440 none (some (p_switches + (1 : Int))))).sum))) 0 rfl))

def m__law_wrong_schedule (p_programs : Int) (p_good : (List Int)) (s00 : Bx) : Option (PyData × Bx) :=
((some ((p_good.map (Tod.toD zI)))).bind fun (d1470 : List PyData) =>
((m__law_draw (5 : Int) s00).bind fun (q1472 : Int × Bx) =>
((m__law_draw (mx2 (1 : Int) ((p_good).length : Int)) q1472.2).bind fun (q1474 : Int × Bx) =>
((some ([(PyData.int p_programs), (PyData.int (-(1 : Int))), PyData.none, (PyData.bool true), (PyData.bool false), (PyData.str (wS ([false] : List Bool))), (PyData.tuple ([(PyData.int (0 : Int))])), (PyData.list ([(PyData.int (0 : Int))])), (PyData.int (1000 : Int)), (PyData.int (p_programs + (4 : Int)))])).bind fun (d1477 : (List PyData)) =>
(if (decide (q1472.1 = (0 : Int))) = true then
((some ([PyData.none, (PyData.bool true), (PyData.int (5 : Int)), (PyData.str ("01x" : Str)), (PyData.list ([(Tod.toD (zL zI) p_good)]))])).bind fun (d1479 : (List PyData)) =>
((m__law_draw (5 : Int) q1474.2).bind fun (q1480 : Int × Bx) =>
((atI d1479 q1480.1).bind fun (x1482 : PyData) =>
some (x1482, q1480.2))))
else
(((if ((decide (q1472.1 = (1 : Int))) && (decide ((0 : Int) < ((p_good).length : Int)))) = true then
((m__law_draw (10 : Int) q1474.2).bind fun (q1584 : Int × Bx) =>
((atI d1477 q1584.1).bind fun (x1586 : PyData) =>
((setO d1470 q1474.1 x1586).bind fun (d1588 : List PyData) =>
some (d1588, q1584.2))))
else
(((if ((decide (q1472.1 = (2 : Int))) && (decide ((0 : Int) < ((p_good).length : Int)))) = true then
((popAtO d1470 q1474.1).bind fun (q1636 : PyData × List PyData) =>
some (q1636.2, q1474.2))
else
(((if ((decide (q1472.1 = (3 : Int))) && (decide ((0 : Int) < ((p_good).length : Int)))) = true then
((m__law_draw (10 : Int) q1474.2).bind fun (q1660 : Int × Bx) =>
((atI d1477 q1660.1).bind fun (x1662 : PyData) =>
((setO d1470 q1474.1 x1662).bind fun (d1664 : List PyData) =>
((some (PyData.int (0 : Int))).bind fun (d1666 : PyData) =>
((grd (d1664.length < 1000000)).bind fun (_ : Unit) =>
((some (d1664 ++ [d1666])).bind fun (d1667 : List PyData) =>
some (d1667, q1660.2)))))))
else
((m__law_draw p_programs q1474.2).bind fun (q1668 : Int × Bx) =>
((grd (d1470.length < 1000000)).bind fun (_ : Unit) =>
((some (d1470 ++ [(PyData.int q1668.1)])).bind fun (d1670 : List PyData) =>
some (d1670, q1668.2)))))).bind fun (j1652 : (List PyData) × Bx) =>
some (j1652.1, j1652.2)))).bind fun (j1628 : (List PyData) × Bx) =>
some (j1628.1, j1628.2)))).bind fun (j1576 : (List PyData) × Bx) =>
((m__law_draw (2 : Int) j1576.2).bind fun (q1674 : Int × Bx) =>
((some (decide (q1674.1 = (0 : Int)))).bind fun (d1678 : Bool) =>
(if d1678 = true then
some ((PyData.tuple j1576.1), q1674.2)
else
some ((PyData.list j1576.1), q1674.2))))))))))
abbrev sp__law_wrong_schedule (K : PySem.W.Frag) : Sp := GSp K (aC zA (aC zI (aC (zL zI) aN))) (fun (a : Addr × Int × (List Int) × Unit) (s : Bx) => cBx a.1 s) zD (fun (a : Addr × Int × (List Int) × Unit) (s : Bx) => m__law_wrong_schedule a.2.1 a.2.2.1 s)
theorem ok__law_wrong_schedule (S : Tx K mg) (G__law_draw : Ok P w K mg base 1 ("_law_draw", none) ["box", "many"] (sp__law_draw K)) : Ok P w K mg base 2 ("_law_wrong_schedule", none) ["box", "programs", "good"] (sp__law_wrong_schedule K) := by
  obtain ⟨fd, D⟩ := d__law_wrong_schedule S
  refine mk_ok D sc__law_wrong_schedule (D.bindsN fun _ _ _ _ _ _ us hl => match us, hl with | [_, _, _], _ => rfl) (GSp_len len3) (fun cdv A outer s H00 vs Q E hr h => ?_)
  obtain ⟨T00, ⟨p_box, p_programs, p_good, _⟩, s00, res, sres, hT, ⟨v_box, _, rfl, r_box, v_programs, _, rfl, r_programs, v_good, _, rfl, r_good, rfl⟩, hc, hTc, hnd, hm, hQ⟩ := h
  obtain rfl : v_box = .ref p_box := r_box
  refine ⟨_, (pss_cons (ps_set (i := 3) sc__law_wrong_schedule.nd rfl (.inl rfl) (pe_callTy (kc_list (K := K)) (by rfl) (m_list S) bt_list (pa_cons (pv 2) pa_nil))) (pss_cons (ps_set (i := 4) sc__law_wrong_schedule.nd rfl (.inl rfl) (pe_callG G__law_draw hr (by omega) (by rfl) (g__law_draw S) (pa_cons (pv 0) (pa_cons pe_int pa_nil)))) (pss_cons (ps_set (i := 5) sc__law_wrong_schedule.nd rfl (.inl rfl) (pe_callG G__law_draw hr (by omega) (by rfl) (g__law_draw S) (pa_cons (pv 0) (pa_cons (pe_callB call_max2Q (by rfl) (m_max S) bt_max (pa_cons pe_int (pa_cons (pe_callB (kc_len (K := K)) (by rfl) (m_len S) bt_len (pa_cons (pv 2) pa_nil)) pa_nil))) pa_nil)))) (pss_cons (ps_set (i := 6) sc__law_wrong_schedule.nd rfl (.inl rfl) (pe_tup (pa_cons (pv 1) (pa_cons (pe_un un_neg pe_int) (pa_cons pe_non (pa_cons pe_bl (pa_cons pe_bl (pa_cons pe_str (pa_cons (pe_tup (pa_cons pe_int pa_nil)) (pa_cons (pe_lst (pa_cons pe_int pa_nil)) (pa_cons pe_int (pa_cons (pe_op op_add (pv 1) pe_int) pa_nil)))))))))))) (pss_cons (ps_if (pt_cmpR op_eq (pv 4) pe_int (nomark _)) (pss_one (ps_ret (pe_ix (kx_tup (K := K)) (pe_tup (pa_cons pe_non (pa_cons pe_bl (pa_cons pe_int (pa_cons pe_str (pa_cons (pe_lst (pa_cons (pe_callTy (kc_list (K := K)) (by rfl) (m_list S) bt_list (pa_cons (pv 2) pa_nil)) pa_nil)) pa_nil)))))) (pe_callG G__law_draw hr (by omega) (by rfl) (g__law_draw S) (pa_cons (pv 0) (pa_cons pe_int pa_nil))) (fun _ _ => rfl)))) pss_nil) (pss_cons (ps_if (PW.pt (pw_and (pt_cmpR op_eq (pv 4) pe_int (nomark _)) (pw_and1 (pt_cmpR op_gt (pe_callB (kc_len (K := K)) (by rfl) (m_len S) bt_len (pa_cons (pv 2) pa_nil)) pe_int (nomark _))))) (pss_one (ps_asg (pe_ix (kx_tup (K := K)) (pv 6) (pe_callG G__law_draw hr (by omega) (by rfl) (g__law_draw S) (pa_cons (pv 0) (pa_cons pe_int pa_nil))) (fun _ _ => rfl)) (pg_sub (pv 3) (pv 5) set_list))) (pss_one (ps_if (PW.pt (pw_and (pt_cmpR op_eq (pv 4) pe_int (nomark _)) (pw_and1 (pt_cmpR op_gt (pe_callB (kc_len (K := K)) (by rfl) (m_len S) bt_len (pa_cons (pv 2) pa_nil)) pe_int (nomark _))))) (pss_one (ps_expr (pe_bm PySem.F.plainAttrs_list PySem.F.slot_list_pop PySem.F.type_list_pop mt_popAt (pv 3) (pa_cons (pv 5) pa_nil)))) (pss_one (ps_if (PW.pt (pw_and (pt_cmpR op_eq (pv 4) pe_int (nomark _)) (pw_and1 (pt_cmpR op_gt (pe_callB (kc_len (K := K)) (by rfl) (m_len S) bt_len (pa_cons (pv 2) pa_nil)) pe_int (nomark _))))) (pss_cons (ps_asg (pe_ix (kx_tup (K := K)) (pv 6) (pe_callG G__law_draw hr (by omega) (by rfl) (g__law_draw S) (pa_cons (pv 0) (pa_cons pe_int pa_nil))) (fun _ _ => rfl)) (pg_sub (pv 3) (pv 5) set_list)) (pss_one (ps_expr (pe_bm PySem.F.plainAttrs_list PySem.F.slot_list_append PySem.F.type_list_append mt_append (pv 3) (pa_cons pe_int pa_nil))))) (pss_one (ps_expr (pe_bm PySem.F.plainAttrs_list PySem.F.slot_list_append PySem.F.type_list_append mt_append (pv 3) (pa_cons (pe_callG G__law_draw hr (by omega) (by rfl) (g__law_draw S) (pa_cons (pv 0) (pa_cons (pv 1) pa_nil))) pa_nil))))))))) (pss_cons (ps_if (pt_cmpR op_eq (pe_callG G__law_draw hr (by omega) (by rfl) (g__law_draw S) (pa_cons (pv 0) (pa_cons pe_int pa_nil))) pe_int (nomark _)) (pss_one (ps_ret (pe_callTy (kc_tuple (K := K)) (by rfl) (m_tuple S) bt_tuple (pa_cons (pv 3) pa_nil)))) pss_nil) (pss_one (ps_ret (pv 3)))))))))), ?_⟩
  have E : En K ⟨T00, [p_box], H00⟩ [(fR zI v_programs p_programs), (fR (zL zI) v_good p_good)] [(cBx p_box s00)] T00 H00 := En.start1 (c := (cBx p_box s00)) hT ⟨r_programs, r_good, trivial⟩ hc hTc hnd
  replace hm : m__law_wrong_schedule p_programs p_good s00 = some (res, sres) := hm
  unfold m__law_wrong_schedule at hm
  refine asg_open ?_
  obtain ⟨d1470, e_d1470, hm⟩ := bnd hm
  refine En.newL (r := zD) E (EvF.to (ef_listL (ev_LD (ev_var (i := 2) rfl (E.rd (r := (zL zI)) (v := v_good) (d := p_good) 1 rfl)))) (Option.some.inj e_d1470)) fun p1471 H E => ?_
  first | refine nx_ ?_ | skip
  refine asg_open ?_
  obtain ⟨q1472, h_q1472, hm⟩ := bnd hm
  refine En.gcall E (ea_cons (ev_var (i := 0) rfl (show zA K _ _ (.ref p_box) p_box from rfl)) (ea_cons ev_int ea_nil)) 1 rfl h_q1472 rfl fun v1473 H E => ?_
  first | refine nx_ ?_ | skip
  refine asg_open ?_
  obtain ⟨q1474, h_q1474, hm⟩ := bnd hm
  refine En.gcall E (ea_cons (ev_var (i := 0) rfl (show zA K _ _ (.ref p_box) p_box from rfl)) (ea_cons (ev_max2 ev_int (ev_lenL (ev_var (i := 2) rfl (E.rd (r := (zL zI)) (v := v_good) (d := p_good) 3 rfl)))) ea_nil)) 1 rfl h_q1474 rfl fun v1475 H E => ?_
  first | refine nx_ ?_ | skip
  refine asg_open ?_
  obtain ⟨d1477, e_d1477, hm⟩ := bnd hm
  refine En.run E (Ev.to (ev_tupU (r := zD) (xs := [(PyData.int p_programs), (PyData.int (-(1 : Int))), PyData.none, (PyData.bool true), (PyData.bool false), (PyData.str (wS ([false] : List Bool))), (PyData.tuple ([(PyData.int (0 : Int))])), (PyData.list ([(PyData.int (0 : Int))])), (PyData.int (1000 : Int)), (PyData.int (p_programs + (4 : Int)))]) E.td (eh_cons (ev_toD (ev_var (i := 1) rfl (E.rd (r := zI) (v := v_programs) (d := p_programs) 3 rfl))) (eh_cons (ev_toD (ev_neg ev_int)) (eh_cons (ev_toD ev_non) (eh_cons (ev_toD ev_bl) (eh_cons (ev_toD ev_bl) (eh_cons (ev_toD (ev_word [false] (by decide) (by decide))) (eh_cons (ev_toDU (ev_tupU (r := zD) (xs := [(PyData.int (0 : Int))]) E.td (eh_cons (ev_toD ev_int) eh_nil) (Nat.le_of_ble_eq_true rfl))) (eh_cons (ev_toDL (ev_lst (r := zD) (xs := [(PyData.int (0 : Int))]) E.td (eh_cons (ev_toD ev_int) eh_nil) (Nat.le_of_ble_eq_true rfl))) (eh_cons (ev_toD ev_int) (eh_cons (ev_toD (ev_add (ev_var (i := 1) rfl (E.rd (r := zI) (v := v_programs) (d := p_programs) 3 rfl)) ev_int)) eh_nil)))))))))) (Nat.le_of_ble_eq_true rfl)) (Option.some.inj e_d1477)) fun v1476 H E => ?_
  first | refine nx_ ?_ | skip
  refine ifs_open ?_
  refine En.test E (et_test (K := K) (ev_eqI (ev_var (i := 4) rfl (E.rd (r := zI) (v := v1473) (d := q1472.1) 2 rfl)) ev_int)) fun H E => ?_
  refine iteB (fun hc1682 => ?_) (fun hc1682 => ?_)
  · rw [if_pos hc1682] at hm
    refine ret_open ?_
    refine op_open ?_
    obtain ⟨d1479, e_d1479, hm⟩ := bnd hm
    refine En.run E (Ev.to (ev_tupU (r := zD) (xs := [PyData.none, (PyData.bool true), (PyData.int (5 : Int)), (PyData.str ("01x" : Str)), (PyData.list ([(Tod.toD (zL zI) p_good)]))]) E.td (eh_cons (ev_toD ev_non) (eh_cons (ev_toD ev_bl) (eh_cons (ev_toD ev_int) (eh_cons (ev_toD ev_str) (eh_cons (ev_toDL (ev_lst (r := zD) (xs := [(Tod.toD (zL zI) p_good)]) E.td (eh_cons (ev_toD (ev_listL E.td (ev_var (i := 2) rfl (E.rd (r := (zL zI)) (v := v_good) (d := p_good) 5 rfl)))) eh_nil) (Nat.le_of_ble_eq_true rfl))) eh_nil))))) (Nat.le_of_ble_eq_true rfl)) (Option.some.inj e_d1479)) fun v1478 H E => ?_
    obtain ⟨q1480, h_q1480, hm⟩ := bnd hm
    refine En.gcall E (ea_cons (ev_var (i := 0) rfl (show zA K _ _ (.ref p_box) p_box from rfl)) (ea_cons ev_int ea_nil)) 1 rfl h_q1480 rfl fun v1481 H E => ?_
    refine of_op ?_
    obtain ⟨x1482, h_x1482, hm⟩ := bnd hm
    refine En.run E (ev_ixU (ev_var (i := 0) rfl (E.rd (r := (zU zD)) (v := v1478) (d := d1479) 1 rfl)) (ev_var (i := 1) rfl (E.rd (r := zI) (v := v1481) (d := q1480.1) 0 rfl)) h_x1482) fun v1483 H E => ?_
    have hr9 := Prod.mk.inj (Option.some.inj hm)
    have hr8 := hr9.1
    have hr7 := hr9.2
    subst res
    subst sres
    exact hQ _ _ (En.fr E) (En.outc E (c := (cBx p_box q1480.2)) 1 rfl) (En.out E (En.at E (f := (fR zD v1483 x1482)) 0 rfl))
  · rw [if_neg (by rw [hc1682]; decide)] at hm
    first | refine nx_ ?_ | skip
    obtain ⟨j1576, hm9, hm8⟩ := bnd hm
    refine seq_open ?_
    refine cut_ (fun σ9 H9 => ∃ (T : AS), ∃ (u1577 : Option V), ∃ (u1578 : Option V), ∃ (u1579 : Option V), ∃ (u1580 : Option V), ∃ (u1581 : Option V), σ9 = [some (.ref p_box), u1577, u1578, some (.ref p1471), u1579, u1580, u1581] ∧ En K ⟨T00, [p_box], H00⟩ [] [(cL zD p1471 j1576.1), (cBx p_box j1576.2)] T H9) ?_ fun rest => ?_
    · rintro _ H ⟨T, u1577, u1578, u1579, u1580, u1581, rfl, E⟩
      have hm := hm8
      first | refine nx_ ?_ | skip
      refine ifs_open ?_
      refine test_open ?_
      refine op_open ?_
      obtain ⟨q1674, h_q1674, hm⟩ := bnd hm
      refine En.gcall E (ea_cons (ev_var (i := 0) rfl (show zA K _ _ (.ref p_box) p_box from rfl)) (ea_cons ev_int ea_nil)) 1 rfl h_q1674 rfl fun v1675 H E => ?_
      refine En.run E ev_int fun v1676 H E => ?_
      refine of_op ?_
      obtain ⟨d1678, e_d1678, hm⟩ := bnd hm
      refine En.run E (Ev.to (ev_eqI (ev_var (i := 0) rfl (E.rd (r := zI) (v := v1675) (d := q1674.1) 1 rfl)) (ev_var (i := 1) rfl (E.rd (r := zI) (v := v1676) (d := (0 : Int)) 0 rfl))) (Option.some.inj e_d1678)) fun v1677 H E => ?_
      refine tb2 (E.rd (r := zB) (v := v1677) (d := d1678) 0 rfl) (fun hc1681 => ?_) (fun hc1681 => ?_)
      · rw [if_pos hc1681] at hm
        refine iteT ?_
        replace E := En.freeze (r := zD) (p := p1471) (xs := j1576.1) (cs := [(cBx p_box q1674.2)]) E (by simp [owns])
        refine ret_open ?_
        refine En.run E (ev_toDU (ev_tupL E.td (ev_var (i := 3) rfl (E.rd (r := (zL zD)) (v := (.ref p1471)) (d := j1576.1) 0 rfl)))) fun v1679 H E => ?_
        have hr9 := Prod.mk.inj (Option.some.inj hm)
        have hr8 := hr9.1
        have hr7 := hr9.2
        subst res
        subst sres
        exact hQ _ _ (En.fr E) (En.outc E (c := (cBx p_box q1674.2)) 0 rfl) (En.out E (En.at E (f := (fR zD v1679 (PyData.tuple j1576.1))) 0 rfl))
      · rw [if_neg (by rw [hc1681]; decide)] at hm
        refine iteF ?_
        first | refine nx_ ?_ | skip
        replace E := En.freeze (r := zD) (p := p1471) (xs := j1576.1) (cs := [(cBx p_box q1674.2)]) E (by simp [owns])
        refine ret_open ?_
        refine En.run E (ev_toDL (ev_var (i := 3) rfl (E.rd (r := (zL zD)) (v := (.ref p1471)) (d := j1576.1) 0 rfl))) fun v1680 H E => ?_
        have hr9 := Prod.mk.inj (Option.some.inj hm)
        have hr8 := hr9.1
        have hr7 := hr9.2
        subst res
        subst sres
        exact hQ _ _ (En.fr E) (En.outc E (c := (cBx p_box q1674.2)) 0 rfl) (En.out E (En.at E (f := (fR zD v1680 (PyData.list j1576.1))) 0 rfl))
    · have hm := hm9
      refine ifs_open ?_
      refine En.test E (et_and (et_test (K := K) (ev_eqI (ev_var (i := 4) rfl (E.rd (r := zI) (v := v1473) (d := q1472.1) 2 rfl)) ev_int)) fun hc1582 => (et_test (K := K) (ev_gt (ev_lenL (ev_var (i := 2) rfl (E.rd (r := (zL zI)) (v := v_good) (d := p_good) 5 rfl))) ev_int))) fun H E => ?_
      refine iteB (fun hc1673 => ?_) (fun hc1673 => ?_)
      · rw [if_pos hc1673] at hm
        refine asgt_open ?_
        refine op_open ?_
        refine En.run E (ev_var (i := 6) rfl (E.rd (r := (zU zD)) (v := v1476) (d := d1477) 0 rfl)) fun v1583 H E => ?_
        obtain ⟨q1584, h_q1584, hm⟩ := bnd hm
        refine En.gcall E (ea_cons (ev_var (i := 0) rfl (show zA K _ _ (.ref p_box) p_box from rfl)) (ea_cons ev_int ea_nil)) 1 rfl h_q1584 rfl fun v1585 H E => ?_
        refine of_op ?_
        obtain ⟨x1586, h_x1586, hm⟩ := bnd hm
        refine En.run E (ev_ixU (ev_var (i := 0) rfl (E.rd (r := (zU zD)) (v := v1583) (d := d1477) 1 rfl)) (ev_var (i := 1) rfl (E.rd (r := zI) (v := v1585) (d := q1584.1) 0 rfl)) h_x1586) fun v1587 H E => ?_
        obtain ⟨d1588, e_d1588, hm⟩ := bnd hm
        refine En.setitem (r := zD) (p := p1471) (xs := d1470) E rfl 0 rfl (E.rd (r := zD) (v := v1587) (d := x1586) 0 rfl) (ev_var (i := 5) rfl (E.rd (r := zI) (v := v1475) (d := q1474.1) 4 rfl)) e_d1588 fun H E => ?_
        have hj9 := Option.some.inj hm
        subst j1576
        exact rest _ _ ⟨_, _, _, _, _, _, rfl, (En.facts (En.pick E [0, 1] (by decide) rfl) trivial)⟩
      · rw [if_neg (by rw [hc1673]; decide)] at hm
        obtain ⟨j1628, hm9, hm8⟩ := bnd hm
        refine cut_ (fun σ9 H9 => ∃ (T : AS), ∃ (u1629 : Option V), ∃ (u1630 : Option V), ∃ (u1631 : Option V), ∃ (u1632 : Option V), ∃ (u1633 : Option V), σ9 = [some (.ref p_box), u1629, u1630, some (.ref p1471), u1631, u1632, u1633] ∧ En K ⟨T00, [p_box], H00⟩ [] [(cL zD p1471 j1628.1), (cBx p_box j1628.2)] T H9) ?_ fun rest => ?_
        · rintro _ H ⟨T, u1629, u1630, u1631, u1632, u1633, rfl, E⟩
          have hm := hm8
          have hj9 := Option.some.inj hm
          subst j1576
          exact rest _ _ ⟨_, _, _, _, _, _, rfl, (En.facts (En.pick E [0, 1] (by decide) rfl) trivial)⟩
        · have hm := hm9
          refine ifs_open ?_
          refine En.test E (et_and (et_test (K := K) (ev_eqI (ev_var (i := 4) rfl (E.rd (r := zI) (v := v1473) (d := q1472.1) 2 rfl)) ev_int)) fun hc1634 => (et_test (K := K) (ev_gt (ev_lenL (ev_var (i := 2) rfl (E.rd (r := (zL zI)) (v := v_good) (d := p_good) 5 rfl))) ev_int))) fun H E => ?_
          refine iteB (fun hc1672 => ?_) (fun hc1672 => ?_)
          · rw [if_pos hc1672] at hm
            refine drop_open ?_
            refine En.bm (p := p1471) (r := zD) (xs := d1470) E rfl 0 rfl ?_
            refine cons_open ?_
            refine En.run E (ev_var (i := 5) rfl (E.rd (r := zI) (v := v1475) (d := q1474.1) 1 rfl)) fun v1635 H E => ?_
            refine nil_open ?_
            obtain ⟨q1636, h_q1636, hm⟩ := bnd hm
            obtain rfl : v1635 = .int q1474.1 := E.at (f := (fR zI v1635 q1474.1)) 0 rfl
            refine En.popAt (r := zD) (p := p1471) (xs := d1470) E 0 rfl h_q1636 fun v1637 H E => ?_
            have hj9 := Option.some.inj hm
            subst j1628
            exact rest _ _ ⟨_, _, _, _, _, _, rfl, (En.facts (En.pick E [0, 1] (by decide) rfl) trivial)⟩
          · rw [if_neg (by rw [hc1672]; decide)] at hm
            obtain ⟨j1652, hm9, hm8⟩ := bnd hm
            refine cut_ (fun σ9 H9 => ∃ (T : AS), ∃ (u1653 : Option V), ∃ (u1654 : Option V), ∃ (u1655 : Option V), ∃ (u1656 : Option V), ∃ (u1657 : Option V), σ9 = [some (.ref p_box), u1653, u1654, some (.ref p1471), u1655, u1656, u1657] ∧ En K ⟨T00, [p_box], H00⟩ [] [(cL zD p1471 j1652.1), (cBx p_box j1652.2)] T H9) ?_ fun rest => ?_
            · rintro _ H ⟨T, u1653, u1654, u1655, u1656, u1657, rfl, E⟩
              have hm := hm8
              have hj9 := Option.some.inj hm
              subst j1628
              exact rest _ _ ⟨_, _, _, _, _, _, rfl, (En.facts (En.pick E [0, 1] (by decide) rfl) trivial)⟩
            · have hm := hm9
              refine ifs_open ?_
              refine En.test E (et_and (et_test (K := K) (ev_eqI (ev_var (i := 4) rfl (E.rd (r := zI) (v := v1473) (d := q1472.1) 2 rfl)) ev_int)) fun hc1658 => (et_test (K := K) (ev_gt (ev_lenL (ev_var (i := 2) rfl (E.rd (r := (zL zI)) (v := v_good) (d := p_good) 5 rfl))) ev_int))) fun H E => ?_
              refine iteB (fun hc1671 => ?_) (fun hc1671 => ?_)
              · rw [if_pos hc1671] at hm
                refine asgt_open ?_
                refine op_open ?_
                refine En.run E (ev_var (i := 6) rfl (E.rd (r := (zU zD)) (v := v1476) (d := d1477) 0 rfl)) fun v1659 H E => ?_
                obtain ⟨q1660, h_q1660, hm⟩ := bnd hm
                refine En.gcall E (ea_cons (ev_var (i := 0) rfl (show zA K _ _ (.ref p_box) p_box from rfl)) (ea_cons ev_int ea_nil)) 1 rfl h_q1660 rfl fun v1661 H E => ?_
                refine of_op ?_
                obtain ⟨x1662, h_x1662, hm⟩ := bnd hm
                refine En.run E (ev_ixU (ev_var (i := 0) rfl (E.rd (r := (zU zD)) (v := v1659) (d := d1477) 1 rfl)) (ev_var (i := 1) rfl (E.rd (r := zI) (v := v1661) (d := q1660.1) 0 rfl)) h_x1662) fun v1663 H E => ?_
                obtain ⟨d1664, e_d1664, hm⟩ := bnd hm
                refine En.setitem (r := zD) (p := p1471) (xs := d1470) E rfl 0 rfl (E.rd (r := zD) (v := v1663) (d := x1662) 0 rfl) (ev_var (i := 5) rfl (E.rd (r := zI) (v := v1475) (d := q1474.1) 4 rfl)) e_d1664 fun H E => ?_
                first | refine nx_ ?_ | skip
                refine drop_open ?_
                refine En.bm (p := p1471) (r := zD) (xs := d1664) E rfl 0 rfl ?_
                refine cons_open ?_
                obtain ⟨d1666, e_d1666, hm⟩ := bnd hm
                refine En.run E (Ev.to (ev_toD ev_int) (Option.some.inj e_d1666)) fun v1665 H E => ?_
                refine nil_open ?_
                obtain ⟨_, hgd1667, hm⟩ := bnd hm
                obtain ⟨d1667, e_d1667, hm⟩ := bnd hm
                refine En.append (r := zD) (p := p1471) (xs := d1664) E 0 rfl (E.rd (r := zD) (v := v1665) (d := d1666) 0 rfl) (grd_ok hgd1667) fun H E => ?_
                rw [Option.some.inj e_d1667] at E
                have hj9 := Option.some.inj hm
                subst j1652
                exact rest _ _ ⟨_, _, _, _, _, _, rfl, (En.facts (En.pick E [0, 1] (by decide) rfl) trivial)⟩
              · rw [if_neg (by rw [hc1671]; decide)] at hm
                refine drop_open ?_
                refine En.bm (p := p1471) (r := zD) (xs := d1470) E rfl 0 rfl ?_
                refine cons_open ?_
                obtain ⟨q1668, h_q1668, hm⟩ := bnd hm
                refine En.gcall E (ea_cons (ev_var (i := 0) rfl (show zA K _ _ (.ref p_box) p_box from rfl)) (ea_cons (ev_var (i := 1) rfl (E.rd (r := zI) (v := v_programs) (d := p_programs) 4 rfl)) ea_nil)) 1 rfl h_q1668 rfl fun v1669 H E => ?_
                replace E := En.add (f := (fR zD v1669 (PyData.int q1668.1))) E (zd_up (r := zI) (E.rd (r := zI) (v := v1669) (d := q1668.1) 0 rfl))
                refine nil_open ?_
                obtain ⟨_, hgd1670, hm⟩ := bnd hm
                obtain ⟨d1670, e_d1670, hm⟩ := bnd hm
                refine En.append (r := zD) (p := p1471) (xs := d1470) E 0 rfl (E.rd (r := zD) (v := v1669) (d := (PyData.int q1668.1)) 0 rfl) (grd_ok hgd1670) fun H E => ?_
                rw [Option.some.inj e_d1670] at E
                have hj9 := Option.some.inj hm
                subst j1652
                exact rest _ _ ⟨_, _, _, _, _, _, rfl, (En.facts (En.pick E [0, 1] (by decide) rfl) trivial)⟩

end
end EB

set_option Elab.async false
set_option linter.all false
set_option maxRecDepth 100000
set_option maxHeartbeats 4000000

namespace EB
open PySem PySem.Spec PyProof.Rows L2

section
variable {P : Program} {w : World} {K : PySem.W.Frag} {mg : Str → Option Value} {base : Heap}

def m__law_one (p_rows : (List (List Bool))) (p_schedule : (List Int)) (s00 : Bx) : Option (Bool × Bx) :=
((some (p_rows)).bind fun (d1683 : List (List Bool)) =>
((some (p_schedule)).bind fun (d1685 : List Int) =>
((((m__law_draw (2 : Int) s00).bind fun (q1709 : Int × Bx) =>
((some (decide (q1709.1 = (0 : Int)))).bind fun (d1713 : Bool) =>
(if d1713 = true then
((m__law_told (0 : Int) (Tod.toD (zU zW) d1683) (Tod.toD (zU zI) d1685) (PyData.int (0 : Int))).bind fun (r1714 : PyData) =>
((some r1714).bind fun (d1716 : PyData) =>
((grd (noL d1716 = true)).bind fun (u1717 : Unit) =>
some (d1716, q1709.2))))
else
((m__law_told (0 : Int) (Tod.toD (zL zW) d1683) (Tod.toD (zL zI) d1685) (PyData.int (0 : Int))).bind fun (r1718 : PyData) =>
((some r1718).bind fun (d1720 : PyData) =>
((grd (noL d1720 = true)).bind fun (u1721 : Unit) =>
some (d1720, q1709.2)))))))).bind fun (j1701 : PyData × Bx) =>
((m__law_due p_rows p_schedule).bind fun (r1725 : (Str × (List Bool))) =>
((m__law_same 6 (Tod.toD (zP zS zW) r1725) j1701.1).bind fun (r1726 : Bool) =>
(if ((!r1726) || ((!decide (d1683 = p_rows)) || (!decide (d1685 = p_schedule)))) = true then
some (false, j1701.2)
else
(if (decide ((0 : Int) < ((p_schedule).length : Int))) = true then
((m__law_draw ((p_schedule).length : Int) j1701.2).bind fun (q1730 : Int × Bx) =>
((m__law_draw ((p_rows).length : Int) q1730.2).bind fun (q1732 : Int × Bx) =>
((m__law_draw ((p_rows).length : Int) q1732.2).bind fun (q1734 : Int × Bx) =>
((setO d1685 q1730.1 q1734.1).bind fun (d1736 : List Int) =>
((m__law_draw (256 : Int) q1734.2).bind fun (q1737 : Int × Bx) =>
((some ((p_schedule).length : Int)).bind fun (d1740 : Int) =>
((m__law_word q1737.1 d1740).bind fun (q1741 : (List Bool)) =>
((setO d1683 q1732.1 q1741).bind fun (d1743 : List (List Bool)) =>
((m__law_due d1743 d1736).bind fun (r1748 : (Str × (List Bool))) =>
((m__law_told (0 : Int) (Tod.toD (zL zW) d1743) (Tod.toD (zL zI) d1736) (PyData.int (0 : Int))).bind fun (r1749 : PyData) =>
((m__law_same 6 (Tod.toD (zP zS zW) r1748) r1749).bind fun (r1750 : Bool) =>
(if (!r1750) = true then
some (false, q1737.2)
else
((m__law_wrong_schedule ((p_rows).length : Int) p_schedule q1737.2).bind fun (q1753 : PyData × Bx) =>
((m__law_wrong_schedule ((p_rows).length : Int) p_schedule q1737.2).bind fun (q1755 : PyData × Bx) =>
((m__law_told (0 : Int) (Tod.toD (zU zW) p_rows) q1753.1 (PyData.int (0 : Int))).bind fun (r1759 : PyData) =>
((m__law_same 6 (PyData.tuple ([(PyData.str ("lot" : Str)), q1755.1])) r1759).bind fun (r1760 : Bool) =>
(if (!r1760) = true then
some (false, q1753.2)
else
((m__law_wrong_rows p_rows q1753.2).bind fun (q1763 : PyData × Bx) =>
((m__law_wrong_rows p_rows q1753.2).bind fun (q1765 : PyData × Bx) =>
((some (PyData.tuple ([(PyData.str ("rows" : Str)), q1765.1]))).bind fun (d1768 : PyData) =>
((some ([q1753.1, (Tod.toD (zL zI) p_schedule)])).bind fun (d1772 : (List PyData)) =>
((m__law_draw (2 : Int) q1763.2).bind fun (q1773 : Int × Bx) =>
((atI d1772 q1773.1).bind fun (x1775 : PyData) =>
((some (PyData.int (0 : Int))).bind fun (d1778 : PyData) =>
((m__law_told (0 : Int) q1763.1 x1775 d1778).bind fun (q1779 : PyData) =>
((m__law_same 6 d1768 q1779).bind fun (q1781 : Bool) =>
some (q1781, q1773.2)))))))))))))))))))))))))))
else
((m__law_wrong_schedule ((p_rows).length : Int) p_schedule j1701.2).bind fun (q1786 : PyData × Bx) =>
((m__law_wrong_schedule ((p_rows).length : Int) p_schedule j1701.2).bind fun (q1788 : PyData × Bx) =>
((m__law_told (0 : Int) (Tod.toD (zU zW) p_rows) q1786.1 (PyData.int (0 : Int))).bind fun (r1792 : PyData) =>
((m__law_same 6 (PyData.tuple ([(PyData.str ("lot" : Str)), q1788.1])) r1792).bind fun (r1793 : Bool) =>
(if (!r1793) = true then
some (false, q1786.2)
else
((m__law_wrong_rows p_rows q1786.2).bind fun (q1796 : PyData × Bx) =>
((m__law_wrong_rows p_rows q1786.2).bind fun (q1798 : PyData × Bx) =>
((some (PyData.tuple ([(PyData.str ("rows" : Str)), q1798.1]))).bind fun (d1801 : PyData) =>
((some ([q1786.1, (Tod.toD (zL zI) p_schedule)])).bind fun (d1805 : (List PyData)) =>
((m__law_draw (2 : Int) q1796.2).bind fun (q1806 : Int × Bx) =>
((atI d1805 q1806.1).bind fun (x1808 : PyData) =>
((some (PyData.int (0 : Int))).bind fun (d1811 : PyData) =>
((m__law_told (0 : Int) q1796.1 x1808 d1811).bind fun (q1812 : PyData) =>
((m__law_same 6 d1801 q1812).bind fun (q1814 : Bool) =>
some (q1814, q1806.2))))))))))))))))))))))
abbrev sp__law_one (K : PySem.W.Frag) : Sp := GSp K (aC zA (aC (zL zW) (aC (zL zI) aN))) (fun (a : Addr × (List (List Bool)) × (List Int) × Unit) (s : Bx) => cBx a.1 s) zB (fun (a : Addr × (List (List Bool)) × (List Int) × Unit) (s : Bx) => m__law_one a.2.1 a.2.2.1 s)
theorem ok__law_one (S : Tx K mg) (G__law_draw : Ok P w K mg base 1 ("_law_draw", none) ["box", "many"] (sp__law_draw K)) (G__law_due : Ok P w K mg base 1 ("_law_due", none) ["rows", "schedule"] (sp__law_due K)) (G__law_same : Ok P w K mg base 7 ("_law_same", none) ["due", "told"] ((sp__law_same 6) K)) (G__law_told : Ok P w K mg base 5 ("_law_told", none) ["what", "first", "second", "third"] (sp__law_told K)) (G__law_word : Ok P w K mg base 1 ("_law_word", none) ["number", "length"] (sp__law_word K)) (G__law_wrong_rows : Ok P w K mg base 2 ("_law_wrong_rows", none) ["box", "rows"] (sp__law_wrong_rows K)) (G__law_wrong_schedule : Ok P w K mg base 2 ("_law_wrong_schedule", none) ["box", "programs", "good"] (sp__law_wrong_schedule K)) : Ok P w K mg base 8 ("_law_one", none) ["box", "rows", "schedule"] (sp__law_one K) := by
  obtain ⟨fd, D⟩ := d__law_one S
  refine mk_ok D sc__law_one (D.bindsN fun _ _ _ _ _ _ us hl => match us, hl with | [_, _, _], _ => rfl) (GSp_len len3) (fun cdv A outer s H00 vs Q E hr h => ?_)
  obtain ⟨T00, ⟨p_box, p_rows, p_schedule, _⟩, s00, res, sres, hT, ⟨v_box, _, rfl, r_box, v_rows, _, rfl, r_rows, v_schedule, _, rfl, r_schedule, rfl⟩, hc, hTc, hnd, hm, hQ⟩ := h
  obtain rfl : v_box = .ref p_box := r_box
  refine ⟨_, (pss_cons (ps_set (i := 3) sc__law_one.nd rfl (.inl rfl) (pe_callTy (kc_list (K := K)) (by rfl) (m_list S) bt_list (pa_cons (pv 1) pa_nil))) (pss_cons (ps_set (i := 4) sc__law_one.nd rfl (.inl rfl) (pe_callTy (kc_list (K := K)) (by rfl) (m_list S) bt_list (pa_cons (pv 2) pa_nil))) (pss_cons (ps_if (pt_cmpR op_eq (pe_callG G__law_draw hr (by omega) (by rfl) (g__law_draw S) (pa_cons (pv 0) (pa_cons pe_int pa_nil))) pe_int (nomark _)) (pss_one (ps_set (i := 9) sc__law_one.nd rfl (.inl rfl) (pe_callG G__law_told hr (by omega) (by rfl) (g__law_told S) (pa_cons pe_int (pa_cons (pe_callTy (kc_tuple (K := K)) (by rfl) (m_tuple S) bt_tuple (pa_cons (pv 3) pa_nil)) (pa_cons (pe_callTy (kc_tuple (K := K)) (by rfl) (m_tuple S) bt_tuple (pa_cons (pv 4) pa_nil)) (pa_cons pe_int pa_nil))))))) (pss_one (ps_set (i := 9) sc__law_one.nd rfl (.inl rfl) (pe_callG G__law_told hr (by omega) (by rfl) (g__law_told S) (pa_cons pe_int (pa_cons (pv 3) (pa_cons (pv 4) (pa_cons pe_int pa_nil)))))))) (pss_cons (ps_if (PW.pt (pw_or (pt_not (pt_val (pe_callG G__law_same hr (by omega) (by rfl) (g__law_same S) (pa_cons (pe_callG G__law_due hr (by omega) (by rfl) (g__law_due S) (pa_cons (pv 1) (pa_cons (pv 2) pa_nil))) (pa_cons (pv 9) pa_nil))))) (pw_or (pt_cmpR (op_neDQ (room_64 hr)) (pv 3) (pv 1) (nomark _)) (pw_or1 (pt_cmpR (op_neDQ (room_64 hr)) (pv 4) (pv 2) (nomark _)))))) (pss_one (ps_ret pe_bl)) pss_nil) (pss_cons (ps_if (pt_cmpR op_gt (pe_callB (kc_len (K := K)) (by rfl) (m_len S) bt_len (pa_cons (pv 2) pa_nil)) pe_int (nomark _)) (pss_cons (ps_set (i := 10) sc__law_one.nd rfl (.inl rfl) (pe_callG G__law_draw hr (by omega) (by rfl) (g__law_draw S) (pa_cons (pv 0) (pa_cons (pe_callB (kc_len (K := K)) (by rfl) (m_len S) bt_len (pa_cons (pv 2) pa_nil)) pa_nil)))) (pss_cons (ps_set (i := 11) sc__law_one.nd rfl (.inl rfl) (pe_callG G__law_draw hr (by omega) (by rfl) (g__law_draw S) (pa_cons (pv 0) (pa_cons (pe_callB (kc_len (K := K)) (by rfl) (m_len S) bt_len (pa_cons (pv 1) pa_nil)) pa_nil)))) (pss_cons (ps_asg (pe_callG G__law_draw hr (by omega) (by rfl) (g__law_draw S) (pa_cons (pv 0) (pa_cons (pe_callB (kc_len (K := K)) (by rfl) (m_len S) bt_len (pa_cons (pv 1) pa_nil)) pa_nil))) (pg_sub (pv 4) (pv 10) set_list)) (pss_cons (ps_asg (pe_callG G__law_word hr (by omega) (by rfl) (g__law_word S) (pa_cons (pe_callG G__law_draw hr (by omega) (by rfl) (g__law_draw S) (pa_cons (pv 0) (pa_cons pe_int pa_nil))) (pa_cons (pe_callB (kc_len (K := K)) (by rfl) (m_len S) bt_len (pa_cons (pv 2) pa_nil)) pa_nil))) (pg_sub (pv 3) (pv 11) set_list)) (pss_one (ps_if (pt_not (pt_val (pe_callG G__law_same hr (by omega) (by rfl) (g__law_same S) (pa_cons (pe_callG G__law_due hr (by omega) (by rfl) (g__law_due S) (pa_cons (pe_callTy (kc_list (K := K)) (by rfl) (m_list S) bt_list (pa_cons (pv 3) pa_nil)) (pa_cons (pe_callTy (kc_list (K := K)) (by rfl) (m_list S) bt_list (pa_cons (pv 4) pa_nil)) pa_nil))) (pa_cons (pe_callG G__law_told hr (by omega) (by rfl) (g__law_told S) (pa_cons pe_int (pa_cons (pv 3) (pa_cons (pv 4) (pa_cons pe_int pa_nil))))) pa_nil))))) (pss_one (ps_ret pe_bl)) pss_nil)))))) pss_nil) (pss_cons (ps_set (i := 5) sc__law_one.nd rfl (.inl rfl) (pe_lst (pa_cons (pe_callTy call_int1Q (by rfl) (m_int S) bt_int (pa_cons (pe_ix (kx_list (K := K)) (pv 0) pe_int (fun _ _ => rfl)) pa_nil)) (pa_cons (pe_ix (kx_list (K := K)) (pv 0) pe_int (fun _ _ => rfl)) (pa_cons (pe_ix (kx_list (K := K)) (pv 0) pe_int (fun _ _ => rfl)) (pa_cons (pe_ix (kx_list (K := K)) (pv 0) pe_int (fun _ _ => rfl)) (pa_cons (pe_ix (kx_list (K := K)) (pv 0) pe_int (fun _ _ => rfl)) pa_nil))))))) (pss_cons (ps_set (i := 6) sc__law_one.nd rfl (.inl rfl) (pe_callG G__law_wrong_schedule hr (by omega) (by rfl) (g__law_wrong_schedule S) (pa_cons (pv 0) (pa_cons (pe_callB (kc_len (K := K)) (by rfl) (m_len S) bt_len (pa_cons (pv 1) pa_nil)) (pa_cons (pv 2) pa_nil))))) (pss_cons (ps_set (i := 7) sc__law_one.nd rfl (.inl rfl) (pe_callG G__law_wrong_schedule hr (by omega) (by rfl) (g__law_wrong_schedule S) (pa_cons (pv 5) (pa_cons (pe_callB (kc_len (K := K)) (by rfl) (m_len S) bt_len (pa_cons (pv 1) pa_nil)) (pa_cons (pv 2) pa_nil))))) (pss_cons (ps_if (pt_not (pt_val (pe_callG G__law_same hr (by omega) (by rfl) (g__law_same S) (pa_cons (pe_tup (pa_cons pe_str (pa_cons (pv 7) pa_nil))) (pa_cons (pe_callG G__law_told hr (by omega) (by rfl) (g__law_told S) (pa_cons pe_int (pa_cons (pe_callTy (kc_tuple (K := K)) (by rfl) (m_tuple S) bt_tuple (pa_cons (pv 1) pa_nil)) (pa_cons (pv 6) (pa_cons pe_int pa_nil))))) pa_nil))))) (pss_one (ps_ret pe_bl)) pss_nil) (pss_cons (ps_set (i := 5) sc__law_one.nd rfl (.inl rfl) (pe_lst (pa_cons (pe_callTy call_int1Q (by rfl) (m_int S) bt_int (pa_cons (pe_ix (kx_list (K := K)) (pv 0) pe_int (fun _ _ => rfl)) pa_nil)) (pa_cons (pe_ix (kx_list (K := K)) (pv 0) pe_int (fun _ _ => rfl)) (pa_cons (pe_ix (kx_list (K := K)) (pv 0) pe_int (fun _ _ => rfl)) (pa_cons (pe_ix (kx_list (K := K)) (pv 0) pe_int (fun _ _ => rfl)) (pa_cons (pe_ix (kx_list (K := K)) (pv 0) pe_int (fun _ _ => rfl)) pa_nil))))))) (pss_cons (ps_set (i := 8) sc__law_one.nd rfl (.inl rfl) (pe_callG G__law_wrong_rows hr (by omega) (by rfl) (g__law_wrong_rows S) (pa_cons (pv 0) (pa_cons (pv 1) pa_nil)))) (pss_cons (ps_set (i := 7) sc__law_one.nd rfl (.inl rfl) (pe_callG G__law_wrong_rows hr (by omega) (by rfl) (g__law_wrong_rows S) (pa_cons (pv 5) (pa_cons (pv 1) pa_nil)))) (pss_one (ps_ret (pe_callG G__law_same hr (by omega) (by rfl) (g__law_same S) (pa_cons (pe_tup (pa_cons pe_str (pa_cons (pv 7) pa_nil))) (pa_cons (pe_callG G__law_told hr (by omega) (by rfl) (g__law_told S) (pa_cons pe_int (pa_cons (pv 8) (pa_cons (pe_ix (kx_tup (K := K)) (pe_tup (pa_cons (pv 6) (pa_cons (pv 2) pa_nil))) (pe_callG G__law_draw hr (by omega) (by rfl) (g__law_draw S) (pa_cons (pv 0) (pa_cons pe_int pa_nil))) (fun _ _ => rfl)) (pa_cons pe_int pa_nil))))) pa_nil))))))))))))))))), ?_⟩
  have E : En K ⟨T00, [p_box], H00⟩ [(fR (zL zW) v_rows p_rows), (fR (zL zI) v_schedule p_schedule)] [(cBx p_box s00)] T00 H00 := En.start1 (c := (cBx p_box s00)) hT ⟨r_rows, r_schedule, trivial⟩ hc hTc hnd
  replace hm : m__law_one p_rows p_schedule s00 = some (res, sres) := hm
  unfold m__law_one at hm
  refine asg_open ?_
  obtain ⟨d1683, e_d1683, hm⟩ := bnd hm
  refine En.newL (r := zW) E (EvF.to (ef_listL (ev_var (i := 1) rfl (E.rd (r := (zL zW)) (v := v_rows) (d := p_rows) 0 rfl))) (Option.some.inj e_d1683)) fun p1684 H E => ?_
  first | refine nx_ ?_ | skip
  refine asg_open ?_
  obtain ⟨d1685, e_d1685, hm⟩ := bnd hm
  refine En.newL (r := zI) E (EvF.to (ef_listL (ev_var (i := 2) rfl (E.rd (r := (zL zI)) (v := v_schedule) (d := p_schedule) 2 rfl))) (Option.some.inj e_d1685)) fun p1686 H E => ?_
  first | refine nx_ ?_ | skip
  obtain ⟨j1701, hm9, hm8⟩ := bnd hm
  refine seq_open ?_
  refine cut_ (fun σ9 H9 => ∃ (T : AS), ∃ (u1702 : Option V), ∃ (u1703 : Option V), ∃ (u1704 : Option V), ∃ (u1705 : Option V), ∃ (v1706 : V), ∃ (u1707 : Option V), ∃ (u1708 : Option V), σ9 = [some (.ref p_box), some v_rows, some v_schedule, some (.ref p1684), some (.ref p1686), u1702, u1703, u1704, u1705, some v1706, u1707, u1708] ∧ En K ⟨T00, [p_box], H00⟩ [(fR (zL zW) v_rows p_rows), (fR (zL zI) v_schedule p_schedule), (fR zD v1706 j1701.1)] [(cL zI p1686 d1685), (cL zW p1684 d1683), (cBx p_box j1701.2)] T H9) ?_ fun rest => ?_
  · rintro _ H ⟨T, u1702, u1703, u1704, u1705, v1706, u1707, u1708, rfl, E⟩
    have hm := hm8
    first | refine nx_ ?_ | skip
    refine ifs_open ?_
    obtain ⟨r1725, h_r1725, hm⟩ := bnd hm
    obtain ⟨r1726, h_r1726, hm⟩ := bnd hm
    refine En.testB E (et_or (et_not (et_B (K := K) (ev_callO E.tdB (ea_cons (ev_toD (ev_callO E.tdB (ea_cons (ev_var (i := 1) rfl (E.rdB (r := (zL zW)) (v := v_rows) (d := p_rows) 0 rfl)) (ea_cons (ev_var (i := 2) rfl (E.rdB (r := (zL zI)) (v := v_schedule) (d := p_schedule) 1 rfl)) ea_nil)) h_r1725)) (ea_cons (ev_var (i := 9) rfl (E.rdB (r := zD) (v := v1706) (d := j1701.1) 2 rfl)) ea_nil)) h_r1726))) fun hc1728 => (et_or (et_test (K := K) (ev_neD (ev_var (i := 3) rfl (E.clB (r := zW) (p := p1684) (xs := d1683) 1 rfl)) (ev_var (i := 1) rfl (E.rdB (r := (zL zW)) (v := v_rows) (d := p_rows) 0 rfl)))) fun hc1727 => (et_test (K := K) (ev_neD (ev_var (i := 4) rfl (E.clB (r := zI) (p := p1686) (xs := d1685) 0 rfl)) (ev_var (i := 2) rfl (E.rdB (r := (zL zI)) (v := v_schedule) (d := p_schedule) 1 rfl)))))) fun H E => ?_
    refine iteB (fun hc1818 => ?_) (fun hc1818 => ?_)
    · rw [if_pos hc1818] at hm
      refine ret_open ?_
      refine En.run E ev_bl fun v1729 H E => ?_
      have hr9 := Prod.mk.inj (Option.some.inj hm)
      have hr8 := hr9.1
      have hr7 := hr9.2
      subst res
      subst sres
      exact hQ _ _ (En.fr E) (En.outc E (c := (cBx p_box j1701.2)) 2 rfl) (En.out E (En.at E (f := (fR zB v1729 false)) 0 rfl))
    · rw [if_neg (by rw [hc1818]; decide)] at hm
      first | refine nx_ ?_ | skip
      refine ifs_open ?_
      refine En.test E (et_test (K := K) (ev_gt (ev_lenL (ev_var (i := 2) rfl (E.rd (r := (zL zI)) (v := v_schedule) (d := p_schedule) 1 rfl))) ev_int)) fun H E => ?_
      refine iteB (fun hc1817 => ?_) (fun hc1817 => ?_)
      · rw [if_pos hc1817] at hm
        refine asg_open ?_
        obtain ⟨q1730, h_q1730, hm⟩ := bnd hm
        refine En.gcall E (ea_cons (ev_var (i := 0) rfl (show zA K _ _ (.ref p_box) p_box from rfl)) (ea_cons (ev_lenL (ev_var (i := 2) rfl (E.rd (r := (zL zI)) (v := v_schedule) (d := p_schedule) 1 rfl))) ea_nil)) 2 rfl h_q1730 rfl fun v1731 H E => ?_
        first | refine nx_ ?_ | skip
        refine asg_open ?_
        obtain ⟨q1732, h_q1732, hm⟩ := bnd hm
        refine En.gcall E (ea_cons (ev_var (i := 0) rfl (show zA K _ _ (.ref p_box) p_box from rfl)) (ea_cons (ev_lenL (ev_var (i := 1) rfl (E.rd (r := (zL zW)) (v := v_rows) (d := p_rows) 1 rfl))) ea_nil)) 2 rfl h_q1732 rfl fun v1733 H E => ?_
        first | refine nx_ ?_ | skip
        refine asgt_open ?_
        obtain ⟨q1734, h_q1734, hm⟩ := bnd hm
        refine En.gcall E (ea_cons (ev_var (i := 0) rfl (show zA K _ _ (.ref p_box) p_box from rfl)) (ea_cons (ev_lenL (ev_var (i := 1) rfl (E.rd (r := (zL zW)) (v := v_rows) (d := p_rows) 2 rfl))) ea_nil)) 2 rfl h_q1734 rfl fun v1735 H E => ?_
        obtain ⟨d1736, e_d1736, hm⟩ := bnd hm
        refine En.setitem (r := zI) (p := p1686) (xs := d1685) E rfl 0 rfl (E.rd (r := zI) (v := v1735) (d := q1734.1) 0 rfl) (ev_var (i := 10) rfl (E.rd (r := zI) (v := v1731) (d := q1730.1) 2 rfl)) e_d1736 fun H E => ?_
        first | refine nx_ ?_ | skip
        refine asgt_open ?_
        refine call_open ?_
        refine cons_open ?_
        obtain ⟨q1737, h_q1737, hm⟩ := bnd hm
        refine En.gcall E (ea_cons (ev_var (i := 0) rfl (show zA K _ _ (.ref p_box) p_box from rfl)) (ea_cons ev_int ea_nil)) 2 rfl h_q1737 rfl fun v1738 H E => ?_
        refine cons_open ?_
        obtain ⟨d1740, e_d1740, hm⟩ := bnd hm
        refine En.run E (Ev.to (ev_lenL (ev_var (i := 2) rfl (E.rd (r := (zL zI)) (v := v_schedule) (d := p_schedule) 5 rfl))) (Option.some.inj e_d1740)) fun v1739 H E => ?_
        refine nil_open ?_
        obtain ⟨q1741, h_q1741, hm⟩ := bnd hm
        refine En.callF (a := (q1737.1, d1740, ())) E ⟨v1738, _, rfl, (E.rd (r := zI) (v := v1738) (d := q1737.1) 1 rfl), v1739, _, rfl, (E.rd (r := zI) (v := v1739) (d := d1740) 0 rfl), rfl⟩ h_q1741 fun v1742 H E => ?_
        obtain ⟨d1743, e_d1743, hm⟩ := bnd hm
        refine En.setitem (r := zW) (p := p1684) (xs := d1683) E rfl 1 rfl (E.rd (r := zW) (v := v1742) (d := q1741) 0 rfl) (ev_var (i := 11) rfl (E.rd (r := zI) (v := v1733) (d := q1732.1) 4 rfl)) e_d1743 fun H E => ?_
        first | refine nx_ ?_ | skip
        refine ifs_open ?_
        obtain ⟨r1748, h_r1748, hm⟩ := bnd hm
        obtain ⟨r1749, h_r1749, hm⟩ := bnd hm
        obtain ⟨r1750, h_r1750, hm⟩ := bnd hm
        refine En.testB E (et_not (et_B (K := K) (ev_callO E.tdB (ea_cons (ev_toD (ev_callO E.tdB (ea_cons (ev_listL E.tdB (ev_var (i := 3) rfl (E.clB (r := zW) (p := p1684) (xs := d1743) 1 rfl))) (ea_cons (ev_listL E.tdB (ev_var (i := 4) rfl (E.clB (r := zI) (p := p1686) (xs := d1736) 0 rfl))) ea_nil)) h_r1748)) (ea_cons (ev_callO E.tdB (ea_cons ev_int (ea_cons (ev_toD (ev_var (i := 3) rfl (E.clB (r := zW) (p := p1684) (xs := d1743) 1 rfl))) (ea_cons (ev_toD (ev_var (i := 4) rfl (E.clB (r := zI) (p := p1686) (xs := d1736) 0 rfl))) (ea_cons (ev_toD ev_int) ea_nil)))) h_r1749) ea_nil)) h_r1750))) fun H E => ?_
        refine iteB (fun hc1784 => ?_) (fun hc1784 => ?_)
        · rw [if_pos hc1784] at hm
          refine ret_open ?_
          refine En.run E ev_bl fun v1751 H E => ?_
          have hr9 := Prod.mk.inj (Option.some.inj hm)
          have hr8 := hr9.1
          have hr7 := hr9.2
          subst res
          subst sres
          exact hQ _ _ (En.fr E) (En.outc E (c := (cBx p_box q1737.2)) 2 rfl) (En.out E (En.at E (f := (fR zB v1751 false)) 0 rfl))
        · rw [if_neg (by rw [hc1784]; decide)] at hm
          first | refine nx_ ?_ | skip
          refine asg_open ?_
          refine En.copyBx (p := p_box) (s := q1737.2) (i := 0) E 2 rfl rfl fun p1752 H E => ?_
          first | refine nx_ ?_ | skip
          refine asg_open ?_
          obtain ⟨q1753, h_q1753, hm⟩ := bnd hm
          refine En.gcall E (ea_cons (ev_var (i := 0) rfl (show zA K _ _ (.ref p_box) p_box from rfl)) (ea_cons (ev_lenL (ev_var (i := 1) rfl (E.rd (r := (zL zW)) (v := v_rows) (d := p_rows) 7 rfl))) (ea_cons (ev_var (i := 2) rfl (E.rd (r := (zL zI)) (v := v_schedule) (d := p_schedule) 8 rfl)) ea_nil))) 3 rfl h_q1753 rfl fun v1754 H E => ?_
          first | refine nx_ ?_ | skip
          refine asg_open ?_
          obtain ⟨q1755, h_q1755, hm⟩ := bnd hm
          refine En.gcall E (ea_cons (ev_var (i := 5) rfl (show zA K _ _ (.ref p1752) p1752 from rfl)) (ea_cons (ev_lenL (ev_var (i := 1) rfl (E.rd (r := (zL zW)) (v := v_rows) (d := p_rows) 8 rfl))) (ea_cons (ev_var (i := 2) rfl (E.rd (r := (zL zI)) (v := v_schedule) (d := p_schedule) 9 rfl)) ea_nil))) 0 rfl h_q1755 rfl fun v1756 H E => ?_
          first | refine nx_ ?_ | skip
          refine ifs_open ?_
          obtain ⟨r1759, h_r1759, hm⟩ := bnd hm
          obtain ⟨r1760, h_r1760, hm⟩ := bnd hm
          refine En.test E (et_not (et_B (K := K) (ev_callO E.td (ea_cons (ev_toDU (ev_tupU (r := zD) (xs := [(PyData.str ("lot" : Str)), q1755.1]) E.td (eh_cons (ev_toD ev_str) (eh_cons (ev_var (i := 7) rfl (E.rd (r := zD) (v := v1756) (d := q1755.1) 0 rfl)) eh_nil)) (Nat.le_of_ble_eq_true rfl))) (ea_cons (ev_callO E.td (ea_cons ev_int (ea_cons (ev_toD (ev_tupL E.td (ev_var (i := 1) rfl (E.rd (r := (zL zW)) (v := v_rows) (d := p_rows) 9 rfl)))) (ea_cons (ev_var (i := 6) rfl (E.rd (r := zD) (v := v1754) (d := q1753.1) 1 rfl)) (ea_cons (ev_toD ev_int) ea_nil)))) h_r1759) ea_nil)) h_r1760))) fun H E => ?_
          refine iteB (fun hc1783 => ?_) (fun hc1783 => ?_)
          · rw [if_pos hc1783] at hm
            refine ret_open ?_
            refine En.run E ev_bl fun v1761 H E => ?_
            have hr9 := Prod.mk.inj (Option.some.inj hm)
            have hr8 := hr9.1
            have hr7 := hr9.2
            subst res
            subst sres
            exact hQ _ _ (En.fr E) (En.outc E (c := (cBx p_box q1753.2)) 3 rfl) (En.out E (En.at E (f := (fR zB v1761 false)) 0 rfl))
          · rw [if_neg (by rw [hc1783]; decide)] at hm
            first | refine nx_ ?_ | skip
            refine asg_open ?_
            refine En.copyBx (p := p_box) (s := q1753.2) (i := 0) E 3 rfl rfl fun p1762 H E => ?_
            first | refine nx_ ?_ | skip
            refine asg_open ?_
            obtain ⟨q1763, h_q1763, hm⟩ := bnd hm
            refine En.gcall E (ea_cons (ev_var (i := 0) rfl (show zA K _ _ (.ref p_box) p_box from rfl)) (ea_cons (ev_var (i := 1) rfl (E.rd (r := (zL zW)) (v := v_rows) (d := p_rows) 10 rfl)) ea_nil)) 4 rfl h_q1763 rfl fun v1764 H E => ?_
            first | refine nx_ ?_ | skip
            refine asg_open ?_
            obtain ⟨q1765, h_q1765, hm⟩ := bnd hm
            refine En.gcall E (ea_cons (ev_var (i := 5) rfl (show zA K _ _ (.ref p1762) p1762 from rfl)) (ea_cons (ev_var (i := 1) rfl (E.rd (r := (zL zW)) (v := v_rows) (d := p_rows) 11 rfl)) ea_nil)) 0 rfl h_q1765 rfl fun v1766 H E => ?_
            first | refine nx_ ?_ | skip
            refine ret_open ?_
            refine call_open ?_
            refine cons_open ?_
            obtain ⟨d1768, e_d1768, hm⟩ := bnd hm
            refine En.run E (Ev.to (ev_toDU (ev_tupU (r := zD) (xs := [(PyData.str ("rows" : Str)), q1765.1]) E.td (eh_cons (ev_toD ev_str) (eh_cons (ev_var (i := 7) rfl (E.rd (r := zD) (v := v1766) (d := q1765.1) 0 rfl)) eh_nil)) (Nat.le_of_ble_eq_true rfl))) (Option.some.inj e_d1768)) fun v1767 H E => ?_
            refine cons_open ?_
            refine call_open ?_
            refine cons_open ?_
            refine En.run E ev_int fun v1769 H E => ?_
            refine cons_open ?_
            refine En.run E (ev_var (i := 8) rfl (E.rd (r := zD) (v := v1764) (d := q1763.1) 3 rfl)) fun v1770 H E => ?_
            refine cons_open ?_
            refine op_open ?_
            obtain ⟨d1772, e_d1772, hm⟩ := bnd hm
            refine En.run E (Ev.to (ev_tupU (r := zD) (xs := [q1753.1, (Tod.toD (zL zI) p_schedule)]) E.td (eh_cons (ev_var (i := 6) rfl (E.rd (r := zD) (v := v1754) (d := q1753.1) 7 rfl)) (eh_cons (ev_toD (ev_var (i := 2) rfl (E.rd (r := (zL zI)) (v := v_schedule) (d := p_schedule) 16 rfl))) eh_nil)) (Nat.le_of_ble_eq_true rfl)) (Option.some.inj e_d1772)) fun v1771 H E => ?_
            obtain ⟨q1773, h_q1773, hm⟩ := bnd hm
            refine En.gcall E (ea_cons (ev_var (i := 0) rfl (show zA K _ _ (.ref p_box) p_box from rfl)) (ea_cons ev_int ea_nil)) 4 rfl h_q1773 rfl fun v1774 H E => ?_
            refine of_op ?_
            obtain ⟨x1775, h_x1775, hm⟩ := bnd hm
            refine En.run E (ev_ixU (ev_var (i := 0) rfl (E.rd (r := (zU zD)) (v := v1771) (d := d1772) 1 rfl)) (ev_var (i := 1) rfl (E.rd (r := zI) (v := v1774) (d := q1773.1) 0 rfl)) h_x1775) fun v1776 H E => ?_
            refine cons_open ?_
            obtain ⟨d1778, e_d1778, hm⟩ := bnd hm
            refine En.run E (Ev.to (ev_toD ev_int) (Option.some.inj e_d1778)) fun v1777 H E => ?_
            refine nil_open ?_
            obtain ⟨q1779, h_q1779, hm⟩ := bnd hm
            refine En.callF (a := ((0 : Int), q1763.1, x1775, d1778, ())) E ⟨v1769, _, rfl, (E.rd (r := zI) (v := v1769) (d := (0 : Int)) 5 rfl), v1770, _, rfl, (E.rd (r := zD) (v := v1770) (d := q1763.1) 4 rfl), v1776, _, rfl, (E.rd (r := zD) (v := v1776) (d := x1775) 1 rfl), v1777, _, rfl, (E.rd (r := zD) (v := v1777) (d := d1778) 0 rfl), rfl⟩ h_q1779 fun v1780 H E => ?_
            refine nil_open ?_
            obtain ⟨q1781, h_q1781, hm⟩ := bnd hm
            refine En.callF (a := (d1768, q1779, ())) E ⟨v1767, _, rfl, (E.rd (r := zD) (v := v1767) (d := d1768) 7 rfl), v1780, _, rfl, (E.rd (r := zD) (v := v1780) (d := q1779) 0 rfl), rfl⟩ h_q1781 fun v1782 H E => ?_
            have hr9 := Prod.mk.inj (Option.some.inj hm)
            have hr8 := hr9.1
            have hr7 := hr9.2
            subst res
            subst sres
            exact hQ _ _ (En.fr E) (En.outc E (c := (cBx p_box q1773.2)) 4 rfl) (En.out E (En.at E (f := (fR zB v1782 q1781)) 0 rfl))
      · rw [if_neg (by rw [hc1817]; decide)] at hm
        first | refine nx_ ?_ | skip
        refine asg_open ?_
        refine En.copyBx (p := p_box) (s := j1701.2) (i := 0) E 2 rfl rfl fun p1785 H E => ?_
        first | refine nx_ ?_ | skip
        refine asg_open ?_
        obtain ⟨q1786, h_q1786, hm⟩ := bnd hm
        refine En.gcall E (ea_cons (ev_var (i := 0) rfl (show zA K _ _ (.ref p_box) p_box from rfl)) (ea_cons (ev_lenL (ev_var (i := 1) rfl (E.rd (r := (zL zW)) (v := v_rows) (d := p_rows) 1 rfl))) (ea_cons (ev_var (i := 2) rfl (E.rd (r := (zL zI)) (v := v_schedule) (d := p_schedule) 2 rfl)) ea_nil))) 3 rfl h_q1786 rfl fun v1787 H E => ?_
        first | refine nx_ ?_ | skip
        refine asg_open ?_
        obtain ⟨q1788, h_q1788, hm⟩ := bnd hm
        refine En.gcall E (ea_cons (ev_var (i := 5) rfl (show zA K _ _ (.ref p1785) p1785 from rfl)) (ea_cons (ev_lenL (ev_var (i := 1) rfl (E.rd (r := (zL zW)) (v := v_rows) (d := p_rows) 2 rfl))) (ea_cons (ev_var (i := 2) rfl (E.rd (r := (zL zI)) (v := v_schedule) (d := p_schedule) 3 rfl)) ea_nil))) 0 rfl h_q1788 rfl fun v1789 H E => ?_
        first | refine nx_ ?_ | skip
        refine ifs_open ?_
        obtain ⟨r1792, h_r1792, hm⟩ := bnd hm
        obtain ⟨r1793, h_r1793, hm⟩ := bnd hm
        refine En.test E (et_not (et_B (K := K) (ev_callO E.td (ea_cons (ev_toDU (ev_tupU (r := zD) (xs := [(PyData.str ("lot" : Str)), q1788.1]) E.td (eh_cons (ev_toD ev_str) (eh_cons (ev_var (i := 7) rfl (E.rd (r := zD) (v := v1789) (d := q1788.1) 0 rfl)) eh_nil)) (Nat.le_of_ble_eq_true rfl))) (ea_cons (ev_callO E.td (ea_cons ev_int (ea_cons (ev_toD (ev_tupL E.td (ev_var (i := 1) rfl (E.rd (r := (zL zW)) (v := v_rows) (d := p_rows) 3 rfl)))) (ea_cons (ev_var (i := 6) rfl (E.rd (r := zD) (v := v1787) (d := q1786.1) 1 rfl)) (ea_cons (ev_toD ev_int) ea_nil)))) h_r1792) ea_nil)) h_r1793))) fun H E => ?_
        refine iteB (fun hc1816 => ?_) (fun hc1816 => ?_)
        · rw [if_pos hc1816] at hm
          refine ret_open ?_
          refine En.run E ev_bl fun v1794 H E => ?_
          have hr9 := Prod.mk.inj (Option.some.inj hm)
          have hr8 := hr9.1
          have hr7 := hr9.2
          subst res
          subst sres
          exact hQ _ _ (En.fr E) (En.outc E (c := (cBx p_box q1786.2)) 3 rfl) (En.out E (En.at E (f := (fR zB v1794 false)) 0 rfl))
        · rw [if_neg (by rw [hc1816]; decide)] at hm
          first | refine nx_ ?_ | skip
          refine asg_open ?_
          refine En.copyBx (p := p_box) (s := q1786.2) (i := 0) E 3 rfl rfl fun p1795 H E => ?_
          first | refine nx_ ?_ | skip
          refine asg_open ?_
          obtain ⟨q1796, h_q1796, hm⟩ := bnd hm
          refine En.gcall E (ea_cons (ev_var (i := 0) rfl (show zA K _ _ (.ref p_box) p_box from rfl)) (ea_cons (ev_var (i := 1) rfl (E.rd (r := (zL zW)) (v := v_rows) (d := p_rows) 4 rfl)) ea_nil)) 4 rfl h_q1796 rfl fun v1797 H E => ?_
          first | refine nx_ ?_ | skip
          refine asg_open ?_
          obtain ⟨q1798, h_q1798, hm⟩ := bnd hm
          refine En.gcall E (ea_cons (ev_var (i := 5) rfl (show zA K _ _ (.ref p1795) p1795 from rfl)) (ea_cons (ev_var (i := 1) rfl (E.rd (r := (zL zW)) (v := v_rows) (d := p_rows) 5 rfl)) ea_nil)) 0 rfl h_q1798 rfl fun v1799 H E => ?_
          first | refine nx_ ?_ | skip
          refine ret_open ?_
          refine call_open ?_
          refine cons_open ?_
          obtain ⟨d1801, e_d1801, hm⟩ := bnd hm
          refine En.run E (Ev.to (ev_toDU (ev_tupU (r := zD) (xs := [(PyData.str ("rows" : Str)), q1798.1]) E.td (eh_cons (ev_toD ev_str) (eh_cons (ev_var (i := 7) rfl (E.rd (r := zD) (v := v1799) (d := q1798.1) 0 rfl)) eh_nil)) (Nat.le_of_ble_eq_true rfl))) (Option.some.inj e_d1801)) fun v1800 H E => ?_
          refine cons_open ?_
          refine call_open ?_
          refine cons_open ?_
          refine En.run E ev_int fun v1802 H E => ?_
          refine cons_open ?_
          refine En.run E (ev_var (i := 8) rfl (E.rd (r := zD) (v := v1797) (d := q1796.1) 3 rfl)) fun v1803 H E => ?_
          refine cons_open ?_
          refine op_open ?_
          obtain ⟨d1805, e_d1805, hm⟩ := bnd hm
          refine En.run E (Ev.to (ev_tupU (r := zD) (xs := [q1786.1, (Tod.toD (zL zI) p_schedule)]) E.td (eh_cons (ev_var (i := 6) rfl (E.rd (r := zD) (v := v1787) (d := q1786.1) 7 rfl)) (eh_cons (ev_toD (ev_var (i := 2) rfl (E.rd (r := (zL zI)) (v := v_schedule) (d := p_schedule) 10 rfl))) eh_nil)) (Nat.le_of_ble_eq_true rfl)) (Option.some.inj e_d1805)) fun v1804 H E => ?_
          obtain ⟨q1806, h_q1806, hm⟩ := bnd hm
          refine En.gcall E (ea_cons (ev_var (i := 0) rfl (show zA K _ _ (.ref p_box) p_box from rfl)) (ea_cons ev_int ea_nil)) 4 rfl h_q1806 rfl fun v1807 H E => ?_
          refine of_op ?_
          obtain ⟨x1808, h_x1808, hm⟩ := bnd hm
          refine En.run E (ev_ixU (ev_var (i := 0) rfl (E.rd (r := (zU zD)) (v := v1804) (d := d1805) 1 rfl)) (ev_var (i := 1) rfl (E.rd (r := zI) (v := v1807) (d := q1806.1) 0 rfl)) h_x1808) fun v1809 H E => ?_
          refine cons_open ?_
          obtain ⟨d1811, e_d1811, hm⟩ := bnd hm
          refine En.run E (Ev.to (ev_toD ev_int) (Option.some.inj e_d1811)) fun v1810 H E => ?_
          refine nil_open ?_
          obtain ⟨q1812, h_q1812, hm⟩ := bnd hm
          refine En.callF (a := ((0 : Int), q1796.1, x1808, d1811, ())) E ⟨v1802, _, rfl, (E.rd (r := zI) (v := v1802) (d := (0 : Int)) 5 rfl), v1803, _, rfl, (E.rd (r := zD) (v := v1803) (d := q1796.1) 4 rfl), v1809, _, rfl, (E.rd (r := zD) (v := v1809) (d := x1808) 1 rfl), v1810, _, rfl, (E.rd (r := zD) (v := v1810) (d := d1811) 0 rfl), rfl⟩ h_q1812 fun v1813 H E => ?_
          refine nil_open ?_
          obtain ⟨q1814, h_q1814, hm⟩ := bnd hm
          refine En.callF (a := (d1801, q1812, ())) E ⟨v1800, _, rfl, (E.rd (r := zD) (v := v1800) (d := d1801) 7 rfl), v1813, _, rfl, (E.rd (r := zD) (v := v1813) (d := q1812) 0 rfl), rfl⟩ h_q1814 fun v1815 H E => ?_
          have hr9 := Prod.mk.inj (Option.some.inj hm)
          have hr8 := hr9.1
          have hr7 := hr9.2
          subst res
          subst sres
          exact hQ _ _ (En.fr E) (En.outc E (c := (cBx p_box q1806.2)) 4 rfl) (En.out E (En.at E (f := (fR zB v1815 q1814)) 0 rfl))
  · have hm := hm9
    refine ifs_open ?_
    refine test_open ?_
    refine op_open ?_
    obtain ⟨q1709, h_q1709, hm⟩ := bnd hm
    refine En.gcall E (ea_cons (ev_var (i := 0) rfl (show zA K _ _ (.ref p_box) p_box from rfl)) (ea_cons ev_int ea_nil)) 2 rfl h_q1709 rfl fun v1710 H E => ?_
    refine En.run E ev_int fun v1711 H E => ?_
    refine of_op ?_
    obtain ⟨d1713, e_d1713, hm⟩ := bnd hm
    refine En.run E (Ev.to (ev_eqI (ev_var (i := 0) rfl (E.rd (r := zI) (v := v1710) (d := q1709.1) 1 rfl)) (ev_var (i := 1) rfl (E.rd (r := zI) (v := v1711) (d := (0 : Int)) 0 rfl))) (Option.some.inj e_d1713)) fun v1712 H E => ?_
    refine tb2 (E.rd (r := zB) (v := v1712) (d := d1713) 0 rfl) (fun hc1722 => ?_) (fun hc1722 => ?_)
    · rw [if_pos hc1722] at hm
      refine iteT ?_
      refine asg_open ?_
      obtain ⟨r1714, h_r1714, hm⟩ := bnd hm
      obtain ⟨d1716, e_d1716, hm⟩ := bnd hm
      obtain ⟨u1717, h_u1717, hm⟩ := bnd hm
      refine En.runBD E (Ev.to (ev_callO E.tdB (ea_cons ev_int (ea_cons (ev_toD (ev_tupL E.tdB (ev_var (i := 3) rfl (E.clB (r := zW) (p := p1684) (xs := d1683) 1 rfl)))) (ea_cons (ev_toD (ev_tupL E.tdB (ev_var (i := 4) rfl (E.clB (r := zI) (p := p1686) (xs := d1685) 0 rfl)))) (ea_cons (ev_toD ev_int) ea_nil)))) h_r1714) (Option.some.inj e_d1716)) (grd_ok h_u1717) ⟨nt_L, nt_L, nt_B, trivial⟩ fun v1715 H E => ?_
      have hj9 := Option.some.inj hm
      subst j1701
      exact rest _ _ ⟨_, _, _, _, _, v1715, _, _, rfl, (En.facts (En.pick E [0, 1, 2] (by decide) rfl) ⟨(E.rd (r := (zL zW)) (v := v_rows) (d := p_rows) 6 rfl), (E.rd (r := (zL zI)) (v := v_schedule) (d := p_schedule) 7 rfl), (E.rd (r := zD) (v := v1715) (d := d1716) 0 rfl), trivial⟩)⟩
    · rw [if_neg (by rw [hc1722]; decide)] at hm
      refine iteF ?_
      refine asg_open ?_
      obtain ⟨r1718, h_r1718, hm⟩ := bnd hm
      obtain ⟨d1720, e_d1720, hm⟩ := bnd hm
      obtain ⟨u1721, h_u1721, hm⟩ := bnd hm
      refine En.runBD E (Ev.to (ev_callO E.tdB (ea_cons ev_int (ea_cons (ev_toD (ev_var (i := 3) rfl (E.clB (r := zW) (p := p1684) (xs := d1683) 1 rfl))) (ea_cons (ev_toD (ev_var (i := 4) rfl (E.clB (r := zI) (p := p1686) (xs := d1685) 0 rfl))) (ea_cons (ev_toD ev_int) ea_nil)))) h_r1718) (Option.some.inj e_d1720)) (grd_ok h_u1721) ⟨nt_L, nt_L, nt_B, trivial⟩ fun v1719 H E => ?_
      have hj9 := Option.some.inj hm
      subst j1701
      exact rest _ _ ⟨_, _, _, _, _, v1719, _, _, rfl, (En.facts (En.pick E [0, 1, 2] (by decide) rfl) ⟨(E.rd (r := (zL zW)) (v := v_rows) (d := p_rows) 6 rfl), (E.rd (r := (zL zI)) (v := v_schedule) (d := p_schedule) 7 rfl), (E.rd (r := zD) (v := v1719) (d := d1720) 0 rfl), trivial⟩)⟩

def m__law_numbers  (s00 : Bx) : Option (Bool × Bx) :=
((m__law_draw (12 : Int) s00).bind fun (q1820 : Int × Bx) =>
((some ((1 : Int) + q1820.1)).bind fun (d1823 : Int) =>
((m__law_draw (13 : Int) q1820.2).bind fun (q1824 : Int × Bx) =>
((m__law_draw (13 : Int) q1824.2).bind fun (q1826 : Int × Bx) =>
((some [(PyData.int d1823), (PyData.int q1824.1), (PyData.int q1826.1)]).bind fun (d1828 : List PyData) =>
((((m__law_draw (3 : Int) q1826.2).bind fun (q1855 : Int × Bx) =>
((some (decide (q1855.1 = (0 : Int)))).bind fun (d1859 : Bool) =>
(if d1859 = true then
((atI d1828 (1 : Int)).bind fun (x1861 : PyData) =>
((some x1861).bind fun (d1863 : PyData) =>
((grd (noL d1863 = true)).bind fun (u1864 : Unit) =>
((m__law_draw (4 : Int) q1855.2).bind fun (q1865 : Int × Bx) =>
((dInt d1863).bind fun (x1867 : Int) =>
((some (x1867 - q1865.1)).bind fun (d1869 : Int) =>
((some (mx2 (0 : Int) d1869)).bind fun (d1871 : Int) =>
((setO d1828 (2 : Int) (PyData.int d1871)).bind fun (d1872 : List PyData) =>
some (d1872, q1865.2)))))))))
else
some (d1828, q1855.2))))).bind fun (j1849 : (List PyData) × Bx) =>
((atI j1849.1 (0 : Int)).bind fun (x1886 : PyData) =>
((dInt x1886).bind fun (x1887 : Int) =>
((atI j1849.1 (1 : Int)).bind fun (x1888 : PyData) =>
((dInt x1888).bind fun (x1889 : Int) =>
((atI j1849.1 (2 : Int)).bind fun (x1890 : PyData) =>
((dInt x1890).bind fun (x1891 : Int) =>
((m__law_count x1887 x1889 x1891).bind fun (r1892 : Int) =>
((atI j1849.1 (0 : Int)).bind fun (x1920 : PyData) =>
((atI j1849.1 (1 : Int)).bind fun (x1921 : PyData) =>
((atI j1849.1 (2 : Int)).bind fun (x1922 : PyData) =>
((m__law_told (1 : Int) x1920 x1921 x1922).bind fun (r1923 : PyData) =>
((m__law_same 6 (PyData.tuple ([(PyData.str ("told" : Str)), (PyData.int r1892)])) r1923).bind fun (r1924 : Bool) =>
(if (!r1924) = true then
some (false, j1849.2)
else
((m__law_draw (7 : Int) j1849.2).bind fun (q1927 : Int × Bx) =>
((some ((1 : Int) + q1927.1)).bind fun (d1930 : Int) =>
((forP (fun (s1932 : PyData × (List PyData) × Bx) (x1936 : Int) =>
((((atI ([(1 : Int), (2 : Int), (4 : Int)] : (List Int)) x1936).bind fun (x2055 : Int) =>
((grd (CDivW d1930 x2055)).bind fun (u2056 : Unit) =>
(if (decide (((d1930 / x2055) % (2 : Int)) = (1 : Int))) = true then
((some ([(PyData.int (13 : Int)), (PyData.int (-(1 : Int))), PyData.none, (PyData.bool true), (PyData.bool false), (PyData.str (wS ([true] : List Bool))), (PyData.tuple ([] : List PyData)), (PyData.list ([(PyData.int (1 : Int))])), (PyData.tuple ([(PyData.int (2 : Int))])), (PyData.int (14 : Int)), (PyData.int (1000000007 : Int))])).bind fun (d2058 : (List PyData)) =>
((m__law_draw (11 : Int) s1932.2.2).bind fun (q2059 : Int × Bx) =>
((atI d2058 q2059.1).bind fun (x2061 : PyData) =>
(((if (decide (x1936 = (0 : Int))) = true then
((m__law_draw (3 : Int) q2059.2).bind fun (q2076 : Int × Bx) =>
((some (decide (q2076.1 = (0 : Int)))).bind fun (d2080 : Bool) =>
(if d2080 = true then
((some (PyData.int (0 : Int))).bind fun (d2082 : PyData) =>
some (d2082, q2076.2))
else
some (x2061, q2076.2))))
else
some (x2061, q2059.2))).bind fun (j2072 : PyData × Bx) =>
((setO s1932.2.1 x1936 j2072.1).bind fun (d2086 : List PyData) =>
some (j2072.1, d2086, j2072.2))))))
else
some (s1932.1, s1932.2.1, s1932.2.2))))).bind fun (j2050 : PyData × (List PyData) × Bx) =>
some (j2050.1, j2050.2.1, j2050.2.2))) (PyData.none, j1849.1, q1927.2) ([(2 : Int), (1 : Int), (0 : Int)] : (List Int))).bind fun (s1934 : PyData × (List PyData) × Bx) =>
((atI s1934.2.1 (0 : Int)).bind fun (x2115 : PyData) =>
((atI s1934.2.1 (1 : Int)).bind fun (x2116 : PyData) =>
((atI s1934.2.1 (2 : Int)).bind fun (x2117 : PyData) =>
((m__law_told (1 : Int) x2115 x2116 x2117).bind fun (r2118 : PyData) =>
((m__law_same 6 (PyData.tuple ([(PyData.str ("number" : Str)), s1934.1])) r2118).bind fun (r2119 : Bool) =>
some (r2119, s1934.2.2))))))))))))))))))))))))))))
abbrev sp__law_numbers (K : PySem.W.Frag) : Sp := GSp K (aC zA aN) (fun (a : Addr × Unit) (s : Bx) => cBx a.1 s) zB (fun (a : Addr × Unit) (s : Bx) => m__law_numbers  s)
theorem ok__law_numbers (S : Tx K mg) (G__law_count : Ok P w K mg base 1 ("_law_count", none) ["programs", "length", "switches"] (sp__law_count K)) (G__law_draw : Ok P w K mg base 1 ("_law_draw", none) ["box", "many"] (sp__law_draw K)) (G__law_same : Ok P w K mg base 7 ("_law_same", none) ["due", "told"] ((sp__law_same 6) K)) (G__law_told : Ok P w K mg base 5 ("_law_told", none) ["what", "first", "second", "third"] (sp__law_told K)) : Ok P w K mg base 8 ("_law_numbers", none) ["box"] (sp__law_numbers K) := by
  obtain ⟨fd, D⟩ := d__law_numbers S
  refine mk_ok D sc__law_numbers (D.bindsN fun _ _ _ _ _ _ us hl => match us, hl with | [_], _ => rfl) (GSp_len len1) (fun cdv A outer s H00 vs Q E hr h => ?_)
  obtain ⟨T00, ⟨p_box, _⟩, s00, res, sres, hT, ⟨v_box, _, rfl, r_box, rfl⟩, hc, hTc, hnd, hm, hQ⟩ := h
  obtain rfl : v_box = .ref p_box := r_box
  refine ⟨_, (pss_cons (ps_set (i := 1) sc__law_numbers.nd rfl (.inl rfl) (pe_lst (pa_cons (pe_op op_add pe_int (pe_callG G__law_draw hr (by omega) (by rfl) (g__law_draw S) (pa_cons (pv 0) (pa_cons pe_int pa_nil)))) (pa_cons (pe_callG G__law_draw hr (by omega) (by rfl) (g__law_draw S) (pa_cons (pv 0) (pa_cons pe_int pa_nil))) (pa_cons (pe_callG G__law_draw hr (by omega) (by rfl) (g__law_draw S) (pa_cons (pv 0) (pa_cons pe_int pa_nil))) pa_nil))))) (pss_cons (ps_if (pt_cmpR op_eq (pe_callG G__law_draw hr (by omega) (by rfl) (g__law_draw S) (pa_cons (pv 0) (pa_cons pe_int pa_nil))) pe_int (nomark _)) (pss_one (ps_asg (pe_callB call_max2Q (by rfl) (m_max S) bt_max (pa_cons pe_int (pa_cons (pe_op op_sub (pe_ix (kx_list (K := K)) (pv 1) pe_int (fun _ _ => rfl)) (pe_callG G__law_draw hr (by omega) (by rfl) (g__law_draw S) (pa_cons (pv 0) (pa_cons pe_int pa_nil)))) pa_nil))) (pg_sub (pv 1) pe_int set_list))) pss_nil) (pss_cons (ps_set (i := 2) sc__law_numbers.nd rfl (.inl rfl) (pe_callG G__law_count hr (by omega) (by rfl) (g__law_count S) (pa_cons (pe_ix (kx_list (K := K)) (pv 1) pe_int (fun _ _ => rfl)) (pa_cons (pe_ix (kx_list (K := K)) (pv 1) pe_int (fun _ _ => rfl)) (pa_cons (pe_ix (kx_list (K := K)) (pv 1) pe_int (fun _ _ => rfl)) pa_nil))))) (pss_cons (ps_if (pt_not (pt_val (pe_callG G__law_same hr (by omega) (by rfl) (g__law_same S) (pa_cons (pe_tup (pa_cons pe_str (pa_cons (pv 2) pa_nil))) (pa_cons (pe_callG G__law_told hr (by omega) (by rfl) (g__law_told S) (pa_cons pe_int (pa_cons (pe_ix (kx_list (K := K)) (pv 1) pe_int (fun _ _ => rfl)) (pa_cons (pe_ix (kx_list (K := K)) (pv 1) pe_int (fun _ _ => rfl)) (pa_cons (pe_ix (kx_list (K := K)) (pv 1) pe_int (fun _ _ => rfl)) pa_nil))))) pa_nil))))) (pss_one (ps_ret pe_bl)) pss_nil) (pss_cons (ps_set (i := 3) sc__law_numbers.nd rfl (.inl rfl) (pe_op op_add pe_int (pe_callG G__law_draw hr (by omega) (by rfl) (g__law_draw S) (pa_cons (pv 0) (pa_cons pe_int pa_nil))))) (pss_cons (ps_set (i := 4) sc__law_numbers.nd rfl (.inl rfl) pe_non) (pss_cons (ps_for PassesOwn.never rfl (kp_tup (K := K) (pe_tup (pa_cons pe_int (pa_cons pe_int (pa_cons pe_int pa_nil))))) (pg_name (i := 5) sc__law_numbers.nd rfl (.inl rfl)) (pss_one (ps_if (pt_cmpR op_eq (pe_op op_mod (pe_op op_fdivW (pv 3) (pe_ix (kx_tup (K := K)) (pe_tup (pa_cons pe_int (pa_cons pe_int (pa_cons pe_int pa_nil)))) (pv 5) (fun _ _ => rfl))) pe_int) pe_int (nomark _)) (pss_cons (ps_set (i := 6) sc__law_numbers.nd rfl (.inl rfl) (pe_ix (kx_tup (K := K)) (pe_tup (pa_cons pe_int (pa_cons (pe_un un_neg pe_int) (pa_cons pe_non (pa_cons pe_bl (pa_cons pe_bl (pa_cons pe_str (pa_cons (pe_tup pa_nil) (pa_cons (pe_lst (pa_cons pe_int pa_nil)) (pa_cons (pe_tup (pa_cons pe_int pa_nil)) (pa_cons pe_int (pa_cons pe_int pa_nil)))))))))))) (pe_callG G__law_draw hr (by omega) (by rfl) (g__law_draw S) (pa_cons (pv 0) (pa_cons pe_int pa_nil))) (fun _ _ => rfl))) (pss_cons (ps_if (PW.pt (pw_and (pt_cmpR op_eq (pv 5) pe_int (nomark _)) (pw_and1 (pt_cmpR op_eq (pe_callG G__law_draw hr (by omega) (by rfl) (g__law_draw S) (pa_cons (pv 0) (pa_cons pe_int pa_nil))) pe_int (nomark _))))) (pss_one (ps_set (i := 6) sc__law_numbers.nd rfl (.inl rfl) pe_int)) pss_nil) (pss_cons (ps_asg (pv 6) (pg_sub (pv 1) (pv 5) set_list)) (pss_one (ps_set (i := 4) sc__law_numbers.nd rfl (.inl rfl) (pv 6)))))) pss_nil))) (pss_one (ps_ret (pe_callG G__law_same hr (by omega) (by rfl) (g__law_same S) (pa_cons (pe_tup (pa_cons pe_str (pa_cons (pv 4) pa_nil))) (pa_cons (pe_callG G__law_told hr (by omega) (by rfl) (g__law_told S) (pa_cons pe_int (pa_cons (pe_ix (kx_list (K := K)) (pv 1) pe_int (fun _ _ => rfl)) (pa_cons (pe_ix (kx_list (K := K)) (pv 1) pe_int (fun _ _ => rfl)) (pa_cons (pe_ix (kx_list (K := K)) (pv 1) pe_int (fun _ _ => rfl)) pa_nil))))) pa_nil)))))))))))), ?_⟩
  have E : En K ⟨T00, [p_box], H00⟩ [] [(cBx p_box s00)] T00 H00 := En.start1 (c := (cBx p_box s00)) hT trivial hc hTc hnd
  replace hm : m__law_numbers  s00 = some (res, sres) := hm
  unfold m__law_numbers at hm
  refine asg_open ?_
  refine lst_open ?_
  refine cons_open ?_
  refine op_open ?_
  refine En.run E ev_int fun v1819 H E => ?_
  obtain ⟨q1820, h_q1820, hm⟩ := bnd hm
  refine En.gcall E (ea_cons (ev_var (i := 0) rfl (show zA K _ _ (.ref p_box) p_box from rfl)) (ea_cons ev_int ea_nil)) 0 rfl h_q1820 rfl fun v1821 H E => ?_
  refine of_op ?_
  obtain ⟨d1823, e_d1823, hm⟩ := bnd hm
  refine En.run E (Ev.to (ev_add (ev_var (i := 0) rfl (E.rd (r := zI) (v := v1819) (d := (1 : Int)) 1 rfl)) (ev_var (i := 1) rfl (E.rd (r := zI) (v := v1821) (d := q1820.1) 0 rfl))) (Option.some.inj e_d1823)) fun v1822 H E => ?_
  replace E := En.add (f := (fR zD v1822 (PyData.int d1823))) E (zd_up (r := zI) (E.rd (r := zI) (v := v1822) (d := d1823) 0 rfl))
  refine cons_open ?_
  obtain ⟨q1824, h_q1824, hm⟩ := bnd hm
  refine En.gcall E (ea_cons (ev_var (i := 0) rfl (show zA K _ _ (.ref p_box) p_box from rfl)) (ea_cons ev_int ea_nil)) 0 rfl h_q1824 rfl fun v1825 H E => ?_
  replace E := En.add (f := (fR zD v1825 (PyData.int q1824.1))) E (zd_up (r := zI) (E.rd (r := zI) (v := v1825) (d := q1824.1) 0 rfl))
  refine cons_open ?_
  obtain ⟨q1826, h_q1826, hm⟩ := bnd hm
  refine En.gcall E (ea_cons (ev_var (i := 0) rfl (show zA K _ _ (.ref p_box) p_box from rfl)) (ea_cons ev_int ea_nil)) 0 rfl h_q1826 rfl fun v1827 H E => ?_
  replace E := En.add (f := (fR zD v1827 (PyData.int q1826.1))) E (zd_up (r := zI) (E.rd (r := zI) (v := v1827) (d := q1826.1) 0 rfl))
  refine nil_open ?_
  obtain ⟨d1828, e_d1828, hm⟩ := bnd hm
  refine En.newLV (r := zD) E (all2_to (.cons (E.rd (r := zD) (v := v1822) (d := (PyData.int d1823)) 4 rfl) (.cons (E.rd (r := zD) (v := v1825) (d := (PyData.int q1824.1)) 2 rfl) (.cons (E.rd (r := zD) (v := v1827) (d := (PyData.int q1826.1)) 0 rfl) .nil))) (Option.some.inj e_d1828)) (by rw [← Option.some.inj e_d1828]; exact Nat.le_of_ble_eq_true rfl) fun p1829 E => ?_
  revert E
  generalize upd _ p1829 _ = H
  intro E
  first | refine nx_ ?_ | skip
  obtain ⟨j1849, hm9, hm8⟩ := bnd hm
  refine seq_open ?_
  refine cut_ (fun σ9 H9 => ∃ (T : AS), ∃ (u1850 : Option V), ∃ (u1851 : Option V), ∃ (u1852 : Option V), ∃ (u1853 : Option V), ∃ (u1854 : Option V), σ9 = [some (.ref p_box), some (.ref p1829), u1850, u1851, u1852, u1853, u1854] ∧ En K ⟨T00, [p_box], H00⟩ [] [(cL zD p1829 j1849.1), (cBx p_box j1849.2)] T H9) ?_ fun rest => ?_
  · rintro _ H ⟨T, u1850, u1851, u1852, u1853, u1854, rfl, E⟩
    have hm := hm8
    first | refine nx_ ?_ | skip
    refine asg_open ?_
    obtain ⟨x1886, h_x1886, hm⟩ := bnd hm
    obtain ⟨x1887, h_x1887, hm⟩ := bnd hm
    obtain ⟨x1888, h_x1888, hm⟩ := bnd hm
    obtain ⟨x1889, h_x1889, hm⟩ := bnd hm
    obtain ⟨x1890, h_x1890, hm⟩ := bnd hm
    obtain ⟨x1891, h_x1891, hm⟩ := bnd hm
    obtain ⟨r1892, h_r1892, hm⟩ := bnd hm
    refine En.runB E (ev_callO E.tdB (ea_cons (ev_dI (ev_ixL (ev_var (i := 1) rfl (E.clB (r := zD) (p := p1829) (xs := j1849.1) 0 rfl)) ev_int h_x1886) h_x1887) (ea_cons (ev_dI (ev_ixL (ev_var (i := 1) rfl (E.clB (r := zD) (p := p1829) (xs := j1849.1) 0 rfl)) ev_int h_x1888) h_x1889) (ea_cons (ev_dI (ev_ixL (ev_var (i := 1) rfl (E.clB (r := zD) (p := p1829) (xs := j1849.1) 0 rfl)) ev_int h_x1890) h_x1891) ea_nil))) h_r1892) fun v1893 H E => ?_
    first | refine nx_ ?_ | skip
    refine ifs_open ?_
    obtain ⟨x1920, h_x1920, hm⟩ := bnd hm
    obtain ⟨x1921, h_x1921, hm⟩ := bnd hm
    obtain ⟨x1922, h_x1922, hm⟩ := bnd hm
    obtain ⟨r1923, h_r1923, hm⟩ := bnd hm
    obtain ⟨r1924, h_r1924, hm⟩ := bnd hm
    refine En.testB E (et_not (et_B (K := K) (ev_callO E.tdB (ea_cons (ev_toDU (ev_tupU (r := zD) (xs := [(PyData.str ("told" : Str)), (PyData.int r1892)]) E.tdB (eh_cons (ev_toD ev_str) (eh_cons (ev_toD (ev_var (i := 2) rfl (E.rdB (r := zI) (v := v1893) (d := r1892) 0 rfl))) eh_nil)) (Nat.le_of_ble_eq_true rfl))) (ea_cons (ev_callO E.tdB (ea_cons ev_int (ea_cons (ev_ixL (ev_var (i := 1) rfl (E.clB (r := zD) (p := p1829) (xs := j1849.1) 0 rfl)) ev_int h_x1920) (ea_cons (ev_ixL (ev_var (i := 1) rfl (E.clB (r := zD) (p := p1829) (xs := j1849.1) 0 rfl)) ev_int h_x1921) (ea_cons (ev_ixL (ev_var (i := 1) rfl (E.clB (r := zD) (p := p1829) (xs := j1849.1) 0 rfl)) ev_int h_x1922) ea_nil)))) h_r1923) ea_nil)) h_r1924))) fun H E => ?_
    refine iteB (fun hc2121 => ?_) (fun hc2121 => ?_)
    · rw [if_pos hc2121] at hm
      refine ret_open ?_
      refine En.run E ev_bl fun v1925 H E => ?_
      have hr9 := Prod.mk.inj (Option.some.inj hm)
      have hr8 := hr9.1
      have hr7 := hr9.2
      subst res
      subst sres
      exact hQ _ _ (En.fr E) (En.outc E (c := (cBx p_box j1849.2)) 1 rfl) (En.out E (En.at E (f := (fR zB v1925 false)) 0 rfl))
    · rw [if_neg (by rw [hc2121]; decide)] at hm
      first | refine nx_ ?_ | skip
      refine asg_open ?_
      refine op_open ?_
      refine En.run E ev_int fun v1926 H E => ?_
      obtain ⟨q1927, h_q1927, hm⟩ := bnd hm
      refine En.gcall E (ea_cons (ev_var (i := 0) rfl (show zA K _ _ (.ref p_box) p_box from rfl)) (ea_cons ev_int ea_nil)) 1 rfl h_q1927 rfl fun v1928 H E => ?_
      refine of_op ?_
      obtain ⟨d1930, e_d1930, hm⟩ := bnd hm
      refine En.run E (Ev.to (ev_add (ev_var (i := 0) rfl (E.rd (r := zI) (v := v1926) (d := (1 : Int)) 1 rfl)) (ev_var (i := 1) rfl (E.rd (r := zI) (v := v1928) (d := q1927.1) 0 rfl))) (Option.some.inj e_d1930)) fun v1929 H E => ?_
      first | refine nx_ ?_ | skip
      refine asg_open ?_
      refine En.run E (ev_toD ev_non) fun v1931 H E => ?_
      first | refine nx_ ?_ | skip
      obtain ⟨s1934, h_s1934, hm⟩ := bnd hm
      refine En.forP (K := K) (fun (b1935 : Bs) (s1932 : PyData × (List PyData) × Bx) (T : AS) (σ9 : L2.St) (H9 : Hp) => ∃ (u2012 : Option V), ∃ (v2013 : V), ∃ (u2014 : Option V), ∃ (u2015 : Option V), σ9 = [some (.ref p_box), some (.ref p1829), u2012, some v1929, some v2013, u2014, u2015] ∧ En K b1935 [(fR zI v1929 d1930), (fR zD v2013 s1932.1)] [(cL zD p1829 s1932.2.1), (cBx p_box s1932.2.2)] T H9) E (ei_tup (ev_tupU E.td (eh_cons ev_int (eh_cons ev_int (eh_cons ev_int eh_nil))) (Nat.le_of_ble_eq_true rfl))) h_s1934 (fun H E => ⟨_, v1931, _, _, rfl, (En.facts (En.pick E [0, 1] (by decide) rfl) ⟨(E.rd (r := zI) (v := v1929) (d := d1930) 1 rfl), (E.rd (r := zD) (v := v1931) (d := PyData.none) 0 rfl), trivial⟩)⟩) (by rintro _ _ _ _ _ ⟨u2012, v2013, u2014, u2015, rfl, E⟩; exact ⟨En.wd E, En.td E⟩) (fun b1935 s1932 x1936 o1933 T _ H1 H v1937 D1938 hx1938 hI1938 ex1938 hr1938 hm hrt1938 hn1938 => ?_) (fun H2 T _ H E2 hI1938 => ?_)
      · obtain ⟨u2012, v2013, u2014, u2015, rfl, E⟩ := hI1938
        replace E := En.add (f := (fR zI v1937 x1936)) (En.ex E ex1938) hr1938
        refine gn ?_
        obtain ⟨j2050, hm9, hm8⟩ := bnd hm
        refine cut_ (fun σ9 H9 => ∃ (T : AS), ∃ (u2051 : Option V), ∃ (v2052 : V), ∃ (u2053 : Option V), ∃ (u2054 : Option V), σ9 = [some (.ref p_box), some (.ref p1829), u2051, some v1929, some v2052, u2053, u2054] ∧ En K b1935 [(fR zI v1929 d1930), (fR zD v2052 j2050.1)] [(cL zD p1829 j2050.2.1), (cBx p_box j2050.2.2)] T H9) ?_ fun rest => ?_
        · rintro _ H ⟨T, u2051, v2052, u2053, u2054, rfl, E⟩
          have hm := hm8
          have hj9 := Option.some.inj hm
          subst o1933
          exact (hn1938 _ _ _ ⟨_, v2052, _, _, rfl, (En.facts (En.pick E [0, 1] (by decide) rfl) ⟨(E.rd (r := zI) (v := v1929) (d := d1930) 0 rfl), (E.rd (r := zD) (v := v2052) (d := j2050.1) 1 rfl), trivial⟩)⟩).1
        · have hm := hm9
          refine ifs_open ?_
          obtain ⟨x2055, h_x2055, hm⟩ := bnd hm
          obtain ⟨u2056, h_u2056, hm⟩ := bnd hm
          refine En.test E (et_test (K := K) (ev_eqI (ev_mod (ev_fdivW (ev_var (i := 3) rfl (E.rd (r := zI) (v := v1929) (d := d1930) 1 rfl)) (ev_ixU (ev_tupU E.td (eh_cons ev_int (eh_cons ev_int (eh_cons ev_int eh_nil))) (Nat.le_of_ble_eq_true rfl)) (ev_var (i := 5) rfl (E.rd (r := zI) (v := v1937) (d := x1936) 0 rfl)) h_x2055) (grd_ok h_u2056)) ev_int (by decide)) ev_int)) fun H E => ?_
          refine iteB (fun hc2088 => ?_) (fun hc2088 => ?_)
          · rw [if_pos hc2088] at hm
            refine asg_open ?_
            refine op_open ?_
            obtain ⟨d2058, e_d2058, hm⟩ := bnd hm
            refine En.run E (Ev.to (ev_tupU (r := zD) (xs := [(PyData.int (13 : Int)), (PyData.int (-(1 : Int))), PyData.none, (PyData.bool true), (PyData.bool false), (PyData.str (wS ([true] : List Bool))), (PyData.tuple ([] : List PyData)), (PyData.list ([(PyData.int (1 : Int))])), (PyData.tuple ([(PyData.int (2 : Int))])), (PyData.int (14 : Int)), (PyData.int (1000000007 : Int))]) E.td (eh_cons (ev_toD ev_int) (eh_cons (ev_toD (ev_neg ev_int)) (eh_cons (ev_toD ev_non) (eh_cons (ev_toD ev_bl) (eh_cons (ev_toD ev_bl) (eh_cons (ev_toD (ev_word [true] (by decide) (by decide))) (eh_cons (ev_toDU (ev_tupU (r := zD) (xs := []) E.td eh_nil (Nat.le_of_ble_eq_true rfl))) (eh_cons (ev_toDL (ev_lst (r := zD) (xs := [(PyData.int (1 : Int))]) E.td (eh_cons (ev_toD ev_int) eh_nil) (Nat.le_of_ble_eq_true rfl))) (eh_cons (ev_toDU (ev_tupU (r := zD) (xs := [(PyData.int (2 : Int))]) E.td (eh_cons (ev_toD ev_int) eh_nil) (Nat.le_of_ble_eq_true rfl))) (eh_cons (ev_toD ev_int) (eh_cons (ev_toD ev_int) eh_nil))))))))))) (Nat.le_of_ble_eq_true rfl)) (Option.some.inj e_d2058)) fun v2057 H E => ?_
            obtain ⟨q2059, h_q2059, hm⟩ := bnd hm
            refine En.gcall E (ea_cons (ev_var (i := 0) rfl (show zA K _ _ (.ref p_box) p_box from rfl)) (ea_cons ev_int ea_nil)) 1 rfl h_q2059 rfl fun v2060 H E => ?_
            refine of_op ?_
            obtain ⟨x2061, h_x2061, hm⟩ := bnd hm
            refine En.run E (ev_ixU (ev_var (i := 0) rfl (E.rd (r := (zU zD)) (v := v2057) (d := d2058) 1 rfl)) (ev_var (i := 1) rfl (E.rd (r := zI) (v := v2060) (d := q2059.1) 0 rfl)) h_x2061) fun v2062 H E => ?_
            first | refine nx_ ?_ | skip
            obtain ⟨j2072, hm9, hm8⟩ := bnd hm
            refine seq_open ?_
            refine cut_ (fun σ9 H9 => ∃ (T : AS), ∃ (u2073 : Option V), ∃ (u2074 : Option V), ∃ (v2075 : V), σ9 = [some (.ref p_box), some (.ref p1829), u2073, some v1929, u2074, some v1937, some v2075] ∧ En K b1935 [(fR zI v1929 d1930), (fR zI v1937 x1936), (fR zD v2075 j2072.1)] [(cL zD p1829 s1932.2.1), (cBx p_box j2072.2)] T H9) ?_ fun rest => ?_
            · rintro _ H ⟨T, u2073, u2074, v2075, rfl, E⟩
              have hm := hm8
              first | refine nx_ ?_ | skip
              refine asgt_open ?_
              refine En.run E (ev_var (i := 6) rfl (E.rd (r := zD) (v := v2075) (d := j2072.1) 2 rfl)) fun v2085 H E => ?_
              obtain ⟨d2086, e_d2086, hm⟩ := bnd hm
              refine En.setitem (r := zD) (p := p1829) (xs := s1932.2.1) E rfl 0 rfl (E.rd (r := zD) (v := v2085) (d := j2072.1) 0 rfl) (ev_var (i := 5) rfl (E.rd (r := zI) (v := v1937) (d := x1936) 2 rfl)) e_d2086 fun H E => ?_
              first | refine nx_ ?_ | skip
              refine asg_open ?_
              refine En.run E (ev_var (i := 6) rfl (E.rd (r := zD) (v := v2075) (d := j2072.1) 3 rfl)) fun v2087 H E => ?_
              have hj9 := Option.some.inj hm
              subst j2050
              exact rest _ _ ⟨_, _, v2087, _, _, rfl, (En.facts (En.pick E [0, 1] (by decide) rfl) ⟨(E.rd (r := zI) (v := v1929) (d := d1930) 2 rfl), (E.rd (r := zD) (v := v2087) (d := j2072.1) 0 rfl), trivial⟩)⟩
            · have hm := hm9
              refine ifs_open ?_
              refine and_open ?_
              refine En.test2 E (et_test (K := K) (ev_eqI (ev_var (i := 5) rfl (E.rd (r := zI) (v := v1937) (d := x1936) 3 rfl)) ev_int)) (fun hc2084 H E => ?_) (fun hc2084 H E => ?_)
              · rw [if_pos hc2084] at hm
                refine iteT ?_
                refine test_open ?_
                refine op_open ?_
                obtain ⟨q2076, h_q2076, hm⟩ := bnd hm
                refine En.gcall E (ea_cons (ev_var (i := 0) rfl (show zA K _ _ (.ref p_box) p_box from rfl)) (ea_cons ev_int ea_nil)) 1 rfl h_q2076 rfl fun v2077 H E => ?_
                refine En.run E ev_int fun v2078 H E => ?_
                refine of_op ?_
                obtain ⟨d2080, e_d2080, hm⟩ := bnd hm
                refine En.run E (Ev.to (ev_eqI (ev_var (i := 0) rfl (E.rd (r := zI) (v := v2077) (d := q2076.1) 1 rfl)) (ev_var (i := 1) rfl (E.rd (r := zI) (v := v2078) (d := (0 : Int)) 0 rfl))) (Option.some.inj e_d2080)) fun v2079 H E => ?_
                refine tb2 (E.rd (r := zB) (v := v2079) (d := d2080) 0 rfl) (fun hc2083 => ?_) (fun hc2083 => ?_)
                · rw [if_pos hc2083] at hm
                  refine iteT ?_
                  refine asg_open ?_
                  obtain ⟨d2082, e_d2082, hm⟩ := bnd hm
                  refine En.run E (Ev.to (ev_toD ev_int) (Option.some.inj e_d2082)) fun v2081 H E => ?_
                  have hj9 := Option.some.inj hm
                  subst j2072
                  exact rest _ _ ⟨_, _, _, v2081, rfl, (En.facts (En.pick E [0, 1] (by decide) rfl) ⟨(E.rd (r := zI) (v := v1929) (d := d1930) 8 rfl), (E.rd (r := zI) (v := v1937) (d := x1936) 7 rfl), (E.rd (r := zD) (v := v2081) (d := d2082) 0 rfl), trivial⟩)⟩
                · rw [if_neg (by rw [hc2083]; decide)] at hm
                  refine iteF ?_
                  have hj9 := Option.some.inj hm
                  subst j2072
                  exact rest _ _ ⟨_, _, _, v2062, rfl, (En.facts (En.pick E [0, 1] (by decide) rfl) ⟨(E.rd (r := zI) (v := v1929) (d := d1930) 7 rfl), (E.rd (r := zI) (v := v1937) (d := x1936) 6 rfl), (E.rd (r := zD) (v := v2062) (d := x2061) 3 rfl), trivial⟩)⟩
              · rw [if_neg (by rw [hc2084]; decide)] at hm
                refine iteF ?_
                refine iteF ?_
                have hj9 := Option.some.inj hm
                subst j2072
                exact rest _ _ ⟨_, _, _, v2062, rfl, (En.facts (En.pick E [0, 1] (by decide) rfl) ⟨(E.rd (r := zI) (v := v1929) (d := d1930) 4 rfl), (E.rd (r := zI) (v := v1937) (d := x1936) 3 rfl), (E.rd (r := zD) (v := v2062) (d := x2061) 0 rfl), trivial⟩)⟩
          · rw [if_neg (by rw [hc2088]; decide)] at hm
            have hj9 := Option.some.inj hm
            subst j2050
            exact rest _ _ ⟨_, _, v2013, _, _, rfl, (En.facts (En.pick E [0, 1] (by decide) rfl) ⟨(E.rd (r := zI) (v := v1929) (d := d1930) 1 rfl), (E.rd (r := zD) (v := v2013) (d := s1932.1) 2 rfl), trivial⟩)⟩
      · obtain ⟨u2012, v2013, u2014, u2015, rfl, E⟩ := hI1938
        replace E := En.back E2 E
        first | refine nx_ ?_ | skip
        replace E := En.freeze (r := zD) (p := p1829) (xs := s1934.2.1) (cs := [(cBx p_box s1934.2.2)]) E (by simp [owns])
        refine ret_open ?_
        obtain ⟨x2115, h_x2115, hm⟩ := bnd hm
        obtain ⟨x2116, h_x2116, hm⟩ := bnd hm
        obtain ⟨x2117, h_x2117, hm⟩ := bnd hm
        obtain ⟨r2118, h_r2118, hm⟩ := bnd hm
        obtain ⟨r2119, h_r2119, hm⟩ := bnd hm
        refine En.run E (ev_callO E.td (ea_cons (ev_toDU (ev_tupU (r := zD) (xs := [(PyData.str ("number" : Str)), s1934.1]) E.td (eh_cons (ev_toD ev_str) (eh_cons (ev_var (i := 4) rfl (E.rd (r := zD) (v := v2013) (d := s1934.1) 2 rfl)) eh_nil)) (Nat.le_of_ble_eq_true rfl))) (ea_cons (ev_callO E.td (ea_cons ev_int (ea_cons (ev_ixL (ev_var (i := 1) rfl (E.rd (r := (zL zD)) (v := (.ref p1829)) (d := s1934.2.1) 0 rfl)) ev_int h_x2115) (ea_cons (ev_ixL (ev_var (i := 1) rfl (E.rd (r := (zL zD)) (v := (.ref p1829)) (d := s1934.2.1) 0 rfl)) ev_int h_x2116) (ea_cons (ev_ixL (ev_var (i := 1) rfl (E.rd (r := (zL zD)) (v := (.ref p1829)) (d := s1934.2.1) 0 rfl)) ev_int h_x2117) ea_nil)))) h_r2118) ea_nil)) h_r2119) fun v2120 H E => ?_
        have hr9 := Prod.mk.inj (Option.some.inj hm)
        have hr8 := hr9.1
        have hr7 := hr9.2
        subst res
        subst sres
        exact hQ _ _ (En.fr E) (En.outc E (c := (cBx p_box s1934.2.2)) 0 rfl) (En.out E (En.at E (f := (fR zB v2120 r2119)) 0 rfl))
  · have hm := hm9
    refine ifs_open ?_
    refine test_open ?_
    refine op_open ?_
    obtain ⟨q1855, h_q1855, hm⟩ := bnd hm
    refine En.gcall E (ea_cons (ev_var (i := 0) rfl (show zA K _ _ (.ref p_box) p_box from rfl)) (ea_cons ev_int ea_nil)) 1 rfl h_q1855 rfl fun v1856 H E => ?_
    refine En.run E ev_int fun v1857 H E => ?_
    refine of_op ?_
    obtain ⟨d1859, e_d1859, hm⟩ := bnd hm
    refine En.run E (Ev.to (ev_eqI (ev_var (i := 0) rfl (E.rd (r := zI) (v := v1856) (d := q1855.1) 1 rfl)) (ev_var (i := 1) rfl (E.rd (r := zI) (v := v1857) (d := (0 : Int)) 0 rfl))) (Option.some.inj e_d1859)) fun v1858 H E => ?_
    refine tb2 (E.rd (r := zB) (v := v1858) (d := d1859) 0 rfl) (fun hc1873 => ?_) (fun hc1873 => ?_)
    · rw [if_pos hc1873] at hm
      refine iteT ?_
      refine asgt_open ?_
      refine cb_open ?_
      refine cons_open ?_
      refine En.run E ev_int fun v1860 H E => ?_
      refine cons_open ?_
      refine op_open ?_
      obtain ⟨x1861, h_x1861, hm⟩ := bnd hm
      obtain ⟨d1863, e_d1863, hm⟩ := bnd hm
      obtain ⟨u1864, h_u1864, hm⟩ := bnd hm
      refine En.runBD E (Ev.to (ev_ixL (ev_var (i := 1) rfl (E.clB (r := zD) (p := p1829) (xs := d1828) 0 rfl)) ev_int h_x1861) (Option.some.inj e_d1863)) (grd_ok h_u1864) ⟨nt_L, nt_B, trivial⟩ fun v1862 H E => ?_
      obtain ⟨q1865, h_q1865, hm⟩ := bnd hm
      refine En.gcall E (ea_cons (ev_var (i := 0) rfl (show zA K _ _ (.ref p_box) p_box from rfl)) (ea_cons ev_int ea_nil)) 1 rfl h_q1865 rfl fun v1866 H E => ?_
      refine of_op ?_
      obtain ⟨x1867, h_x1867, hm⟩ := bnd hm
      obtain ⟨d1869, e_d1869, hm⟩ := bnd hm
      refine En.run E (Ev.to (ev_sub (ev_dI (ev_var (i := 0) rfl (E.rd (r := zD) (v := v1862) (d := d1863) 1 rfl)) h_x1867) (ev_var (i := 1) rfl (E.rd (r := zI) (v := v1866) (d := q1865.1) 0 rfl))) (Option.some.inj e_d1869)) fun v1868 H E => ?_
      refine nil_open ?_
      refine of_cb2 ?_
      obtain ⟨d1871, e_d1871, hm⟩ := bnd hm
      refine En.run E (Ev.to (ev_max2 (ev_var (i := 0) rfl (E.rd (r := zI) (v := v1860) (d := (0 : Int)) 3 rfl)) (ev_var (i := 1) rfl (E.rd (r := zI) (v := v1868) (d := d1869) 0 rfl))) (Option.some.inj e_d1871)) fun v1870 H E => ?_
      replace E := En.add (f := (fR zD v1870 (PyData.int d1871))) E (zd_up (r := zI) (E.rd (r := zI) (v := v1870) (d := d1871) 0 rfl))
      obtain ⟨d1872, e_d1872, hm⟩ := bnd hm
      refine En.setitem (r := zD) (p := p1829) (xs := d1828) E rfl 0 rfl (E.rd (r := zD) (v := v1870) (d := (PyData.int d1871)) 0 rfl) ev_int e_d1872 fun H E => ?_
      have hj9 := Option.some.inj hm
      subst j1849
      exact rest _ _ ⟨_, _, _, _, _, _, rfl, (En.facts (En.pick E [0, 1] (by decide) rfl) trivial)⟩
    · rw [if_neg (by rw [hc1873]; decide)] at hm
      refine iteF ?_
      have hj9 := Option.some.inj hm
      subst j1849
      exact rest _ _ ⟨_, _, _, _, _, _, rfl, (En.facts (En.pick E [0, 1] (by decide) rfl) trivial)⟩

def m__law_all  (s00 : Bx) : Option (Bool × Bx) :=
((m__law_draw (3 : Int) s00).bind fun (q2123 : Int × Bx) =>
((some ((1 : Int) + q2123.1)).bind fun (d2126 : Int) =>
((m__law_draw (4 : Int) q2123.2).bind fun (q2127 : Int × Bx) =>
((m__law_rows d2126 q2127.1 q2127.2).bind fun (q2129 : (List (List Bool)) × Bx) =>
((grd (q2127.1 ≤ 1000000 ∧ -1000000 ≤ q2127.1)).bind fun (u2132 : Unit) =>
((forP (fun (s2133 : Int) (x2137 : Int) =>
((grd (CMulV s2133 d2126)).bind fun (u2150 : Unit) =>
((some (s2133 * d2126)).bind fun (d2152 : Int) =>
some d2152))) (1 : Int) (rng 0 (q2127.1).toNat)).bind fun (s2135 : Int) =>
((some ([(0 : Int), (0 : Int), (0 : Int), (0 : Int), (0 : Int)])).bind fun (d2153 : List Int) =>
((grd (s2135 ≤ 1000000 ∧ -1000000 ≤ s2135)).bind fun (u2155 : Unit) =>
((forO (ρ := Bool × Bx) (fun (s2156 : (List Int)) (x2160 : Int) =>
((grd (q2127.1 ≤ 1000000 ∧ -1000000 ≤ q2127.1)).bind fun (u2199 : Unit) =>
((mapO (fun (x2200 : Int) =>
((grd (CMulV d2126 d2126)).bind fun (u2202 : Unit) =>
((atI ([(1 : Int), d2126, (d2126 * d2126)] : (List Int)) x2200).bind fun (x2203 : Int) =>
((grd (CDivW x2160 x2203)).bind fun (u2204 : Unit) =>
((grd (0 < d2126)).bind fun (u2205 : Unit) =>
some ((x2160 / x2203) % d2126)))))) (rng 0 (q2127.1).toNat)).bind fun (x2206 : (List Int)) =>
((grd (q2127.1 ≤ 1000000 ∧ -1000000 ≤ q2127.1 ∧ (1 : Int) ≤ 1000000 ∧ 0 ≤ (1 : Int))).bind fun (u2208 : Unit) =>
((mapO (fun (x2209 : Int) =>
((atI x2206 x2209).bind fun (x2210 : Int) =>
((atI x2206 (x2209 - (1 : Int))).bind fun (x2211 : Int) =>
some (b2 (!decide (x2210 = x2211)))))) (rng (1 : Int) (q2127.1 - (1 : Int)).toNat)).bind fun (x2212 : (List Int)) =>
((some ((x2212).sum)).bind fun (d2214 : Int) =>
((atI s2156 d2214).bind fun (x2215 : Int) =>
((some (x2215 + (1 : Int))).bind fun (d2217 : Int) =>
((setO s2156 d2214 d2217).bind fun (d2218 : List Int) =>
((m__law_due q2129.1 x2206).bind fun (r2223 : (Str × (List Bool))) =>
((m__law_told (0 : Int) (Tod.toD (zL zW) q2129.1) (Tod.toD (zL zI) x2206) (PyData.int (0 : Int))).bind fun (r2224 : PyData) =>
((m__law_same 6 (Tod.toD (zP zS zW) r2223) r2224).bind fun (r2225 : Bool) =>
(if (!r2225) = true then
some (.ret (false, q2129.2))
else
some (.nx d2218)))))))))))))) d2153 (rng 0 (s2135).toNat)).bind fun (o2198 : Out (Bool × Bx) ((List Int))) => outB o2198 fun (s2158 : (List Int)) =>
((forO (ρ := Bool × Bx) (fun (s2228 : Unit) (x2232 : Int) =>
((m__law_told (1 : Int) (PyData.int d2126) (PyData.int q2127.1) (PyData.int x2232)).bind fun (r2251 : PyData) =>
((m__law_same 6 (PyData.tuple ([(PyData.str ("told" : Str)), (PyData.int (((cutA s2158 none (some (x2232 + (1 : Int))))).sum))])) r2251).bind fun (r2252 : Bool) =>
(if (!r2252) = true then
some (.ret (false, q2129.2))
else
some (.nx ()))))) () (rng 0 ((5 : Int)).toNat)).bind fun (o2248 : Out (Bool × Bx) (Unit)) => outB o2248 fun (s2230 : Unit) =>
some (true, q2129.2)))))))))))
abbrev sp__law_all (K : PySem.W.Frag) : Sp := GSp K (aC zA aN) (fun (a : Addr × Unit) (s : Bx) => cBx a.1 s) zB (fun (a : Addr × Unit) (s : Bx) => m__law_all  s)
theorem ok__law_all (S : Tx K mg) (G__law_draw : Ok P w K mg base 1 ("_law_draw", none) ["box", "many"] (sp__law_draw K)) (G__law_due : Ok P w K mg base 1 ("_law_due", none) ["rows", "schedule"] (sp__law_due K)) (G__law_rows : Ok P w K mg base 2 ("_law_rows", none) ["box", "programs", "length"] (sp__law_rows K)) (G__law_same : Ok P w K mg base 7 ("_law_same", none) ["due", "told"] ((sp__law_same 6) K)) (G__law_told : Ok P w K mg base 5 ("_law_told", none) ["what", "first", "second", "third"] (sp__law_told K)) : Ok P w K mg base 8 ("_law_all", none) ["box"] (sp__law_all K) := by
  obtain ⟨fd, D⟩ := d__law_all S
  refine mk_ok D sc__law_all (D.bindsN fun _ _ _ _ _ _ us hl => match us, hl with | [_], _ => rfl) (GSp_len len1) (fun cdv A outer s H00 vs Q E hr h => ?_)
  obtain ⟨T00, ⟨p_box, _⟩, s00, res, sres, hT, ⟨v_box, _, rfl, r_box, rfl⟩, hc, hTc, hnd, hm, hQ⟩ := h
  obtain rfl : v_box = .ref p_box := r_box
  refine ⟨_, (pss_cons (ps_set (i := 1) sc__law_all.nd rfl (.inr rfl) (pe_op op_add pe_int (pe_callG G__law_draw hr (by omega) (by rfl) (g__law_draw S) (pa_cons (pv 0) (pa_cons pe_int pa_nil))))) (pss_cons (ps_set (i := 2) sc__law_all.nd rfl (.inl rfl) (pe_callG G__law_draw hr (by omega) (by rfl) (g__law_draw S) (pa_cons (pv 0) (pa_cons pe_int pa_nil)))) (pss_cons (ps_set (i := 3) sc__law_all.nd rfl (.inl rfl) (pe_callG G__law_rows hr (by omega) (by rfl) (g__law_rows S) (pa_cons (pv 0) (pa_cons (pv 1) (pa_cons (pv 2) pa_nil))))) (pss_cons (ps_set (i := 4) sc__law_all.nd rfl (.inl rfl) pe_int) (pss_cons (ps_for PassesOwn.never rfl (pi_range1 (by rfl) (m_range S) (pa_cons (pv 2) pa_nil)) (pg_name (i := 5) sc__law_all.nd rfl (.inl rfl)) (pss_one (ps_set (i := 4) sc__law_all.nd rfl (.inl rfl) (pe_op op_mulV (pv 4) (pv 1))))) (pss_cons (ps_set (i := 6) sc__law_all.nd rfl (.inl rfl) (pe_lst (pa_cons pe_int (pa_cons pe_int (pa_cons pe_int (pa_cons pe_int (pa_cons pe_int pa_nil))))))) (pss_cons (ps_for PassesOwn.never rfl (pi_range1 (by rfl) (m_range S) (pa_cons (pv 4) pa_nil)) (pg_name (i := 7) sc__law_all.nd rfl (.inr rfl)) (pss_cons (ps_set (i := 9) sc__law_all.nd rfl (.inr rfl) (pe_lc (own := [("k", 5)]) (by rfl) sc__law_all.nd (pi_range1 (by rfl) (m_range S) (pa_cons (pv 2) pa_nil)) (blkOk_by (N := ["box", "programs", "length", "rows", "many", "k", "counts", "number", "switches", "schedule", "turns"]) (sc := defScope s__law_all) (by decide +kernel)) (fun _ _ _ _ _ => pg_name (i := 5) sc__law_all.nd rfl (.inl rfl)) (fun _ _ _ _ _ => pts_nil) (fun _ _ _ _ _ => (pe_op op_mod (pe_op op_fdivW (pv 7) (pe_ix (kx_tup (K := K)) (pe_tup (pa_cons pe_int (pa_cons (pv 1) (pa_cons (pe_op op_mulV (pv 1) (pv 1)) pa_nil)))) (pv 5) (fun _ _ => rfl))) (pv 1))))) (pss_cons (ps_set (i := 10) sc__law_all.nd rfl (.inl rfl) (pe_callB (kr_sum (K := K) rfl) (by rfl) (m_sum S) bt_sum (pa_cons (pe_lc (own := [("k", 5)]) (by rfl) sc__law_all.nd (pi_range2 (by rfl) (m_range S) (pa_cons pe_int (pa_cons (pv 2) pa_nil))) (blkOk_by (N := ["box", "programs", "length", "rows", "many", "k", "counts", "number", "switches", "schedule", "turns"]) (sc := defScope s__law_all) (by decide +kernel)) (fun _ _ _ _ _ => pg_name (i := 5) sc__law_all.nd rfl (.inl rfl)) (fun _ _ _ _ _ => pts_nil) (fun _ _ _ _ _ => (pe_callTy call_int1Q (by rfl) (m_int S) bt_int (pa_cons (pe_cmpR op_ne (pe_ix (kx_list (K := K)) (pv 9) (pv 5) (fun _ _ => rfl)) (pe_ix (kx_list (K := K)) (pv 9) (pe_op op_sub (pv 5) pe_int) (fun _ _ => rfl)) (nomark _)) pa_nil)))) pa_nil))) (pss_cons (ps_asg (pe_op op_add (pe_ix (kx_list (K := K)) (pv 6) (pv 10) (fun _ _ => rfl)) pe_int) (pg_sub (pv 6) (pv 10) set_list)) (pss_one (ps_if (pt_not (pt_val (pe_callG G__law_same hr (by omega) (by rfl) (g__law_same S) (pa_cons (pe_callG G__law_due hr (by omega) (by rfl) (g__law_due S) (pa_cons (pv 3) (pa_cons (pv 9) pa_nil))) (pa_cons (pe_callG G__law_told hr (by omega) (by rfl) (g__law_told S) (pa_cons pe_int (pa_cons (pv 3) (pa_cons (pv 9) (pa_cons pe_int pa_nil))))) pa_nil))))) (pss_one (ps_ret pe_bl)) pss_nil)))))) (pss_cons (ps_for PassesOwn.never rfl (pi_range1 (by rfl) (m_range S) (pa_cons pe_int pa_nil)) (pg_name (i := 8) sc__law_all.nd rfl (.inl rfl)) (pss_one (ps_if (pt_not (pt_val (pe_callG G__law_same hr (by omega) (by rfl) (g__law_same S) (pa_cons (pe_tup (pa_cons pe_str (pa_cons (pe_callB (kr_sum (K := K) rfl) (by rfl) (m_sum S) bt_sum (pa_cons (pe_slice (ks_list (K := K)) (pv 6) po_none (po_some (pe_op op_add (pv 8) pe_int))) pa_nil)) pa_nil))) (pa_cons (pe_callG G__law_told hr (by omega) (by rfl) (g__law_told S) (pa_cons pe_int (pa_cons (pv 1) (pa_cons (pv 2) (pa_cons (pv 8) pa_nil))))) pa_nil))))) (pss_one (ps_ret pe_bl)) pss_nil))) (pss_one (ps_ret pe_bl)))))))))), ?_⟩
  have E : En K ⟨T00, [p_box], H00⟩ [] [(cBx p_box s00)] T00 H00 := En.start1 (c := (cBx p_box s00)) hT trivial hc hTc hnd
  replace hm : m__law_all  s00 = some (res, sres) := hm
  unfold m__law_all at hm
  refine asg_open ?_
  refine op_open ?_
  refine En.run E ev_int fun v2122 H E => ?_
  obtain ⟨q2123, h_q2123, hm⟩ := bnd hm
  refine En.gcall E (ea_cons (ev_var (i := 0) rfl (show zA K _ _ (.ref p_box) p_box from rfl)) (ea_cons ev_int ea_nil)) 0 rfl h_q2123 rfl fun v2124 H E => ?_
  refine of_op ?_
  obtain ⟨d2126, e_d2126, hm⟩ := bnd hm
  refine En.run E (Ev.to (ev_add (ev_var (i := 0) rfl (E.rd (r := zI) (v := v2122) (d := (1 : Int)) 1 rfl)) (ev_var (i := 1) rfl (E.rd (r := zI) (v := v2124) (d := q2123.1) 0 rfl))) (Option.some.inj e_d2126)) fun v2125 H E => ?_
  first | refine nx_ ?_ | skip
  refine asg_open ?_
  obtain ⟨q2127, h_q2127, hm⟩ := bnd hm
  refine En.gcall E (ea_cons (ev_var (i := 0) rfl (show zA K _ _ (.ref p_box) p_box from rfl)) (ea_cons ev_int ea_nil)) 0 rfl h_q2127 rfl fun v2128 H E => ?_
  first | refine nx_ ?_ | skip
  refine asg_open ?_
  obtain ⟨q2129, h_q2129, hm⟩ := bnd hm
  refine En.gcall E (ea_cons (ev_var (i := 0) rfl (show zA K _ _ (.ref p_box) p_box from rfl)) (ea_cons (ev_var (i := 1) rfl (E.rd (r := zI) (v := v2125) (d := d2126) 1 rfl)) (ea_cons (ev_var (i := 2) rfl (E.rd (r := zI) (v := v2128) (d := q2127.1) 0 rfl)) ea_nil))) 0 rfl h_q2129 rfl fun v2130 H E => ?_
  first | refine nx_ ?_ | skip
  refine asg_open ?_
  refine En.run E ev_int fun v2131 H E => ?_
  first | refine nx_ ?_ | skip
  obtain ⟨u2132, h_u2132, hm⟩ := bnd hm
  obtain ⟨s2135, h_s2135, hm⟩ := bnd hm
  refine En.forP (K := K) (fun (b2136 : Bs) (s2133 : Int) (T : AS) (σ9 : L2.St) (H9 : Hp) => ∃ (v2143 : V), ∃ (u2144 : Option V), ∃ (u2145 : Option V), ∃ (u2146 : Option V), ∃ (u2147 : Option V), ∃ (u2148 : Option V), ∃ (u2149 : Option V), σ9 = [some (.ref p_box), some v2125, some v2128, some v2130, some v2143, u2144, u2145, u2146, u2147, u2148, u2149] ∧ En K b2136 [(fR zI v2125 d2126), (fR zI v2128 q2127.1), (fR (zL zW) v2130 q2129.1), (fR zI v2143 s2133)] [(cBx p_box q2129.2)] T H9) E (ei_range (ea_cons (ev_var (i := 2) rfl (E.rd (r := zI) (v := v2128) (d := q2127.1) 2 rfl)) ea_nil) (grd_ok h_u2132).1 (grd_ok h_u2132).2) h_s2135 (fun H E => ⟨v2131, _, _, _, _, _, _, rfl, (En.facts (En.pick E [0] (by decide) rfl) ⟨(E.rd (r := zI) (v := v2125) (d := d2126) 3 rfl), (E.rd (r := zI) (v := v2128) (d := q2127.1) 2 rfl), (E.rd (r := (zL zW)) (v := v2130) (d := q2129.1) 1 rfl), (E.rd (r := zI) (v := v2131) (d := (1 : Int)) 0 rfl), trivial⟩)⟩) (by rintro _ _ _ _ _ ⟨v2143, u2144, u2145, u2146, u2147, u2148, u2149, rfl, E⟩; exact ⟨En.wd E, En.td E⟩) (fun b2136 s2133 x2137 o2134 T _ H1 H v2138 D2139 hx2139 hI2139 ex2139 hr2139 hm hrt2139 hn2139 => ?_) (fun H2 T _ H E2 hI2139 => ?_)
  · obtain ⟨v2143, u2144, u2145, u2146, u2147, u2148, u2149, rfl, E⟩ := hI2139
    replace E := En.add (f := (fR zI v2138 x2137)) (En.ex E ex2139) hr2139
    refine gn ?_
    refine asg_open ?_
    obtain ⟨u2150, h_u2150, hm⟩ := bnd hm
    obtain ⟨d2152, e_d2152, hm⟩ := bnd hm
    refine En.run E (Ev.to (ev_mulV (ev_var (i := 4) rfl (E.rd (r := zI) (v := v2143) (d := s2133) 4 rfl)) (ev_var (i := 1) rfl (E.rd (r := zI) (v := v2125) (d := d2126) 1 rfl)) (grd_ok h_u2150)) (Option.some.inj e_d2152)) fun v2151 H E => ?_
    have hj9 := Option.some.inj hm
    subst o2134
    exact (hn2139 _ _ _ ⟨v2151, _, _, _, _, _, _, rfl, (En.facts (En.pick E [0] (by decide) rfl) ⟨(E.rd (r := zI) (v := v2125) (d := d2126) 2 rfl), (E.rd (r := zI) (v := v2128) (d := q2127.1) 3 rfl), (E.rd (r := (zL zW)) (v := v2130) (d := q2129.1) 4 rfl), (E.rd (r := zI) (v := v2151) (d := d2152) 0 rfl), trivial⟩)⟩).1
  · obtain ⟨v2143, u2144, u2145, u2146, u2147, u2148, u2149, rfl, E⟩ := hI2139
    replace E := En.back E2 E
    first | refine nx_ ?_ | skip
    refine asg_open ?_
    obtain ⟨d2153, e_d2153, hm⟩ := bnd hm
    refine En.newL (r := zI) E (EvF.to (ef_lst (xs := [(0 : Int), (0 : Int), (0 : Int), (0 : Int), (0 : Int)]) (eh_cons ev_int (eh_cons ev_int (eh_cons ev_int (eh_cons ev_int (eh_cons ev_int eh_nil))))) (by decide)) (Option.some.inj e_d2153)) fun p2154 H E => ?_
    first | refine nx_ ?_ | skip
    obtain ⟨u2155, h_u2155, hm⟩ := bnd hm
    obtain ⟨o2198, h_o2198, hm⟩ := bnd hm
    have hmo2162 := hm
    refine En.for_ (K := K) (fun (b2159 : Bs) (s2156 : (List Int)) (T : AS) (σ9 : L2.St) (H9 : Hp) => ∃ (u2192 : Option V), ∃ (u2193 : Option V), ∃ (u2194 : Option V), ∃ (u2195 : Option V), ∃ (u2196 : Option V), ∃ (u2197 : Option V), σ9 = [some (.ref p_box), some v2125, some v2128, some v2130, u2192, u2193, some (.ref p2154), u2194, u2195, u2196, u2197] ∧ En K b2159 [(fR zI v2125 d2126), (fR zI v2128 q2127.1), (fR (zL zW) v2130 q2129.1)] [(cL zI p2154 s2156), (cBx p_box q2129.2)] T H9) E (ei_range (ea_cons (ev_var (i := 4) rfl (E.rd (r := zI) (v := v2143) (d := s2135) 4 rfl)) ea_nil) (grd_ok h_u2155).1 (grd_ok h_u2155).2) h_o2198 (fun H E => ⟨_, _, _, _, _, _, rfl, (En.facts (En.pick E [0, 1] (by decide) rfl) ⟨(E.rd (r := zI) (v := v2125) (d := d2126) 1 rfl), (E.rd (r := zI) (v := v2128) (d := q2127.1) 2 rfl), (E.rd (r := (zL zW)) (v := v2130) (d := q2129.1) 3 rfl), trivial⟩)⟩) (by rintro _ _ _ _ _ ⟨u2192, u2193, u2194, u2195, u2196, u2197, rfl, E⟩; exact ⟨En.wd E, En.td E⟩) (fun H2 E2_2162 s2156 x2160 o2157 T _ H1 H v2161 D2162 hx2162 hI2162 ex2162 hr2162 hm hrt2162 hq2162 hn2162 hbk2162 => ?_) (fun H2 s2158 T _ H E2 ho2162 hI2162 => ?_)
    · obtain ⟨u2192, u2193, u2194, u2195, u2196, u2197, rfl, E⟩ := hI2162
      replace E := En.add (f := (fR zI v2161 x2160)) (En.ex E ex2162) hr2162
      refine gn ?_
      refine asg_open ?_
      obtain ⟨u2199, h_u2199, hm⟩ := bnd hm
      obtain ⟨x2206, h_x2206, hm⟩ := bnd hm
      refine En.run E (ev_lcO1 E.td (ei_range (ea_cons (ev_var (i := 2) rfl (E.rd (r := zI) (v := v2128) (d := q2127.1) 2 rfl)) ea_nil) (grd_ok h_u2199).1 (grd_ok h_u2199).2) h_x2206 (fun T2200 H2200 v2200 x2200 L2200 hT2200 hx2200 r2200 Q2200 q2200 => q2200 _ wipe1 (fun y2200 hy2200 => by
          obtain ⟨u2202, h_u2202, hy2200⟩ := bnd hy2200; obtain ⟨x2203, h_x2203, hy2200⟩ := bnd hy2200; obtain ⟨u2204, h_u2204, hy2200⟩ := bnd hy2200; obtain ⟨u2205, h_u2205, hy2200⟩ := bnd hy2200; cases hy2200; exact (ev_mod (ev_fdivW (ev_var (i := 7) rfl (L2200.ap (E.rd (r := zI) (v := v2161) (d := x2160) 0 rfl))) (ev_ixU (ev_tupU hT2200 (eh_cons ev_int (eh_cons (ev_var (i := 1) rfl (L2200.ap (E.rd (r := zI) (v := v2125) (d := d2126) 1 rfl))) (eh_cons (ev_mulV (ev_var (i := 1) rfl (L2200.ap (E.rd (r := zI) (v := v2125) (d := d2126) 1 rfl))) (ev_var (i := 1) rfl (L2200.ap (E.rd (r := zI) (v := v2125) (d := d2126) 1 rfl))) (grd_ok h_u2202)) eh_nil))) (Nat.le_of_ble_eq_true rfl)) (ev_var (i := 5) rfl r2200) h_x2203) (grd_ok h_u2204)) (ev_var (i := 1) rfl (L2200.ap (E.rd (r := zI) (v := v2125) (d := d2126) 1 rfl))) (grd_ok h_u2205))))) fun v2207 H E => ?_
      first | refine nx_ ?_ | skip
      refine asg_open ?_
      obtain ⟨u2208, h_u2208, hm⟩ := bnd hm
      obtain ⟨x2212, h_x2212, hm⟩ := bnd hm
      obtain ⟨d2214, e_d2214, hm⟩ := bnd hm
      refine En.run E (Ev.to (ev_sum (ev_lcO1 E.td (ei_range2 (ea_cons ev_int (ea_cons (ev_var (i := 2) rfl (E.rd (r := zI) (v := v2128) (d := q2127.1) 3 rfl)) ea_nil)) (grd_ok h_u2208).1 (grd_ok h_u2208).2.1 (grd_ok h_u2208).2.2.1 (grd_ok h_u2208).2.2.2) h_x2212 (fun T2209 H2209 v2209 x2209 L2209 hT2209 hx2209 r2209 Q2209 q2209 => q2209 _ wipe1 (fun y2209 hy2209 => by
          obtain ⟨x2210, h_x2210, hy2209⟩ := bnd hy2209; obtain ⟨x2211, h_x2211, hy2209⟩ := bnd hy2209; cases hy2209; exact (ev_intB (ev_neI (ev_ixL (ev_var (i := 9) rfl (L2209.ap (E.rd (r := (zL zI)) (v := v2207) (d := x2206) 0 rfl))) (ev_var (i := 5) rfl r2209) h_x2210) (ev_ixL (ev_var (i := 9) rfl (L2209.ap (E.rd (r := (zL zI)) (v := v2207) (d := x2206) 0 rfl))) (ev_sub (ev_var (i := 5) rfl r2209) ev_int) h_x2211))))))) (Option.some.inj e_d2214)) fun v2213 H E => ?_
      first | refine nx_ ?_ | skip
      refine asgt_open ?_
      obtain ⟨x2215, h_x2215, hm⟩ := bnd hm
      obtain ⟨d2217, e_d2217, hm⟩ := bnd hm
      refine En.runB E (Ev.to (ev_add (ev_ixL (ev_var (i := 6) rfl (E.clB (r := zI) (p := p2154) (xs := s2156) 0 rfl)) (ev_var (i := 10) rfl (E.rdB (r := zI) (v := v2213) (d := d2214) 0 rfl)) h_x2215) ev_int) (Option.some.inj e_d2217)) fun v2216 H E => ?_
      obtain ⟨d2218, e_d2218, hm⟩ := bnd hm
      refine En.setitem (r := zI) (p := p2154) (xs := s2156) E rfl 0 rfl (E.rd (r := zI) (v := v2216) (d := d2217) 0 rfl) (ev_var (i := 10) rfl (E.rd (r := zI) (v := v2213) (d := d2214) 1 rfl)) e_d2218 fun H E => ?_
      first | refine nx_ ?_ | skip
      refine ifs_open ?_
      obtain ⟨r2223, h_r2223, hm⟩ := bnd hm
      obtain ⟨r2224, h_r2224, hm⟩ := bnd hm
      obtain ⟨r2225, h_r2225, hm⟩ := bnd hm
      refine En.test E (et_not (et_B (K := K) (ev_callO E.td (ea_cons (ev_toD (ev_callO E.td (ea_cons (ev_var (i := 3) rfl (E.rd (r := (zL zW)) (v := v2130) (d := q2129.1) 6 rfl)) (ea_cons (ev_var (i := 9) rfl (E.rd (r := (zL zI)) (v := v2207) (d := x2206) 2 rfl)) ea_nil)) h_r2223)) (ea_cons (ev_callO E.td (ea_cons ev_int (ea_cons (ev_toD (ev_var (i := 3) rfl (E.rd (r := (zL zW)) (v := v2130) (d := q2129.1) 6 rfl))) (ea_cons (ev_toD (ev_var (i := 9) rfl (E.rd (r := (zL zI)) (v := v2207) (d := x2206) 2 rfl))) (ea_cons (ev_toD ev_int) ea_nil)))) h_r2224) ea_nil)) h_r2225))) fun H E => ?_
      refine iteB (fun hc2227 => ?_) (fun hc2227 => ?_)
      · rw [if_pos hc2227] at hm
        refine ret_open ?_
        refine En.run E ev_bl fun v2226 H E => ?_
        have ho2162 := Option.some.inj hm
        subst o2157
        have hm := congrArg some (outB_ret (hq2162 _ rfl) hmo2162)
        rw [hrt2162]
        have hr9 := Prod.mk.inj (Option.some.inj hm)
        have hr8 := hr9.1
        have hr7 := hr9.2
        subst res
        subst sres
        exact hQ _ _ (En.fr (En.back E2_2162 E)) (En.outc (En.back E2_2162 E) (c := (cBx p_box q2129.2)) 1 rfl) (En.out (En.back E2_2162 E) (En.at (En.back E2_2162 E) (f := (fR zB v2226 false)) 0 rfl))
      · rw [if_neg (by rw [hc2227]; decide)] at hm
        have hj9 := Option.some.inj hm
        subst o2157
        exact (hn2162 _ _ _ _ rfl ⟨_, _, _, _, _, _, rfl, (En.facts (En.pick E [0, 1] (by decide) rfl) ⟨(E.rd (r := zI) (v := v2125) (d := d2126) 4 rfl), (E.rd (r := zI) (v := v2128) (d := q2127.1) 5 rfl), (E.rd (r := (zL zW)) (v := v2130) (d := q2129.1) 6 rfl), trivial⟩)⟩).1
    · subst o2198
      replace hm := outB_nx hm
      obtain ⟨u2192, u2193, u2194, u2195, u2196, u2197, rfl, E⟩ := hI2162
      replace E := En.back E2 E
      first | refine nx_ ?_ | skip
      obtain ⟨o2248, h_o2248, hm⟩ := bnd hm
      have hmo2234 := hm
      refine En.for_ (K := K) (fun (b2231 : Bs) (s2228 : Unit) (T : AS) (σ9 : L2.St) (H9 : Hp) => ∃ (u2241 : Option V), ∃ (u2242 : Option V), ∃ (u2243 : Option V), ∃ (u2244 : Option V), ∃ (u2245 : Option V), ∃ (u2246 : Option V), ∃ (u2247 : Option V), σ9 = [some (.ref p_box), some v2125, some v2128, u2241, u2242, u2243, some (.ref p2154), u2244, u2245, u2246, u2247] ∧ En K b2231 [(fR zI v2125 d2126), (fR zI v2128 q2127.1)] [(cL zI p2154 s2158), (cBx p_box q2129.2)] T H9) E (ei_range (ea_cons ev_int ea_nil) (by decide) (by decide)) h_o2248 (fun H E => ⟨_, _, _, _, _, _, _, rfl, (En.facts (En.pick E [0, 1] (by decide) rfl) ⟨(E.rd (r := zI) (v := v2125) (d := d2126) 0 rfl), (E.rd (r := zI) (v := v2128) (d := q2127.1) 1 rfl), trivial⟩)⟩) (by rintro _ _ _ _ _ ⟨u2241, u2242, u2243, u2244, u2245, u2246, u2247, rfl, E⟩; exact ⟨En.wd E, En.td E⟩) (fun H2 E2_2234 s2228 x2232 o2229 T _ H1 H v2233 D2234 hx2234 hI2234 ex2234 hr2234 hm hrt2234 hq2234 hn2234 hbk2234 => ?_) (fun H2 s2230 T _ H E2 ho2234 hI2234 => ?_)
      · obtain ⟨u2241, u2242, u2243, u2244, u2245, u2246, u2247, rfl, E⟩ := hI2234
        replace E := En.add (f := (fR zI v2233 x2232)) (En.ex E ex2234) hr2234
        refine gn ?_
        refine ifs_open ?_
        obtain ⟨r2251, h_r2251, hm⟩ := bnd hm
        obtain ⟨r2252, h_r2252, hm⟩ := bnd hm
        refine En.testB E (et_not (et_B (K := K) (ev_callO E.tdB (ea_cons (ev_toDU (ev_tupU (r := zD) (xs := [(PyData.str ("told" : Str)), (PyData.int (((cutA s2158 none (some (x2232 + (1 : Int))))).sum))]) E.tdB (eh_cons (ev_toD ev_str) (eh_cons (ev_toD (ev_sum (ev_slL E.tdB (ev_var (i := 6) rfl (E.clB (r := zI) (p := p2154) (xs := s2158) 0 rfl)) eo_none (eo_some (K := K) (ev_add (ev_var (i := 8) rfl (E.rdB (r := zI) (v := v2233) (d := x2232) 0 rfl)) ev_int))))) eh_nil)) (Nat.le_of_ble_eq_true rfl))) (ea_cons (ev_callO E.tdB (ea_cons ev_int (ea_cons (ev_toD (ev_var (i := 1) rfl (E.rdB (r := zI) (v := v2125) (d := d2126) 1 rfl))) (ea_cons (ev_toD (ev_var (i := 2) rfl (E.rdB (r := zI) (v := v2128) (d := q2127.1) 2 rfl))) (ea_cons (ev_toD (ev_var (i := 8) rfl (E.rdB (r := zI) (v := v2233) (d := x2232) 0 rfl))) ea_nil)))) h_r2251) ea_nil)) h_r2252))) fun H E => ?_
        refine iteB (fun hc2254 => ?_) (fun hc2254 => ?_)
        · rw [if_pos hc2254] at hm
          refine ret_open ?_
          refine En.run E ev_bl fun v2253 H E => ?_
          have ho2234 := Option.some.inj hm
          subst o2229
          have hm := congrArg some (outB_ret (hq2234 _ rfl) hmo2234)
          rw [hrt2234]
          have hr9 := Prod.mk.inj (Option.some.inj hm)
          have hr8 := hr9.1
          have hr7 := hr9.2
          subst res
          subst sres
          exact hQ _ _ (En.fr (En.back E2_2234 E)) (En.outc (En.back E2_2234 E) (c := (cBx p_box q2129.2)) 1 rfl) (En.out (En.back E2_2234 E) (En.at (En.back E2_2234 E) (f := (fR zB v2253 false)) 0 rfl))
        · rw [if_neg (by rw [hc2254]; decide)] at hm
          have hj9 := Option.some.inj hm
          subst o2229
          exact (hn2234 _ _ _ _ rfl ⟨_, _, _, _, _, _, _, rfl, (En.facts (En.pick E [0, 1] (by decide) rfl) ⟨(E.rd (r := zI) (v := v2125) (d := d2126) 1 rfl), (E.rd (r := zI) (v := v2128) (d := q2127.1) 2 rfl), trivial⟩)⟩).1
      · subst o2248
        replace hm := outB_nx hm
        obtain ⟨u2241, u2242, u2243, u2244, u2245, u2246, u2247, rfl, E⟩ := hI2234
        replace E := En.back E2 E
        first | refine nx_ ?_ | skip
        refine ret_open ?_
        refine En.run E ev_bl fun v2255 H E => ?_
        have hr9 := Prod.mk.inj (Option.some.inj hm)
        have hr8 := hr9.1
        have hr7 := hr9.2
        subst res
        subst sres
        exact hQ _ _ (En.fr E) (En.outc E (c := (cBx p_box q2129.2)) 1 rfl) (En.out E (En.at E (f := (fR zB v2255 true)) 0 rfl))

def m__law_closing  : Option Bool :=
((okX (m_row_of_schedule (PyData.list ([(PyData.str (wS ([false, false, true] : List Bool))), (PyData.str (wS ([true, true, false] : List Bool)))])) (PyData.tuple ([(PyData.int (0 : Int)), (PyData.int (1 : Int)), (PyData.int (1 : Int))])))).bind fun (r2258 : Str) =>
((m__law_same 6 (PyData.str (wS ([false, true, false] : List Bool))) (PyData.str r2258)).bind fun (r2259 : Bool) =>
(if (!r2259) = true then
some false
else
((okX (m_row_of_schedule (PyData.tuple ([(PyData.str (wS ([] : List Bool)))])) (PyData.list ([] : List PyData)))).bind fun (r2263 : Str) =>
((m__law_same 6 (PyData.str (wS ([] : List Bool))) (PyData.str r2263)).bind fun (r2264 : Bool) =>
((if (!r2264) = true then some true else ((okX (m_schedule_count (PyData.int (5 : Int)) (PyData.int (0 : Int)) (PyData.int (0 : Int)))).bind fun (r2267 : Int) =>
((m__law_same 6 (PyData.int (1 : Int)) (PyData.int r2267)).bind fun (r2268 : Bool) =>
some (!r2268)))).bind fun (b2270 : Bool) =>
(if b2270 = true then
some false
else
((okX (m_schedule_count (PyData.int (2 : Int)) (PyData.int (3 : Int)) (PyData.int (1 : Int)))).bind fun (r2275 : Int) =>
((m__law_same 6 (PyData.int (6 : Int)) (PyData.int r2275)).bind fun (r2276 : Bool) =>
((if (!r2276) = true then some true else ((okX (m_schedule_count (PyData.int (1 : Int)) (PyData.int (12 : Int)) (PyData.int (5 : Int)))).bind fun (r2279 : Int) =>
((m__law_same 6 (PyData.int (1 : Int)) (PyData.int r2279)).bind fun (r2280 : Bool) =>
some (!r2280)))).bind fun (b2282 : Bool) =>
(if b2282 = true then
some false
else
((okX (m_schedule_count (PyData.int (12 : Int)) (PyData.int (12 : Int)) (PyData.int (12 : Int)))).bind fun (r2287 : Int) =>
((m__law_same 6 (PyData.int (8916100448256 : Int)) (PyData.int r2287)).bind fun (r2288 : Bool) =>
some r2288)))))))))))))
abbrev sp__law_closing (K : PySem.W.Frag) : Sp := FSp K aN zB (fun (a : Unit) => m__law_closing )
theorem ok__law_closing (S : Tx K mg) (G__law_same : Ok P w K mg base 7 ("_law_same", none) ["due", "told"] ((sp__law_same 6) K)) (G_row_of_schedule : OkX P w K mg base 4 ("row_of_schedule", none) ["rows", "schedule"] (sp_row_of_schedule K)) (G_schedule_count : OkX P w K mg base 4 ("schedule_count", none) ["programs", "length", "switches"] (sp_schedule_count K)) : Ok P w K mg base 8 ("_law_closing", none) [] (sp__law_closing K) := by
  obtain ⟨fd, D⟩ := d__law_closing S
  refine mk_ok D sc__law_closing (D.bindsN fun _ _ _ _ _ _ us hl => match us, hl with | [], _ => rfl) (FSp_len len00) (fun cdv A outer s H00 vs Q E hr h => ?_)
  obtain ⟨T00, _, res, hT, ⟨rfl⟩, hm, hQ⟩ := h
  refine ⟨_, (pss_cons (ps_if (pt_not (pt_val (pe_callG G__law_same hr (by omega) (by rfl) (g__law_same S) (pa_cons pe_str (pa_cons (px_call (W := WNo) G_row_of_schedule passNo hr (by omega) (by rfl) (g_row_of_schedule S) (pa_cons (pe_lst (pa_cons pe_str (pa_cons pe_str pa_nil))) (pa_cons (pe_tup (pa_cons pe_int (pa_cons pe_int (pa_cons pe_int pa_nil)))) pa_nil))) pa_nil))))) (pss_one (ps_ret pe_bl)) pss_nil) (pss_cons (ps_if (PW.pt (pw_or (pt_not (pt_val (pe_callG G__law_same hr (by omega) (by rfl) (g__law_same S) (pa_cons pe_str (pa_cons (px_call (W := WNo) G_row_of_schedule passNo hr (by omega) (by rfl) (g_row_of_schedule S) (pa_cons (pe_tup (pa_cons pe_str pa_nil)) (pa_cons (pe_lst pa_nil) pa_nil))) pa_nil))))) (pw_or1 (pt_not (pt_val (pe_callG G__law_same hr (by omega) (by rfl) (g__law_same S) (pa_cons pe_int (pa_cons (px_call (W := WNo) G_schedule_count passNo hr (by omega) (by rfl) (g_schedule_count S) (pa_cons pe_int (pa_cons pe_int (pa_cons pe_int pa_nil)))) pa_nil)))))))) (pss_one (ps_ret pe_bl)) pss_nil) (pss_cons (ps_if (PW.pt (pw_or (pt_not (pt_val (pe_callG G__law_same hr (by omega) (by rfl) (g__law_same S) (pa_cons pe_int (pa_cons (px_call (W := WNo) G_schedule_count passNo hr (by omega) (by rfl) (g_schedule_count S) (pa_cons pe_int (pa_cons pe_int (pa_cons pe_int pa_nil)))) pa_nil))))) (pw_or1 (pt_not (pt_val (pe_callG G__law_same hr (by omega) (by rfl) (g__law_same S) (pa_cons pe_int (pa_cons (px_call (W := WNo) G_schedule_count passNo hr (by omega) (by rfl) (g_schedule_count S) (pa_cons pe_int (pa_cons pe_int (pa_cons pe_int pa_nil)))) pa_nil)))))))) (pss_one (ps_ret pe_bl)) pss_nil) (pss_one (ps_ret (pe_callG G__law_same hr (by omega) (by rfl) (g__law_same S) (pa_cons pe_int (pa_cons (px_call (W := WNo) G_schedule_count passNo hr (by omega) (by rfl) (g_schedule_count S) (pa_cons pe_int (pa_cons pe_int (pa_cons pe_int pa_nil)))) pa_nil)))))))), ?_⟩
  have E : En K ⟨T00, [], H00⟩ [] [] T00 H00 := En.start hT trivial
  replace hm : m__law_closing  = some res := hm
  unfold m__law_closing at hm
  refine ifs_open ?_
  obtain ⟨r2258, h_r2258, hm⟩ := bnd hm
  obtain ⟨r2259, h_r2259, hm⟩ := bnd hm
  refine En.test E (et_not (et_B (K := K) (ev_callO E.td (ea_cons (ev_toD (ev_word [false, true, false] (by decide) (by decide))) (ea_cons (ev_toD (ev_callX E.td (ea_cons (ev_toDL (ev_lst (r := zD) (xs := [(PyData.str (wS ([false, false, true] : List Bool))), (PyData.str (wS ([true, true, false] : List Bool)))]) E.td (eh_cons (ev_toD (ev_word [false, false, true] (by decide) (by decide))) (eh_cons (ev_toD (ev_word [true, true, false] (by decide) (by decide))) eh_nil)) (Nat.le_of_ble_eq_true rfl))) (ea_cons (ev_toDU (ev_tupU (r := zD) (xs := [(PyData.int (0 : Int)), (PyData.int (1 : Int)), (PyData.int (1 : Int))]) E.td (eh_cons (ev_toD ev_int) (eh_cons (ev_toD ev_int) (eh_cons (ev_toD ev_int) eh_nil))) (Nat.le_of_ble_eq_true rfl))) ea_nil)) (okX_ok h_r2258))) ea_nil)) h_r2259))) fun H E => ?_
  refine iteB (fun hc2292 => ?_) (fun hc2292 => ?_)
  · rw [if_pos hc2292] at hm
    refine ret_open ?_
    refine En.run E ev_bl fun v2260 H E => ?_
    have hr9 := Option.some.inj hm
    subst res
    exact hQ _ _ (En.isEx E) (En.out E (En.at E (f := (fR zB v2260 false)) 0 rfl))
  · rw [if_neg (by rw [hc2292]; decide)] at hm
    first | refine nx_ ?_ | skip
    refine ifs_open ?_
    obtain ⟨r2263, h_r2263, hm⟩ := bnd hm
    obtain ⟨r2264, h_r2264, hm⟩ := bnd hm
    obtain ⟨b2270, h_b2270, hm⟩ := bnd hm
    refine En.test E (et_orO (et_not (et_B (K := K) (ev_callO E.td (ea_cons (ev_toD (ev_word [] (by decide) (by decide))) (ea_cons (ev_toD (ev_callX E.td (ea_cons (ev_toDU (ev_tupU (r := zD) (xs := [(PyData.str (wS ([] : List Bool)))]) E.td (eh_cons (ev_toD (ev_word [] (by decide) (by decide))) eh_nil) (Nat.le_of_ble_eq_true rfl))) (ea_cons (ev_toDL (ev_lst (r := zD) (xs := []) E.td eh_nil (Nat.le_of_ble_eq_true rfl))) ea_nil)) (okX_ok h_r2263))) ea_nil)) h_r2264))) (fun hc2269 y2271 hy2271 => by
          obtain ⟨r2267, h_r2267, hy2271⟩ := bnd hy2271; obtain ⟨r2268, h_r2268, hy2271⟩ := bnd hy2271; cases hy2271; exact (et_not (et_B (K := K) (ev_callO E.td (ea_cons (ev_toD ev_int) (ea_cons (ev_toD (ev_callX E.td (ea_cons (ev_toD ev_int) (ea_cons (ev_toD ev_int) (ea_cons (ev_toD ev_int) ea_nil))) (okX_ok h_r2267))) ea_nil)) h_r2268)))) h_b2270) fun H E => ?_
    refine iteB (fun hc2291 => ?_) (fun hc2291 => ?_)
    · rw [if_pos hc2291] at hm
      refine ret_open ?_
      refine En.run E ev_bl fun v2272 H E => ?_
      have hr9 := Option.some.inj hm
      subst res
      exact hQ _ _ (En.isEx E) (En.out E (En.at E (f := (fR zB v2272 false)) 0 rfl))
    · rw [if_neg (by rw [hc2291]; decide)] at hm
      first | refine nx_ ?_ | skip
      refine ifs_open ?_
      obtain ⟨r2275, h_r2275, hm⟩ := bnd hm
      obtain ⟨r2276, h_r2276, hm⟩ := bnd hm
      obtain ⟨b2282, h_b2282, hm⟩ := bnd hm
      refine En.test E (et_orO (et_not (et_B (K := K) (ev_callO E.td (ea_cons (ev_toD ev_int) (ea_cons (ev_toD (ev_callX E.td (ea_cons (ev_toD ev_int) (ea_cons (ev_toD ev_int) (ea_cons (ev_toD ev_int) ea_nil))) (okX_ok h_r2275))) ea_nil)) h_r2276))) (fun hc2281 y2283 hy2283 => by
          obtain ⟨r2279, h_r2279, hy2283⟩ := bnd hy2283; obtain ⟨r2280, h_r2280, hy2283⟩ := bnd hy2283; cases hy2283; exact (et_not (et_B (K := K) (ev_callO E.td (ea_cons (ev_toD ev_int) (ea_cons (ev_toD (ev_callX E.td (ea_cons (ev_toD ev_int) (ea_cons (ev_toD ev_int) (ea_cons (ev_toD ev_int) ea_nil))) (okX_ok h_r2279))) ea_nil)) h_r2280)))) h_b2282) fun H E => ?_
      refine iteB (fun hc2290 => ?_) (fun hc2290 => ?_)
      · rw [if_pos hc2290] at hm
        refine ret_open ?_
        refine En.run E ev_bl fun v2284 H E => ?_
        have hr9 := Option.some.inj hm
        subst res
        exact hQ _ _ (En.isEx E) (En.out E (En.at E (f := (fR zB v2284 false)) 0 rfl))
      · rw [if_neg (by rw [hc2290]; decide)] at hm
        first | refine nx_ ?_ | skip
        refine ret_open ?_
        obtain ⟨r2287, h_r2287, hm⟩ := bnd hm
        obtain ⟨r2288, h_r2288, hm⟩ := bnd hm
        refine En.run E (ev_callO E.td (ea_cons (ev_toD ev_int) (ea_cons (ev_toD (ev_callX E.td (ea_cons (ev_toD ev_int) (ea_cons (ev_toD ev_int) (ea_cons (ev_toD ev_int) ea_nil))) (okX_ok h_r2287))) ea_nil)) h_r2288) fun v2289 H E => ?_
        have hr9 := Option.some.inj hm
        subst res
        exact hQ _ _ (En.isEx E) (En.out E (En.at E (f := (fR zB v2289 r2288)) 0 rfl))

end
end EB

set_option Elab.async false
set_option linter.all false
set_option maxRecDepth 100000
set_option maxHeartbeats 4000000

namespace EB
open PySem PySem.Spec PyProof.Rows L2

section
variable {P : Program} {w : World} {K : PySem.W.Frag} {mg : Str → Option Value} {base : Heap}

theorem ok__law_box (S : Tx K mg) : Ok P w K mg base 1 ("_law_box", none) ["script"] ((fun K => sp_box K 0 0 777767777 0) K) := by
  obtain ⟨fd, D⟩ := d__law_box S
  refine mk_ok D sc__law_box (D.bindsN fun _ _ _ _ _ _ us hl => match us, hl with | [_], _ => rfl) (NewSp_len len1) (fun cdv A outer s H00 vs Q E hr h => ?_)
  obtain ⟨T00, ⟨p_script, _⟩, s0, hT, ⟨v_script, _, rfl, r_script, rfl⟩, hm, hQ⟩ := h
  refine ⟨_, (pss_one (ps_ret (pe_lst (pa_cons pe_int (pa_cons pe_int (pa_cons pe_int (pa_cons pe_int (pa_cons (pe_callTy (kc_list (K := K)) (by rfl) (m_list S) bt_list (pa_cons (pv 0) pa_nil)) pa_nil)))))))), ?_⟩
  cases hm
  exact box_new hT (ev_listL hT (ev_var (i := 0) rfl r_script)) hQ

def m_law (p_script : (List Int)) : Option Bool :=
((some ((0 : Int), (0 : Int), (777767777 : Int), (0 : Int), p_script)).bind fun (q2293 : Bx) =>
((m__law_draw (8 : Int) q2293).bind fun (q2296 : Int × Bx) =>
((some ((1 : Int) + q2296.1)).bind fun (d2299 : Int) =>
((m__law_draw (9 : Int) q2296.2).bind fun (q2302 : Int × Bx) =>
((m__law_rows d2299 q2302.1 q2302.2).bind fun (q2304 : (List (List Bool)) × Bx) =>
((forO (ρ := Bool) (fun (s2306 : Bx) (x2310 : Int) =>
((atI q2304.1 (0 : Int)).bind fun (x2330 : (List Bool)) =>
((m__law_schedule d2299 ((x2330).length : Int) s2306).bind fun (q2331 : (List Int) × Bx) =>
((m__law_one q2304.1 q2331.1 q2331.2).bind fun (q2333 : Bool × Bx) =>
(if q2333.1 = true then
((m__law_numbers q2333.2).bind fun (q2335 : Bool × Bx) =>
(if q2335.1 = true then
some (.nx q2335.2)
else
some (.ret false)))
else
some (.ret false)))))) q2304.2 (rng 0 ((3 : Int)).toNat)).bind fun (o2328 : Out Bool (Bx)) => outB o2328 fun (s2308 : Bx) =>
((m__law_all s2308).bind fun (q2341 : Bool × Bx) =>
(if q2341.1 = true then
((m__law_closing ).bind fun (r2343 : Bool) =>
some r2343)
else
some false))))))))
abbrev sp_law (K : PySem.W.Frag) : Sp := FSp K (aC (zL zI) aN) zB (fun (a : (List Int) × Unit) => m_law a.1)
theorem fn_law (S : Tx K mg) (G__law_all : Ok P w K mg base 8 ("_law_all", none) ["box"] (sp__law_all K)) (G__law_box : Ok P w K mg base 1 ("_law_box", none) ["script"] ((fun K => sp_box K 0 0 777767777 0) K)) (G__law_closing : Ok P w K mg base 8 ("_law_closing", none) [] (sp__law_closing K)) (G__law_draw : Ok P w K mg base 1 ("_law_draw", none) ["box", "many"] (sp__law_draw K)) (G__law_numbers : Ok P w K mg base 8 ("_law_numbers", none) ["box"] (sp__law_numbers K)) (G__law_one : Ok P w K mg base 8 ("_law_one", none) ["box", "rows", "schedule"] (sp__law_one K)) (G__law_rows : Ok P w K mg base 2 ("_law_rows", none) ["box", "programs", "length"] (sp__law_rows K)) (G__law_schedule : Ok P w K mg base 2 ("_law_schedule", none) ["box", "programs", "length"] (sp__law_schedule K)) {fd : FuncData} (D : FunD K "law" "law" (defArgs s_law) (defBody s_law) (defScope s_law) [] [] (He.fAd K ("law", none)) fd) : FnOk P w K mg base CX0 9 (He.fAd K ("law", none)) fd ["script"] (sp_law K) := by
  refine mk_fn D sc_law (FSp_len len1) (fun cdv A outer s H00 vs Q E hr h => ?_)
  obtain ⟨T00, ⟨p_script, _⟩, res, hT, ⟨v_script, _, rfl, r_script, rfl⟩, hm, hQ⟩ := h
  refine ⟨_, (pss_cons (ps_set (i := 1) sc_law.nd rfl (.inl rfl) (pe_callG G__law_box hr (by omega) (by rfl) (g__law_box S) (pa_cons (pv 0) pa_nil))) (pss_cons (ps_set (i := 2) sc_law.nd rfl (.inl rfl) (pe_op op_add pe_int (pe_callG G__law_draw hr (by omega) (by rfl) (g__law_draw S) (pa_cons (pv 1) (pa_cons pe_int pa_nil))))) (pss_cons (ps_set (i := 3) sc_law.nd rfl (.inl rfl) (pe_callG G__law_rows hr (by omega) (by rfl) (g__law_rows S) (pa_cons (pv 1) (pa_cons (pv 2) (pa_cons (pe_callG G__law_draw hr (by omega) (by rfl) (g__law_draw S) (pa_cons (pv 1) (pa_cons pe_int pa_nil))) pa_nil))))) (pss_cons (ps_for PassesOwn.never rfl (pi_range1 (by rfl) (m_range S) (pa_cons pe_int pa_nil)) (pg_name (i := 4) sc_law.nd rfl (.inl rfl)) (pss_cons (ps_set (i := 5) sc_law.nd rfl (.inl rfl) (pe_callG G__law_schedule hr (by omega) (by rfl) (g__law_schedule S) (pa_cons (pv 1) (pa_cons (pv 2) (pa_cons (pe_callB call_lenS (by rfl) (m_len S) bt_len (pa_cons (pe_ix (kx_list (K := K)) (pv 3) pe_int (fun _ _ => rfl)) pa_nil)) pa_nil))))) (pss_one (ps_if (PW.pt (pw_or (pt_not (pt_val (pe_callG G__law_one hr (by omega) (by rfl) (g__law_one S) (pa_cons (pv 1) (pa_cons (pv 3) (pa_cons (pv 5) pa_nil)))))) (pw_or1 (pt_not (pt_val (pe_callG G__law_numbers hr (by omega) (by rfl) (g__law_numbers S) (pa_cons (pv 1) pa_nil))))))) (pss_one (ps_ret pe_bl)) pss_nil)))) (pss_cons (ps_if (pt_not (pt_val (pe_callG G__law_all hr (by omega) (by rfl) (g__law_all S) (pa_cons (pv 1) pa_nil)))) (pss_one (ps_ret pe_bl)) pss_nil) (pss_one (ps_ret (pe_callG0 G__law_closing hr (by omega) (by rfl) (g__law_closing S))))))))), ?_⟩
  have E : En K ⟨T00, [], H00⟩ [(fR (zL zI) v_script p_script)] [] T00 H00 := En.start hT ⟨r_script, trivial⟩
  replace hm : m_law p_script = some res := hm
  unfold m_law at hm
  refine asg_open ?_
  obtain ⟨q2293, h_q2293, hm⟩ := bnd hm
  refine En.newcall (c := fun (p : Addr) (s : Bx) => cBx p s) (rv := fun p => .ref p) (s0 := q2293) E (ea_cons (ev_var (i := 0) rfl (E.rd (r := (zL zI)) (v := v_script) (d := p_script) 0 rfl)) ea_nil) h_q2293 fun p2294 H E => ?_
  first | refine nx_ ?_ | skip
  refine asg_open ?_
  refine op_open ?_
  refine En.run E ev_int fun v2295 H E => ?_
  obtain ⟨q2296, h_q2296, hm⟩ := bnd hm
  refine En.gcall E (ea_cons (ev_var (i := 1) rfl (show zA K _ _ (.ref p2294) p2294 from rfl)) (ea_cons ev_int ea_nil)) 0 rfl h_q2296 rfl fun v2297 H E => ?_
  refine of_op ?_
  obtain ⟨d2299, e_d2299, hm⟩ := bnd hm
  refine En.run E (Ev.to (ev_add (ev_var (i := 0) rfl (E.rd (r := zI) (v := v2295) (d := (1 : Int)) 1 rfl)) (ev_var (i := 1) rfl (E.rd (r := zI) (v := v2297) (d := q2296.1) 0 rfl))) (Option.some.inj e_d2299)) fun v2298 H E => ?_
  first | refine nx_ ?_ | skip
  refine asg_open ?_
  refine call_open ?_
  refine cons_open ?_
  refine En.run E (ev_var (i := 1) rfl (show zA K _ _ (.ref p2294) p2294 from rfl)) fun v2300 H E => ?_
  refine cons_open ?_
  refine En.run E (ev_var (i := 2) rfl (E.rd (r := zI) (v := v2298) (d := d2299) 1 rfl)) fun v2301 H E => ?_
  refine cons_open ?_
  obtain ⟨q2302, h_q2302, hm⟩ := bnd hm
  refine En.gcall E (ea_cons (ev_var (i := 1) rfl (show zA K _ _ (.ref p2294) p2294 from rfl)) (ea_cons ev_int ea_nil)) 0 rfl h_q2302 rfl fun v2303 H E => ?_
  refine nil_open ?_
  obtain ⟨q2304, h_q2304, hm⟩ := bnd hm
  refine En.callG (a := (p2294, d2299, q2302.1, ())) E ⟨v2300, _, rfl, (E.rd (r := zA) (v := v2300) (d := p2294) 2 rfl), v2301, _, rfl, (E.rd (r := zI) (v := v2301) (d := d2299) 1 rfl), v2303, _, rfl, (E.rd (r := zI) (v := v2303) (d := q2302.1) 0 rfl), rfl⟩ 0 rfl h_q2304 rfl fun v2305 H E => ?_
  first | refine nx_ ?_ | skip
  obtain ⟨o2328, h_o2328, hm⟩ := bnd hm
  have hmo2312 := hm
  refine En.for_ (K := K) (fun (b2309 : Bs) (s2306 : Bx) (T : AS) (σ9 : L2.St) (H9 : Hp) => ∃ (u2325 : Option V), ∃ (u2326 : Option V), ∃ (u2327 : Option V), σ9 = [u2325, some (.ref p2294), some v2298, some v2305, u2326, u2327] ∧ En K b2309 [(fR zI v2298 d2299), (fR (zL zW) v2305 q2304.1)] [(cBx p2294 s2306)] T H9) E (ei_range (ea_cons ev_int ea_nil) (by decide) (by decide)) h_o2328 (fun H E => ⟨_, _, _, rfl, (En.facts (En.pick E [0] (by decide) rfl) ⟨(E.rd (r := zI) (v := v2298) (d := d2299) 4 rfl), (E.rd (r := (zL zW)) (v := v2305) (d := q2304.1) 0 rfl), trivial⟩)⟩) (by rintro _ _ _ _ _ ⟨u2325, u2326, u2327, rfl, E⟩; exact ⟨En.wd E, En.td E⟩) (fun H2 E2_2312 s2306 x2310 o2307 T _ H1 H v2311 D2312 hx2312 hI2312 ex2312 hr2312 hm hrt2312 hq2312 hn2312 hbk2312 => ?_) (fun H2 s2308 T _ H E2 ho2312 hI2312 => ?_)
  · obtain ⟨u2325, u2326, u2327, rfl, E⟩ := hI2312
    replace E := En.add (f := (fR zI v2311 x2310)) (En.ex E ex2312) hr2312
    refine gn ?_
    refine asg_open ?_
    obtain ⟨x2330, h_x2330, hm⟩ := bnd hm
    obtain ⟨q2331, h_q2331, hm⟩ := bnd hm
    refine En.gcall E (ea_cons (ev_var (i := 1) rfl (show zA K _ _ (.ref p2294) p2294 from rfl)) (ea_cons (ev_var (i := 2) rfl (E.rd (r := zI) (v := v2298) (d := d2299) 1 rfl)) (ea_cons (ev_lenW (ev_ixL (ev_var (i := 3) rfl (E.rd (r := (zL zW)) (v := v2305) (d := q2304.1) 2 rfl)) ev_int h_x2330)) ea_nil))) 0 rfl h_q2331 rfl fun v2332 H E => ?_
    first | refine nx_ ?_ | skip
    refine ifs_open ?_
    refine or_open ?_
    refine not_open ?_
    refine tb_open ?_
    obtain ⟨q2333, h_q2333, hm⟩ := bnd hm
    refine En.gcall E (ea_cons (ev_var (i := 1) rfl (show zA K _ _ (.ref p2294) p2294 from rfl)) (ea_cons (ev_var (i := 3) rfl (E.rd (r := (zL zW)) (v := v2305) (d := q2304.1) 3 rfl)) (ea_cons (ev_var (i := 5) rfl (E.rd (r := (zL zI)) (v := v2332) (d := q2331.1) 0 rfl)) ea_nil))) 0 rfl h_q2333 rfl fun v2334 H E => ?_
    refine tb2 (E.rd (r := zB) (v := v2334) (d := q2333.1) 0 rfl) (fun hc2340 => ?_) (fun hc2340 => ?_)
    · rw [if_pos hc2340] at hm
      refine iteF ?_
      refine not_open ?_
      refine tb_open ?_
      obtain ⟨q2335, h_q2335, hm⟩ := bnd hm
      refine En.gcall E (ea_cons (ev_var (i := 1) rfl (show zA K _ _ (.ref p2294) p2294 from rfl)) ea_nil) 0 rfl h_q2335 rfl fun v2336 H E => ?_
      refine tb2 (E.rd (r := zB) (v := v2336) (d := q2335.1) 0 rfl) (fun hc2338 => ?_) (fun hc2338 => ?_)
      · rw [if_pos hc2338] at hm
        refine iteF ?_
        have hj9 := Option.some.inj hm
        subst o2307
        exact (hn2312 _ _ _ _ rfl ⟨_, _, _, rfl, (En.facts (En.pick E [0] (by decide) rfl) ⟨(E.rd (r := zI) (v := v2298) (d := d2299) 4 rfl), (E.rd (r := (zL zW)) (v := v2305) (d := q2304.1) 5 rfl), trivial⟩)⟩).1
      · rw [if_neg (by rw [hc2338]; decide)] at hm
        refine iteT ?_
        refine ret_open ?_
        refine En.run E ev_bl fun v2337 H E => ?_
        have ho2312 := Option.some.inj hm
        subst o2307
        have hm := congrArg some (outB_ret (hq2312 _ rfl) hmo2312)
        rw [hrt2312]
        have hr9 := Option.some.inj hm
        subst res
        exact hQ _ _ (En.isEx (En.back E2_2312 E)) (En.out (En.back E2_2312 E) (En.at (En.back E2_2312 E) (f := (fR zB v2337 false)) 0 rfl))
    · rw [if_neg (by rw [hc2340]; decide)] at hm
      refine iteT ?_
      refine iteT ?_
      refine ret_open ?_
      refine En.run E ev_bl fun v2339 H E => ?_
      have ho2312 := Option.some.inj hm
      subst o2307
      have hm := congrArg some (outB_ret (hq2312 _ rfl) hmo2312)
      rw [hrt2312]
      have hr9 := Option.some.inj hm
      subst res
      exact hQ _ _ (En.isEx (En.back E2_2312 E)) (En.out (En.back E2_2312 E) (En.at (En.back E2_2312 E) (f := (fR zB v2339 false)) 0 rfl))
  · subst o2328
    replace hm := outB_nx hm
    obtain ⟨u2325, u2326, u2327, rfl, E⟩ := hI2312
    replace E := En.back E2 E
    first | refine nx_ ?_ | skip
    refine ifs_open ?_
    refine not_open ?_
    refine tb_open ?_
    obtain ⟨q2341, h_q2341, hm⟩ := bnd hm
    refine En.gcall E (ea_cons (ev_var (i := 1) rfl (show zA K _ _ (.ref p2294) p2294 from rfl)) ea_nil) 0 rfl h_q2341 rfl fun v2342 H E => ?_
    refine tb2 (E.rd (r := zB) (v := v2342) (d := q2341.1) 0 rfl) (fun hc2346 => ?_) (fun hc2346 => ?_)
    · rw [if_pos hc2346] at hm
      refine iteF ?_
      first | refine nx_ ?_ | skip
      refine ret_open ?_
      obtain ⟨r2343, h_r2343, hm⟩ := bnd hm
      refine En.run E (ev_callO E.td ea_nil h_r2343) fun v2344 H E => ?_
      have hr9 := Option.some.inj hm
      subst res
      exact hQ _ _ (En.isEx E) (En.out E (En.at E (f := (fR zB v2344 r2343)) 0 rfl))
    · rw [if_neg (by rw [hc2346]; decide)] at hm
      refine iteT ?_
      refine ret_open ?_
      refine En.run E ev_bl fun v2345 H E => ?_
      have hr9 := Option.some.inj hm
      subst res
      exact hQ _ _ (En.isEx E) (En.out E (En.at E (f := (fR zB v2345 false)) 0 rfl))

end
end EB

set_option Elab.async false
set_option linter.all false
set_option maxRecDepth 100000
set_option maxHeartbeats 4000000
/-! the finite part of k04's plain law -/
namespace EB
open PySem PySem.Spec PyProof.Rows L2
def cntB (p l k : Nat) : Bool := match m__law_count ((p : Int) + 1) l k, m_schedules ((p : Int) + 1) l k with
  | some a, some b => decide (a = b)
  | _, _ => false
theorem cnt_all : ((List.range 12).all fun p => (List.range 13).all fun l => (List.range 13).all fun k => cntB p l k) = true := by decide +kernel
theorem cnt_eq {p l k : Int} (hp : 1 ≤ p ∧ p ≤ 12) (hl : 0 ≤ l ∧ l ≤ 12) (hk : 0 ≤ k ∧ k ≤ 12) : ∃ a, m__law_count p l k = some a ∧ m_schedules p l k = some a := by
  obtain ⟨p', rfl⟩ : ∃ p' : Nat, p = (p' : Int) + 1 := ⟨(p - 1).toNat, by omega⟩
  obtain ⟨l', rfl⟩ := Int.eq_ofNat_of_zero_le hl.1
  obtain ⟨k', rfl⟩ := Int.eq_ofNat_of_zero_le hk.1
  have h := cnt_all
  rw [List.all_eq_true] at h
  have h1 := h p' (List.mem_range.mpr (by omega))
  rw [List.all_eq_true] at h1
  have h2 := h1 l' (List.mem_range.mpr (by omega))
  rw [List.all_eq_true] at h2
  have h3 := h2 k' (List.mem_range.mpr (by omega))
  unfold cntB at h3
  split at h3
  · rename_i a b ea eb
    have := of_decide_eq_true h3
    subst this
    exact ⟨a, ea, eb⟩
  · cases h3
theorem closing_ok : m__law_closing = some true := by decide +kernel
end EB

set_option Elab.async false
set_option linter.all false
set_option maxRecDepth 100000
set_option maxHeartbeats 4000000
/-! the plain law of k04 -/
namespace EB
open PySem PySem.Spec PyProof.Rows L2
theorem grd_t {c : Prop} [Decidable c] (h : c) {β : Type} (f : Unit → Option β) : (grd c).bind f = f () := by rw [grd_some h]; rfl
/-- what a box keeps -/
def Ok3 (s : Bx) : Prop := 0 ≤ s.2.2.1 ∧ s.2.2.1 < 2147483647 ∧ 0 ≤ s.2.2.2.1
theorem mulV_r {i j : Int} (h1 : -(2 ^ 64) < j) (h2 : j < 2 ^ 64) : CMulV i j := .inl (.inr ⟨h1, h2⟩)
theorem divW {i j : Int} (h1 : 0 < j) (h2 : j < 2 ^ 64) : CDivW i j := ⟨h1, by
  have : j.natAbs < 2 ^ 64 := by omega
  have := (Nat.log2_lt (by omega)).mpr this
  omega⟩
theorem mn2_eq (i j : Int) : mn2 i j = min i j := by unfold mn2; split <;> omega
theorem draw_ok (many : Int) (h0 : 0 < many) (h1 : many < 2 ^ 64) (s : Bx) (hs : Ok3 s) : ∃ t s', m__law_draw many s = some (t, s') ∧ 0 ≤ t ∧ t < many ∧ Ok3 s' ∧ s'.2.2.2.2 = s.2.2.2.2 := by
  obtain ⟨a, b, c, d, xs⟩ := s
  obtain ⟨h2, h3, h4⟩ := hs
  dsimp only at h2 h3 h4
  -- the second part
  have part : ∀ (cell a b c d : Int), 0 ≤ c → c < 2147483647 → 0 ≤ d → ∃ t s', (if (decide ((0 : Int) < b)) = true then
      ((some (b - (1 : Int))).bind fun (d241 : Int) =>
      ((grd (0 < many)).bind fun (u242 : Unit) =>
      ((some (a % many)).bind fun (d244 : Int) =>
      ((grd (CDivW a many)).bind fun (u245 : Unit) =>
      ((some (a / many)).bind fun (d247 : Int) =>
      some (d244, ((d247, d241, c, d, xs) : Bx)))))))
      else
      ((forP (fun (s249 : Int) (x253 : Int) =>
      ((grd (CMulV s249 s249)).bind fun (u263 : Unit) =>
      ((grd (CMulV cell (48271 : Int))).bind fun (u264 : Unit) =>
      ((grd (CMulV d (7919 : Int))).bind fun (u265 : Unit) =>
      ((some ((((((s249 * s249) + (cell * (48271 : Int))) + (d * (7919 : Int))) + (11 : Int)) + x253) % (2147483647 : Int))).bind fun (d267 : Int) =>
      some d267))))) c (rng 0 ((2 : Int)).toNat)).bind fun (s251 : Int) =>
      ((grd (CDivW s251 (37 : Int))).bind fun (u268 : Unit) =>
      ((grd (0 < many)).bind fun (u269 : Unit) =>
      some (((s251 / (37 : Int)) % many), ((a, b, s251, d, xs) : Bx)))))) = some (t, s') ∧ 0 ≤ t ∧ t < many ∧ Ok3 s' ∧ s'.2.2.2.2 = xs := by
    intro cell a b c d hc1 hc2 hd
    split
    · simp only [Option.bind_some, grd_t h0, grd_t (divW h0 h1)]
      exact ⟨_, _, rfl, Int.emod_nonneg _ (by omega), Int.emod_lt_of_pos _ h0, ⟨hc1, hc2, hd⟩, rfl⟩
    · have step : ∀ s x : Int, 0 ≤ s → s < 2147483647 → ((grd (CMulV s s)).bind fun (u263 : Unit) =>
          ((grd (CMulV cell (48271 : Int))).bind fun (u264 : Unit) =>
          ((grd (CMulV d (7919 : Int))).bind fun (u265 : Unit) =>
          ((some ((((((s * s) + (cell * (48271 : Int))) + (d * (7919 : Int))) + (11 : Int)) + x) % (2147483647 : Int))).bind fun (d267 : Int) =>
          some d267)))) = some ((((((s * s) + (cell * (48271 : Int))) + (d * (7919 : Int))) + (11 : Int)) + x) % (2147483647 : Int)) := fun s x h5 h6 => by
        rw [grd_t (mulV_r (by omega) (by omega)), grd_t (mulV_r (by decide) (by decide)), grd_t (mulV_r (by decide) (by decide))]; rfl
      have e : (rng 0 ((2 : Int)).toNat) = [0, 1] := by decide
      have key : ∀ (f : Int → Int → Option Int), (∀ s x, 0 ≤ s → s < 2147483647 → f s x = some ((((((s * s) + (cell * (48271 : Int))) + (d * (7919 : Int))) + (11 : Int)) + x) % (2147483647 : Int))) → ∃ z, forP f c [0, 1] = some (z % 2147483647) := fun f hf => by
        simp only [forP]
        rw [hf c 0 hc1 hc2]
        simp only [Option.bind_some]
        rw [hf _ 1 (Int.emod_nonneg _ (by decide)) (Int.emod_lt_of_pos _ (by decide))]
        exact ⟨_, rfl⟩
      obtain ⟨z, hz⟩ := key _ step
      rw [e, hz]
      simp only [Option.bind_some, grd_t h0]
      rw [grd_t (divW (by decide) (by decide))]
      exact ⟨_, _, rfl, Int.emod_nonneg _ (by omega), Int.emod_lt_of_pos _ h0, ⟨Int.emod_nonneg _ (by decide), Int.emod_lt_of_pos _ (by decide), hd⟩, rfl⟩
  unfold m__law_draw
  dsimp only
  split
  · split
    · rename_i hc
      have hlt : d < (xs.length : Int) := by
        have := of_decide_eq_true hc
        rw [mn2_eq] at this
        omega
      have hx : ∃ x, atI xs d = some x := by
        obtain ⟨n, rfl⟩ := Int.eq_ofNat_of_zero_le h4
        have hn : n < xs.length := by omega
        exact ⟨xs[n], atI_nat (List.getElem?_eq_getElem hn)⟩
      obtain ⟨x, hx⟩ := hx
      rw [hx]
      simp only [Option.bind_some]
      split
      · rw [grd_t (mulV_r (by omega) (by omega))]
        simp only [Option.bind_some]
        exact part x x 60 _ _ (Int.emod_nonneg _ (by decide)) (Int.emod_lt_of_pos _ (by decide)) (by omega)
      · simp only [Option.bind_some]
        exact part x a 0 c _ h2 h3 (by omega)
    · simp only [Option.bind_some]
      rw [if_neg (by decide)]
      simp only [Option.bind_some]
      exact part 0 a 0 c _ h2 h3 (by omega)
  · simp only [Option.bind_some]
    exact part 0 a b c d h2 h3 h4
/-! ### words, rows -/
theorem mapO_some {α β : Type} {f : α → Option β} {g : α → β} : ∀ {xs : List α}, (∀ x ∈ xs, f x = some (g x)) → mapO f xs = some (xs.map g)
  | [], _ => rfl
  | x :: xs, h => by
    simp only [mapO, h x List.mem_cons_self, mapO_some (xs := xs) fun y hy => h y (List.mem_cons_of_mem _ hy), Option.bind_some, List.map_cons]
theorem wS_list (w : List Bool) : (wS w).cps.toList = w.map sgn := by simp [wS]
theorem inSgn01 (b : Bool) : inSgn ⟨#[sgn b]⟩ ("01" : Str) = some true := by cases b <;> decide +kernel
theorem word_yes (w : List Bool) (h : w.length ≤ 1000) : m_is_word (.str (wS w)) = some true := by
  unfold m_is_word
  have e : mapO (fun (x12 : Str) => ((inSgn x12 ("01" : Str)).bind fun (x13 : Bool) => some x13)) ((wS w).cps.toList.map fun c => (⟨#[c]⟩ : Str)) = some (((wS w).cps.toList.map fun c => (⟨#[c]⟩ : Str)).map fun _ => true) := by
    apply mapO_some
    intro x hx
    rw [wS_list, List.map_map] at hx
    obtain ⟨b, _, rfl⟩ := List.mem_map.mp hx
    show (inSgn ⟨#[sgn b]⟩ ("01" : Str)).bind _ = _
    rw [inSgn01]; rfl
  rw [if_pos (by rfl)]
  simp only [dStr, Option.bind_some]
  rw [grd_t (by rw [wS_len]; omega), e]
  simp
theorem word_no {d : PyData} (h : isD "str" d = false) : m_is_word d = some false := by
  unfold m_is_word
  rw [h]
  rfl
def sq (t : Bool) (xs : List PyData) : PyData := if t = true then .tuple xs else .list xs
theorem sq_row (t : Bool) (xs : List PyData) : m_is_row (sq t xs) = some true := by cases t <;> rfl
theorem sq_len (t : Bool) (xs : List PyData) : dLen (sq t xs) = some (xs.length : Int) := by cases t <;> rfl
theorem sq_seq (t : Bool) (xs : List PyData) : dSeq (sq t xs) = some xs := by cases t <;> rfl
theorem sq_ix (t : Bool) (xs : List PyData) (i : Int) : dIx (sq t xs) i = atI xs i := by cases t <;> rfl
/-- is it a word -/
def isW : PyData → Bool
  | .str s => s.cps.toList.all fun c => decide (c ∈ ("01" : Str).cps.toList)
  | _ => false
/-- no text is too long -/
def szD : PyData → Prop
  | .str s => s.length ≤ 1000000
  | _ => True
theorem word_eq {d : PyData} (h : szD d) : m_is_word d = some (isW d) := by
  cases d with
  | str s =>
    unfold m_is_word
    have e : mapO (fun (x12 : Str) => ((inSgn x12 ("01" : Str)).bind fun (x13 : Bool) => some x13)) (s.cps.toList.map fun c => (⟨#[c]⟩ : Str)) = some (s.cps.toList.map fun c => decide (c ∈ ("01" : Str).cps.toList)) := by
      have h2 : ∀ l : List Nat, mapO (fun (x12 : Str) => ((inSgn x12 ("01" : Str)).bind fun (x13 : Bool) => some x13)) (l.map fun c => (⟨#[c]⟩ : Str)) = some (l.map fun c => decide (c ∈ ("01" : Str).cps.toList)) := by
        intro l
        induction l with
        | nil => rfl
        | cons c l ih =>
          have hc : inSgn ⟨#[c]⟩ ("01" : Str) = some (decide (c ∈ ("01" : Str).cps.toList)) := rfl
          simp only [List.map_cons, mapO]
          rw [ih, hc]
          rfl
      exact h2 _
    rw [if_pos (by rfl)]
    simp only [dStr, Option.bind_some]
    rw [grd_t (c := s.length ≤ 1000000) h, e]
    simp [isW, List.all_map, Function.comp_def]
  | _ => exact word_no rfl
/-- rows that are none: something in them is no word -/
theorem rows_word (t : Bool) {xs : List PyData} (h : ∀ x ∈ xs, szD x) (hx : ∃ x ∈ xs, isW x = false) : m_are_rows (sq t xs) = some false := by
  unfold m_are_rows
  have e : mapO (fun (x22 : PyData) => ((m_is_word x22).bind fun (r23 : Bool) => some r23)) xs = some (xs.map isW) := mapO_some fun x hx => by rw [word_eq (h x hx)]; rfl
  have e2 : ((xs.map isW).all id) = false := by
    obtain ⟨x, hm, hf⟩ := hx
    rw [List.all_eq_false]
    exact ⟨isW x, List.mem_map.mpr ⟨x, hm, rfl⟩, by simp [hf]⟩
  simp only [sq_row, sq_len, sq_seq, Option.bind_some, e, e2, Bool.not_true, Bool.false_eq_true, if_false, Bool.not_false]
  split <;> rfl
/-- rows whose words are of unlike lengths -/
theorem rows_len (t : Bool) {xs : List PyData} {ss : List Str} (e0 : xs = ss.map PyData.str) (h : ∀ s ∈ ss, s.length ≤ 1000000 ∧ isW (.str s) = true) (hne : ss ≠ []) : m_are_rows (sq t xs) = some (ss.all fun s => decide ((s.length : Int) = ((ss.headD default).length : Int))) := by
  subst e0
  unfold m_are_rows
  have e : mapO (fun (x22 : PyData) => ((m_is_word x22).bind fun (r23 : Bool) => some r23)) (ss.map PyData.str) = some ((ss.map PyData.str).map isW) := mapO_some fun x hx => by
    obtain ⟨s, hs, rfl⟩ := List.mem_map.mp hx
    rw [word_eq (d := .str s) (h s hs).1]; rfl
  have e2 : (((ss.map PyData.str).map isW).all id) = true := by
    rw [List.all_eq_true]
    intro b hb
    obtain ⟨x, hx, rfl⟩ := List.mem_map.mp hb
    obtain ⟨s, hs, rfl⟩ := List.mem_map.mp hx
    exact (h s hs).2
  have l0 : ¬ (((ss.map PyData.str).length : Int) = 0) := by
    rw [List.length_map]
    have := List.length_pos_iff.mpr hne
    omega
  obtain ⟨s0, ss', rfl⟩ := List.exists_cons_of_ne_nil hne
  have i0 : atI ((s0 :: ss').map PyData.str) 0 = some (.str s0) := atI_nat rfl
  have e3 : mapO (fun (x33 : PyData) => ((dLen x33).bind fun (x34 : Int) => ((dIx (sq t ((s0 :: ss').map PyData.str)) (0 : Int)).bind fun (x35 : PyData) => ((dLen x35).bind fun (x36 : Int) => some (decide (x34 = x36)))))) ((s0 :: ss').map PyData.str) = some ((s0 :: ss').map fun s => decide ((s.length : Int) = (s0.length : Int))) := by
    have h0 : dLen (.str s0) = some (s0.length : Int) := if_pos (h s0 List.mem_cons_self).1
    have h2 : ∀ l : List Str, (∀ s ∈ l, s.length ≤ 1000000) → mapO (fun (x33 : PyData) => ((dLen x33).bind fun (x34 : Int) => ((dIx (sq t ((s0 :: ss').map PyData.str)) (0 : Int)).bind fun (x35 : PyData) => ((dLen x35).bind fun (x36 : Int) => some (decide (x34 = x36)))))) (l.map PyData.str) = some (l.map fun s => decide ((s.length : Int) = (s0.length : Int))) := by
      intro l hl
      induction l with
      | nil => rfl
      | cons s l ih =>
        have hs : dLen (.str s) = some (s.length : Int) := if_pos (hl s List.mem_cons_self)
        simp only [List.map_cons] at ih ⊢
        simp only [mapO, hs, sq_ix, Option.bind_some]
        rw [List.map_cons] at i0
        rw [i0]
        simp only [Option.bind_some, h0]
        simp only [sq_ix] at ih
        rw [i0] at ih
        simp only [Option.bind_some, h0] at ih
        rw [ih fun s hs => hl s (List.mem_cons_of_mem _ hs)]
        rfl
    exact h2 _ fun s hs => (h s hs).1
  simp only [sq_row, sq_len, sq_seq, Option.bind_some, e, e2, Bool.not_true, Bool.false_eq_true, if_false, decide_eq_true_eq, l0]
  rw [e3]
  simp [List.all_map, Function.comp_def]
/-! ### the same -/
def fitD : Nat → PyData → Prop
  | 0, _ => False
  | _ + 1, .none => True
  | _ + 1, .bool _ => True
  | _ + 1, .int _ => True
  | _ + 1, .str s => SeqAt.shaped (.str s) = true
  | n + 1, .list xs => xs.length ≤ 1000000 ∧ ∀ x ∈ xs, fitD n x
  | n + 1, .tuple xs => xs.length ≤ 1000000 ∧ ∀ x ∈ xs, fitD n x
  | _ + 1, .dict _ => False
theorem same_refl : ∀ (n : Nat) (d : PyData), fitD n d → m__law_same n d d = some true
  | 0, _, h => h.elim
  | n + 1, d, h => by
    have seq : ∀ (t : Bool) (xs : List PyData), (xs.length ≤ 1000000 ∧ ∀ x ∈ xs, fitD n x) → m__law_same (n + 1) (sq t xs) (sq t xs) = some true := by
      intro t xs ⟨h1, h2⟩
      unfold m__law_same
      have a1 : dNone (sq t xs) = false := by cases t <;> rfl
      have a2 : isD "bool" (sq t xs) = false := by cases t <;> rfl
      have a3 : isD "int" (sq t xs) = false := by cases t <;> rfl
      have a4 : isD "str" (sq t xs) = false := by cases t <;> rfl
      have a5 : (isD "tuple" (sq t xs) && !isD "tuple" (sq t xs)) = false := by cases t <;> rfl
      have a6 : (isD "list" (sq t xs) && !isD "list" (sq t xs)) = false := by cases t <;> rfl
      have e : mapO (fun (x303 : Int) => ((dIx (sq t xs) x303).bind fun (x308 : PyData) => ((dIx (sq t xs) x303).bind fun (x309 : PyData) => ((m__law_same n x308 x309).bind fun (r310 : Bool) => some r310)))) (rng 0 ((xs.length : Int)).toNat) = some ((rng 0 ((xs.length : Int)).toNat).map fun _ => true) := by
        apply mapO_some
        intro i hi
        rw [sq_ix]
        have hb : 0 ≤ i ∧ i < xs.length := by
          have := mem_rng hi
          omega
        obtain ⟨k, rfl⟩ := Int.eq_ofNat_of_zero_le hb.1
        have hk : k < xs.length := by omega
        have ei : atI xs (k : Int) = some xs[k] := atI_nat (List.getElem?_eq_getElem hk)
        rw [ei]
        simp only [Option.bind_some]
        rw [same_refl n _ (h2 _ (List.getElem_mem hk))]
        rfl
      simp only [a1, a2, a3, a4, a5, a6, Bool.false_eq_true, if_false, sq_len, Option.bind_some, decide_true, if_true, e]
      rw [grd_t (by omega)]
      simp
    cases d with
    | none => rfl
    | bool b => cases b <;> rfl
    | int i =>
      unfold m__law_same
      simp [dNone, isD, grd, SeqAt.shaped, PyData.canLay0, PyData.depth, PyData.eqv]
    | str s =>
      have hs : SeqAt.shaped (.str s) = true := h
      unfold m__law_same
      simp [dNone, isD, grd, hs, dStr, PyData.eqv]
    | list xs => exact seq false xs h
    | tuple xs => exact seq true xs h
    | dict _ => exact h.elim
/-! ### rows of schedules -/
theorem isW_word (w : List Bool) : isW (.str (wS w)) = true := by
  show (wS w).cps.toList.all _ = true
  rw [wS_list, List.all_map, List.all_eq_true]
  intro b _
  cases b <;> decide +kernel
theorem between_int (i lo hi : Int) : m_is_between (.int i) lo hi = some (decide (lo ≤ i) && decide (i ≤ hi)) := rfl
def pick (rows : List (List Bool)) (sched : List Int) : List Bool := (enL sched).map fun q => (rows.getD q.2.toNat []).getD q.1.toNat false
structure Good (rows : List (List Bool)) (n : Nat) : Prop where
  ne : rows ≠ []
  many : rows.length ≤ 1000
  len : ∀ w ∈ rows, w.length = n
  sz : n ≤ 1000
theorem rows_yes (t : Bool) {rows : List (List Bool)} {n : Nat} (g : Good rows n) : m_are_rows (sq t (rows.map (Tod.toD zW))) = some true := by
  have e : rows.map (Tod.toD zW) = (rows.map wS).map PyData.str := by rw [List.map_map]; rfl
  rw [rows_len t e (fun s hs => by
    obtain ⟨w, hw, rfl⟩ := List.mem_map.mp hs
    exact ⟨by rw [wS_len, g.len w hw]; have := g.sz; omega, isW_word w⟩) (by simpa using g.ne)]
  congr 1
  rw [List.all_eq_true]
  intro s hs
  obtain ⟨w, hw, rfl⟩ := List.mem_map.mp hs
  obtain ⟨w0, r, rfl⟩ := List.exists_cons_of_ne_nil g.ne
  have h0 := g.len w0 List.mem_cons_self
  simp [wS_len, g.len w hw, h0]
theorem due_eq4 {rows : List (List Bool)} {n : Nat} {sched : List Int} (g : Good rows n) (hs : ∀ p ∈ sched, 0 ≤ p ∧ p < (rows.length : Int)) (hl : sched.length = n) : m__law_due rows sched = some (("told" : Str), pick rows sched) := by
  unfold m__law_due
  have hz := g.sz
  rw [grd_t (by omega)]
  have e : mapO (fun (x1425 : Int) => ((atI sched x1425).bind fun (x1426 : Int) => ((atI rows x1426).bind fun (x1427 : (List Bool)) => ((atI x1427 x1425).bind fun (x1428 : Bool) => some ([x1428]))))) (rng 0 (((sched).length : Int)).toNat) = some ((rng 0 (((sched).length : Int)).toNat).map fun k => [(rows.getD (sched.getD k.toNat 0).toNat []).getD k.toNat false]) := by
    apply mapO_some
    intro i hi
    have hb := mem_rng hi
    obtain ⟨k, rfl⟩ := Int.eq_ofNat_of_zero_le hb.1
    have hk : k < sched.length := by omega
    have e1 : atI sched (k : Int) = some sched[k] := atI_nat (List.getElem?_eq_getElem hk)
    have h1 := hs _ (List.getElem_mem hk)
    have e2 : atI rows sched[k] = some (rows.getD sched[k].toNat []) := at_get h1.1 h1.2
    have hm : rows.getD sched[k].toNat [] ∈ rows := by
      have : sched[k].toNat < rows.length := by omega
      rw [List.getD_eq_getElem?_getD, List.getElem?_eq_getElem this]
      exact List.getElem_mem this
    have e3 : atI (rows.getD sched[k].toNat []) (k : Int) = some ((rows.getD sched[k].toNat []).getD k false) := by
      have := at_get (d0 := false) (xs := rows.getD sched[k].toNat []) (i := (k : Int)) (by omega) (by rw [g.len _ hm]; omega)
      simpa using this
    simp only [e1, Option.bind_some, e2, e3, Int.toNat_natCast]
    rw [List.getD_eq_getElem?_getD (l := sched), List.getElem?_eq_getElem hk]
    rfl
  rw [e]
  simp only [Option.bind_some]
  have ef : ((rng 0 (((sched).length : Int)).toNat).map fun k => [(rows.getD (sched.getD k.toNat 0).toNat []).getD k.toNat false]).flatten = pick rows sched := by
    have h1 : ∀ l : List Int, (l.map fun k => [(rows.getD (sched.getD k.toNat 0).toNat []).getD k.toNat false]).flatten = l.map fun k => (rows.getD (sched.getD k.toNat 0).toNat []).getD k.toNat false := by
      intro l
      induction l with
      | nil => rfl
      | cons a l ih => simp only [List.map_cons, List.flatten_cons, ih, List.singleton_append]
    rw [h1]
    unfold pick
    apply List.ext_getElem?
    intro i
    by_cases hi : i < sched.length
    · have e9 : (enL sched)[i]? = some ((i : Int), sched[i]) := enL_get (List.getElem?_eq_getElem hi)
      rw [List.getElem?_map, List.getElem?_map, e9, rng_get (by omega)]
      simp [List.getElem?_eq_getElem hi]
    · rw [List.getElem?_eq_none (by simp [rng_len]; omega), List.getElem?_eq_none (by simp [enL_len]; omega)]
  rw [ef, grd_t (by unfold pick; rw [List.length_map, enL_len]; omega)]
theorem check_yes {d : PyData} (h : m_are_rows d = some true) : m_check_rows_alone d = some (.ok ()) := by unfold m_check_rows_alone; rw [h]; rfl
theorem check_no {d : PyData} (h : m_are_rows d = some false) : m_check_rows_alone d = some (.error ⟨("InvalidRows", "rows"), d⟩) := by unfold m_check_rows_alone; rw [h]; rfl
theorem row0_len {rows : List (List Bool)} {n : Nat} (g : Good rows n) (t : Bool) : ∃ d, dIx (sq t (rows.map (Tod.toD zW))) 0 = some d ∧ dLen d = some (n : Int) := by
  obtain ⟨w0, r, rfl⟩ := List.exists_cons_of_ne_nil g.ne
  refine ⟨.str (wS w0), by rw [sq_ix]; exact atI_nat rfl, ?_⟩
  have h0 := g.len w0 List.mem_cons_self
  have hz := g.sz
  show (if (wS w0).length ≤ 1000000 then some ((wS w0).length : Int) else none) = _
  rw [if_pos (by rw [wS_len]; omega), wS_len, h0]
theorem txt_one (b : Bool) : (⟨#[sgn b]⟩ : Str) = wS [b] := rfl
theorem row_ok {rows : List (List Bool)} {n : Nat} {sched : List Int} (g : Good rows n) (hs : ∀ p ∈ sched, 0 ≤ p ∧ p < (rows.length : Int)) (hl : sched.length = n) (t u : Bool) :
    m_row_of_schedule (sq t (rows.map (Tod.toD zW))) (sq u (sched.map PyData.int)) = some (.ok (wS (pick rows sched))) := by
  have hz := g.sz
  unfold m_row_of_schedule
  rw [check_yes (rows_yes t g)]
  obtain ⟨d0, e0, l0⟩ := row0_len g t
  unfold catE
  simp only [Option.bind_some, sq_row, Bool.not_true, Bool.false_eq_true, if_false, sq_len, sq_seq, e0, l0, List.length_map, hl, decide_true]
  have e1 : mapO (fun (x83 : PyData) => ((m_is_between x83 (0 : Int) ((rows.length : Int) - (1 : Int))).bind fun (r87 : Bool) => some r87)) (sched.map PyData.int) = some (sched.map fun _ => true) := by
    have h2 : ∀ l : List Int, (∀ p ∈ l, 0 ≤ p ∧ p < (rows.length : Int)) → mapO (fun (x83 : PyData) => ((m_is_between x83 (0 : Int) ((rows.length : Int) - (1 : Int))).bind fun (r87 : Bool) => some r87)) (l.map PyData.int) = some (l.map fun _ => true) := by
      intro l hl
      induction l with
      | nil => rfl
      | cons p l ih =>
        have hp := hl p List.mem_cons_self
        simp only [List.map_cons, mapO, between_int]
        rw [ih fun q hq => hl q (List.mem_cons_of_mem _ hq), decide_eq_true hp.1, decide_eq_true (show p ≤ (rows.length : Int) - 1 by omega)]
        rfl
    exact h2 _ hs
  rw [e1]
  simp only [Option.bind_some]
  rw [if_neg (by simp)]
  have en : enL (sched.map PyData.int) = (enL sched).map fun q => (q.1, PyData.int q.2) := by
    unfold enL
    rw [List.length_map, List.zip_map_right]
    rfl
  have e2 : mapO (fun (x91 : (Int × PyData)) => ((dInt ((x91).2)).bind fun (x92 : Int) => ((dIx (sq t (rows.map (Tod.toD zW))) x92).bind fun (x93 : PyData) => ((dIx x93 ((x91).1)).bind fun (x94 : PyData) => some x94)))) (enL (sched.map PyData.int)) = some ((enL (sched.map PyData.int)).map fun q => .str (wS [(rows.getD ((dInt q.2).getD 0).toNat []).getD q.1.toNat false])) := by
    apply mapO_some
    intro q hq
    rw [en] at hq
    obtain ⟨⟨k, p⟩, hm, rfl⟩ := List.mem_map.mp hq
    obtain ⟨hk0, hk1, hk2⟩ := mem_enL hm
    have hp := hs p (List.mem_of_getElem? hk2)
    have e2 : atI rows p = some (rows.getD p.toNat []) := at_get hp.1 hp.2
    have hmm : rows.getD p.toNat [] ∈ rows := by
      have : p.toNat < rows.length := by omega
      rw [List.getD_eq_getElem?_getD, List.getElem?_eq_getElem this]
      exact List.getElem_mem this
    have hlen := g.len _ hmm
    have e3 : atI (rows.getD p.toNat []) k = some ((rows.getD p.toNat []).getD k.toNat false) := at_get hk0 (by rw [hlen]; simp only at hk1; omega)
    simp only [dInt, Option.bind_some, sq_ix, Option.getD_some]
    rw [atI_map e2]
    simp only [Option.bind_some]
    show ((dIx (.str (wS (rows.getD p.toNat []))) k).bind fun x94 => some x94) = _
    have e4 : dIx (.str (wS (rows.getD p.toNat []))) k = some (.str (wS [(rows.getD p.toNat []).getD k.toNat false])) := by
      show (if (wS (rows.getD p.toNat [])).length ≤ 1000000 then (atI (wS (rows.getD p.toNat [])).cps.toList k).map fun c => PyData.str ⟨#[c]⟩ else none) = _
      rw [if_pos (by rw [wS_len]; omega), wS_list, atI_map e3]
      rfl
    rw [e4]
    rfl
  rw [e2]
  simp only [Option.bind_some]
  have e5 : mapO dStr ((enL (sched.map PyData.int)).map fun q => PyData.str (wS [(rows.getD ((dInt q.2).getD 0).toNat []).getD q.1.toNat false])) = some ((pick rows sched).map fun b => wS [b]) := by
    rw [en, List.map_map]
    unfold pick
    rw [List.map_map]
    have h3 : ∀ l : List (Int × Int), mapO dStr (l.map ((fun q : Int × PyData => PyData.str (wS [(rows.getD ((dInt q.2).getD 0).toNat []).getD q.1.toNat false])) ∘ fun q : Int × Int => (q.1, PyData.int q.2))) = some (l.map ((fun b => wS [b]) ∘ fun q : Int × Int => (rows.getD q.2.toNat []).getD q.1.toNat false)) := by
      intro l
      induction l with
      | nil => rfl
      | cons a l ih =>
        simp only [List.map_cons, mapO]
        rw [ih]
        rfl
    exact h3 _
  rw [e5]
  simp only [Option.bind_some]
  have hpl : (pick rows sched).length = n := by unfold pick; rw [List.length_map, enL_len, hl]
  have hsum : ((((pick rows sched).map fun b => wS [b]).map (·.length)).sum) = n := by
    rw [← hpl]
    generalize pick rows sched = l
    induction l with
    | nil => rfl
    | cons a l ih => simp only [List.map_cons, List.sum_cons, ih, List.length_cons, wS_len]; simp; omega
  rw [grd_t (by rw [hsum, wS_len]; simp; omega)]
  have ej : ((pick rows sched).map fun b => wS [b]) = ((pick rows sched).map fun b => [b]).map wS := by rw [List.map_map]; rfl
  rw [ej, join_words]
  congr 3
  generalize pick rows sched = l
  induction l with
  | nil => rfl
  | cons a l ih => simp only [List.map_cons, List.flatten_cons, ih, List.singleton_append]
/-! ### what is told -/
theorem told_ok {rows : List (List Bool)} {n : Nat} {sched : List Int} (g : Good rows n) (hs : ∀ p ∈ sched, 0 ≤ p ∧ p < (rows.length : Int)) (hl : sched.length = n) (t u : Bool) (z : PyData) :
    m__law_told 0 (sq t (rows.map (Tod.toD zW))) (sq u (sched.map PyData.int)) z = some (.tuple [.str "told", .str (wS (pick rows sched))]) := by
  unfold m__law_told
  rw [if_pos (by decide), row_ok g hs hl t u]
  rfl
theorem told_rows {d x z : PyData} (h : m_are_rows d = some false) : m__law_told 0 d x z = some (.tuple [.str "rows", d]) := by
  have e : m_row_of_schedule d x = some (.error ⟨("InvalidRows", "rows"), d⟩) := by
    unfold m_row_of_schedule
    rw [check_no h]
    rfl
  unfold m__law_told
  rw [if_pos (by decide), e]
  simp only [catE, Option.bind_some]
  rw [if_neg (by decide +kernel), if_pos True.intro]
  rfl
def btw (lo hi : Int) : PyData → Bool
  | .int i => decide (lo ≤ i) && decide (i ≤ hi)
  | _ => false
theorem between_eq (d : PyData) (lo hi : Int) : m_is_between d lo hi = some (btw lo hi d) := by
  cases d <;> rfl
/-- a schedule that is none -/
inductive BadLot (m : Int) (n : Nat) : PyData → Prop
  | kind {d : PyData} (h : m_is_row d = some false) : BadLot m n d
  | len {u : Bool} {xs : List PyData} (h : xs.length ≠ n) : BadLot m n (sq u xs)
  | item {u : Bool} {xs : List PyData} (h : xs.length = n) (x : PyData) (hx : x ∈ xs) (hb : btw 0 (m - 1) x = false) : BadLot m n (sq u xs)
theorem told_lot {rows : List (List Bool)} {n : Nat} (g : Good rows n) (t : Bool) {d z : PyData} (h : BadLot (rows.length : Int) n d) : m__law_told 0 (sq t (rows.map (Tod.toD zW))) d z = some (.tuple [.str "lot", d]) := by
  have e : m_row_of_schedule (sq t (rows.map (Tod.toD zW))) d = some (.error ⟨("InvalidLot", "lot"), d⟩) := by
    obtain ⟨d0, e0, l0⟩ := row0_len g t
    unfold m_row_of_schedule
    rw [check_yes (rows_yes t g)]
    unfold catE
    cases h with
    | kind h => simp [h]
    | @len u xs h =>
      have h' : ¬ ((xs.length : Int) = (n : Int)) := by omega
      simp [sq_row, sq_len, e0, l0, h']
    | @item u xs h x hx hb =>
      simp only [Option.bind_some, sq_row, Bool.not_true, Bool.false_eq_true, if_false, sq_len, sq_seq, e0, l0, List.length_map, h, decide_true]
      have e1 : mapO (fun (x83 : PyData) => ((m_is_between x83 (0 : Int) ((rows.length : Int) - (1 : Int))).bind fun (r87 : Bool) => some r87)) xs = some (xs.map (btw 0 ((rows.length : Int) - 1))) := mapO_some fun x _ => by rw [between_eq]; rfl
      rw [e1]
      simp only [Option.bind_some]
      rw [if_pos]
      rw [Bool.not_eq_true', List.all_eq_false]
      exact ⟨_, List.mem_map.mpr ⟨x, hx, rfl⟩, by simp [hb]⟩
  unfold m__law_told
  rw [if_pos (by decide), e]
  simp only [catE, Option.bind_some]
  rw [if_neg (by decide +kernel), if_neg (by decide +kernel), if_pos True.intro]
  rfl
/-! ### loops -/
theorem forP_inv {α S : Type} {f : S → α → Option S} (P : Nat → S → Prop) : ∀ (xs : List α) (k : Nat) (s : S), P k s → (∀ i x s, xs[i]? = some x → P (k + i) s → ∃ s', f s x = some s' ∧ P (k + i + 1) s') → ∃ s', forP f s xs = some s' ∧ P (k + xs.length) s'
  | [], k, s, h, _ => ⟨s, rfl, h⟩
  | x :: xs, k, s, h, st => by
    obtain ⟨s1, e1, h1⟩ := st 0 x s rfl h
    obtain ⟨s2, e2, h2⟩ := forP_inv P xs (k + 1) s1 h1 fun i y s hy hp => by
      have := st (i + 1) y s (by simpa using hy) (by rw [show k + (i + 1) = k + 1 + i by omega]; exact hp)
      rw [show k + 1 + i + 1 = k + (i + 1) + 1 by omega]; exact this
    refine ⟨s2, ?_, by rw [List.length_cons, show k + (xs.length + 1) = k + 1 + xs.length by omega]; exact h2⟩
    simp only [forP, e1, Option.bind_some, e2]
theorem forP_rng {S : Type} {f : S → Int → Option S} (P : Nat → S → Prop) {n : Nat} {s : S} (h0 : P 0 s) (st : ∀ (i : Nat) s, i < n → P i s → ∃ s', f s (i : Int) = some s' ∧ P (i + 1) s') : ∃ s', forP f s (rng 0 n) = some s' ∧ P n s' := by
  obtain ⟨s', e, h⟩ := forP_inv P (rng 0 n) 0 s h0 fun i x s hx hp => by
    have hi : i < n := by have := (List.getElem?_eq_some_iff.mp hx).1; rwa [rng_len] at this
    rw [rng_get hi] at hx
    have hx' : x = (i : Int) := by have := Option.some.inj hx; omega
    subst hx'
    rw [Nat.zero_add] at hp ⊢
    exact st i s hi hp
  exact ⟨s', e, by rw [rng_len, Nat.zero_add] at h; exact h⟩
theorem forP_then {S β : Type} (G : Option β → Prop) (P : Nat → S → Prop) {f : S → Int → Option S} {g : S → Option β} {n : Nat} {s : S} (h0 : P 0 s) (st : ∀ (i : Nat) s, i < n → P i s → ∃ s', f s (i : Int) = some s' ∧ P (i + 1) s') (fin : ∀ s', P n s' → G (g s')) : G ((forP f s (rng 0 n)).bind g) := by
  obtain ⟨s', e, h⟩ := forP_rng P h0 st
  rw [e]
  exact fin s' h
theorem word_ok (num len : Int) (h0 : 0 ≤ len) (h1 : len ≤ 1000) : ∃ w, m__law_word num len = some w ∧ (w.length : Int) = len := by
  unfold m__law_word
  simp only [Option.bind_some]
  rw [grd_t (by omega)]
  refine forP_then (fun (o : Option (List Bool)) => ∃ w, o = some w ∧ (w.length : Int) = len) (fun i (s : Int × List Bool) => s.2.length = i) rfl ?_ ?_
  · rintro i ⟨a, w⟩ hi hw
    dsimp only at hw ⊢
    have hb : ∃ b, strB (a % 2) = some [b] := by
      unfold strB
      rcases (by omega : a % 2 = 0 ∨ a % 2 = 1) with h | h <;> rw [h]
      · exact ⟨false, rfl⟩
      · exact ⟨true, rfl⟩
    obtain ⟨b, hb⟩ := hb
    rw [hb]
    simp only [Option.bind_some]
    rw [grd_t (by simp; omega), grd_t (divW (by decide) (by decide))]
    exact ⟨_, rfl, by simp; omega⟩
  · rintro ⟨a, w⟩ hw
    exact ⟨w, rfl, by dsimp only at hw; omega⟩
theorem drawn (many : Int) (h0 : 0 < many) (h1 : many < 2 ^ 64) (s : Bx) (hs : Ok3 s) : ∃ t s', m__law_draw many s = some (t, s') ∧ 0 ≤ t ∧ t < many ∧ Ok3 s' := by
  obtain ⟨t, s', e, a, b, c, _⟩ := draw_ok many h0 h1 s hs
  exact ⟨t, s', e, a, b, c⟩
theorem rows_ok (p l : Int) (hp : 0 ≤ p ∧ p ≤ 1000) (hl : 0 ≤ l ∧ l ≤ 1000) (s : Bx) (hs : Ok3 s) : ∃ rows s', m__law_rows p l s = some (rows, s') ∧ (rows.length : Int) = p ∧ (∀ w ∈ rows, (w.length : Int) = l) ∧ Ok3 s' := by
  unfold m__law_rows
  simp only [Option.bind_some]
  rw [grd_t (by omega)]
  refine forP_then (fun (o : Option (List (List Bool) × Bx)) => ∃ rows s', o = some (rows, s') ∧ (rows.length : Int) = p ∧ (∀ w ∈ rows, (w.length : Int) = l) ∧ Ok3 s') (fun i (s : List (List Bool) × Bx) => s.1.length = i ∧ (∀ w ∈ s.1, (w.length : Int) = l) ∧ Ok3 s.2) ⟨rfl, (by simp), hs⟩ ?_ ?_
  · rintro i ⟨rows, s⟩ hi ⟨h1, h2, h3⟩
    dsimp only at h1 h2 h3 ⊢
    have word : ∀ s : Bx, Ok3 s → ∃ s', ((m__law_draw (256 : Int) s).bind fun (q501 : Int × Bx) => ((m__law_word q501.1 l).bind fun (q504 : (List Bool)) => ((grd (rows.length < 1000000)).bind fun (_ : Unit) => some (rows ++ [q504], q501.2)))) = some s' ∧ s'.1.length = i + 1 ∧ (∀ w ∈ s'.1, (w.length : Int) = l) ∧ Ok3 s'.2 := by
      intro s hs
      obtain ⟨t, s', e, _, _, h6⟩ := drawn 256 (by decide) (by decide) s hs
      obtain ⟨w, ew, hw⟩ := word_ok t l hl.1 hl.2
      rw [e]
      simp only [Option.bind_some]
      rw [ew]
      simp only [Option.bind_some]
      rw [grd_t (by omega)]
      refine ⟨_, rfl, by simp; omega, fun w' hw' => ?_, h6⟩
      rcases List.mem_append.mp hw' with h | h
      · exact h2 w' h
      · rw [List.mem_singleton] at h; subst h; exact hw
    split
    · rename_i hc
      have hi0 : 0 < (i : Int) := of_decide_eq_true hc
      obtain ⟨t, s1, e, _, _, h6⟩ := drawn 4 (by decide) (by decide) s h3
      rw [e]
      simp only [Option.bind_some]
      split
      · obtain ⟨t2, s2, e2, h7, h8, h9⟩ := drawn i hi0 (by omega) s1 h6
        rw [e2]
        simp only [Option.bind_some]
        rw [at_get (d0 := []) h7 (by omega)]
        simp only [Option.bind_some]
        rw [grd_t (by omega)]
        refine ⟨_, rfl, by simp; omega, fun w' hw' => ?_, h9⟩
        rcases List.mem_append.mp hw' with h | h
        · exact h2 w' h
        · rw [List.mem_singleton] at h
          subst h
          have : t2.toNat < rows.length := by omega
          rw [List.getD_eq_getElem?_getD, List.getElem?_eq_getElem this]
          exact h2 _ (List.getElem_mem this)
      · obtain ⟨s', e', h⟩ := word s1 h6
        rw [e']
        exact ⟨_, rfl, h⟩
    · obtain ⟨s', e', h⟩ := word s h3
      rw [e']
      exact ⟨_, rfl, h⟩
  · rintro ⟨rows, s⟩ ⟨h1, h2, h3⟩
    exact ⟨rows, s, rfl, by dsimp only at h1; omega, h2, h3⟩
theorem schedule_ok (p l : Int) (hp : 0 < p ∧ p ≤ 1000) (hl : 0 ≤ l ∧ l ≤ 1000) (s : Bx) (hs : Ok3 s) : ∃ xs s', m__law_schedule p l s = some (xs, s') ∧ (xs.length : Int) = l ∧ (∀ x ∈ xs, 0 ≤ x ∧ x < p) ∧ Ok3 s' := by
  unfold m__law_schedule
  obtain ⟨way, s1, e1, _, _, h1⟩ := drawn 3 (by decide) (by decide) s hs
  rw [e1]
  simp only [Option.bind_some]
  rw [grd_t (by omega)]
  refine forP_then (fun (o : Option (List Int × Bx)) => ∃ xs s', o = some (xs, s') ∧ (xs.length : Int) = l ∧ (∀ x ∈ xs, 0 ≤ x ∧ x < p) ∧ Ok3 s') (fun i (s : List Int × Bx) => s.1.length = i ∧ (∀ x ∈ s.1, 0 ≤ x ∧ x < p) ∧ Ok3 s.2) ⟨rfl, (by simp), h1⟩ ?_ ?_
  · rintro i ⟨xs, s⟩ hi ⟨h1, h2, h3⟩
    dsimp only at h1 h2 h3 ⊢
    have add : ∀ (y : Int) (s : Bx), 0 ≤ y ∧ y < p → Ok3 s → ∃ s', ((grd (xs.length < 1000000)).bind fun (_ : Unit) => some (xs ++ [y], s)) = some s' ∧ s'.1.length = i + 1 ∧ (∀ x ∈ s'.1, 0 ≤ x ∧ x < p) ∧ Ok3 s'.2 := by
      intro y s hy hs
      rw [grd_t (by omega)]
      refine ⟨_, rfl, by simp; omega, fun x hx => ?_, hs⟩
      rcases List.mem_append.mp hx with h | h
      · exact h2 x h
      · rw [List.mem_singleton] at h; subst h; exact hy
    have get : ∀ j : Int, 0 ≤ j → j < i → ∃ y, atI xs j = some y ∧ 0 ≤ y ∧ y < p := fun j hj hj2 => by
      refine ⟨_, at_get (d0 := 0) hj (by omega), ?_⟩
      have : j.toNat < xs.length := by omega
      rw [List.getD_eq_getElem?_getD, List.getElem?_eq_getElem this]
      exact h2 _ (List.getElem_mem this)
    have fresh : ∀ s : Bx, Ok3 s → ∃ s', ((m__law_draw p s).bind fun (q1379 : Int × Bx) => ((grd (xs.length < 1000000)).bind fun (_ : Unit) => some (xs ++ [q1379.1], q1379.2))) = some s' ∧ s'.1.length = i + 1 ∧ (∀ x ∈ s'.1, 0 ≤ x ∧ x < p) ∧ Ok3 s'.2 := by
      intro s hs
      obtain ⟨t, s', e, h4, h5, h6⟩ := drawn p hp.1 (by omega) s hs
      rw [e]
      exact add t s' ⟨h4, h5⟩ h6
    have elif : ∀ s : Bx, Ok3 s → ∃ s', (if ((decide ((1 : Int) < (i : Int))) && (decide (way = (2 : Int)))) = true then
        ((atI xs ((i : Int) - (2 : Int))).bind fun (x1376 : Int) => ((grd (xs.length < 1000000)).bind fun (_ : Unit) => some (xs ++ [x1376], s)))
        else ((m__law_draw p s).bind fun (q1379 : Int × Bx) => ((grd (xs.length < 1000000)).bind fun (_ : Unit) => some (xs ++ [q1379.1], q1379.2)))) = some s' ∧ s'.1.length = i + 1 ∧ (∀ x ∈ s'.1, 0 ≤ x ∧ x < p) ∧ Ok3 s'.2 := by
      intro s hs
      split
      · rename_i hc
        simp only [Bool.and_eq_true, decide_eq_true_eq] at hc
        obtain ⟨y, ey, hy⟩ := get ((i : Int) - 2) (by omega) (by omega)
        rw [ey]
        exact add y s hy hs
      · exact fresh s hs
    have fin : ∀ {o : Option (List Int × Bx)}, (∃ s', o = some s' ∧ s'.1.length = i + 1 ∧ (∀ x ∈ s'.1, 0 ≤ x ∧ x < p) ∧ Ok3 s'.2) → ∃ s', (o.bind fun j => some (j.1, j.2)) = some s' ∧ s'.1.length = i + 1 ∧ (∀ x ∈ s'.1, 0 ≤ x ∧ x < p) ∧ Ok3 s'.2 := by
      rintro o ⟨s', rfl, h⟩
      exact ⟨_, rfl, h⟩
    refine fin ?_
    split
    · rename_i hc
      have hi0 : 0 < (i : Int) := of_decide_eq_true hc
      split
      · obtain ⟨t, s2, e2, _, _, h6⟩ := drawn 3 (by decide) (by decide) s h3
        rw [e2]
        simp only [Option.bind_some]
        split
        · obtain ⟨y, ey, hy⟩ := get ((i : Int) - 1) (by omega) (by omega)
          rw [ey]
          exact add y s2 hy h6
        · exact fin (elif s2 h6)
      · exact fin (elif s h3)
    · exact fin (elif s h3)
  · rintro ⟨xs, s⟩ ⟨h1, h2, h3⟩
    exact ⟨xs, s, rfl, by dsimp only at h1; omega, h2, h3⟩
end EB

set_option Elab.async false
set_option linter.all false
set_option maxRecDepth 100000
set_option maxHeartbeats 4000000
namespace EB
open PySem PySem.Spec PyProof.Rows L2
theorem setO_pos {α : Type} {xs : List α} {i : Int} {x : α} (h0 : 0 ≤ i) (h : i < (xs.length : Int)) : setO xs i x = some (xs.set i.toNat x) := by
  obtain ⟨k, rfl⟩ := Int.eq_ofNat_of_zero_le h0
  unfold setO
  have : ixN xs.length (k : Int) = some k := by unfold ixN; simp; omega
  rw [this]
  rfl
theorem popAtO_pos {α : Type} {xs : List α} {i : Int} (h0 : 0 ≤ i) (h : i < (xs.length : Int)) (hl : xs.length ≤ 1000) : ∃ x, popAtO xs i = some (x, xs.eraseIdx i.toNat) := by
  obtain ⟨k, rfl⟩ := Int.eq_ofNat_of_zero_le h0
  have hk : k < xs.length := by omega
  unfold popAtO
  rw [if_pos (by omega)]
  have : seqIndex? (k : Int) xs.length = some k := by unfold seqIndex?; simp; omega
  rw [this]
  simp only [Option.bind_some]
  rw [List.getElem?_eq_getElem hk]
  exact ⟨_, rfl⟩
theorem wrong_lot {p : Int} (hp : 0 < p ∧ p ≤ 8) (good : List Int) (hg : ∀ x ∈ good, 0 ≤ x ∧ x < p) (hl : good.length ≤ 1000) (s : Bx) (hs : Ok3 s) : ∃ d s', m__law_wrong_schedule p good s = some (d, s') ∧ BadLot p good.length d ∧ fitD 5 d ∧ Ok3 s' := by
  unfold m__law_wrong_schedule
  obtain ⟨way, s1, e1, w0, w1, h1⟩ := drawn 5 (by decide) (by decide) s hs
  simp only [Option.bind_some]
  rw [e1]
  simp only [Option.bind_some]
  have hm : mx2 1 (good.length : Int) = max 1 (good.length : Int) := by unfold mx2; split <;> omega
  obtain ⟨at_, s2, e2, a0, a1, h2⟩ := drawn (mx2 1 (good.length : Int)) (by omega) (by omega) s1 h1
  rw [e2]
  simp only [Option.bind_some]
  split
  · obtain ⟨j, s3, e3, j0, j1, h3⟩ := drawn 5 (by decide) (by decide) s2 h2
    rw [e3]
    simp only [Option.bind_some]
    have hj : j = 0 ∨ j = 1 ∨ j = 2 ∨ j = 3 ∨ j = 4 := by omega
    rcases hj with rfl | rfl | rfl | rfl | rfl
    · exact ⟨_, _, rfl, .kind rfl, trivial, h3⟩
    · exact ⟨_, _, rfl, .kind rfl, trivial, h3⟩
    · exact ⟨_, _, rfl, .kind rfl, trivial, h3⟩
    · exact ⟨_, _, rfl, .kind rfl, (show SeqAt.shaped _ = true by decide +kernel), h3⟩
    · refine ⟨_, _, rfl, ?_, ⟨by simp, fun x hx => ?_⟩, h3⟩
      · by_cases hn : good.length = 1
        · exact BadLot.item (u := false) (xs := [Tod.toD (zL zI) good]) (by rw [hn]; rfl) _ List.mem_cons_self rfl
        · exact BadLot.len (u := false) (xs := [Tod.toD (zL zI) good]) (by rw [List.length_singleton]; omega)
      · rw [List.mem_singleton] at hx
        subst hx
        refine ⟨by rw [List.length_map]; omega, fun y hy => ?_⟩
        obtain ⟨i, _, rfl⟩ := List.mem_map.mp hy
        trivial
  · have fin : ∀ {o : Option (List PyData × Bx)}, (∃ xs s', o = some (xs, s') ∧ (∀ u, BadLot p good.length (sq u xs)) ∧ (xs.length ≤ 2000 ∧ ∀ x ∈ xs, fitD 4 x) ∧ Ok3 s') →
        ∃ d s', (o.bind fun (j1576 : (List PyData) × Bx) => ((m__law_draw (2 : Int) j1576.2).bind fun (q1674 : Int × Bx) => (if decide (q1674.1 = (0 : Int)) = true then some ((PyData.tuple j1576.1), q1674.2) else some ((PyData.list j1576.1), q1674.2)))) = some (d, s') ∧ BadLot p good.length d ∧ fitD 5 d ∧ Ok3 s' := by
      rintro o ⟨xs, s', rfl, hb, hf, hs'⟩
      obtain ⟨t, s4, e4, _, _, h4⟩ := drawn 2 (by decide) (by decide) s' hs'
      simp only [Option.bind_some]
      rw [e4]
      simp only [Option.bind_some]
      split
      · exact ⟨_, _, rfl, hb true, ⟨by omega, hf.2⟩, h4⟩
      · exact ⟨_, _, rfl, hb false, ⟨by omega, hf.2⟩, h4⟩
    have mid : ∀ {o : Option (List PyData × Bx)} {P : List PyData × Bx → Prop}, (∃ xs s', o = some (xs, s') ∧ P (xs, s')) → ∃ xs s', (o.bind fun j => some (j.1, j.2)) = some (xs, s') ∧ P (xs, s') := by
      rintro o P ⟨xs, s', rfl, h⟩
      exact ⟨_, _, rfl, h⟩
    refine fin ?_
    have odd : ∀ j : Int, 0 ≤ j → j < 10 → ∃ x, atI [(PyData.int p), (PyData.int (-(1 : Int))), PyData.none, (PyData.bool true), (PyData.bool false), (PyData.str (wS ([false] : List Bool))), (PyData.tuple ([(PyData.int (0 : Int))])), (PyData.list ([(PyData.int (0 : Int))])), (PyData.int (1000 : Int)), (PyData.int (p + (4 : Int)))] j = some x ∧ btw 0 (p - 1) x = false ∧ fitD 4 x := by
      intro j h0 h1
      have hj : j = 0 ∨ j = 1 ∨ j = 2 ∨ j = 3 ∨ j = 4 ∨ j = 5 ∨ j = 6 ∨ j = 7 ∨ j = 8 ∨ j = 9 := by omega
      have bt : ∀ i : Int, (i < 0 ∨ p - 1 < i) → btw 0 (p - 1) (.int i) = false := fun i hi => by
        show (decide (0 ≤ i) && decide (i ≤ p - 1)) = false
        rw [Bool.and_eq_false_iff, decide_eq_false_iff_not, decide_eq_false_iff_not]
        omega
      rcases hj with rfl | rfl | rfl | rfl | rfl | rfl | rfl | rfl | rfl | rfl
      · exact ⟨_, rfl, bt _ (by omega), trivial⟩
      · exact ⟨_, rfl, bt _ (by omega), trivial⟩
      · exact ⟨_, rfl, rfl, trivial⟩
      · exact ⟨_, rfl, rfl, trivial⟩
      · exact ⟨_, rfl, rfl, trivial⟩
      · exact ⟨_, rfl, rfl, (show SeqAt.shaped _ = true by decide +kernel)⟩
      · exact ⟨_, rfl, rfl, by simp [fitD]⟩
      · exact ⟨_, rfl, rfl, by simp [fitD]⟩
      · exact ⟨_, rfl, bt _ (by omega), trivial⟩
      · exact ⟨_, rfl, bt _ (by omega), trivial⟩
    have gl : (good.map (Tod.toD zI)).length = good.length := List.length_map ..
    have gf : ∀ x ∈ good.map (Tod.toD zI), fitD 4 x := fun x hx => by
      obtain ⟨i, _, rfl⟩ := List.mem_map.mp hx
      trivial
    have setb : ∀ x, fitD 4 x → at_ < (good.length : Int) → (((good.map (Tod.toD zI)).set at_.toNat x).length = good.length ∧ x ∈ (good.map (Tod.toD zI)).set at_.toNat x ∧ ∀ y ∈ (good.map (Tod.toD zI)).set at_.toNat x, fitD 4 y) := fun x hx ha => by
      refine ⟨by simp, ?_, fun y hy => ?_⟩
      · exact List.mem_set (by rw [gl]; omega) _
      · rcases List.mem_or_eq_of_mem_set hy with h | h
        · exact gf y h
        · rw [h]; exact hx
    split
    · rename_i hc
      simp only [Bool.and_eq_true, decide_eq_true_eq] at hc
      obtain ⟨j, s3, e3, j0, j1, h3⟩ := drawn 10 (by decide) (by decide) s2 h2
      rw [e3]
      simp only [Option.bind_some]
      obtain ⟨x, ex, hb, hf⟩ := odd j j0 j1
      rw [ex]
      simp only [Option.bind_some]
      rw [setO_pos a0 (by rw [gl]; omega)]
      obtain ⟨q1, q2, q3⟩ := setb x hf (by omega)
      exact ⟨_, _, rfl, fun u => .item q1 x q2 hb, ⟨by omega, q3⟩, h3⟩
    · refine mid (P := fun z => (∀ u, BadLot p good.length (sq u z.1)) ∧ (z.1.length ≤ 2000 ∧ ∀ x ∈ z.1, fitD 4 x) ∧ Ok3 z.2) ?_
      split
      · rename_i hc
        simp only [Bool.and_eq_true, decide_eq_true_eq] at hc
        obtain ⟨x, ex⟩ := popAtO_pos (xs := good.map (Tod.toD zI)) (i := at_) a0 (by rw [gl]; omega) (by rw [gl]; omega)
        rw [ex]
        refine ⟨_, _, rfl, fun u => .len ?_, ⟨?_, fun y hy => gf y (List.mem_of_mem_eraseIdx hy)⟩, h2⟩
        · rw [List.length_eraseIdx_of_lt (by rw [gl]; omega), gl]; omega
        · have := List.length_eraseIdx_le (good.map (Tod.toD zI)) at_.toNat
          dsimp only
          omega
      · refine mid (P := fun z => (∀ u, BadLot p good.length (sq u z.1)) ∧ (z.1.length ≤ 2000 ∧ ∀ x ∈ z.1, fitD 4 x) ∧ Ok3 z.2) ?_
        split
        · rename_i hc
          simp only [Bool.and_eq_true, decide_eq_true_eq] at hc
          obtain ⟨j, s3, e3, j0, j1, h3⟩ := drawn 10 (by decide) (by decide) s2 h2
          rw [e3]
          simp only [Option.bind_some]
          obtain ⟨x, ex, hb, hf⟩ := odd j j0 j1
          rw [ex]
          simp only [Option.bind_some]
          rw [setO_pos a0 (by rw [gl]; omega)]
          obtain ⟨q1, q2, q3⟩ := setb x hf (by omega)
          simp only [Option.bind_some]
          rw [grd_t (by omega)]
          refine ⟨_, _, rfl, fun u => .len (by rw [List.length_append, q1]; simp), ⟨by rw [List.length_append, q1]; simp; omega, fun y hy => ?_⟩, h3⟩
          rcases List.mem_append.mp hy with h | h
          · exact q3 y h
          · rw [List.mem_singleton] at h; subst h; trivial
        · obtain ⟨j, s3, e3, j0, j1, h3⟩ := drawn p hp.1 (by omega) s2 h2
          rw [e3]
          simp only [Option.bind_some]
          rw [grd_t (by rw [gl]; omega)]
          refine ⟨_, _, rfl, fun u => .len (by rw [List.length_append, gl]; simp), ⟨by rw [List.length_append, gl]; simp; omega, fun y hy => ?_⟩, h3⟩
          rcases List.mem_append.mp hy with h | h
          · exact gf y h
          · rw [List.mem_singleton] at h; subst h; trivial
end EB

set_option Elab.async false
set_option linter.all false
set_option maxRecDepth 100000
set_option maxHeartbeats 4000000
namespace EB
open PySem PySem.Spec PyProof.Rows L2
theorem menu_bad (j : Int) (h0 : 0 ≤ j) (h1 : j < 14) : ∃ d, atI [PyData.none, (PyData.bool true), (PyData.int (7 : Int)), (PyData.str (wS ([] : List Bool))), (PyData.str (wS ([false, true] : List Bool))), (PyData.tuple ([] : List PyData)), (PyData.list ([] : List PyData)), (PyData.tuple ([(PyData.tuple ([] : List PyData))])), (PyData.tuple ([(PyData.str (wS ([false] : List Bool))), (PyData.str (wS ([false, true] : List Bool)))])), (PyData.list ([(PyData.str (wS ([] : List Bool))), (PyData.str (wS ([true] : List Bool)))])), (PyData.tuple ([(PyData.str ("2" : Str))])), (PyData.tuple ([(PyData.int (0 : Int))])), (PyData.list ([PyData.none])), (PyData.tuple ([(PyData.tuple ([(PyData.str (wS ([false] : List Bool))), (PyData.str (wS ([true] : List Bool)))]))]))] j = some d ∧ m_are_rows d = some false ∧ fitD 5 d := by
  have sh : ∀ s : Str, SeqAt.shaped (.str s) = true → fitD 3 (.str s) := fun s h => h
  have hj : j = 0 ∨ j = 1 ∨ j = 2 ∨ j = 3 ∨ j = 4 ∨ j = 5 ∨ j = 6 ∨ j = 7 ∨ j = 8 ∨ j = 9 ∨ j = 10 ∨ j = 11 ∨ j = 12 ∨ j = 13 := by omega
  have w0 : SeqAt.shaped (.str (wS [])) = true := by decide +kernel
  have w1 : SeqAt.shaped (.str (wS [false])) = true := by decide +kernel
  have w2 : SeqAt.shaped (.str (wS [true])) = true := by decide +kernel
  have w3 : SeqAt.shaped (.str (wS [false, true])) = true := by decide +kernel
  have w4 : SeqAt.shaped (.str ("2" : Str)) = true := by decide +kernel
  rcases hj with rfl | rfl | rfl | rfl | rfl | rfl | rfl | rfl | rfl | rfl | rfl | rfl | rfl | rfl <;>
    exact ⟨_, rfl, by decide +kernel, by simp [fitD, w0, w1, w2, w3, w4]⟩
theorem seven (j : Int) (h0 : 0 ≤ j) (h1 : j < 7) : ∃ d, atI [PyData.none, (PyData.int (1 : Int)), (PyData.bool true), (PyData.tuple ([] : List PyData)), (PyData.list ([(PyData.str (wS ([false] : List Bool))), (PyData.str (wS ([true] : List Bool)))])), (PyData.int (0 : Int)), (PyData.int (-(1 : Int)))] j = some d ∧ isW d = false ∧ szD d ∧ fitD 4 d := by
  have hj : j = 0 ∨ j = 1 ∨ j = 2 ∨ j = 3 ∨ j = 4 ∨ j = 5 ∨ j = 6 := by omega
  have w1 : SeqAt.shaped (.str (wS [false])) = true := by decide +kernel
  have w2 : SeqAt.shaped (.str (wS [true])) = true := by decide +kernel
  rcases hj with rfl | rfl | rfl | rfl | rfl | rfl | rfl <;>
    exact ⟨_, rfl, rfl, by simp [szD], by simp [fitD, w1, w2]⟩
/-- two lengths among the rows -/
theorem rows_two {ss : List Str} (h : ∀ s ∈ ss, s.length ≤ 1000000 ∧ isW (.str s) = true) {a b : Str} (ha : a ∈ ss) (hb : b ∈ ss) (hne : a.length ≠ b.length) (t : Bool) : m_are_rows (sq t (ss.map PyData.str)) = some false := by
  have hn : ss ≠ [] := List.ne_nil_of_mem ha
  rw [rows_len t rfl h hn]
  congr 1
  rw [List.all_eq_false]
  generalize hL : (ss.headD default).length = L
  by_cases c : a.length = L
  · exact ⟨b, hb, fun z => hne (by have := of_decide_eq_true z; omega)⟩
  · exact ⟨a, ha, fun z => c (by have := of_decide_eq_true z; omega)⟩
theorem shaped_word (w : List Bool) : SeqAt.shaped (.str (wS w)) = true := shaped_toD (r := zW) (by decide) w
end EB

set_option Elab.async false
set_option linter.all false
set_option maxRecDepth 100000
set_option maxHeartbeats 4000000
namespace EB
open PySem PySem.Spec PyProof.Rows L2
theorem shapedC (a b : List Bool) {c : Nat} (hc : c < 128) : SeqAt.shaped (.str (wS a ++ ⟨#[c]⟩ ++ wS b)) = true := by
  have e : PyData.strOk (wS a ++ ⟨#[c]⟩ ++ wS b) = true := by rw [strOk_app, strOk_app, strOk_w, strOk_w, strOk_one (by omega)]; rfl
  simp [SeqAt.shaped, PyData.canLay0, PyData.depth, e]
theorem sign5 (j : Int) (h0 : 0 ≤ j) (h1 : j < 5) : ∃ c, ixS (Str.ofString "2 aO-") j = some ⟨#[c]⟩ ∧ c < 128 ∧ c ∉ ("01" : Str).cps.toList := by
  have hj : j = 0 ∨ j = 1 ∨ j = 2 ∨ j = 3 ∨ j = 4 := by omega
  rcases hj with rfl | rfl | rfl | rfl | rfl
  · exact ⟨50, by decide +kernel, by decide, by decide +kernel⟩
  · exact ⟨32, by decide +kernel, by decide, by decide +kernel⟩
  · exact ⟨97, by decide +kernel, by decide, by decide +kernel⟩
  · exact ⟨79, by decide +kernel, by decide, by decide +kernel⟩
  · exact ⟨45, by decide +kernel, by decide, by decide +kernel⟩
theorem isW_bad {c : Nat} (hc : c ∉ ("01" : Str).cps.toList) (a b : Str) : isW (.str (a ++ ⟨#[c]⟩ ++ b)) = false := by
  show ((a ++ ⟨#[c]⟩ ++ b).cps.toList.all fun c => decide (c ∈ ("01" : Str).cps.toList)) = false
  rw [List.all_eq_false]
  refine ⟨c, ?_, by simpa using hc⟩
  show c ∈ ((a.cps ++ #[c]) ++ b.cps).toList
  simp
theorem wrong_rows {rows : List (List Bool)} {n : Nat} (g : Good rows n) (hn : n ≤ 8) (s : Bx) (hs : Ok3 s) : ∃ d s', m__law_wrong_rows rows s = some (d, s') ∧ m_are_rows d = some false ∧ fitD 5 d ∧ Ok3 s' := by
  have hne := List.length_pos_iff.mpr g.ne
  have hmany := g.many
  unfold m__law_wrong_rows
  obtain ⟨way, s1, e1, w0, w1, h1⟩ := drawn 6 (by decide) (by decide) s hs
  simp only [Option.bind_some]
  rw [e1]
  simp only [Option.bind_some]
  obtain ⟨at_, s2, e2, a0, a1, h2⟩ := drawn (rows.length : Int) (by omega) (by omega) s1 h1
  rw [e2]
  simp only [Option.bind_some]
  have ew := at_get (d0 := ([] : List Bool)) a0 a1
  have hk : at_.toNat < rows.length := by omega
  have hmem : rows.getD at_.toNat [] ∈ rows := by
    rw [List.getD_eq_getElem?_getD, List.getElem?_eq_getElem hk]
    exact List.getElem_mem hk
  have hlen := g.len _ hmem
  rw [ew]
  generalize rows.getD at_.toNat [] = word at hmem hlen ew ⊢
  simp only [Option.bind_some]
  split
  · obtain ⟨j, s3, e3, j0, j1, h3⟩ := drawn 14 (by decide) (by decide) s2 h2
    rw [e3]
    simp only [Option.bind_some]
    obtain ⟨d, ed, b, f⟩ := menu_bad j j0 j1
    rw [ed]
    exact ⟨_, _, rfl, b, f, h3⟩
  · have fin : ∀ {o : Option (List PyData × Bx)}, (∃ xs s', o = some (xs, s') ∧ (∀ u, m_are_rows (sq u xs) = some false) ∧ (xs.length ≤ 2000 ∧ ∀ x ∈ xs, fitD 4 x) ∧ Ok3 s') →
        ∃ d s', (o.bind fun (j1576 : (List PyData) × Bx) => ((m__law_draw (2 : Int) j1576.2).bind fun (q1674 : Int × Bx) => (if decide (q1674.1 = (0 : Int)) = true then some ((PyData.tuple j1576.1), q1674.2) else some ((PyData.list j1576.1), q1674.2)))) = some (d, s') ∧ m_are_rows d = some false ∧ fitD 5 d ∧ Ok3 s' := by
      rintro o ⟨xs, s', rfl, hb, hf, hs'⟩
      obtain ⟨t, s4, e4, _, _, h4⟩ := drawn 2 (by decide) (by decide) s' hs'
      simp only [Option.bind_some]
      rw [e4]
      simp only [Option.bind_some]
      split
      · exact ⟨_, _, rfl, hb true, ⟨by omega, hf.2⟩, h4⟩
      · exact ⟨_, _, rfl, hb false, ⟨by omega, hf.2⟩, h4⟩
    have mid : ∀ {o : Option (List PyData × Bx)} {P : List PyData × Bx → Prop}, (∃ xs s', o = some (xs, s') ∧ P (xs, s')) → ∃ xs s', (o.bind fun j => some (j.1, j.2)) = some (xs, s') ∧ P (xs, s') := by
      rintro o P ⟨xs, s', rfl, h⟩
      exact ⟨_, _, rfl, h⟩
    have two : ∀ w' : List Bool, w'.length ≠ n → w'.length ≤ 1000 → 1 < rows.length → (∀ u, m_are_rows (sq u ((rows.map (Tod.toD zW)).set at_.toNat (.str (wS w')))) = some false) ∧ (((rows.map (Tod.toD zW)).set at_.toNat (.str (wS w'))).length ≤ 2000 ∧ ∀ y ∈ (rows.map (Tod.toD zW)).set at_.toNat (.str (wS w')), fitD 4 y) := by
      intro w' hw' hz hr
      have e : (rows.map (Tod.toD zW)).set at_.toNat (.str (wS w')) = ((rows.set at_.toNat w').map wS).map PyData.str := by rw [List.map_map, List.map_set]; rfl
      have all : ∀ w ∈ rows.set at_.toNat w', w.length ≤ 1000 := fun w hw => by
        rcases List.mem_or_eq_of_mem_set hw with h | h
        · rw [g.len w h]; omega
        · rw [h]; exact hz
      have other : ∃ w ∈ rows.set at_.toNat w', w.length = n := by
        by_cases c : at_.toNat = 0
        · refine ⟨rows[1], List.mem_of_getElem? (i := 1) ?_, g.len _ (List.getElem_mem hr)⟩
          rw [List.getElem?_set, if_neg (by omega), List.getElem?_eq_getElem hr]
        · refine ⟨rows[0], List.mem_of_getElem? (i := 0) ?_, g.len _ (List.getElem_mem (by omega))⟩
          rw [List.getElem?_set, if_neg (by omega), List.getElem?_eq_getElem (by omega)]
      obtain ⟨w2, hm2, hl2⟩ := other
      rw [e]
      refine ⟨fun u => rows_two (a := wS w') (b := wS w2) (fun s hs => ?_) (List.mem_map.mpr ⟨w', List.mem_set hk _, rfl⟩) (List.mem_map.mpr ⟨w2, hm2, rfl⟩) (by rw [wS_len, wS_len, hl2]; exact hw') u, by simp; omega, fun y hy => ?_⟩
      · obtain ⟨w, hw, rfl⟩ := List.mem_map.mp hs
        exact ⟨by rw [wS_len]; have := all w hw; omega, isW_word w⟩
      · rw [List.map_map] at hy
        obtain ⟨w, _, rfl⟩ := List.mem_map.mp hy
        exact shaped_word w
    have gl : (rows.map (Tod.toD zW)).length = rows.length := List.length_map ..
    have gf : ∀ x ∈ rows.map (Tod.toD zW), fitD 4 x ∧ szD x := fun x hx => by
      obtain ⟨w, hw, rfl⟩ := List.mem_map.mp hx
      exact ⟨shaped_word w, by show (wS w).length ≤ 1000000; rw [wS_len, g.len w hw]; omega⟩
    have setw : ∀ x, fitD 4 x → szD x → isW x = false → (∀ u, m_are_rows (sq u ((rows.map (Tod.toD zW)).set at_.toNat x)) = some false) ∧ (((rows.map (Tod.toD zW)).set at_.toNat x).length ≤ 2000 ∧ ∀ y ∈ (rows.map (Tod.toD zW)).set at_.toNat x, fitD 4 y) := fun x hx hz hw => by
      refine ⟨fun u => rows_word u (fun y hy => ?_) ⟨x, List.mem_set (by rw [gl]; exact hk) _, hw⟩, by rw [List.length_set, gl]; omega, fun y hy => ?_⟩
      · rcases List.mem_or_eq_of_mem_set hy with h | h
        · exact (gf y h).2
        · rw [h]; exact hz
      · rcases List.mem_or_eq_of_mem_set hy with h | h
        · exact (gf y h).1
        · rw [h]; exact hx
    refine fin ?_
    split
    · obtain ⟨j, s3, e3, j0, j1, h3⟩ := drawn 7 (by decide) (by decide) s2 h2
      rw [e3]
      simp only [Option.bind_some]
      obtain ⟨x, ex, hw, hz, hf⟩ := seven j j0 j1
      rw [ex]
      simp only [Option.bind_some]
      rw [setO_pos a0 (by rw [gl]; omega)]
      obtain ⟨q1, q2⟩ := setw x hf hz hw
      exact ⟨_, _, rfl, q1, q2, h3⟩
    · refine mid (P := fun z => (∀ u, m_are_rows (sq u z.1) = some false) ∧ (z.1.length ≤ 2000 ∧ ∀ x ∈ z.1, fitD 4 x) ∧ Ok3 z.2) ?_
      split
      · rename_i hc
        simp only [Bool.and_eq_true, decide_eq_true_eq] at hc
        obtain ⟨j, s3, e3, j0, j1, h3⟩ := drawn 2 (by decide) (by decide) s2 h2
        rw [e3]
        simp only [Option.bind_some]
        rw [at_get (d0 := false) j0 (by simp; omega)]
        simp only [Option.bind_some]
        rw [grd_t (by simp; omega)]
        rw [setO_pos a0 (by rw [gl]; omega)]
        obtain ⟨q1, q2⟩ := two (word ++ [([false, true] : List Bool).getD j.toNat false]) (by simp; omega) (by simp; omega) (by omega)
        exact ⟨_, _, rfl, q1, q2, h3⟩
      · refine mid (P := fun z => (∀ u, m_are_rows (sq u z.1) = some false) ∧ (z.1.length ≤ 2000 ∧ ∀ x ∈ z.1, fitD 4 x) ∧ Ok3 z.2) ?_
        split
        · rename_i hc
          simp only [Bool.and_eq_true, decide_eq_true_eq] at hc
          rw [setO_pos a0 (by rw [gl]; omega)]
          have hcl : (cutA word (some 1) none).length = word.length - 1 := by
            have : 0 < word.length := by omega
            simp [cutA, HT.sIx]
            omega
          obtain ⟨q1, q2⟩ := two (cutA word (some 1) none) (by omega) (by omega) (by omega)
          exact ⟨_, _, rfl, q1, q2, h2⟩
        · refine mid (P := fun z => (∀ u, m_are_rows (sq u z.1) = some false) ∧ (z.1.length ≤ 2000 ∧ ∀ x ∈ z.1, fitD 4 x) ∧ Ok3 z.2) ?_
          split
          · rename_i hc
            simp only [Bool.and_eq_true, decide_eq_true_eq] at hc
            obtain ⟨sp, s3, e3, p0, p1, h3⟩ := drawn (word.length : Int) (by omega) (by omega) s2 h2
            rw [e3]
            simp only [Option.bind_some]
            obtain ⟨j, s4, e4, j0, j1, h4⟩ := drawn 5 (by decide) (by decide) s3 h3
            rw [e4]
            simp only [Option.bind_some]
            obtain ⟨c, ec, hc128, hcn⟩ := sign5 j j0 j1
            rw [ec]
            simp only [Option.bind_some]
            have ea := strOk_w (cutA word none (some sp))
            have eb := strOk_w (cutA word (some (sp + 1)) none)
            have l1 : (wS (cutA word none (some sp))).length ≤ 1000 := by rw [wS_len]; simp [cutA]; omega
            have l2 : (wS (cutA word (some (sp + 1)) none)).length ≤ 1000 := by rw [wS_len]; simp [cutA]; omega
            generalize wS (cutA word none (some sp)) = wa at l1 ea ⊢
            generalize wS (cutA word (some (sp + 1)) none) = wb at l2 eb ⊢
            have lc : (⟨#[c]⟩ : Str).length = 1 := rfl
            have l3 := str_len_app wa ⟨#[c]⟩
            have l4 := str_len_app (wa ++ ⟨#[c]⟩) wb
            rw [lc] at l3
            rw [l3] at l4
            have l5 : (wa ++ ⟨#[c]⟩).length + wb.length ≤ 1000000 := by rw [l3]; omega
            have l6 : wa.length + (⟨#[c]⟩ : Str).length ≤ 1000000 := by rw [lc]; omega
            have l7 : (wa ++ ⟨#[c]⟩ ++ wb).length ≤ 1000000 := by rw [l4]; omega
            rw [grd_t l6, grd_t l5]
            rw [setO_pos a0 (by rw [gl]; omega)]
            have q := setw (.str (wa ++ (⟨#[c]⟩ : Str) ++ wb)) (shaped_str (by rw [strOk_app, strOk_app, ea, eb, strOk_one (by omega)]; rfl)) l7 (isW_bad hcn _ _)
            exact ⟨_, _, rfl, q.1, q.2, h4⟩
          · rw [grd_t (by rw [gl]; omega)]
            refine ⟨_, _, rfl, fun u => rows_word u (fun y hy => ?_) ⟨PyData.none, by simp, rfl⟩, ⟨by rw [List.length_append, gl]; simp; omega, fun y hy => ?_⟩, h2⟩
            · rcases List.mem_append.mp hy with h | h
              · exact (gf y h).2
              · rw [List.mem_singleton] at h; subst h; trivial
            · rcases List.mem_append.mp hy with h | h
              · exact (gf y h).1
              · rw [List.mem_singleton] at h; subst h; trivial
end EB

set_option Elab.async false
set_option linter.all false
set_option maxRecDepth 100000
set_option maxHeartbeats 4000000
namespace EB
open PySem PySem.Spec PyProof.Rows L2
theorem drawnY (many : Int) (h0 : 0 < many) (h1 : many < 2 ^ 64) (s : Bx) (hs : Ok3 s) : Y (m__law_draw many s) fun q => (0 ≤ q.1 ∧ q.1 < many) ∧ Ok3 q.2 := by
  obtain ⟨t, s', e, a, b, c⟩ := drawn many h0 h1 s hs
  exact ⟨_, e, ⟨a, b⟩, c⟩
theorem fit2 {s : Str} {d : PyData} (hs : PyData.strOk s = true) (hd : fitD 5 d) : fitD 6 (.tuple [.str s, d]) :=
  ⟨by simp, fun x hx => by
    rcases List.mem_cons.mp hx with h | h
    · rw [h]; exact shaped_str hs
    · rw [List.mem_singleton] at h; rw [h]; exact hd⟩
theorem same2 {s : Str} {d : PyData} (hs : PyData.strOk s = true) (hd : fitD 5 d) : m__law_same 6 (.tuple [.str s, d]) (.tuple [.str s, d]) = some true := same_refl 6 _ (fit2 hs hd)
theorem s_told : PyData.strOk "told" = true := by decide +kernel
theorem s_rows : PyData.strOk "rows" = true := by decide +kernel
theorem s_lot : PyData.strOk "lot" = true := by decide +kernel
theorem s_num : PyData.strOk "number" = true := by decide +kernel
theorem word_okY (num len : Int) (h0 : 0 ≤ len) (h1 : len ≤ 1000) : Y (m__law_word num len) fun w => (w.length : Int) = len := word_ok num len h0 h1
def tail04 (p_rows : List (List Bool)) (p_schedule : List Int) (s : Bx) : Option (Bool × Bx) :=
((m__law_wrong_schedule ((p_rows).length : Int) p_schedule s).bind fun (q1786 : PyData × Bx) =>
((m__law_wrong_schedule ((p_rows).length : Int) p_schedule s).bind fun (q1788 : PyData × Bx) =>
((m__law_told (0 : Int) (Tod.toD (zU zW) p_rows) q1786.1 (PyData.int (0 : Int))).bind fun (r1792 : PyData) =>
((m__law_same 6 (PyData.tuple ([(PyData.str ("lot" : Str)), q1788.1])) r1792).bind fun (r1793 : Bool) =>
(if (!r1793) = true then
some (false, q1786.2)
else
((m__law_wrong_rows p_rows q1786.2).bind fun (q1796 : PyData × Bx) =>
((m__law_wrong_rows p_rows q1786.2).bind fun (q1798 : PyData × Bx) =>
((some (PyData.tuple ([(PyData.str ("rows" : Str)), q1798.1]))).bind fun (d1801 : PyData) =>
((some ([q1786.1, (Tod.toD (zL zI) p_schedule)])).bind fun (d1805 : (List PyData)) =>
((m__law_draw (2 : Int) q1796.2).bind fun (q1806 : Int × Bx) =>
((atI d1805 q1806.1).bind fun (x1808 : PyData) =>
((some (PyData.int (0 : Int))).bind fun (d1811 : PyData) =>
((m__law_told (0 : Int) q1796.1 x1808 d1811).bind fun (q1812 : PyData) =>
((m__law_same 6 d1801 q1812).bind fun (q1814 : Bool) =>
some (q1814, q1806.2)))))))))))))))
theorem tail04_ok {rows : List (List Bool)} {n : Nat} {sched : List Int} (g : Good rows n) (hn : n ≤ 8) (hr : rows.length ≤ 8) (hs : ∀ p ∈ sched, 0 ≤ p ∧ p < (rows.length : Int)) (hl : sched.length = n) (s : Bx) (h : Ok3 s) :
    Y (tail04 rows sched s) fun q => q.1 = true ∧ Ok3 q.2 := by
  have hne := List.length_pos_iff.mpr g.ne
  obtain ⟨d, s1, e1, b1, f1, h1⟩ := wrong_lot (p := (rows.length : Int)) ⟨by omega, by omega⟩ sched hs (by omega) s h
  rw [hl] at b1
  obtain ⟨d2, s2, e2, b2, f2, h2⟩ := wrong_rows g hn s1 h1
  unfold tail04
  refine Y.be e1 (Y.be e1 (Y.be (told_lot g true b1) (Y.be (same2 s_lot f1) (Y.neg (by simp) ?_))))
  refine Y.be e2 (Y.be e2 (Y.bs (Y.bs (Y.bind (drawnY 2 (by decide) (by decide) _ h2) ?_))))
  rintro ⟨t, s3⟩ ⟨⟨t0, t1⟩, h3⟩
  refine Y.at PyData.none t0 (by simp; exact t1) (Y.bs (Y.be (told_rows b2) (Y.be (same2 s_rows f2) (Y.ret ⟨rfl, h3⟩))))
theorem one_ok {rows : List (List Bool)} {n : Nat} {sched : List Int} (g : Good rows n) (hn : n ≤ 8) (hr : rows.length ≤ 8) (hs : ∀ p ∈ sched, 0 ≤ p ∧ p < (rows.length : Int)) (hl : sched.length = n) (s : Bx) (h : Ok3 s) :
    Y (m__law_one rows sched s) fun q => q.1 = true ∧ Ok3 q.2 := by
  have hne := List.length_pos_iff.mpr g.ne
  have fw : ∀ w : List Bool, fitD 5 (.str (wS w)) := fun w => shaped_str (strOk_w w)
  unfold m__law_one
  refine Y.bs (Y.bs (Y.bind (P := fun j => j.1 = .tuple [.str "told", .str (wS (pick rows sched))] ∧ Ok3 j.2) ?_ ?_))
  · refine Y.bind (drawnY 2 (by decide) (by decide) _ h) ?_
    rintro ⟨t, s3⟩ ⟨_, h3⟩
    refine Y.bs (Y.ite (fun _ => ?_) fun _ => ?_)
    · exact Y.be (told_ok g hs hl true true _) (Y.bs (Y.grd rfl (Y.ret ⟨rfl, h3⟩)))
    · exact Y.be (told_ok g hs hl false false _) (Y.bs (Y.grd rfl (Y.ret ⟨rfl, h3⟩)))
  · rintro ⟨d, s1⟩ ⟨rfl, h1⟩
    refine Y.be (due_eq4 g hs hl) (Y.be (same2 s_told (fw _)) (Y.neg (by simp) (Y.iteD (fun c => ?_) fun c => ?_)))
    · refine Y.bind (drawnY _ c (by omega) _ h1) ?_
      rintro ⟨a, s2⟩ ⟨⟨a0, a1⟩, h2⟩
      refine Y.bind (drawnY _ (by omega) (by omega) _ h2) ?_
      rintro ⟨b, s3⟩ ⟨⟨b0, b1⟩, h3⟩
      refine Y.bind (drawnY _ (by omega) (by omega) _ h3) ?_
      rintro ⟨x, s4⟩ ⟨hx, h4⟩
      refine Y.be (setO_pos a0 a1) (Y.bind (drawnY _ (by decide) (by decide) _ h4) ?_)
      rintro ⟨y, s5⟩ ⟨hy, h5⟩
      refine Y.bs (Y.bind (word_okY _ _ (by omega) (by omega)) fun w hw => ?_)
      refine Y.be (setO_pos b0 b1) ?_
      have g2 : Good (rows.set b.toNat w) n := ⟨by
          intro z
          have := congrArg List.length z
          simp at this
          exact g.ne this, by rw [List.length_set]; exact g.many, fun v hv => by
          rcases List.mem_or_eq_of_mem_set hv with q | q
          · exact g.len v q
          · rw [q]; omega, g.sz⟩
      have hs2 : ∀ p ∈ sched.set a.toNat x, 0 ≤ p ∧ p < ((rows.set b.toNat w).length : Int) := fun p hp => by
        rw [List.length_set]
        rcases List.mem_or_eq_of_mem_set hp with q | q
        · exact hs p q
        · rw [q]; exact hx
      have hl2 : (sched.set a.toNat x).length = n := by rw [List.length_set]; exact hl
      exact Y.be (due_eq4 g2 hs2 hl2) (Y.be (told_ok g2 hs2 hl2 false false _) (Y.be (same2 s_told (fw _)) (Y.neg (by simp) (tail04_ok g hn hr hs hl s5 h5))))
    · exact tail04_ok g hn hr hs hl s1 h1
end EB

set_option Elab.async false
set_option linter.all false
set_option maxRecDepth 100000
set_option maxHeartbeats 4000000
namespace EB
open PySem PySem.Spec PyProof.Rows L2
/-! ### all schedules -/
def many04 (p l : Int) : Option Int := forP (fun (s2133 : Int) (x2137 : Int) =>
((grd (CMulV s2133 p)).bind fun (u2150 : Unit) =>
((some (s2133 * p)).bind fun (d2152 : Int) =>
some d2152))) (1 : Int) (rng 0 l.toNat)
def list04 (p l x : Int) : Option (List Int) :=
((grd (l ≤ 1000000 ∧ -1000000 ≤ l)).bind fun (u2199 : Unit) => mapO (fun (x2200 : Int) =>
((grd (CMulV p p)).bind fun (u2202 : Unit) =>
((atI ([(1 : Int), p, (p * p)] : (List Int)) x2200).bind fun (x2203 : Int) =>
((grd (CDivW x x2203)).bind fun (u2204 : Unit) =>
((grd (0 < p)).bind fun (u2205 : Unit) =>
some ((x / x2203) % p)))))) (rng 0 l.toNat))
def turns04 (l : Int) (x2206 : List Int) (s : List Int) : Option (List Int) :=
((grd (l ≤ 1000000 ∧ -1000000 ≤ l ∧ (1 : Int) ≤ 1000000 ∧ 0 ≤ (1 : Int))).bind fun (u2208 : Unit) =>
((mapO (fun (x2209 : Int) =>
((atI x2206 x2209).bind fun (x2210 : Int) =>
((atI x2206 (x2209 - (1 : Int))).bind fun (x2211 : Int) =>
some (b2 (!decide (x2210 = x2211)))))) (rng (1 : Int) (l - (1 : Int)).toNat)).bind fun (x2212 : (List Int)) =>
((some ((x2212).sum)).bind fun (d2214 : Int) =>
((atI s d2214).bind fun (x2215 : Int) =>
((some (x2215 + (1 : Int))).bind fun (d2217 : Int) =>
setO s d2214 d2217)))))
def step04 (p l : Int) (s : List Int) (x : Int) : Option (List Int) := (list04 p l x).bind fun ys => turns04 l ys s
def all04 (p l : Int) : Bool := match many04 p l with
  | none => false
  | some m => decide (m ≤ 1000000 ∧ -1000000 ≤ m) && match forP (step04 p l) [(0 : Int), (0 : Int), (0 : Int), (0 : Int), (0 : Int)] (rng 0 m.toNat) with
    | none => false
    | some C => (List.range 5).all fun k => decide (m_schedules p l k = some ((cutA C none (some ((k : Int) + 1))).sum))
theorem all04_t : ((List.range 3).all fun p => (List.range 4).all fun l => all04 ((p : Int) + 1) l) = true := by decide +kernel
theorem all04_ok {p l : Int} (hp : 1 ≤ p ∧ p ≤ 3) (hl : 0 ≤ l ∧ l ≤ 3) : ∃ m C, many04 p l = some m ∧ (m ≤ 1000000 ∧ -1000000 ≤ m) ∧ forP (step04 p l) [(0 : Int), (0 : Int), (0 : Int), (0 : Int), (0 : Int)] (rng 0 m.toNat) = some C ∧
    ∀ k : Nat, k < 5 → m_schedules p l k = some ((cutA C none (some ((k : Int) + 1))).sum) := by
  obtain ⟨p', rfl⟩ : ∃ p' : Nat, p = (p' : Int) + 1 := ⟨(p - 1).toNat, by omega⟩
  obtain ⟨l', rfl⟩ := Int.eq_ofNat_of_zero_le hl.1
  have h := all04_t
  rw [List.all_eq_true] at h
  have h1 := h p' (List.mem_range.mpr (by omega))
  rw [List.all_eq_true] at h1
  have h2 := h1 l' (List.mem_range.mpr (by omega))
  unfold all04 at h2
  split at h2
  · cases h2
  · rename_i m em
    rw [Bool.and_eq_true] at h2
    obtain ⟨h3, h4⟩ := h2
    split at h4
    · cases h4
    · rename_i C eC
      rw [List.all_eq_true] at h4
      exact ⟨m, C, em, of_decide_eq_true h3, eC, fun k hk => of_decide_eq_true (h4 k (List.mem_range.mpr hk))⟩
theorem between_n {p lo hi : Int} (h : lo ≤ p ∧ p ≤ hi) : m_check_number (.int p) lo hi = some (.ok ()) := by
  unfold m_check_number
  rw [between_int, decide_eq_true h.1, decide_eq_true h.2]
  rfl
theorem between_x {d : PyData} {lo hi : Int} (h : btw lo hi d = false) : m_check_number d lo hi = some (.error ⟨("InvalidNumber", "number"), d⟩) := by
  unfold m_check_number
  rw [between_eq, h]
  rfl
theorem told_cnt {p l k c : Int} (hp : 1 ≤ p ∧ p ≤ 12) (hl : 0 ≤ l ∧ l ≤ 12) (hk : 0 ≤ k ∧ k ≤ 12) (h : m_schedules p l k = some c) : m__law_told 1 (.int p) (.int l) (.int k) = some (.tuple [.str "told", .int c]) := by
  unfold m__law_told
  rw [if_neg (by decide)]
  unfold m_schedule_count
  rw [between_n hp, between_n hl, between_n hk]
  unfold catE
  simp only [Option.bind_some, dInt, h]
theorem told_num {a b c d : PyData} (h : m_schedule_count a b c = some (.error ⟨("InvalidNumber", "number"), d⟩)) : m__law_told 1 a b c = some (.tuple [.str "number", d]) := by
  unfold m__law_told
  rw [if_neg (by decide), h]
  unfold catE
  simp only [Option.bind_some]
  rw [if_pos True.intro]
  rfl
theorem all_ok (s : Bx) (h : Ok3 s) : Y (m__law_all s) fun q => q.1 = true ∧ Ok3 q.2 := by
  unfold m__law_all
  refine Y.bind (drawnY 3 (by decide) (by decide) _ h) ?_
  rintro ⟨p, s1⟩ ⟨⟨p0, p1⟩, h1⟩
  refine Y.bs (Y.bind (drawnY 4 (by decide) (by decide) _ h1) ?_)
  rintro ⟨l, s2⟩ ⟨⟨l0, l1⟩, h2⟩
  dsimp only at p0 p1 l0 l1 h1 h2 ⊢
  obtain ⟨rows, s3, e3, r1, r2, h3⟩ := rows_ok (1 + p) l (by omega) (by omega) s2 h2
  refine Y.be e3 (Y.grd (by omega) ?_)
  obtain ⟨m, C, em, hm, eC, hC⟩ := all04_ok (p := 1 + p) (l := l) (by omega) (by omega)
  have g : Good rows l.toNat := ⟨fun z => by rw [z] at r1; simp at r1; omega, by omega, fun w hw => by have := r2 w hw; omega, by omega⟩
  refine Y.be em (Y.bs (Y.grd hm ?_))
  refine Y.be (forO_eq (c := step04 (1 + p) l) (fun x _ s s' hs => ?_) eC) ?_
  · unfold step04 list04 turns04 at hs
    obtain ⟨ys, hy, hs⟩ := bnd hs
    obtain ⟨_, hg, hy⟩ := bnd hy
    obtain ⟨_, hg2, hs⟩ := bnd hs
    obtain ⟨zs, hz, hs⟩ := bnd hs
    obtain ⟨t, ht, hs⟩ := bnd hs
    obtain ⟨v, hv, hs⟩ := bnd hs
    obtain ⟨v', hv', hs⟩ := bnd hs
    obtain ⟨yl, yp⟩ := mapO_all (P := fun y => 0 ≤ y ∧ y < 1 + p) hy fun i y hi => by
      obtain ⟨_, _, hi⟩ := bnd hi
      obtain ⟨_, _, hi⟩ := bnd hi
      obtain ⟨_, _, hi⟩ := bnd hi
      obtain ⟨_, _, hi⟩ := bnd hi
      have := Option.some.inj hi
      subst this
      exact ⟨Int.emod_nonneg _ (by omega), Int.emod_lt_of_pos _ (by omega)⟩
    rw [rng_len] at yl
    have yp' : ∀ q ∈ ys, 0 ≤ q ∧ q < (rows.length : Int) := fun q hq => by have := yp q hq; omega
    refine Y.eq ?_
    refine Y.be hg (Y.be hy (Y.be hg2 (Y.be hz (Y.be ht (Y.be hv (Y.be hv' (Y.be hs ?_)))))))
    exact Y.be (due_eq4 g yp' yl) (Y.be (told_ok g yp' yl false false _) (Y.be (same2 s_told (shaped_str (strOk_w _))) (Y.neg (by simp) (Y.ret rfl))))
  · refine Y.be (forO_eq (c := fun _ _ => some ()) (s' := ()) (fun x hx s s' hs => ?_) rfl) (Y.ret ⟨rfl, h3⟩)
    obtain ⟨x0, x1⟩ := mem_rng hx
    obtain ⟨k, rfl⟩ := Int.eq_ofNat_of_zero_le x0
    have hk : k < 5 := by simp at x1; omega
    exact Y.eq (Y.be (told_cnt (by omega) (by omega) (by omega) (hC k hk)) (Y.be (same2 s_told trivial) (Y.neg (by simp) (Y.ret rfl))))
/-! ### numbers -/
theorem odd_ok (j : Int) (h0 : 0 ≤ j) (h1 : j < 11) : ∃ d, atI [(PyData.int (13 : Int)), (PyData.int (-(1 : Int))), PyData.none, (PyData.bool true), (PyData.bool false), (PyData.str (wS ([true] : List Bool))), (PyData.tuple ([] : List PyData)), (PyData.list ([(PyData.int (1 : Int))])), (PyData.tuple ([(PyData.int (2 : Int))])), (PyData.int (14 : Int)), (PyData.int (1000000007 : Int))] j = some d ∧ btw 0 12 d = false ∧ btw 1 12 d = false ∧ fitD 5 d := by
  have hj : j = 0 ∨ j = 1 ∨ j = 2 ∨ j = 3 ∨ j = 4 ∨ j = 5 ∨ j = 6 ∨ j = 7 ∨ j = 8 ∨ j = 9 ∨ j = 10 := by omega
  have w1 : SeqAt.shaped (.str (wS [true])) = true := shaped_str (strOk_w _)
  rcases hj with rfl | rfl | rfl | rfl | rfl | rfl | rfl | rfl | rfl | rfl | rfl <;>
    exact ⟨_, rfl, by decide, by decide, by simp [fitD, w1]⟩
def lo04 (k : Nat) : Int := if k = 0 then 1 else 0
def pow04 (k : Nat) : Int := if k = 0 then 1 else if k = 1 then 2 else 4
def stepN (d1930 : Int) : PyData × List PyData × Bx → Int → Option (PyData × List PyData × Bx) := (fun (s1932 : PyData × (List PyData) × Bx) (x1936 : Int) =>
((((atI ([(1 : Int), (2 : Int), (4 : Int)] : (List Int)) x1936).bind fun (x2055 : Int) =>
((grd (CDivW d1930 x2055)).bind fun (u2056 : Unit) =>
(if (decide (((d1930 / x2055) % (2 : Int)) = (1 : Int))) = true then
((some ([(PyData.int (13 : Int)), (PyData.int (-(1 : Int))), PyData.none, (PyData.bool true), (PyData.bool false), (PyData.str (wS ([true] : List Bool))), (PyData.tuple ([] : List PyData)), (PyData.list ([(PyData.int (1 : Int))])), (PyData.tuple ([(PyData.int (2 : Int))])), (PyData.int (14 : Int)), (PyData.int (1000000007 : Int))])).bind fun (d2058 : (List PyData)) =>
((m__law_draw (11 : Int) s1932.2.2).bind fun (q2059 : Int × Bx) =>
((atI d2058 q2059.1).bind fun (x2061 : PyData) =>
(((if (decide (x1936 = (0 : Int))) = true then
((m__law_draw (3 : Int) q2059.2).bind fun (q2076 : Int × Bx) =>
((some (decide (q2076.1 = (0 : Int)))).bind fun (d2080 : Bool) =>
(if d2080 = true then
((some (PyData.int (0 : Int))).bind fun (d2082 : PyData) =>
some (d2082, q2076.2))
else
some (x2061, q2076.2))))
else
some (x2061, q2059.2))).bind fun (j2072 : PyData × Bx) =>
((setO s1932.2.1 x1936 j2072.1).bind fun (d2086 : List PyData) =>
some (j2072.1, d2086, j2072.2))))))
else
some (s1932.1, s1932.2.1, s1932.2.2))))).bind fun (j2050 : PyData × (List PyData) × Bx) =>
some (j2050.1, j2050.2.1, j2050.2.2)))
theorem stepN_ok (w : Int) (k : Nat) (hk : k < 3) (f : PyData) (xs : List PyData) (hx : xs.length = 3) (s : Bx) (h : Ok3 s) : Y (stepN w (f, xs, s) (k : Int)) fun r => Ok3 r.2.2 ∧
    if w / pow04 k % 2 = 1 then (btw (lo04 k) 12 r.1 = false ∧ fitD 5 r.1 ∧ r.2.1 = xs.set k r.1) else (r.1 = f ∧ r.2.1 = xs) := by
  have ea : atI ([(1 : Int), (2 : Int), (4 : Int)] : (List Int)) (k : Int) = some (pow04 k) := by
    rcases (by omega : k = 0 ∨ k = 1 ∨ k = 2) with rfl | rfl | rfl <;> rfl
  have hp : 0 < pow04 k ∧ pow04 k < 2 ^ 64 := by
    rcases (by omega : k = 0 ∨ k = 1 ∨ k = 2) with rfl | rfl | rfl <;> decide
  unfold stepN
  refine Y.bind (P := fun r => Ok3 r.2.2 ∧ if w / pow04 k % 2 = 1 then (btw (lo04 k) 12 r.1 = false ∧ fitD 5 r.1 ∧ r.2.1 = xs.set k r.1) else (r.1 = f ∧ r.2.1 = xs)) ?_ fun r hr => Y.ret hr
  refine Y.be ea (Y.grd (divW hp.1 hp.2) (Y.iteD (fun c => ?_) fun c => ?_))
  · refine Y.bs (Y.bind (drawnY 11 (by decide) (by decide) _ h) ?_)
    rintro ⟨j, s1⟩ ⟨⟨j0, j1⟩, h1⟩
    obtain ⟨d, ed, b0, b1, fd⟩ := odd_ok j j0 j1
    refine Y.be ed (Y.bind (P := fun q => Ok3 q.2 ∧ btw (lo04 k) 12 q.1 = false ∧ fitD 5 q.1) ?_ ?_)
    · refine Y.iteD (fun c0 => ?_) fun c0 => ?_
      · have k0 : k = 0 := by omega
        subst k0
        refine Y.bind (drawnY 3 (by decide) (by decide) _ h1) ?_
        rintro ⟨t, s2⟩ ⟨_, h2⟩
        refine Y.bs (Y.ite (fun _ => Y.bs (Y.ret ⟨h2, (by decide : btw (lo04 0) 12 (PyData.int 0) = false), trivial⟩)) fun _ => Y.ret ⟨h2, b1, fd⟩)
      · have k0 : ¬ k = 0 := by omega
        exact Y.ret ⟨h1, by unfold lo04; rw [if_neg k0]; exact b0, fd⟩
    · rintro ⟨o, s2⟩ ⟨h2, bo, fo⟩
      refine Y.be (setO_pos (by omega) (by dsimp only; omega)) (Y.ret ⟨h2, ?_⟩)
      rw [if_pos c]
      exact ⟨bo, fo, rfl⟩
  · refine Y.ret ⟨h, ?_⟩
    rw [if_neg c]
    exact ⟨rfl, rfl⟩
theorem cnt_err0 {a b c : PyData} (h : btw 1 12 a = false) : m_schedule_count a b c = some (.error ⟨("InvalidNumber", "number"), a⟩) := by
  unfold m_schedule_count
  rw [between_x h]
  rfl
theorem cnt_err1 {p : Int} {b c : PyData} (hp : 1 ≤ p ∧ p ≤ 12) (h : btw 0 12 b = false) : m_schedule_count (.int p) b c = some (.error ⟨("InvalidNumber", "number"), b⟩) := by
  unfold m_schedule_count
  rw [between_n hp, between_x h]
  rfl
theorem cnt_err2 {p l : Int} {c : PyData} (hp : 1 ≤ p ∧ p ≤ 12) (hl : 0 ≤ l ∧ l ≤ 12) (h : btw 0 12 c = false) : m_schedule_count (.int p) (.int l) c = some (.error ⟨("InvalidNumber", "number"), c⟩) := by
  unfold m_schedule_count
  rw [between_n hp, between_n hl, between_x h]
  rfl
theorem mx2_eq (i j : Int) : mx2 i j = max i j := by unfold mx2; split <;> omega
theorem numbers_ok (s : Bx) (h : Ok3 s) : Y (m__law_numbers s) fun q => q.1 = true ∧ Ok3 q.2 := by
  unfold m__law_numbers
  refine Y.bind (drawnY 12 (by decide) (by decide) _ h) ?_
  rintro ⟨p, s1⟩ ⟨⟨p0, p1⟩, h1⟩
  refine Y.bs (Y.bind (drawnY 13 (by decide) (by decide) _ h1) ?_)
  rintro ⟨l, s2⟩ ⟨⟨l0, l1⟩, h2⟩
  refine Y.bind (drawnY 13 (by decide) (by decide) _ h2) ?_
  rintro ⟨k, s3⟩ ⟨⟨k0, k1⟩, h3⟩
  dsimp only at p0 p1 l0 l1 k0 k1 h3 ⊢
  refine Y.bs (Y.bind (P := fun j => ∃ k, j.1 = [PyData.int (1 + p), .int l, .int k] ∧ (0 ≤ k ∧ k ≤ 12) ∧ Ok3 j.2) ?_ ?_)
  · refine Y.bind (drawnY 3 (by decide) (by decide) _ h3) ?_
    rintro ⟨t, s4⟩ ⟨_, h4⟩
    refine Y.bs (Y.ite (fun _ => ?_) fun _ => Y.ret ⟨k, rfl, ⟨k0, by omega⟩, h4⟩)
    refine Y.be rfl (Y.bs (Y.grd rfl (Y.bind (drawnY 4 (by decide) (by decide) _ h4) ?_)))
    rintro ⟨u, s5⟩ ⟨⟨u0, u1⟩, h5⟩
    dsimp only at u0 u1
    refine Y.be rfl (Y.bs (Y.bs (Y.be (setO_pos (by decide) (by simp)) (Y.ret ⟨_, rfl, ?_, h5⟩))))
    dsimp only
    rw [mx2_eq]
    omega
  · rintro ⟨three, s4⟩ ⟨k, e3, hk, h4⟩
    dsimp only at e3 h4
    subst e3
    obtain ⟨c, ec, es⟩ := cnt_eq (p := 1 + p) (l := l) (k := k) (by omega) (by omega) hk
    refine Y.be rfl (Y.be rfl (Y.be rfl (Y.be rfl (Y.be rfl (Y.be rfl (Y.be ec (Y.be rfl (Y.be rfl (Y.be rfl ?_)))))))))
    refine Y.be (told_cnt (by omega) (by omega) hk es) (Y.be (same2 s_told trivial) (Y.neg (by simp) ?_))
    refine Y.bind (drawnY 7 (by decide) (by decide) _ h4) ?_
    rintro ⟨w, s5⟩ ⟨⟨w0, w1⟩, h5⟩
    refine Y.bs ?_
    dsimp only at w0 w1 h5 ⊢
    generalize hW : 1 + w = W
    have loop : Y (forP (stepN W) (PyData.none, [PyData.int (1 + p), .int l, .int k], s5) [(2 : Int), 1, 0]) fun r => Ok3 r.2.2 ∧ ∃ a b c, r.2.1 = [a, b, c] ∧ m_schedule_count a b c = some (.error ⟨("InvalidNumber", "number"), r.1⟩) ∧ fitD 5 r.1 := by
      unfold forP
      refine Y.bind (stepN_ok W 2 (by decide) _ _ rfl _ h5) ?_
      rintro ⟨f1, t1, s6⟩ ⟨h6, q6⟩
      unfold forP
      have l6 : t1.length = 3 := by split at q6 <;> simp_all
      refine Y.bind (stepN_ok W 1 (by decide) _ _ l6 _ h6) ?_
      rintro ⟨f2, t2, s7⟩ ⟨h7, q7⟩
      unfold forP
      have l7 : t2.length = 3 := by split at q7 <;> simp_all
      refine Y.bind (stepN_ok W 0 (by decide) _ _ l7 _ h7) ?_
      rintro ⟨f3, t3, s8⟩ ⟨h8, q8⟩
      refine Y.ret ⟨h8, ?_⟩
      dsimp only [lo04, pow04] at q6 q7 q8 ⊢
      simp only [Nat.one_ne_zero, if_false, if_true, reduceIte, show ¬ (2 : Nat) = 0 by decide, show ¬ (2 : Nat) = 1 by decide] at q6 q7 q8
      by_cases c0 : W / 1 % 2 = 1
      · rw [if_pos c0] at q8
        obtain ⟨b8, f8, e8⟩ := q8
        obtain ⟨a, b, c, rfl⟩ : ∃ a b c, t2 = [a, b, c] := by
          match t2, l7 with
          | [a, b, c], _ => exact ⟨a, b, c, rfl⟩
        exact ⟨_, _, _, e8, cnt_err0 b8, f8⟩
      · rw [if_neg c0] at q8
        obtain ⟨rfl, rfl⟩ := q8
        by_cases c1 : W / 2 % 2 = 1
        · rw [if_pos c1] at q7
          obtain ⟨b7, f7, e7⟩ := q7
          by_cases c2 : W / 4 % 2 = 1
          · rw [if_pos c2] at q6
            obtain ⟨b6, f6, e6⟩ := q6
            subst e6
            exact ⟨_, _, _, e7, cnt_err1 (by omega) b7, f7⟩
          · rw [if_neg c2] at q6
            obtain ⟨rfl, rfl⟩ := q6
            exact ⟨_, _, _, e7, cnt_err1 (by omega) b7, f7⟩
        · rw [if_neg c1] at q7
          obtain ⟨rfl, rfl⟩ := q7
          have c2 : W / 4 % 2 = 1 := by omega
          rw [if_pos c2] at q6
          obtain ⟨b6, f6, e6⟩ := q6
          exact ⟨_, _, _, e6, cnt_err2 (by omega) (by omega) b6, f6⟩
    refine Y.bind loop ?_
    rintro ⟨f, three, s6⟩ ⟨h6, a, b, c, e, ee, fe⟩
    dsimp only at e h6 ee fe
    subst e
    exact Y.be rfl (Y.be rfl (Y.be rfl (Y.be (told_num ee) (Y.be (same2 s_num fe) (Y.ret ⟨rfl, h6⟩)))))
theorem law_true (ns : List Int) (_ : ns.length ≤ 63) : m_law ns = some true := by
  refine Y.eq ?_
  unfold m_law
  have h0 : Ok3 ((0 : Int), (0 : Int), (777767777 : Int), (0 : Int), ns) := ⟨(by decide : (0 : Int) ≤ 777767777), (by decide : (777767777 : Int) < 2147483647), (by decide : (0 : Int) ≤ 0)⟩
  refine Y.bs (Y.bind (drawnY 8 (by decide) (by decide) _ h0) ?_)
  rintro ⟨p, s1⟩ ⟨⟨p0, p1⟩, h1⟩
  refine Y.bs (Y.bind (drawnY 9 (by decide) (by decide) _ h1) ?_)
  rintro ⟨l, s2⟩ ⟨⟨l0, l1⟩, h2⟩
  dsimp only at p0 p1 l0 l1 h2 ⊢
  obtain ⟨rows, s3, e3, r1, r2, h3⟩ := rows_ok (1 + p) l (by omega) (by omega) s2 h2
  have g : Good rows l.toNat := ⟨fun z => by rw [z] at r1; simp at r1; omega, by omega, fun w hw => by have := r2 w hw; omega, by omega⟩
  refine Y.be e3 (Y.bind (P := fun o => ∃ s', o = .nx s' ∧ Ok3 s') ?_ ?_)
  · refine Y.forORN (fun _ s => Ok3 s) h3 fun i s hi hs => ?_
    refine Y.at [] (by decide) (by dsimp only; omega) ?_
    have hw : ((rows.getD (0 : Int).toNat []).length : Int) = l := r2 _ (getD_mem (by decide) (by omega))
    rw [hw]
    obtain ⟨xs, s4, e4, x1, x2, h4⟩ := schedule_ok (1 + p) l (by omega) (by omega) s hs
    refine Y.be e4 (Y.bind (one_ok g (by omega) (by omega) (fun q hq => by have := x2 q hq; omega) (by dsimp only; omega) s4 h4) ?_)
    rintro ⟨b, s5⟩ ⟨rfl, h5⟩
    refine Y.pos rfl (Y.bind (numbers_ok s5 h5) ?_)
    rintro ⟨b, s6⟩ ⟨rfl, h6⟩
    exact Y.pos rfl (Y.ret ⟨_, rfl, h6⟩)
  · rintro o ⟨s4, rfl, h4⟩
    refine Y.bind (all_ok s4 h4) ?_
    rintro ⟨b, s5⟩ ⟨rfl, h5⟩
    exact Y.pos rfl (Y.be closing_ok (Y.ret rfl))
end EB

set_option Elab.async false
set_option linter.all false
set_option maxRecDepth 100000
set_option maxHeartbeats 4000000

namespace EB
open PySem PySem.Spec PyProof.Rows L2

section

abbrev R9 : PySem.W.OpenRow := PySem.W.OpenLaw.row PySem.Challenge.rw_everybudget_k04_whole_schedules_and_coun
abbrev hk : PySem.W.Hook := He.hookX 6 fa fn [] [] ex
def ob (s : PySem.W.SharedT) : He.AlX := He.obsX 6 fa fn [] [] ex (HandSHeadRun.getT s)
theorem ob_eq (s : PySem.W.SharedT) : ob s = hk.obs s.abs := He.obsX_eq (HandSHeadRun.getT_eq s)
def loose : List PySem.Str := (["BudgetError", "InvalidNumber", "InvalidRows", "InvalidLot", "is_integer", "is_between", "is_row", "is_word", "are_rows", "check_number", "check_rows_alone", "ways", "MOST_PROGRAMS", "MOST_LENGTH", "MOST_SWITCHES"] : List PySem.Str) ++ (["row_of_schedule", "power_of", "schedules", "schedule_count", "_law_box", "_law_draw", "_law_same", "_law_word", "_law_rows", "_law_wrong_rows", "_law_told", "_law_schedule", "_law_due", "_law_count", "_law_wrong_schedule"] : List PySem.Str) ++ (["_law_one", "_law_numbers", "_law_all", "_law_closing"] : List PySem.Str)
theorem run9 (w : World) : HandSHeadRun.RunEq R9 (PySem.W.view R9.prog [40]) hk ob 6000 loose w := by
  intro os
  kernel_rfl
theorem facts {P : Program} {w : World} {K : PySem.W.Frag} {h : Heap} {mg : Str → Option Value} {f : Addr} (X : K.In h) (G : h.Ns mainGlobals mg) (hfa : mg ("law" : Str) = some (.ref f)) (c : He.SaysX fa fn [] [] ex w h K) :
    ∃ fd : FuncData, (∀ (s : Shared) (v : Value), BindsTo s fd ⟨[v], []⟩ [("script", v)]) ∧ ∀ base : Heap, K.In base → base.Ns mainGlobals mg → FnOk P w K mg base CX0 100 f fd ["script"] (spLaw K) := by
  have S := tx_of X G c
  have ef : He.fAd K ("law", none) = f := by
    have h1 := g_law S
    rw [hfa] at h1
    injection h1 with h2
    injection h2 with h3
    exact h3.symm
  obtain ⟨fd, D⟩ := d_law S
  refine ⟨fd, fun s v => D.bindsA (ps := ["script"]) (fun _ _ _ _ _ _ us hl => match us, hl with | [_], _ => rfl) s [v] rfl, fun base hb hG => ?_⟩
  have G_InvalidNumber___init__ := (ok_InvalidNumber___init__ (P := P) (w := w) (base := base) S  : Ok P w K mg base 1 ("InvalidNumber", some "__init__") ["self", "number"] ((fun K => spErr K (He.ga K "InvalidNumber") "number") K))
  have G_InvalidRows___init__ := (ok_InvalidRows___init__ (P := P) (w := w) (base := base) S  : Ok P w K mg base 1 ("InvalidRows", some "__init__") ["self", "rows"] ((fun K => spErr K (He.ga K "InvalidRows") "rows") K))
  have G_InvalidLot___init__ := (ok_InvalidLot___init__ (P := P) (w := w) (base := base) S  : Ok P w K mg base 1 ("InvalidLot", some "__init__") ["self", "lot"] ((fun K => spErr K (He.ga K "InvalidLot") "lot") K))
  have G_is_integer := (ok_is_integer (P := P) (w := w) (base := base) S  : Ok P w K mg base 1 ("is_integer", none) ["value"] (sp_is_integer K))
  have G_is_between := (ok_is_between (P := P) (w := w) (base := base) S G_is_integer : Ok P w K mg base 2 ("is_between", none) ["value", "least", "most"] (sp_is_between K))
  have G_is_row := (ok_is_row (P := P) (w := w) (base := base) S  : Ok P w K mg base 1 ("is_row", none) ["value"] (sp_is_row K))
  have G_is_word := (ok_is_word (P := P) (w := w) (base := base) S  : Ok P w K mg base 1 ("is_word", none) ["value"] (sp_is_word K))
  have G_are_rows := (ok_are_rows (P := P) (w := w) (base := base) S G_is_row G_is_word : Ok P w K mg base 2 ("are_rows", none) ["value"] (sp_are_rows K))
  have G_check_number := (ok_check_number (P := P) (w := w) (base := base) S G_InvalidNumber___init__ G_is_between : OkX P w K mg base 3 ("check_number", none) ["value", "least", "most"] (sp_check_number K))
  have G_check_rows_alone := (ok_check_rows_alone (P := P) (w := w) (base := base) S G_InvalidRows___init__ G_are_rows : OkX P w K mg base 3 ("check_rows_alone", none) ["rows"] (sp_check_rows_alone K))
  have G_ways := (ok_ways (P := P) (w := w) (base := base) S  : Ok P w K mg base 1 ("ways", none) ["many", "chosen"] (sp_ways K))
  have G_row_of_schedule := (ok_row_of_schedule (P := P) (w := w) (base := base) S G_InvalidLot___init__ G_check_rows_alone G_is_between G_is_row : OkX P w K mg base 4 ("row_of_schedule", none) ["rows", "schedule"] (sp_row_of_schedule K))
  have G_power_of := (ok_power_of (P := P) (w := w) (base := base) S  : Ok P w K mg base 1 ("power_of", none) ["base", "many"] (sp_power_of K))
  have G_schedules := (ok_schedules (P := P) (w := w) (base := base) S G_power_of G_ways : Ok P w K mg base 2 ("schedules", none) ["programs", "length", "switches"] (sp_schedules K))
  have G_schedule_count := (ok_schedule_count (P := P) (w := w) (base := base) S G_check_number G_schedules : OkX P w K mg base 4 ("schedule_count", none) ["programs", "length", "switches"] (sp_schedule_count K))
  have G__law_draw := (ok__law_draw (P := P) (w := w) (base := base) S  : Ok P w K mg base 1 ("_law_draw", none) ["box", "many"] (sp__law_draw K))
  have G__law_same := (ok__law_same (P := P) (w := w) (base := base) S  : Ok P w K mg base 7 ("_law_same", none) ["due", "told"] ((sp__law_same 6) K))
  have G__law_told := (ok__law_told (P := P) (w := w) (base := base) S G_row_of_schedule G_schedule_count : Ok P w K mg base 5 ("_law_told", none) ["what", "first", "second", "third"] (sp__law_told K))
  have G__law_word := (ok__law_word (P := P) (w := w) (base := base) S  : Ok P w K mg base 1 ("_law_word", none) ["number", "length"] (sp__law_word K))
  have G__law_rows := (ok__law_rows (P := P) (w := w) (base := base) S G__law_draw G__law_word : Ok P w K mg base 2 ("_law_rows", none) ["box", "programs", "length"] (sp__law_rows K))
  have G__law_wrong_rows := (ok__law_wrong_rows (P := P) (w := w) (base := base) S G__law_draw : Ok P w K mg base 2 ("_law_wrong_rows", none) ["box", "rows"] (sp__law_wrong_rows K))
  have G__law_schedule := (ok__law_schedule (P := P) (w := w) (base := base) S G__law_draw : Ok P w K mg base 2 ("_law_schedule", none) ["box", "programs", "length"] (sp__law_schedule K))
  have G__law_due := (ok__law_due (P := P) (w := w) (base := base) S  : Ok P w K mg base 1 ("_law_due", none) ["rows", "schedule"] (sp__law_due K))
  have G__law_count := (ok__law_count (P := P) (w := w) (base := base) S  : Ok P w K mg base 1 ("_law_count", none) ["programs", "length", "switches"] (sp__law_count K))
  have G__law_wrong_schedule := (ok__law_wrong_schedule (P := P) (w := w) (base := base) S G__law_draw : Ok P w K mg base 2 ("_law_wrong_schedule", none) ["box", "programs", "good"] (sp__law_wrong_schedule K))
  have G__law_one := (ok__law_one (P := P) (w := w) (base := base) S G__law_draw G__law_due G__law_same G__law_told G__law_word G__law_wrong_rows G__law_wrong_schedule : Ok P w K mg base 8 ("_law_one", none) ["box", "rows", "schedule"] (sp__law_one K))
  have G__law_numbers := (ok__law_numbers (P := P) (w := w) (base := base) S G__law_count G__law_draw G__law_same G__law_told : Ok P w K mg base 8 ("_law_numbers", none) ["box"] (sp__law_numbers K))
  have G__law_all := (ok__law_all (P := P) (w := w) (base := base) S G__law_draw G__law_due G__law_rows G__law_same G__law_told : Ok P w K mg base 8 ("_law_all", none) ["box"] (sp__law_all K))
  have G__law_closing := (ok__law_closing (P := P) (w := w) (base := base) S G__law_same G_row_of_schedule G_schedule_count : Ok P w K mg base 8 ("_law_closing", none) [] (sp__law_closing K))
  have G__law_box := (ok__law_box (P := P) (w := w) (base := base) S  : Ok P w K mg base 1 ("_law_box", none) ["script"] ((fun K => sp_box K 0 0 777767777 0) K))
  rw [← ef]
  exact (((fn_law (P := P) (w := w) (base := base) S G__law_all G__law_box G__law_closing G__law_draw G__law_numbers G__law_one G__law_rows G__law_schedule D).imp (law_imp law_true)).mono (by omega))

end
end EB
open PySem PySem.W PySem.Calls PyProof.Rows
theorem PySem.Challenge.cw_everybudget_k04_whole_schedules_and_coun_holds : PySem.Challenge.rw_everybudget_k04_whole_schedules_and_coun.Holds := by
  w_on; o_law
  refine HandSHeadRun.head_any (r := OpenLaw.row PySem.Challenge.rw_everybudget_k04_whole_schedules_and_coun) (q := view (OpenLaw.row PySem.Challenge.rw_everybudget_k04_whole_schedules_and_coun).prog [40]) (H := EB.hk) (ob := EB.ob) (M := 6000) (loose := EB.loose) (d := HandSHeadRun.topDef (OpenLaw.row PySem.Challenge.rw_everybudget_k04_whole_schedules_and_coun).prog 40) (kwd := []) EB.ob_eq
    (by kernel_rfl) (fun s => by kernel_rfl) EB.run9 (by kernel_rfl) (by kernel_rfl) (by kernel_rfl) (by rfl) (by first | assumption | decide +kernel) (by decide +kernel) ⟨rfl, rfl, rfl, rfl, rfl, by decide +kernel⟩ ?hw ?hc
  case hw => w_witness2
  case hc =>
    refine L2.walk_ofE (l := PySem.Challenge.rw_everybudget_k04_whole_schedules_and_coun) (n := 63) (k := 100) (x := "script") (CX := L2.CX0) rfl (by decide) (by kernel_rfl) ⟨rfl, by decide, by decide⟩ ?F (fun _ _ _ _ z => z)
    intro w mg fa h Y G hmg0
    obtain ⟨K, KX, c⟩ := Y
    have hmg : mg ("law" : PySem.Str) = some (.ref fa) := by
      have e : (HandSHeadRun.topDef (OpenLaw.row PySem.Challenge.rw_everybudget_k04_whole_schedules_and_coun).prog 40).name = ("law" : PySem.Str) := by kernel_rfl
      rw [← e]
      exact hmg0
    obtain ⟨fd, hb, hF⟩ := EB.facts (P := (PySem.Challenge.rw_everybudget_k04_whole_schedules_and_coun).prog) (w := w) KX G hmg c
    exact ⟨K, fd, EB.spLaw K, KX, hb, fun H a ns hl _ hS => ⟨a, ns, rfl, hS, hl, fun _ => rfl⟩, hF⟩

