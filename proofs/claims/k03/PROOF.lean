import PyProof.Rows.All
import Wide.All
import OpenK.AllK
import Wide.FinOn
import HandS.ForMost
import HandS.ForExc
import HandS.Wide
import HandS.WideBits
import HandS.TupAny
import HandS.Deep
import HandS.Conv
import HandS.IsInst
import HandS.Zip
import HandS.CallSlots
import HandS.Style
import HandS.TupMul
import HandS.SortInts
import PySem.Challenge.RW_cutexchange_k03_whole_parts
set_option Elab.async false
set_option linter.all false
set_option maxRecDepth 100000
set_option maxHeartbeats 4000000
/-! The data layer: a def's body read as a plain function over data. Part 1: data, states, the posts. -/
namespace DM
open PySem L2

abbrev D := PyData

/-! ### a value stands for data -/
mutual
inductive Rp (K : PySem.W.Frag) (H : Hp) : V → D → Prop
  | non : Rp K H .non .none
  | bl (b : Bool) : Rp K H (.bl b) (.bool b)
  | int (i : Int) : Rp K H (.int i) (.int i)
  | str (x : Str) : Rp K H (.str x) (.str x)
  | lst {a : Addr} {xs : List V} {ds : List D} : Rd H a (.lst xs) → RpA K H xs ds → Rp K H (.ref a) (.list ds)
  | tup {a : Addr} {xs : List V} {ds : List D} : SqT K H a xs → RpA K H xs ds → Rp K H (.ref a) (.tuple ds)
  | dic {a : Addr} {kvs : List (Key × V)} {es : List (D × D)} : H a = some (.dK kvs) → RpK K H kvs es → Rp K H (.ref a) (.dict es)
inductive RpA (K : PySem.W.Frag) (H : Hp) : List V → List D → Prop
  | nil : RpA K H [] []
  | cons {v : V} {vs : List V} {d : D} {ds : List D} : Rp K H v d → RpA K H vs ds → RpA K H (v :: vs) (d :: ds)
inductive RpK (K : PySem.W.Frag) (H : Hp) : List (Key × V) → List (D × D) → Prop
  | nil : RpK K H [] []
  | cons {k : Key} {v : V} {kvs : List (Key × V)} {d e : D} {es : List (D × D)} : Rp K H (kV k) d → Rp K H v e → RpK K H kvs es → RpK K H ((k, v) :: kvs) ((d, e) :: es)
end

theorem seqT_same {K : PySem.W.Frag} {H H' : Hp} {a : Addr} {xs : List V} (e : Same H H') (h : SqT K H a xs) : SqT K H' a xs := by
  rcases h with (h | ⟨o, h⟩) | h
  · exact .inl (.inl (e _ _ h))
  · exact .inl (.inr ⟨o, e _ _ h⟩)
  · exact .inr h
theorem rd_same {H H' : Hp} {a : Addr} {u : HO} (e : Same H H') (h : Rd H a u) : Rd H' a u := by
  rcases h with h | ⟨o, h⟩
  · exact .inl (e _ _ h)
  · exact .inr ⟨o, e _ _ h⟩
section
variable {K : PySem.W.Frag} {H H' : Hp} (s : Same H H')
include s
mutual
theorem Rp.mono : ∀ {d : D} {v : V}, Rp K H v d → Rp K H' v d
  | .none, _, h => by cases h; exact .non
  | .bool b, _, h => by cases h; exact .bl b
  | .int i, _, h => by cases h; exact .int i
  | .str x, _, h => by cases h; exact .str x
  | .list ds, _, h => by
    cases h with
    | lst hs ha => exact .lst (rd_same s hs) (RpA.mono ha)
  | .tuple ds, _, h => by
    cases h with
    | tup hs ha => exact .tup (seqT_same s hs) (RpA.mono ha)
  | .dict es, _, h => by
    cases h with
    | dic hs ha => exact .dic (s _ _ hs) (RpK.mono ha)
theorem RpA.mono : ∀ {ds : List D} {vs : List V}, RpA K H vs ds → RpA K H' vs ds
  | [], _, h => by cases h; exact .nil
  | d :: ds, _, h => by
    cases h with
    | cons h1 h2 => exact .cons (Rp.mono h1) (RpA.mono h2)
theorem RpK.mono : ∀ {es : List (D × D)} {kvs : List (Key × V)}, RpK K H kvs es → RpK K H' kvs es
  | [], _, h => by cases h; exact .nil
  | (d, e) :: es, _, h => by
    cases h with
    | cons h1 h2 h3 => exact .cons (Rp.mono h1) (Rp.mono h2) (RpK.mono h3)
end
end
/-! no dict within -/
mutual
def flatD : D → Bool
  | .none => true
  | .bool _ => true
  | .int _ => true
  | .str _ => true
  | .list ds => flatA ds
  | .tuple ds => flatA ds
  | .dict _ => false
def flatA : List D → Bool
  | [] => true
  | d :: ds => flatD d && flatA ds
end
section
variable {K : PySem.W.Frag} {H : Hp}
mutual
theorem Rp.dp : ∀ {d : D} {v : V}, Rp K H v d → flatD d = true → Dp K H v d
  | .none, _, h, _ => by cases h; exact .non
  | .bool b, _, h, _ => by cases h; exact .bl b
  | .int i, _, h, _ => by cases h; exact .int i
  | .str x, _, h, _ => by cases h; exact .str x
  | .list ds, _, h, f => by
    cases h with
    | lst hs ha => exact .lst (.inl hs) (RpA.dp ha (by simpa [flatD] using f))
  | .tuple ds, _, h, f => by
    cases h with
    | tup hs ha => exact .tup hs (RpA.dp ha (by simpa [flatD] using f))
  | .dict es, _, h, f => by simp [flatD] at f
theorem RpA.dp : ∀ {ds : List D} {vs : List V}, RpA K H vs ds → flatA ds = true → DpAll K H vs ds
  | [], _, h, _ => by cases h; exact .nil
  | d :: ds, _, h, f => by
    cases h with
    | cons h1 h2 =>
      simp only [flatA, Bool.and_eq_true] at f
      exact .cons (Rp.dp h1 f.1) (RpA.dp h2 f.2)
end
theorem RpA.len : ∀ {ds : List D} {vs : List V}, RpA K H vs ds → vs.length = ds.length
  | [], _, h => by cases h; rfl
  | d :: ds, _, h => by
    cases h with
    | cons h1 h2 => simp [RpA.len h2]
theorem RpA.app : ∀ {ds es : List D} {vs ws : List V}, RpA K H vs ds → RpA K H ws es → RpA K H (vs ++ ws) (ds ++ es)
  | [], _, _, _, h, k => by cases h; exact k
  | d :: ds, _, _, _, h, k => by
    cases h with
    | cons h1 h2 => exact .cons h1 (RpA.app h2 k)
theorem RpA.get : ∀ {ds : List D} {vs : List V} {i : Nat} {d : D}, RpA K H vs ds → ds[i]? = some d → ∃ v, vs[i]? = some v ∧ Rp K H v d
  | [], _, _, _, h, e => by simp at e
  | d :: ds, _, 0, _, h, e => by
    cases h with
    | cons h1 h2 => simp at e; subst e; exact ⟨_, rfl, h1⟩
  | d :: ds, _, i + 1, _, h, e => by
    cases h with
    | cons h1 h2 => simpa using RpA.get h2 (by simpa using e)
theorem RpA.get' : ∀ {ds : List D} {vs : List V} {i : Nat} {v : V}, RpA K H vs ds → vs[i]? = some v → ∃ d, ds[i]? = some d ∧ Rp K H v d
  | [], _, _, _, h, e => by cases h; simp at e
  | d :: ds, _, 0, _, h, e => by
    cases h with
    | cons h1 h2 => simp at e; subst e; exact ⟨_, rfl, h1⟩
  | d :: ds, _, i + 1, _, h, e => by
    cases h with
    | cons h1 h2 => simpa using RpA.get' h2 (by simpa using e)
theorem RpA.take : ∀ {ds : List D} {vs : List V} (n : Nat), RpA K H vs ds → RpA K H (vs.take n) (ds.take n)
  | _, _, 0, _ => by simpa using RpA.nil
  | [], _, n + 1, h => by cases h; exact .nil
  | d :: ds, _, n + 1, h => by
    cases h with
    | cons h1 h2 => exact .cons h1 (RpA.take n h2)
theorem RpA.drop : ∀ {ds : List D} {vs : List V} (n : Nat), RpA K H vs ds → RpA K H (vs.drop n) (ds.drop n)
  | _, _, 0, h => by simpa using h
  | [], _, n + 1, h => by cases h; exact .nil
  | d :: ds, _, n + 1, h => by
    cases h with
    | cons h1 h2 => simpa using RpA.drop n h2
theorem RpA.set {v : V} {d : D} (r : Rp K H v d) : ∀ {ds : List D} {vs : List V} (n : Nat), RpA K H vs ds → RpA K H (vs.set n v) (ds.set n d)
  | [], _, _, h => by cases h; exact .nil
  | _ :: _, _, 0, h => by
    cases h with
    | cons h1 h2 => exact .cons r h2
  | _ :: _, _, n + 1, h => by
    cases h with
    | cons h1 h2 => exact .cons h1 (RpA.set r n h2)
theorem RpA.erase : ∀ {ds : List D} {vs : List V} (n : Nat), RpA K H vs ds → RpA K H (vs.eraseIdx n) (ds.eraseIdx n)
  | [], _, _, h => by cases h; exact .nil
  | _ :: _, _, 0, h => by
    cases h with
    | cons h1 h2 => exact h2
  | _ :: _, _, n + 1, h => by
    cases h with
    | cons h1 h2 => exact .cons h1 (RpA.erase n h2)
end
/-! kinds of data, by the value -/
section
variable {K : PySem.W.Frag} {H : Hp} {v : V}
theorem Rp.int_inv {i : Int} (h : Rp K H v (.int i)) : v = .int i := by cases h; rfl
theorem Rp.bl_inv {b : Bool} (h : Rp K H v (.bool b)) : v = .bl b := by cases h; rfl
theorem Rp.str_inv {x : Str} (h : Rp K H v (.str x)) : v = .str x := by cases h; rfl
theorem Rp.non_inv (h : Rp K H v .none) : v = .non := by cases h; rfl
theorem Rp.lst_inv {ds : List D} (h : Rp K H v (.list ds)) : ∃ a vs, v = .ref a ∧ Rd H a (.lst vs) ∧ RpA K H vs ds := by
  cases h with
  | lst h1 h2 => exact ⟨_, _, rfl, h1, h2⟩
theorem Rp.tup_inv {ds : List D} (h : Rp K H v (.tuple ds)) : ∃ a vs, v = .ref a ∧ SqT K H a vs ∧ RpA K H vs ds := by
  cases h with
  | tup h1 h2 => exact ⟨_, _, rfl, h1, h2⟩
theorem Rp.dic_inv {es : List (D × D)} (h : Rp K H v (.dict es)) : ∃ a kvs, v = .ref a ∧ H a = some (.dK kvs) ∧ RpK K H kvs es := by
  cases h with
  | dic h1 h2 => exact ⟨_, _, rfl, h1, h2⟩
end

/-! ### states and outcomes -/
/-- what a slot holds: data; a list of this frame's own, that it may change; the caller's list that it may change -/
inductive Sl where
  | val (d : D)
  | own (ds : List D)
  | box
  | scr (ns : List Int)
structure S where
  env : List (Option Sl)
  box : Option (List D)
inductive R (α : Type) where
  | ok (a : α) (st : S)
  | exc (c : Str) (st : S)
  | bad
def R.bind {α β : Type} (r : R α) (f : α → S → R β) : R β := match r with
  | .ok a st => f a st
  | .exc c st => .exc c st
  | .bad => .bad
@[simp] theorem R.bind_ok {α β : Type} (a : α) (st : S) (f : α → S → R β) : (R.ok a st).bind f = f a st := rfl
@[simp] theorem R.bind_exc {α β : Type} (c : Str) (st : S) (f : α → S → R β) : (R.exc c st : R α).bind f = .exc c st := rfl
@[simp] theorem R.bind_bad {α β : Type} (f : α → S → R β) : (R.bad : R α).bind f = .bad := rfl
theorem R.bind_congr {α β : Type} {r r' : R α} {f : α → S → R β} (h : r = r') : r.bind f = r'.bind f := by rw [h]
def lift {α : Type} (o : Option α) (st : S) : R α := match o with
  | some a => .ok a st
  | none => .bad
@[simp] theorem lift_some {α : Type} (a : α) (st : S) : lift (some a) st = .ok a st := rfl
@[simp] theorem lift_none {α : Type} (st : S) : lift (none : Option α) st = .bad := rfl

/-- from the entry (B0, H0) to (B, H); ba: the list that may change -/
structure Step (ba : Option Addr) (B H B' H' : Hp) : Prop where
  same : ∀ b o, B b = some o → B' b = some o
  new : ∀ b, B b = none → H b ≠ none → B' b = none
  fr : ∀ b o, H b = some o → ba ≠ some b → H' b = some o
  live : ∀ b, H b ≠ none → H' b ≠ none
theorem Step.refl {ba : Option Addr} {B H : Hp} : Step ba B H B H := ⟨fun _ _ h => h, fun _ h _ => h, fun _ _ h _ => h, fun _ h => h⟩

def BoxR (K : PySem.W.Frag) (B H : Hp) (ba : Option Addr) (bx : Option (List D)) : Prop :=
  ∀ ds, bx = some ds → ∃ a vs, ba = some a ∧ B a = none ∧ H a = some (.lst vs) ∧ RpA K B vs ds
def SlotR (K : PySem.W.Frag) (H0 B H : Hp) (ba : Option Addr) (v : V) : Sl → Prop
  | .val d => Rp K B v d
  | .own ds => ∃ a vs, v = .ref a ∧ B a = none ∧ H0 a = none ∧ H a = some (.lst vs) ∧ RpA K B vs ds ∧ ba ≠ some a
  | .box => ∃ a, ba = some a ∧ v = .ref a
  | .scr ns => ∃ a, v = .ref a ∧ SqL K B a (ns.map V.int)
structure Rel (K : PySem.W.Frag) (B0 H0 B : Hp) (σ : St) (H : Hp) (ba : Option Addr) (st : S) : Prop where
  stp : Step ba B0 H0 B H
  sub : ∀ b o, B b = some o → H b = some o
  box : BoxR K B H ba st.box
  bal : ∀ a, ba = some a → H a ≠ none
  len : σ.length = st.env.length
  env : ∀ (i : Nat) (s : Sl), st.env[i]? = some (some s) → ∃ v, σ[i]? = some (some v) ∧ SlotR K H0 B H ba v s
  dist : ∀ (i j : Nat) (ds es : List D) (v : V), st.env[i]? = some (some (.own ds)) → st.env[j]? = some (some (.own es)) → σ[i]? = some (some v) → σ[j]? = some (some v) → i = j
/-- a list that nothing else holds -/
def Fresh (K : PySem.W.Frag) (H0 B : Hp) (σ : St) (H : Hp) (ba : Option Addr) (st : S) (v : V) (ds : List D) : Prop :=
  ∃ a vs, v = .ref a ∧ B a = none ∧ H0 a = none ∧ H a = some (.lst vs) ∧ RpA K B vs ds ∧ ba ≠ some a ∧ ∀ (i : Nat) (es : List D), st.env[i]? = some (some (.own es)) → σ[i]? ≠ some (some (V.ref a))

section
variable {K : PySem.W.Frag} {B0 H0 B H B' H' : Hp} {σ : St} {ba : Option Addr} {st : S}
/-- a new object laid into the ground -/
theorem Rel.laid (r : Rel K B0 H0 B σ H ba st) {p : Addr} {o : HO} (hp : H p = none) : Rel K B0 H0 (upd B p o) σ (upd H p o) ba st ∧ Same B (upd B p o) := by
  have hB : B p = none := by
    cases e : B p with
    | none => rfl
    | some x => rw [r.sub _ _ e] at hp; cases hp
  have sm : Same B (upd B p o) := fun b x e => by rw [upd_ne (ne_of_none e hB)]; exact e
  have lv : ∀ a, H a ≠ none → upd H p o a ≠ none := fun a n => by
    by_cases hb : a = p
    · rw [hb, upd_same]; exact fun z => nomatch z
    · rw [upd_ne hb]; exact n
  have hH0 : H0 p = none := by
    cases e : H0 p with
    | none => rfl
    | some x => exact absurd hp (r.stp.live _ (by rw [e]; exact fun z => nomatch z))
  refine ⟨⟨⟨fun b x e => sm _ _ (r.stp.same _ _ e), fun b e n => ?_, fun b x e n => ?_, fun b n => ?_⟩, fun b x e => ?_, fun ds e => ?_, fun a e => lv a (r.bal a e), r.len, fun i s e => ?_, r.dist⟩, sm⟩
  · have hb : b ≠ p := fun z => by rw [z] at n; exact n hH0
    rw [upd_ne hb]; exact r.stp.new b e n
  · have q := r.stp.fr b x e n
    rw [upd_ne (ne_of_none q hp)]; exact q
  · have q := r.stp.live b n
    by_cases hb : b = p
    · rw [hb, upd_same]; exact fun z => nomatch z
    · rw [upd_ne hb]; exact q
  · by_cases hb : b = p
    · subst hb; rw [upd_same] at e ⊢; exact e
    · rw [upd_ne hb] at e ⊢; exact r.sub _ _ e
  · obtain ⟨a, vs, e1, e2, e3, e4⟩ := r.box ds e
    have hb : a ≠ p := ne_of_none e3 hp
    exact ⟨a, vs, e1, by rw [upd_ne hb]; exact e2, by rw [upd_ne hb]; exact e3, e4.mono sm⟩
  · obtain ⟨v, e1, e2⟩ := r.env i s e
    refine ⟨v, e1, ?_⟩
    cases s with
    | val d => exact Rp.mono sm e2
    | own ds =>
      obtain ⟨a, vs, q1, q2, q3, q4, q5, q6⟩ := e2
      have hb : a ≠ p := ne_of_none q4 hp
      exact ⟨a, vs, q1, by rw [upd_ne hb]; exact q2, q3, by rw [upd_ne hb]; exact q4, q5.mono sm, q6⟩
    | box => exact e2
    | scr ns => obtain ⟨a, q1, q2⟩ := e2; exact ⟨a, q1, sm.seq q2⟩
/-- a new object that is not in the ground -/
theorem Rel.aside (r : Rel K B0 H0 B σ H ba st) {p : Addr} {o : HO} (hp : H p = none) : Rel K B0 H0 B σ (upd H p o) ba st := by
  have hB : B p = none := by
    cases e : B p with
    | none => rfl
    | some x => rw [r.sub _ _ e] at hp; cases hp
  have lv : ∀ a, H a ≠ none → upd H p o a ≠ none := fun a n => by
    by_cases hb : a = p
    · rw [hb, upd_same]; exact fun z => nomatch z
    · rw [upd_ne hb]; exact n
  refine ⟨⟨r.stp.same, r.stp.new, fun b x e n => ?_, fun b n => ?_⟩, fun b x e => ?_, fun ds e => ?_, fun a e => lv a (r.bal a e), r.len, fun i s e => ?_, r.dist⟩
  · have q := r.stp.fr b x e n
    rw [upd_ne (ne_of_none q hp)]; exact q
  · have q := r.stp.live b n
    by_cases hb : b = p
    · rw [hb, upd_same]; exact fun z => nomatch z
    · rw [upd_ne hb]; exact q
  · rw [upd_ne (fun z => by rw [z, hB] at e; cases e)]; exact r.sub _ _ e
  · obtain ⟨a, vs, e1, e2, e3, e4⟩ := r.box ds e
    exact ⟨a, vs, e1, e2, by rw [upd_ne (ne_of_none e3 hp)]; exact e3, e4⟩
  · obtain ⟨v, e1, e2⟩ := r.env i s e
    refine ⟨v, e1, ?_⟩
    cases s with
    | val d => exact e2
    | own ds =>
      obtain ⟨a, vs, q1, q2, q3, q4, q5, q6⟩ := e2
      exact ⟨a, vs, q1, q2, q3, by rw [upd_ne (ne_of_none q4 hp)]; exact q4, q5, q6⟩
    | box => exact e2
    | scr ns => exact e2
theorem Rel.fresh0 (r : Rel K B0 H0 B σ H ba st) {p : Addr} (hp : H p = none) : B p = none ∧ H0 p = none := by
  refine ⟨?_, ?_⟩
  · cases e : B p with
    | none => rfl
    | some x => rw [r.sub _ _ e] at hp; cases hp
  · cases e : H0 p with
    | none => rfl
    | some x => exact absurd hp (r.stp.live _ (by rw [e]; exact fun z => nomatch z))
/-- a fresh list laid beside the ground is fresh -/
theorem Rel.freshL (r : Rel K B0 H0 B σ H ba st) {p : Addr} {vs : List V} {ds : List D} (hp : H p = none) (ha : RpA K B vs ds) : Fresh K H0 B σ (upd H p (.lst vs)) ba st (.ref p) ds := by
  obtain ⟨h1, h2⟩ := r.fresh0 hp
  refine ⟨p, vs, rfl, h1, h2, upd_same, ha, fun z => r.bal p z hp, fun i es e q => ?_⟩
  obtain ⟨v, e1, a, ws, e2, e3, e4, e5, _⟩ := r.env i _ e
  rw [e1] at q
  cases q
  cases e2
  rw [hp] at e5; cases e5
end
end DM
/-! Part 2: posts, expressions. -/
namespace DM
open PySem L2

def clsV (mg : Str → Option Value) (c : Str) : Value := (mg c).getD .none
/-- where a value is told to be -/
structure Cfg where
  H0 : Hp
  B : Hp
  σ : St
  H : Hp
  ba : Option Addr
  st : S
abbrev VR (α β : Type) := α → β → Cfg → Prop
def Post {α β : Type} (K : PySem.W.Frag) (mg : Str → Option Value) (W : WX) (Val : VR α β) (B0 H0 B : Hp) (σ : St) (ba : Option Addr) (Q : β → Hp → Prop) : R α → Prop
  | .ok a st => ∀ b B' H', Same B B' → Rel K B0 H0 B' σ H' ba st → Val a b ⟨H0, B', σ, H', ba, st⟩ → Q b H'
  | .exc c st => ∀ B' H', Same B B' → Rel K B0 H0 B' σ H' ba st → W (clsV mg c) none σ H'
  | .bad => False
section
variable {K : PySem.W.Frag} {mg : Str → Option Value} {W : WX} {α β α' β' : Type} {Val : VR α β} {Val' : VR α' β'} {B0 H0 B B1 : Hp} {σ : St} {ba : Option Addr} {Q Q' : β → Hp → Prop} {Q1 : β' → Hp → Prop} {r : R α}
theorem Post.mono (s : Same B B1) (h : Post K mg W Val B0 H0 B σ ba Q r) : Post K mg W Val B0 H0 B1 σ ba Q r := by
  cases r with
  | ok a st => exact fun b B' H' s' rel v => h b B' H' (s.trans s') rel v
  | exc c st => exact fun B' H' s' rel => h B' H' (s.trans s') rel
  | bad => exact h
theorem Post.imp (h : Post K mg W Val B0 H0 B σ ba Q r) (i : ∀ b H, Q b H → Q' b H) : Post K mg W Val B0 H0 B σ ba Q' r := by
  cases r with
  | ok a st => exact fun b B' H' s' rel v => i _ _ (h b B' H' s' rel v)
  | exc c st => exact h
  | bad => exact h
theorem Post.bind {k : α → S → R α'} (h : Post K mg W Val' B0 H0 B σ ba Q1 (r.bind k)) :
    Post K mg W Val B0 H0 B σ ba (fun b H1 => ∃ B1 st1 a, Same B B1 ∧ Rel K B0 H0 B1 σ H1 ba st1 ∧ Val a b ⟨H0, B1, σ, H1, ba, st1⟩ ∧ Post K mg W Val' B0 H0 B1 σ ba Q1 (k a st1)) r := by
  cases r with
  | ok a st => exact fun b B' H' s' rel v => ⟨B', st, a, s', rel, v, Post.mono s' h⟩
  | exc c st => exact h
  | bad => exact h
theorem Post.ok {b : β} {a : α} {st : S} {H : Hp} (h : Post K mg W Val B0 H0 B σ ba Q (.ok a st)) (rel : Rel K B0 H0 B σ H ba st) (v : Val a b ⟨H0, B, σ, H, ba, st⟩) : Q b H := h b B H (Same.refl B) rel v
theorem Post.lift {o : Option α} {st : S} (h : Post K mg W Val B0 H0 B σ ba Q (lift o st)) : ∃ a, o = some a ∧ Post K mg W Val B0 H0 B σ ba Q (.ok a st) := by
  cases o with
  | some a => exact ⟨a, rfl, h⟩
  | none => exact h.elim
end

/-- the reading of a piece of syntax whose mirror is g -/
def tG {α β : Type} (K : PySem.W.Frag) (mg : Str → Option Value) (W : WX) (Val : VR α β) (g : S → R α) : St → Hp → (β → Hp → Prop) → Prop := fun σ H Q =>
  ∃ B0 H0 B ba st, Rel K B0 H0 B σ H ba st ∧ Post K mg W Val B0 H0 B σ ba Q (g st)
/-- a value; a fresh list; a bool; values in a row -/
def vD (K : PySem.W.Frag) : VR D V := fun d v c => Rp K c.B v d
def vF (K : PySem.W.Frag) : VR (List D) V := fun ds v c => Fresh K c.H0 c.B c.σ c.H c.ba c.st v ds
def vB : VR Bool Bool := fun a b _ => a = b
def vA (K : PySem.W.Frag) : VR (List D) (List V) := fun ds vs c => RpA K c.B vs ds

abbrev E := S → R D
abbrev EF := S → R (List D)
abbrev ET := S → R Bool
abbrev EA := S → R (List D)
def DE (X : Cx) (W : WX) (e : Expr) (g : E) : Prop := PE X e (tG X.K X.mg W (vD X.K) g)
def DF (X : Cx) (W : WX) (e : Expr) (g : EF) : Prop := PE X e (tG X.K X.mg W (vF X.K) g)
def DT (X : Cx) (W : WX) (e : Expr) (g : ET) : Prop := PT X e (tG X.K X.mg W vB g)
def DW (X : Cx) (W : WX) (e : Expr) (g : ET) : Prop := PW X e (tG X.K X.mg W vB g)
def DA (X : Cx) (W : WX) (es : List Expr) (g : EA) : Prop := PA X es (tG X.K X.mg W (vA X.K) g)

section
variable {X : Cx} {W : WX} {e a b : Expr} {es : List Expr} {pos : Pos}
theorem PE.imp {t t' : TE} (h : PE X e t) (i : ∀ σ H Q, t' σ H Q → t σ H Q) : PE X e t' := ⟨fun pins s σ H Q I q => h.run pins s σ H Q I (i σ H Q q)⟩
theorem PT.imp {t t' : TT} (h : PT X e t) (i : ∀ σ H Q, t' σ H Q → t σ H Q) : PT X e t' := ⟨fun pins s σ H Q I q => h.run pins s σ H Q I (i σ H Q q)⟩
theorem PW.imp {t t' : TT} (h : PW X e t) (i : ∀ σ H Q, t' σ H Q → t σ H Q) : PW X e t' := ⟨fun wh pins s σ H Q I q => h.run wh pins s σ H Q I (i σ H Q q)⟩
theorem PA.imp {t t' : TA} (h : PA X es t) (i : ∀ σ H Q, t' σ H Q → t σ H Q) : PA X es t' := ⟨fun pos pins s σ H Q I q => h.run pos pins s σ H Q I (i σ H Q q)⟩

/-! ### names, constants -/
def getV (i : Nat) (st : S) : Option D := match st.env[i]? with
  | some (some (.val d)) => some d
  | _ => none
def xVar (i : Nat) : E := fun st => lift (getV i st) st
theorem de_var (i : Nat) {x : Str} (hN : X.N[i]? = some x := by rfl) (hv : Vis X.env.scope x := by first | exact Or.inl rfl | exact Or.inr (Or.inl rfl) | exact Or.inr (Or.inr rfl)) (hd : (x == ("__debug__" : Str)) = false := by decide)
    (hcd : (x == ("__classdict__" : Str)) = false := by decide) : DE X W (.Name x pos) (xVar i) := by
  refine PE.imp (pv i hN hv hd hcd) fun σ H Q ⟨B0, H0, B, ba, st, rel, h⟩ => ?_
  obtain ⟨d, e, h⟩ := Post.lift h
  unfold getV at e
  split at e
  · rename_i d' e1
    cases e
    obtain ⟨v, e2, r⟩ := rel.env i _ e1
    exact ⟨v, e2, h.ok rel r⟩
  · cases e
def xC (d : D) : E := fun st => .ok d st
theorem de_int {i : Int} {j : Nat} : DE X W (.Constant (.int i) j pos) (xC (.int i)) := PE.imp pe_int fun σ H Q ⟨B0, H0, B, ba, st, rel, h⟩ => h.ok rel (Rp.int i)
theorem de_bl {i : Bool} {j : Nat} : DE X W (.Constant (.bool i) j pos) (xC (.bool i)) := PE.imp pe_bl fun σ H Q ⟨B0, H0, B, ba, st, rel, h⟩ => h.ok rel (Rp.bl i)
theorem de_non {j : Nat} : DE X W (.Constant .none j pos) (xC .none) := PE.imp pe_non fun σ H Q ⟨B0, H0, B, ba, st, rel, h⟩ => h.ok rel Rp.non
theorem de_str {x : Str} {j : Nat} : DE X W (.Constant (.str x) j pos) (xC (.str x)) := PE.imp pe_str fun σ H Q ⟨B0, H0, B, ba, st, rel, h⟩ => h.ok rel (Rp.str x)
theorem de_glob {x : Str} {v : V} {u : Value} {d : D} (hg : Gl X x) (hm : X.mg x = some u) (r : RelV v u) (hd : ∀ B, Rp X.K B v d) (hdb : (x == ("__debug__" : Str)) = false := by decide) : DE X W (.Name x pos) (xC d) :=
  PE.imp (pe_glob hg hm r hdb) fun σ H Q ⟨B0, H0, B, ba, st, rel, h⟩ => h.ok rel (hd B)

/-! ### operators -/
/-- what is read as data: in the ground, or a list by its items -/
def Vw (K : PySem.W.Frag) (B H : Hp) (v : V) (d : D) : Prop := Rp K B v d ∨ ∃ a vs ds, v = .ref a ∧ Rd H a (.lst vs) ∧ RpA K B vs ds ∧ d = .list ds
def SubH (B H : Hp) : Prop := ∀ b o, B b = some o → H b = some o
theorem Vw.lst {K : PySem.W.Frag} {B H : Hp} {v : V} {ds : List D} (s : SubH B H) (h : Vw K B H v (.list ds)) : ∃ a vs, v = .ref a ∧ Rd H a (.lst vs) ∧ RpA K B vs ds := by
  rcases h with h | ⟨a, vs, ds', e, h1, h2, e2⟩
  · obtain ⟨a, vs, e, h1, h2⟩ := h.lst_inv
    exact ⟨a, vs, e, rd_same (H := B) s h1, h2⟩
  · cases e2
    exact ⟨a, vs, e, h1, h2⟩
theorem Vw.rp {K : PySem.W.Frag} {B H : Hp} {v : V} {d : D} (h : Vw K B H v d) (n : ∀ ds, d ≠ .list ds) : Rp K B v d := by
  rcases h with h | ⟨a, vs, ds', e, h1, h2, e2⟩
  · exact h
  · exact absurd e2 (n ds')
theorem Vw.tup {K : PySem.W.Frag} {B H : Hp} {v : V} {ds : List D} (s : SubH B H) (h : Vw K B H v (.tuple ds)) : ∃ a vs, v = .ref a ∧ SqT K H a vs ∧ RpA K B vs ds := by
  obtain ⟨a, vs, e, h1, h2⟩ := (h.rp (fun _ z => nomatch z)).tup_inv
  exact ⟨a, vs, e, seqT_same (H := B) s h1, h2⟩
/-- the heap as it is, or one object more, in the ground -/
def Grow (B H B' H' : Hp) : Prop := (B' = B ∧ H' = H) ∨ ∃ p o, H p = none ∧ B' = upd B p o ∧ H' = upd H p o
theorem Rel.grow {K : PySem.W.Frag} {B0 H0 B H B' H' : Hp} {σ : St} {ba : Option Addr} {st : S} (r : Rel K B0 H0 B σ H ba st) (g : Grow B H B' H') : Rel K B0 H0 B' σ H' ba st ∧ Same B B' := by
  rcases g with ⟨rfl, rfl⟩ | ⟨p, o, hp, rfl, rfl⟩
  · exact ⟨r, Same.refl _⟩
  · exact r.laid hp
/-- an operation by data -/
def rD (K : PySem.W.Frag) (f : D → D → Option D) : R2 := fun x y H Q => ∃ B d e z, SubH B H ∧ Vw K B H x d ∧ Vw K B H y e ∧ f d e = some z ∧ ∀ v B' H', Grow B H B' H' → Rp K B' v z → Q v H'
def rD1 (K : PySem.W.Frag) (f : D → Option D) : V → Hp → VK → Prop := fun x H Q => ∃ B d z, SubH B H ∧ Vw K B H x d ∧ f d = some z ∧ ∀ v B' H', Grow B H B' H' → Rp K B' v z → Q v H'
/-- several -/
inductive VwA (K : PySem.W.Frag) (B H : Hp) : List V → List D → Prop
  | nil : VwA K B H [] []
  | cons {v : V} {vs : List V} {d : D} {ds : List D} : Vw K B H v d → VwA K B H vs ds → VwA K B H (v :: vs) (d :: ds)
theorem VwA.of {K : PySem.W.Frag} {B H : Hp} : ∀ {ds : List D} {vs : List V}, RpA K B vs ds → VwA K B H vs ds
  | [], _, h => by cases h; exact .nil
  | d :: ds, _, h => by
    cases h with
    | cons h1 h2 => exact .cons (.inl h1) (VwA.of h2)
def rDs (K : PySem.W.Frag) (f : List D → Option D) : List V → Hp → VK → Prop := fun xs H Q => ∃ B ds z, SubH B H ∧ VwA K B H xs ds ∧ f ds = some z ∧ ∀ v B' H', Grow B H B' H' → Rp K B' v z → Q v H'

def xOp (f : D → D → Option D) (ga gb : E) : E := fun st => (ga st).bind fun x st => (gb st).bind fun y st => lift (f x y) st
def xUn (f : D → Option D) (ga : E) : E := fun st => (ga st).bind fun x st => lift (f x) st
theorem op_read {K : PySem.W.Frag} {mg : Str → Option Value} {f : D → D → Option D} {ga gb : E} (σ : St) (H : Hp) (Q : VK) (h : tG K mg W (vD K) (xOp f ga gb) σ H Q) :
    tOp (rD K f) (tG K mg W (vD K) ga) (tG K mg W (vD K) gb) σ H Q := by
  obtain ⟨B0, H0, B, ba, st, rel, h⟩ := h
  refine ⟨B0, H0, B, ba, st, rel, (Post.bind h).imp fun x H1 ⟨B1, st1, d, s1, rel1, v1, h1⟩ => ⟨B0, H0, B1, ba, st1, rel1, (Post.bind h1).imp fun y H2 ⟨B2, st2, e, s2, rel2, v2, h2⟩ => ?_⟩⟩
  obtain ⟨z, ez, h2⟩ := Post.lift h2
  refine ⟨B2, d, e, z, rel2.sub, .inl (Rp.mono s2 v1), .inl v2, ez, fun v B' H' g r => ?_⟩
  obtain ⟨r3, s3⟩ := rel2.grow g
  exact h2 v B' H' s3 r3 r
theorem de_op {op : Operator} {f : D → D → Option D} {ga gb : E} (ho : OpR X (binaryOp op) (rD X.K f)) (ha : DE X W a ga) (hb : DE X W b gb) : DE X W (.BinOp a op b pos) (xOp f ga gb) := PE.imp (pe_op ho ha hb) op_read
theorem de_cmp {op : CmpOp} {f : D → D → Option D} {ga gb : E} (ho : OpR X (compareOp op) (rD X.K f)) (ha : DE X W a ga) (hb : DE X W b gb) (hm : behindInMarks op b = false := by first | exact nomark _ | rfl) : DE X W (.Compare a [op] [b] pos) (xOp f ga gb) := PE.imp (pe_cmpR ho ha hb hm) op_read
theorem de_ix {f : D → D → Option D} {ga gb : E} (ho : IxR X (rD X.K f)) (ha : DE X W a ga) (hb : DE X W b gb) (hs : PlainIx b := by exact fun _ _ => rfl) : DE X W (.Subscript a b pos) (xOp f ga gb) := PE.imp (pe_ix ho ha hb hs) op_read
theorem de_un {op : UnaryOp} {f : D → Option D} {ga : E} (ho : UnR X (unaryOp op) (rD1 X.K f)) (ha : DE X W a ga) : DE X W (.UnaryOp op a pos) (xUn f ga) := by
  refine PE.imp (pe_un ho ha) fun σ H Q ⟨B0, H0, B, ba, st, rel, h⟩ => ⟨B0, H0, B, ba, st, rel, (Post.bind h).imp fun x H1 ⟨B1, st1, d, s1, rel1, v1, h1⟩ => ?_⟩
  obtain ⟨z, ez, h2⟩ := Post.lift h1
  refine ⟨B1, d, z, rel1.sub, .inl v1, ez, fun v B' H' g r => ?_⟩
  obtain ⟨r3, s3⟩ := rel1.grow g
  exact h2 v B' H' s3 r3 r

/-! ### in a row; tuples, lists -/
def xNil : EA := fun st => .ok [] st
def xCons (ga : E) (gr : EA) : EA := fun st => (ga st).bind fun x st => (gr st).bind fun xs st => .ok (x :: xs) st
theorem da_nil : DA X W [] xNil := PA.imp pa_nil fun σ H Q ⟨B0, H0, B, ba, st, rel, h⟩ => h.ok rel RpA.nil
theorem da_cons {ga : E} {gr : EA} (ha : DE X W a ga) (hr : DA X W es gr) (hs : starEach (a :: es) X.env = (false, eval a X.env) :: starEach es X.env := by rfl) : DA X W (a :: es) (xCons ga gr) := by
  refine PA.imp (pa_cons ha hr hs) fun σ H Q ⟨B0, H0, B, ba, st, rel, h⟩ => ⟨B0, H0, B, ba, st, rel, (Post.bind h).imp fun x H1 ⟨B1, st1, d, s1, rel1, v1, h1⟩ => ⟨B0, H0, B1, ba, st1, rel1, (Post.bind h1).imp fun y H2 ⟨B2, st2, e, s2, rel2, v2, h2⟩ => ?_⟩⟩
  exact h2.ok rel2 (RpA.cons (Rp.mono s2 v1) v2)
def szOk {α : Type} (xs : List α) : Bool := decide (xs.length ≤ 16777216)
theorem szOk_line {α : Type} {xs : List α} (h : szOk xs = true) : xs.length ≤ sizeLine := by rw [sizeLine_eq]; exact of_decide_eq_true h
def mkTup (ds : List D) : Option D := if szOk ds then some (.tuple ds) else none
def mkLst (ds : List D) : Option (List D) := if szOk ds then some ds else none
def xTup (ga : EA) : E := fun st => (ga st).bind fun ds st => lift (mkTup ds) st
theorem de_tup {k : Nat} {ga : EA} (h : DA X W es ga) : DE X W (.Tuple es k pos) (xTup ga) := by
  refine PE.imp (pe_tup h) fun σ H Q ⟨B0, H0, B, ba, st, rel, h⟩ => ⟨B0, H0, B, ba, st, rel, (Post.bind h).imp fun xs H1 ⟨B1, st1, ds, s1, rel1, v1, h1⟩ => ?_⟩
  obtain ⟨z, ez, h2⟩ := Post.lift h1
  unfold mkTup at ez
  split at ez
  · rename_i hz
    cases ez
    refine ⟨by rw [RpA.len v1]; exact szOk_line hz, fun p hp => ?_⟩
    obtain ⟨r3, s3⟩ := rel1.laid (o := .tup xs) hp
    exact h2 (.ref p) _ _ s3 r3 (Rp.tup (SqT.of upd_same) (RpA.mono s3 v1))
  · cases ez
/-- a fresh list, displayed -/
def xLst (ga : EA) : EF := fun st => (ga st).bind fun ds st => lift (mkLst ds) st
theorem df_lst {ga : EA} (h : DA X W es ga) : DF X W (.List es pos) (xLst ga) := by
  refine PE.imp (pe_lst h) fun σ H Q ⟨B0, H0, B, ba, st, rel, h⟩ => ⟨B0, H0, B, ba, st, rel, (Post.bind h).imp fun xs H1 ⟨B1, st1, ds, s1, rel1, v1, h1⟩ => ?_⟩
  obtain ⟨z, ez, h2⟩ := Post.lift h1
  unfold mkLst at ez
  split at ez
  · rename_i hz
    cases ez
    refine ⟨by rw [RpA.len v1]; exact szOk_line hz, fun p hp => ?_⟩
    exact h2 (.ref p) B1 _ (Same.refl _) (rel1.aside hp) (rel1.freshL hp v1)
  · cases ez
/-- a fresh list as a value -/
theorem Rel.freeze {K : PySem.W.Frag} {B0 H0 B H : Hp} {σ : St} {ba : Option Addr} {st : S} {v : V} {ds : List D} (r : Rel K B0 H0 B σ H ba st) (f : Fresh K H0 B σ H ba st v ds) :
    ∃ B', Same B B' ∧ Rel K B0 H0 B' σ H ba st ∧ Rp K B' v (.list ds) ∧ ∃ a vs, v = .ref a ∧ B' a = some (.lst vs) ∧ RpA K B' vs ds := by
  obtain ⟨a, vs, rfl, f1, f2, f3, f4, f5, f6⟩ := f
  have sm : Same B (upd B a (.lst vs)) := fun b x e => by rw [upd_ne (ne_of_none e f1)]; exact e
  refine ⟨upd B a (.lst vs), sm, ⟨⟨fun b o e => sm _ _ (r.stp.same _ _ e), fun b e n => ?_, r.stp.fr, r.stp.live⟩, fun b o e => ?_, fun es e => ?_, r.bal, r.len, fun i s e => ?_, r.dist⟩, Rp.lst (.inl upd_same) (RpA.mono sm f4), a, vs, rfl, upd_same, RpA.mono sm f4⟩
  · rw [upd_ne (fun z => by rw [z] at n; exact n f2)]; exact r.stp.new b e n
  · by_cases hb : b = a
    · subst hb; rw [upd_same] at e; cases e; exact f3
    · rw [upd_ne hb] at e; exact r.sub _ _ e
  · obtain ⟨c, ws, q1, q2, q3, q4⟩ := r.box es e
    have hb : c ≠ a := fun z => f5 (by rw [← z]; exact q1)
    exact ⟨c, ws, q1, by rw [upd_ne hb]; exact q2, q3, RpA.mono sm q4⟩
  · obtain ⟨v, e1, e2⟩ := r.env i s e
    refine ⟨v, e1, ?_⟩
    cases s with
    | val d => exact Rp.mono sm e2
    | own es =>
      obtain ⟨c, ws, q1, q2, q3, q4, q5, q6⟩ := e2
      have hb : c ≠ a := fun z => f6 i es e (by rw [e1, q1, z])
      exact ⟨c, ws, q1, by rw [upd_ne hb]; exact q2, q3, q4, RpA.mono sm q5, q6⟩
    | box => exact e2
    | scr ns => obtain ⟨a, q1, q2⟩ := e2; exact ⟨a, q1, sm.seq q2⟩
def xL (g : EF) : E := fun st => (g st).bind fun ds st => .ok (.list ds) st
theorem de_frz {g : EF} (h : DF X W e g) : DE X W e (xL g) := by
  refine PE.imp h fun σ H Q ⟨B0, H0, B, ba, st, rel, h⟩ => ⟨B0, H0, B, ba, st, rel, (Post.bind h).imp fun v H1 ⟨B1, st1, ds, s1, rel1, v1, h1⟩ => ?_⟩
  obtain ⟨B2, s2, r2, q, _⟩ := rel1.freeze v1
  exact h1 v B2 H1 s2 r2 q

/-! ### tests -/
def xT (g : E) : ET := fun st => (g st).bind fun d st => match d with
  | .bool b => .ok b st
  | _ => .bad
theorem dt_val {g : E} (h : DE X W e g) (he : ∀ whole, isTrue e X.env whole = (do let v ← whole; standAt e.pos; holding [v] (truthy v)) := by intro _; rfl) : DT X W e (xT g) := by
  refine PT.imp (pt_val h he) fun σ H Q ⟨B0, H0, B, ba, st, rel, h⟩ => ⟨B0, H0, B, ba, st, rel, (Post.bind h).imp fun v H1 ⟨B1, st1, d, s1, rel1, v1, h1⟩ => ?_⟩
  cases d with
  | bool b =>
    have v1 : Rp X.K B1 v (.bool b) := v1
    exact ⟨b, v1.bl_inv, h1.ok rel1 rfl⟩
  | _ => exact h1.elim
theorem dt_cmp {op : CmpOp} {f : D → D → Option D} {ga gb : E} (ho : OpR X (compareOp op) (rD X.K f)) (ha : DE X W a ga) (hb : DE X W b gb) (hm : behindInMarks op b = false := by first | exact nomark _ | rfl) : DT X W (.Compare a [op] [b] pos) (xT (xOp f ga gb)) := by
  refine PT.imp (pt_cmpR ho ha hb hm) fun σ H Q ⟨B0, H0, B, ba, st, rel, h⟩ => ?_
  refine op_read σ H _ ⟨B0, H0, B, ba, st, rel, (Post.bind h).imp fun v H1 ⟨B1, st1, d, s1, rel1, v1, h1⟩ => ?_⟩
  cases d with
  | bool b =>
    have v1 : Rp X.K B1 v (.bool b) := v1
    exact ⟨b, v1.bl_inv, h1.ok rel1 rfl⟩
  | _ => exact h1.elim
def xAnd (ga gb : ET) : ET := fun st => (ga st).bind fun b st => if b then gb st else .ok false st
def xOr (ga gb : ET) : ET := fun st => (ga st).bind fun b st => if b then .ok true st else gb st
def xNot (ga : ET) : ET := fun st => (ga st).bind fun b st => .ok (!b) st
theorem dw_and1 {ga : ET} (ha : DT X W a ga) : DW X W (.BoolOp .And [a] pos) ga := pw_and1 ha
theorem dw_or1 {ga : ET} (ha : DT X W a ga) : DW X W (.BoolOp .Or [a] pos) ga := pw_or1 ha
theorem dw_and {ga gb : ET} {rest : List Expr} (ha : DT X W a ga) (hb : DW X W (.BoolOp .And (b :: rest) pos) gb) : DW X W (.BoolOp .And (a :: b :: rest) pos) (xAnd ga gb) := by
  refine PW.imp (pw_and ha hb) fun σ H Q ⟨B0, H0, B, ba, st, rel, h⟩ => ⟨B0, H0, B, ba, st, rel, (Post.bind h).imp fun v H1 ⟨B1, st1, d, s1, rel1, v1, h1⟩ => ?_⟩
  obtain rfl : d = v := v1
  cases d with
  | true => exact ⟨B0, H0, B1, ba, st1, rel1, h1⟩
  | false => exact h1.ok rel1 rfl
theorem dw_or {ga gb : ET} {rest : List Expr} (ha : DT X W a ga) (hb : DW X W (.BoolOp .Or (b :: rest) pos) gb) : DW X W (.BoolOp .Or (a :: b :: rest) pos) (xOr ga gb) := by
  refine PW.imp (pw_or ha hb) fun σ H Q ⟨B0, H0, B, ba, st, rel, h⟩ => ⟨B0, H0, B, ba, st, rel, (Post.bind h).imp fun v H1 ⟨B1, st1, d, s1, rel1, v1, h1⟩ => ?_⟩
  obtain rfl : d = v := v1
  cases d with
  | true => exact h1.ok rel1 rfl
  | false => exact ⟨B0, H0, B1, ba, st1, rel1, h1⟩
theorem dt_w {g : ET} (h : DW X W e g) : DT X W e g := PW.pt h
theorem dt_not {ga : ET} (ha : DT X W a ga) : DT X W (.UnaryOp .Not a pos) (xNot ga) := by
  refine PT.imp (pt_not ha) fun σ H Q ⟨B0, H0, B, ba, st, rel, h⟩ => ⟨B0, H0, B, ba, st, rel, (Post.bind h).imp fun v H1 ⟨B1, st1, d, s1, rel1, v1, h1⟩ => ?_⟩
  obtain rfl : d = v := v1
  exact h1.ok rel1 rfl
/-! and, or, not as values (bools) -/
def xAndV (ga gb : E) : E := fun st => (ga st).bind fun d st => match d with
  | .bool true => gb st
  | .bool false => .ok (.bool false) st
  | _ => .bad
def xOrV (ga gb : E) : E := fun st => (ga st).bind fun d st => match d with
  | .bool true => .ok (.bool true) st
  | .bool false => gb st
  | _ => .bad
def xNotV (ga : E) : E := fun st => (ga st).bind fun d st => match d with
  | .bool b => .ok (.bool (!b)) st
  | _ => .bad
theorem de_one {op : BoolOp} {g : E} (h : DE X W a g) : DE X W (.BoolOp op [a] pos) g := pe_one h
theorem de_and {ga gb : E} {rest : List Expr} (ha : DE X W a ga) (hb : DE X W (.BoolOp .And (b :: rest) pos) gb) : DE X W (.BoolOp .And (a :: b :: rest) pos) (xAndV ga gb) := by
  refine PE.imp (pe_and ha hb) fun σ H Q ⟨B0, H0, B, ba, st, rel, h⟩ => ⟨B0, H0, B, ba, st, rel, (Post.bind h).imp fun v H1 ⟨B1, st1, d, s1, rel1, v1, h1⟩ => ?_⟩
  cases d with
  | bool b =>
    have v1 : Rp X.K B1 v (.bool b) := v1
    refine ⟨b, v1.bl_inv, ?_⟩
    cases b with
    | true => exact ⟨B0, H0, B1, ba, st1, rel1, h1⟩
    | false => exact h1.ok rel1 (Rp.bl false)
  | _ => exact h1.elim
theorem de_or {ga gb : E} {rest : List Expr} (ha : DE X W a ga) (hb : DE X W (.BoolOp .Or (b :: rest) pos) gb) : DE X W (.BoolOp .Or (a :: b :: rest) pos) (xOrV ga gb) := by
  refine PE.imp (pe_or ha hb) fun σ H Q ⟨B0, H0, B, ba, st, rel, h⟩ => ⟨B0, H0, B, ba, st, rel, (Post.bind h).imp fun v H1 ⟨B1, st1, d, s1, rel1, v1, h1⟩ => ?_⟩
  cases d with
  | bool b =>
    have v1 : Rp X.K B1 v (.bool b) := v1
    refine ⟨b, v1.bl_inv, ?_⟩
    cases b with
    | true => exact h1.ok rel1 (Rp.bl true)
    | false => exact ⟨B0, H0, B1, ba, st1, rel1, h1⟩
  | _ => exact h1.elim
theorem de_not {ga : E} (ha : DE X W a ga) : DE X W (.UnaryOp .Not a pos) (xNotV ga) := by
  refine PE.imp (pe_not ha) fun σ H Q ⟨B0, H0, B, ba, st, rel, h⟩ => ⟨B0, H0, B, ba, st, rel, (Post.bind h).imp fun v H1 ⟨B1, st1, d, s1, rel1, v1, h1⟩ => ?_⟩
  cases d with
  | bool b =>
    have v1 : Rp X.K B1 v (.bool b) := v1
    exact ⟨b, v1.bl_inv, h1.ok rel1 (Rp.bl _)⟩
  | _ => exact h1.elim
/-! ### chains of two comparisons -/
def xChain (f f' : D → D → Option D) (ga gb gc : E) : E := fun st => (ga st).bind fun x st => (gb st).bind fun y st => (lift (f x y) st).bind fun z st => match z with
  | .bool true => (gc st).bind fun w st => lift (f' y w) st
  | .bool false => .ok (.bool false) st
  | _ => .bad

/-! ### calls of built-ins -/
def xFn (f : List D → Option D) (ga : EA) : E := fun st => (ga st).bind fun ds st => lift (f ds) st
theorem fn_read {K : PySem.W.Frag} {mg : Str → Option Value} {f : List D → Option D} {ga : EA} (σ : St) (H : Hp) (Q : VK) (h : tG K mg W (vD K) (xFn f ga) σ H Q) : tCB (rDs K f) (tG K mg W (vA K) ga) σ H Q := by
  obtain ⟨B0, H0, B, ba, st, rel, h⟩ := h
  refine ⟨B0, H0, B, ba, st, rel, (Post.bind h).imp fun x H1 ⟨B1, st1, ds, s1, rel1, v1, h1⟩ => ?_⟩
  obtain ⟨z, ez, h2⟩ := Post.lift h1
  refine ⟨B1, ds, z, rel1.sub, VwA.of v1, ez, fun v B' H' g r => ?_⟩
  obtain ⟨r3, s3⟩ := rel1.grow g
  exact h2 v B' H' s3 r3 r
theorem de_callB {id : String} {x : Str} {p : Pos} {f : List D → Option D} {ga : EA} (hc : CallR X (.builtin id) (rDs X.K f)) (hg : Gl X x) (hm : X.mg x = none) (hv : bootBuiltins x = some (.builtin id)) (ha : DA X W (e :: es) ga) (hn : x ≠ "__name__" := by decide) (hdb : (x == ("__debug__" : Str)) = false := by decide)
    (he : starEach (e :: es) X.env = (false, eval e X.env) :: starEach es X.env := by rfl) (hpl : (backTo pos (starEach es X.env)).any (·.1) = false := by rfl) : DE X W (.Call (.Name x p) (e :: es) [] pos) (xFn f ga) := PE.imp (pe_callB hc hg hm hv ha hn hdb he hpl) fn_read
theorem de_callTy {id : String} {x : Str} {p : Pos} {f : List D → Option D} {ga : EA} (hc : CallR X (.type id) (rDs X.K f)) (hg : Gl X x) (hm : X.mg x = none) (hv : bootBuiltins x = some (.type id)) (ha : DA X W (e :: es) ga) (hn : x ≠ "__name__" := by decide) (hdb : (x == ("__debug__" : Str)) = false := by decide)
    (he : starEach (e :: es) X.env = (false, eval e X.env) :: starEach es X.env := by rfl) (hpl : (backTo pos (starEach es X.env)).any (·.1) = false := by rfl) : DE X W (.Call (.Name x p) (e :: es) [] pos) (xFn f ga) := PE.imp (pe_callTy hc hg hm hv ha hn hdb he hpl) fn_read
end
end DM
/-! Part 3: operators and built-ins by data. -/
namespace DM
open PySem L2

/-! ### sizes -/
@[irreducible] def BIG : Nat := 2 ^ 1000000
def mulOk (i j : Int) : Bool := decide (i.natAbs < BIG) && decide (j.natAbs < BIG)
def divOk (i j : Int) : Bool := !Builtin.divisionGoesByPylong i j && !decide (j = 0)
theorem mulOk_x {i j : Int} (h : mulOk i j = true) : CMulX i j := by
  unfold mulOk at h
  rw [Bool.and_eq_true] at h
  have h1 : i.natAbs < BIG := of_decide_eq_true h.1
  have h2 : j.natAbs < BIG := of_decide_eq_true h.2
  unfold BIG at h1 h2
  exact mulx_ok h1 h2 (by decide)

/-! ### arithmetic -/
def dAdd : D → D → Option D
  | .int i, .int j => some (.int (i + j))
  | .str x, .str y => if decide (x.length + y.length ≤ 16777216) then some (.str (x ++ y)) else none
  | .tuple xs, .tuple ys => if szOk (xs ++ ys) then some (.tuple (xs ++ ys)) else none
  | .list xs, .list ys => if szOk (xs ++ ys) then some (.list (xs ++ ys)) else none
  | _, _ => none
def dSub : D → D → Option D
  | .int i, .int j => some (.int (i - j))
  | _, _ => none
def repD (k : Int) (xs : List D) : List D := (List.replicate k.toNat xs).flatten
def dMul : D → D → Option D
  | .int i, .int j => if mulOk i j then some (.int (i * j)) else none
  | .tuple xs, .int k => if decide (2 ≤ k) && decide (k ≤ 1000) && decide (xs.length ≤ 1000) && !xs.isEmpty then some (.tuple (repD k xs)) else none
  | _, _ => none
def dDiv : D → D → Option D
  | .int i, .int j => if divOk i j then some (.int (i.fdiv j)) else none
  | _, _ => none
def dMod : D → D → Option D
  | .int i, .int j => if decide (j = 0) then none else some (.int (i.fmod j))
  | _, _ => none
def dPow : D → D → Option D
  | .int i, .int j => if decide (0 ≤ j) && decide (j ≤ 1000000) && decide (i.natAbs < 18446744073709551616) then some (.int (i ^ j.toNat)) else none
  | _, _ => none
def dNeg : D → Option D
  | .int i => some (.int (-i))
  | _ => none
def dLt : D → D → Option D
  | .int i, .int j => some (.bool (decide (i < j)))
  | _, _ => none
def dLe : D → D → Option D
  | .int i, .int j => some (.bool (decide (i ≤ j)))
  | _, _ => none
def dGt : D → D → Option D
  | .int i, .int j => some (.bool (decide (j < i)))
  | _, _ => none
def dGe : D → D → Option D
  | .int i, .int j => some (.bool (decide (j ≤ i)))
  | _, _ => none

section
variable {X : Cx}
theorem grow0 {B H : Hp} : Grow B H B H := .inl ⟨rfl, rfl⟩
theorem grow1 {B H : Hp} {p : Addr} {o : HO} (h : H p = none) : Grow B H (upd B p o) (upd H p o) := .inr ⟨p, o, h, rfl, rfl⟩
theorem same1 {B H : Hp} {p : Addr} {o : HO} (s : SubH B H) (h : H p = none) : Same B (upd B p o) := fun b x e => by
  rw [upd_ne (fun z => by rw [z] at e; rw [s _ _ e] at h; cases h)]; exact e
/-- a rule of two ints -/
theorem op_of_int {f : Value → Value → Sem Value} {C : Int → Int → Prop} {g : Int → Int → V} {df : D → D → Option D} {dg : Int → Int → D} (ho : OpR X f (rI C g)) (hg : ∀ i j B, Rp X.K B (g i j) (dg i j))
    (hd : ∀ d e z, df d e = some z → ∃ i j, d = .int i ∧ e = .int j ∧ C i j ∧ z = dg i j) : OpR X f (rD X.K df) := by
  intro pins s σ H x y v u Q I rx ry h
  obtain ⟨B, d, e, z, sub, vx, vy, hz, q⟩ := h
  obtain ⟨i, j, rfl, rfl, c, rfl⟩ := hd d e z hz
  have ex := (vx.rp (fun _ z => nomatch z)).int_inv
  have ey := (vy.rp (fun _ z => nomatch z)).int_inv
  subst ex ey
  exact ho pins s σ H _ _ v u Q I rx ry ⟨i, j, rfl, rfl, c, q _ B H grow0 (hg i j B)⟩
theorem op_of_int0 {f : Value → Value → Sem Value} {g : Int → Int → V} {df : D → D → Option D} {dg : Int → Int → D} (ho : OpR X f (rI0 g)) (hg : ∀ i j B, Rp X.K B (g i j) (dg i j))
    (hd : ∀ d e z, df d e = some z → ∃ i j, d = .int i ∧ e = .int j ∧ z = dg i j) : OpR X f (rD X.K df) := by
  intro pins s σ H x y v u Q I rx ry h
  obtain ⟨B, d, e, z, sub, vx, vy, hz, q⟩ := h
  obtain ⟨i, j, rfl, rfl, rfl⟩ := hd d e z hz
  have ex := (vx.rp (fun _ z => nomatch z)).int_inv
  have ey := (vy.rp (fun _ z => nomatch z)).int_inv
  subst ex ey
  exact ho pins s σ H _ _ v u Q I rx ry ⟨i, j, rfl, rfl, q _ B H grow0 (hg i j B)⟩
theorem o_sub : OpR X (binaryOp .Sub) (rD X.K dSub) := op_of_int0 (dg := fun i j => .int (i - j)) op_sub (fun _ _ _ => .int _) fun d e z h => by
  cases d <;> cases e <;> simp only [dSub] at h <;> first | (cases h; exact ⟨_, _, rfl, rfl, rfl⟩) | cases h
theorem o_div : OpR X (binaryOp .FloorDiv) (rD X.K dDiv) := op_of_int (C := fun i j => divOk i j = true) (g := fun i j => .int (i.fdiv j)) (dg := fun i j => .int (i.fdiv j)) (opI fun i j _ _ _ _ _ hc q => by
    have hc' : divOk i j = true := hc
    unfold divOk at hc'
    rw [Bool.and_eq_true] at hc'
    refine PyProof.Rows.floordiv_int (by have := hc'.2; simpa using this) q (.inl (by have := hc'.1; simpa using this))) (fun _ _ _ => .int _) fun d e z h => by
  cases d <;> cases e <;> simp only [dDiv] at h <;> first | (split at h <;> first | (rename_i hc; cases h; exact ⟨_, _, rfl, rfl, hc, rfl⟩) | cases h) | cases h
theorem o_mod : OpR X (binaryOp .Mod) (rD X.K dMod) := op_of_int (dg := fun i j => .int (i.fmod j)) op_modN (fun _ _ _ => .int _) fun d e z h => by
  cases d <;> cases e <;> simp only [dMod] at h <;> first | (split at h <;> first | (rename_i hc; cases h; exact ⟨_, _, rfl, rfl, by simpa using hc, rfl⟩) | cases h) | cases h
theorem o_pow : OpR X (binaryOp .Pow) (rD X.K dPow) := op_of_int (dg := fun i j => .int (i ^ j.toNat)) op_pow (fun _ _ _ => .int _) fun d e z h => by
  cases d <;> cases e <;> simp only [dPow] at h <;> first | (split at h <;> first | (rename_i hc; cases h; refine ⟨_, _, rfl, rfl, ?_, rfl⟩; simp only [Bool.and_eq_true, decide_eq_true_eq] at hc; exact ⟨hc.1.1, hc.1.2, by have := hc.2; omega⟩) | cases h) | cases h
theorem o_lt : OpR X (compareOp .Lt) (rD X.K dLt) := op_of_int0 (dg := fun i j => .bool (decide (i < j))) op_lt (fun _ _ _ => .bl _) fun d e z h => by
  cases d <;> cases e <;> simp only [dLt] at h <;> first | (cases h; exact ⟨_, _, rfl, rfl, rfl⟩) | cases h
theorem o_le : OpR X (compareOp .LtE) (rD X.K dLe) := op_of_int0 (dg := fun i j => .bool (decide (i ≤ j))) op_le (fun _ _ _ => .bl _) fun d e z h => by
  cases d <;> cases e <;> simp only [dLe] at h <;> first | (cases h; exact ⟨_, _, rfl, rfl, rfl⟩) | cases h
theorem o_gt : OpR X (compareOp .Gt) (rD X.K dGt) := op_of_int0 (dg := fun i j => .bool (decide (j < i))) op_gt (fun _ _ _ => .bl _) fun d e z h => by
  cases d <;> cases e <;> simp only [dGt] at h <;> first | (cases h; exact ⟨_, _, rfl, rfl, rfl⟩) | cases h
theorem o_ge : OpR X (compareOp .GtE) (rD X.K dGe) := op_of_int0 (dg := fun i j => .bool (decide (j ≤ i))) op_ge (fun _ _ _ => .bl _) fun d e z h => by
  cases d <;> cases e <;> simp only [dGe] at h <;> first | (cases h; exact ⟨_, _, rfl, rfl, rfl⟩) | cases h
theorem u_neg : UnR X (unaryOp .USub) (rD1 X.K dNeg) := by
  intro pins s σ H x v Q I rx h
  obtain ⟨B, d, z, sub, vx, hz, q⟩ := h
  cases d <;> simp only [dNeg] at hz <;> first | cases hz | skip
  have ex := (vx.rp (fun _ z => nomatch z)).int_inv
  subst ex
  exact un_neg pins s σ H _ v Q I rx ⟨_, rfl, q _ B H grow0 (.int _)⟩
/-- a list that may be read -/
theorem Inv.lstR {pins : List (Addr × Obj)} {σ : St} {H : Hp} {s : Shared} {l : Addr} {xs : List V} (I : Inv X pins σ H s) (hH : Rd H l (.lst xs)) : xs.length ≤ sizeLine ∧ ∃ (its : List Value) (n : Nat), Vals xs its ∧ xs.length = its.length ∧ s.heap.get? l = some { cls := .type "list", data := .seq its.toArray n } := by
  obtain ⟨z, its, n, r, e⟩ := hH.ok I.hok
  exact ⟨z, its, n, r, r.length, e⟩
def rCatR : R2 := fun x y H Q => ∃ l b xs zs, x = .ref l ∧ y = .ref b ∧ Rd H l (.lst xs) ∧ Rd H b (.lst zs) ∧ xs.length + zs.length ≤ sizeLine ∧ ∀ p, H p = none → Q (.ref p) (upd H p (.lst (xs ++ zs)))
theorem op_catR : OpR X (binaryOp .Add) rCatR := by
  intro pins s σ H x y v u Q I rx ry h
  obtain ⟨l, b, xs, zs, rfl, rfl, hH, hB, hz, q⟩ := h
  cases rx
  cases ry
  obtain ⟨z, its, n, r, hl, e⟩ := Inv.lstR I hH
  obtain ⟨z2, its2, n2, r2, hl2, e2⟩ := Inv.lstR I hB
  refine PySem.P.add_list e e2 ?_ (by rw [List.size_toArray, List.size_toArray]; omega)
  have ea : its.toArray ++ its2.toArray = (its ++ its2).toArray := by simp
  rw [ea]
  exact ⟨.ref _, _, I.lnew (t' := s.toks) (r.append r2) (by rw [List.length_append]; omega), rfl, q _ I.fresh⟩
theorem o_add : OpR X (binaryOp .Add) (rD X.K dAdd) := by
  intro pins s σ H x y v u Q I rx ry h
  obtain ⟨B, d, e, z, sub, vx, vy, hz, q⟩ := h
  cases d <;> cases e <;> simp only [dAdd] at hz <;> first | cases hz | skip
  · have ex := (vx.rp (fun _ z => nomatch z)).int_inv
    have ey := (vy.rp (fun _ z => nomatch z)).int_inv
    subst ex ey
    exact op_add pins s σ H _ _ v u Q I rx ry ⟨_, _, rfl, rfl, q _ B H grow0 (.int _)⟩
  · split at hz
    · rename_i hc
      cases hz
      have ex := (vx.rp (fun _ z => nomatch z)).str_inv
      have ey := (vy.rp (fun _ z => nomatch z)).str_inv
      subst ex ey
      exact op_add_str pins s σ H _ _ v u Q I rx ry ⟨_, _, rfl, rfl, by rw [sizeLine_eq]; simpa using hc, q _ B H grow0 (.str _)⟩
    · cases hz
  · split at hz
    · rename_i hc
      cases hz
      obtain ⟨a, vs, rfl, h1, h2⟩ := vx.lst sub
      obtain ⟨b, ws, rfl, k1, k2⟩ := vy.lst sub
      have hl := szOk_line hc
      refine op_catR pins s σ H _ _ v u Q I rx ry ⟨a, b, vs, ws, rfl, rfl, h1, k1, by rw [h2.len, k2.len]; simpa using hl, fun p hp => ?_⟩
      exact q _ _ _ (grow1 hp) (.lst (.inl upd_same) ((h2.app k2).mono (same1 sub hp)))
    · cases hz
  · split at hz
    · rename_i hc
      cases hz
      obtain ⟨a, vs, rfl, h1, h2⟩ := (vx.rp (fun _ z => nomatch z)).tup_inv
      obtain ⟨b, ws, rfl, k1, k2⟩ := (vy.rp (fun _ z => nomatch z)).tup_inv
      have hl := szOk_line hc
      have e1 : vs = [] → (_ : List D) = [] := fun z => List.length_eq_zero_iff.mp (by rw [← h2.len, z]; rfl)
      have e2 : ws = [] → (_ : List D) = [] := fun z => List.length_eq_zero_iff.mp (by rw [← k2.len, z]; rfl)
      refine op_catA pins s σ H _ _ v u Q I rx ry ⟨a, b, vs, ws, rfl, rfl, seqT_same (H := B) sub h1, seqT_same (H := B) sub k1, by rw [h2.len, k2.len]; simpa using hl, fun hv => ?_, fun _ hv => ?_, fun _ _ p hp => ?_⟩
      · refine q _ B H grow0 (.tup k1 ?_)
        rw [e1 hv]; exact k2
      · refine q _ B H grow0 (.tup h1 ?_)
        rw [e2 hv, List.append_nil]; exact h2
      · exact q _ _ _ (grow1 hp) (.tup (SqT.of upd_same) ((h2.app k2).mono (same1 sub hp)))
    · cases hz
theorem RpA.rep {K : PySem.W.Frag} {H : Hp} {ds : List D} {vs : List V} (h : RpA K H vs ds) : ∀ k : Nat, RpA K H (List.replicate k vs).flatten (List.replicate k ds).flatten
  | 0 => .nil
  | k + 1 => by
    simp only [List.replicate_succ, List.flatten_cons]
    exact h.app (RpA.rep h k)
theorem rep_len {α : Type} (xs : List α) : ∀ k : Nat, (List.replicate k xs).flatten.length = k * xs.length
  | 0 => by simp
  | k + 1 => by
    simp only [List.replicate_succ, List.flatten_cons, List.length_append, rep_len xs k]
    rw [Nat.add_mul]; omega
theorem o_mul : OpR X (binaryOp .Mult) (rD X.K dMul) := by
  intro pins s σ H x y v u Q I rx ry h
  obtain ⟨B, d, e, z, sub, vx, vy, hz, q⟩ := h
  cases d <;> cases e <;> simp only [dMul] at hz <;> first | cases hz | skip
  · split at hz
    · rename_i hc
      cases hz
      have ex := (vx.rp (fun _ z => nomatch z)).int_inv
      have ey := (vy.rp (fun _ z => nomatch z)).int_inv
      subst ex ey
      have hm := mulOk_x hc
      clear hc
      exact op_mulX pins s σ H _ _ v u Q I rx ry ⟨_, _, rfl, rfl, hm, q _ B H grow0 (.int _)⟩
    · cases hz
  · split at hz
    · rename_i hc
      cases hz
      obtain ⟨a, vs, rfl, h1, h2⟩ := (vx.rp (fun _ z => nomatch z)).tup_inv
      have ey := (vy.rp (fun _ z => nomatch z)).int_inv
      subst ey
      simp only [Bool.and_eq_true, decide_eq_true_eq] at hc
      obtain ⟨⟨⟨c1, c2⟩, c3⟩, c4⟩ := hc
      refine op_repT pins s σ H _ _ v u Q I rx ry ⟨a, _, vs, rfl, rfl, seqT_same (H := B) sub h1, fun z => ?_, c1, c2, by rw [h2.len]; exact c3, fun p hp => ?_⟩
      · subst z
        cases h2
        simp at c4
      · exact q _ _ _ (grow1 hp) (.tup (SqT.of upd_same) ((RpA.rep h2 _).mono (same1 sub hp)))
    · cases hz

/-! ### == and its like -/
mutual
def okD : Nat → D → Bool
  | _, .none => true
  | _, .bool _ => true
  | _, .int _ => true
  | _, .str x => PyData.strOk x
  | 0, .list _ => false
  | 0, .tuple _ => false
  | n + 1, .list ds => okA n ds
  | n + 1, .tuple ds => okA n ds
  | _, .dict _ => false
def okA : Nat → List D → Bool
  | _, [] => true
  | n, d :: ds => okD n d && okA n ds
end
mutual
theorem okD_flat : ∀ (d : D) (n : Nat), okD n d = true → flatD d = true ∧ d.canLay0 = true ∧ d.depth ≤ n
  | .none, n, _ => by simp [flatD, PyData.canLay0, PyData.depth]
  | .bool _, n, _ => by simp [flatD, PyData.canLay0, PyData.depth]
  | .int _, n, _ => by simp [flatD, PyData.canLay0, PyData.depth]
  | .str x, n, h => by
    have h : PyData.strOk x = true := by cases n <;> simpa [okD] using h
    simp [flatD, PyData.canLay0, PyData.depth, h]
  | .list ds, 0, h => by simp [okD] at h
  | .tuple ds, 0, h => by simp [okD] at h
  | .list ds, n + 1, h => by
    obtain ⟨h1, h2, h3⟩ := okA_flat ds n (by simpa [okD] using h)
    simp [flatD, PyData.canLay0, PyData.depth, h1, h2, h3]
  | .tuple ds, n + 1, h => by
    obtain ⟨h1, h2, h3⟩ := okA_flat ds n (by simpa [okD] using h)
    simp [flatD, PyData.canLay0, PyData.depth, h1, h2, h3]
  | .dict _, n, h => by cases n <;> simp [okD] at h
theorem okA_flat : ∀ (ds : List D) (n : Nat), okA n ds = true → flatA ds = true ∧ PyData.canLayAll0 ds = true ∧ PyData.depthAll ds ≤ n
  | [], n, _ => by simp [flatA, PyData.canLayAll0, PyData.depthAll]
  | d :: ds, n, h => by
    have h : okD n d = true ∧ okA n ds = true := by simpa [okA] using h
    obtain ⟨h1, h2, h3⟩ := okD_flat d n h.1
    obtain ⟨k1, k2, k3⟩ := okA_flat ds n h.2
    simp [flatA, PyData.canLayAll0, PyData.depthAll, h1, h2, k1, k2]
    omega
end
def okE (d : D) : Bool := okD 60 d
theorem okE_shaped {d : D} (h : okE d = true) : flatD d = true ∧ SeqAt.shaped d = true := by
  obtain ⟨h1, h2, h3⟩ := okD_flat d 60 h
  refine ⟨h1, ?_⟩
  unfold SeqAt.shaped
  rw [h2, Bool.true_and]
  exact decide_eq_true (by omega)
theorem Vw.dp {K : PySem.W.Frag} {B H : Hp} {v : V} {d : D} (s : SubH B H) (h : Vw K B H v d) (f : flatD d = true) : Dp K H v d := by
  rcases h with h | ⟨a, vs, ds', e, h1, h2, e2⟩
  · exact (Rp.mono (H := B) s h).dp f
  · subst e e2
    exact .lst (.inl h1) ((RpA.mono (H := B) s h2).dp (by simpa [flatD] using f))
def dEq (d e : D) : Option D := if okE d && okE e then some (.bool (PyData.eqv d e)) else none
def dNe (d e : D) : Option D := if okE d && okE e then some (.bool (!PyData.eqv d e)) else none
theorem o_eq {k : Nat} (hr : Room k X.A) : OpR X (compareOp .Eq) (rD X.K dEq) := by
  intro pins s σ H x y v u Q I rx ry ⟨B, d, e, z, sub, vx, vy, hz, q⟩
  unfold dEq at hz
  split at hz
  · rename_i hc
    cases hz
    rw [Bool.and_eq_true] at hc
    obtain ⟨f1, s1⟩ := okE_shaped hc.1
    obtain ⟨f2, s2⟩ := okE_shaped hc.2
    exact op_eqD hr.units pins s σ H x y v u Q I rx ry ⟨d, e, vx.dp sub f1, vy.dp sub f2, s1, s2, q _ B H grow0 (.bl _)⟩
  · cases hz
theorem o_ne {k : Nat} (hr : Room k X.A) : OpR X (compareOp .NotEq) (rD X.K dNe) := by
  intro pins s σ H x y v u Q I rx ry ⟨B, d, e, z, sub, vx, vy, hz, q⟩
  unfold dNe at hz
  split at hz
  · rename_i hc
    cases hz
    rw [Bool.and_eq_true] at hc
    obtain ⟨f1, s1⟩ := okE_shaped hc.1
    obtain ⟨f2, s2⟩ := okE_shaped hc.2
    exact op_neD hr.units pins s σ H x y v u Q I rx ry ⟨d, e, vx.dp sub f1, vy.dp sub f2, s1, s2, q _ B H grow0 (.bl _)⟩
  · cases hz
/-- in: a list of any data; a text within a text -/
def dIn (d : D) : D → Option D
  | .list ds => if okE d && okE (.list ds) then some (.bool (ds.any fun z => PyData.eqv z d)) else none
  | _ => none
def dNotIn (d : D) : D → Option D
  | .list ds => if okE d && okE (.list ds) then some (.bool (!ds.any fun z => PyData.eqv z d)) else none
  | _ => none
theorem room65 {k : Nat} (hr : Room k X.A) : X.A.units + 65 < cLine := by have := hr.un; omega
theorem o_in {k : Nat} (hr : Room k X.A) : OpR X (compareOp .In) (rD X.K dIn) := by
  intro pins s σ H x y v u Q I rx ry ⟨B, d, e, z, sub, vx, vy, hz, q⟩
  cases e <;> simp only [dIn] at hz <;> first | cases hz | skip
  split at hz
  · rename_i hc
    cases hz
    rw [Bool.and_eq_true] at hc
    obtain ⟨f1, s1⟩ := okE_shaped hc.1
    obtain ⟨f2, s2⟩ := okE_shaped hc.2
    exact op_inD (room65 hr) pins s σ H x y v u Q I rx ry ⟨d, _, vx.dp sub f1, vy.dp sub f2, s1, s2, q _ B H grow0 (.bl _)⟩
  · cases hz
theorem o_notIn {k : Nat} (hr : Room k X.A) : OpR X (compareOp .NotIn) (rD X.K dNotIn) := by
  intro pins s σ H x y v u Q I rx ry ⟨B, d, e, z, sub, vx, vy, hz, q⟩
  cases e <;> simp only [dNotIn] at hz <;> first | cases hz | skip
  split at hz
  · rename_i hc
    cases hz
    rw [Bool.and_eq_true] at hc
    obtain ⟨f1, s1⟩ := okE_shaped hc.1
    obtain ⟨f2, s2⟩ := okE_shaped hc.2
    exact op_notInD (room65 hr) pins s σ H x y v u Q I rx ry ⟨d, _, vx.dp sub f1, vy.dp sub f2, s1, s2, q _ B H grow0 (.bl _)⟩
  · cases hz
def isNon : D → Bool
  | .none => true
  | _ => false
/-- is: None on the right, or two truths -/
def dIs : D → D → Option D
  | d, .none => some (.bool (isNon d))
  | .bool a, .bool b => some (.bool (decide (a = b)))
  | _, _ => none
def dIsNot : D → D → Option D
  | d, .none => some (.bool (!isNon d))
  | .bool a, .bool b => some (.bool (!decide (a = b)))
  | _, _ => none
theorem Vw.isNon {K : PySem.W.Frag} {B H : Hp} {v : V} {d : D} (h : Vw K B H v d) : decide (v = .non) = isNon d := by
  rcases h with h | ⟨a, vs, ds', e, h1, h2, e2⟩
  · cases h <;> rfl
  · subst e e2
    rfl
theorem o_is : OpR X (compareOp .Is) (rD X.K dIs) := by
  intro pins s σ H x y v u Q I rx ry ⟨B, d, e, z, sub, vx, vy, hz, q⟩
  cases e with
  | none =>
    have hz' : some (PyData.bool (DM.isNon d)) = some z := by cases d <;> exact hz
    cases hz'
    have ey := (vy.rp (fun _ z => nomatch z)).non_inv
    subst ey
    exact op_isN pins s σ H x _ v u Q I rx ry ⟨rfl, by rw [vx.isNon]; exact q _ B H grow0 (.bl _)⟩
  | bool b =>
    cases d <;> simp only [dIs] at hz <;> first | cases hz | skip
    have ex := (vx.rp (fun _ z => nomatch z)).bl_inv
    have ey := (vy.rp (fun _ z => nomatch z)).bl_inv
    subst ex ey
    exact op_isBl pins s σ H _ _ v u Q I rx ry ⟨_, _, rfl, rfl, q _ B H grow0 (.bl _)⟩
  | _ => cases d <;> simp [dIs] at hz
theorem o_isNot : OpR X (compareOp .IsNot) (rD X.K dIsNot) := by
  intro pins s σ H x y v u Q I rx ry ⟨B, d, e, z, sub, vx, vy, hz, q⟩
  cases e with
  | none =>
    have hz' : some (PyData.bool (!DM.isNon d)) = some z := by cases d <;> exact hz
    cases hz'
    have ey := (vy.rp (fun _ z => nomatch z)).non_inv
    subst ey
    exact op_notN pins s σ H x _ v u Q I rx ry ⟨rfl, by rw [vx.isNon]; exact q _ B H grow0 (.bl _)⟩
  | bool b =>
    cases d <;> simp only [dIsNot] at hz <;> first | cases hz | skip
    have ex := (vx.rp (fun _ z => nomatch z)).bl_inv
    have ey := (vy.rp (fun _ z => nomatch z)).bl_inv
    subst ex ey
    exact op_notBl pins s σ H _ _ v u Q I rx ry ⟨_, _, rfl, rfl, q _ B H grow0 (.bl _)⟩
  | _ => cases d <;> simp [dIsNot] at hz

/-! ### items -/
def dIx : D → D → Option D
  | .list ds, .int i => atI ds i
  | .tuple ds, .int i => atI ds i
  | .str z, .int i => if decide (z.length ≤ 16777216) then (atI z.cps.toList i).map fun c => .str ⟨#[c]⟩ else none
  | _, _ => none
theorem RpA.atI {K : PySem.W.Frag} {H : Hp} {ds : List D} {vs : List V} {i : Int} {d : D} (h : RpA K H vs ds) (e : atI ds i = some d) : ∃ v, L2.atI vs i = some v ∧ Rp K H v d := by
  unfold L2.atI at e ⊢
  rw [h.len]
  cases q : ixN ds.length i with
  | none => rw [q] at e; cases e
  | some j =>
    rw [q] at e
    exact h.get e
theorem i_ix : IxR X (rD X.K dIx) := by
  intro value slice pins s σ H x y v u Q I rx ry ⟨B, d, e, z, sub, vx, vy, hz, q⟩ hs
  cases d <;> cases e <;> simp only [dIx] at hz <;> first | cases hz | skip
  · split at hz
    · rename_i hc
      have ex := (vx.rp (fun _ z => nomatch z)).str_inv
      have ey := (vy.rp (fun _ z => nomatch z)).int_inv
      subst ex ey
      cases hq : L2.atI (_ : List Nat) (_ : Int) with
      | none => rw [hq] at hz; cases hz
      | some c =>
        rw [hq] at hz
        cases hz
        refine ix_str value slice pins s σ H _ _ v u Q I rx ry ⟨_, _, c, rfl, rfl, by rw [sizeLine_eq]; simpa using hc, hq, q _ B H grow0 (.str _)⟩ hs
    · cases hz
  · obtain ⟨a, vs, rfl, h1, h2⟩ := vx.lst sub
    have ey := (vy.rp (fun _ z => nomatch z)).int_inv
    subst ey
    obtain ⟨w, e1, e2⟩ := h2.atI hz
    refine ix_list value slice pins s σ H _ _ v u Q I rx ry ⟨a, vs, _, w, rfl, rfl, .inl h1, e1, q _ B H grow0 e2⟩ hs
  · obtain ⟨a, vs, rfl, h1, h2⟩ := vx.tup sub
    have ey := (vy.rp (fun _ z => nomatch z)).int_inv
    subst ey
    obtain ⟨w, e1, e2⟩ := h2.atI hz
    refine ix_tup value slice pins s σ H _ _ v u Q I rx ry ⟨a, vs, _, w, rfl, rfl, h1, e1, q _ B H grow0 e2⟩ hs
end
end DM
/-! Part 4: statements, targets, loops. -/
namespace DM
open PySem L2

inductive Fl where
  | nx | bk | ct
  | rt (d : D)
  | rl (ds : List D)
abbrev Sm := S → R Fl
def PostS (K : PySem.W.Frag) (mg : Str → Option Value) (W : WX) (B0 H0 B : Hp) (ba : Option Addr) (Dn : Ends) : R Fl → Prop
  | .ok .nx st => ∀ σ B' H', Same B B' → Rel K B0 H0 B' σ H' ba st → Dn.nx σ H'
  | .ok .bk st => ∀ σ B' H', Same B B' → Rel K B0 H0 B' σ H' ba st → Dn.bk σ H'
  | .ok .ct st => ∀ σ B' H', Same B B' → Rel K B0 H0 B' σ H' ba st → Dn.ct σ H'
  | .ok (.rt d) st => ∀ σ v B' H', Same B B' → Rel K B0 H0 B' σ H' ba st → Rp K B' v d → Dn.rt v H'
  | .ok (.rl ds) st => ∀ σ v B' H', Same B B' → Rel K B0 H0 B' σ H' ba st → Fresh K H0 B' σ H' ba st v ds → Dn.rt v H'
  | .exc c st => ∀ σ B' H', Same B B' → Rel K B0 H0 B' σ H' ba st → W (clsV mg c) none σ H'
  | .bad => False
def tS (K : PySem.W.Frag) (mg : Str → Option Value) (W : WX) (s : Sm) : TS := fun Dn σ H =>
  ∃ B0 H0 B ba st, Rel K B0 H0 B σ H ba st ∧ PostS K mg W B0 H0 B ba Dn (s st)
def DS (X : Cx) (W : WX) (st : Stmt) (s : Sm) : Prop := PS X st (tS X.K X.mg W s)
def DSs (X : Cx) (W : WX) (st : List Stmt) (s : Sm) : Prop := PSs X st (tS X.K X.mg W s)
section
variable {K : PySem.W.Frag} {mg : Str → Option Value} {W : WX} {B0 H0 B B1 : Hp} {σ : St} {ba : Option Addr} {Dn Dn' : Ends} {r : R Fl}
theorem PostS.mono (s : Same B B1) (h : PostS K mg W B0 H0 B ba Dn r) : PostS K mg W B0 H0 B1 ba Dn r := by
  cases r with
  | ok a st =>
    cases a with
    | nx => exact fun σ B' H' s' rel => h σ B' H' (s.trans s') rel
    | bk => exact fun σ B' H' s' rel => h σ B' H' (s.trans s') rel
    | ct => exact fun σ B' H' s' rel => h σ B' H' (s.trans s') rel
    | rt d => exact fun σ v B' H' s' rel q => h σ v B' H' (s.trans s') rel q
    | rl ds => exact fun σ v B' H' s' rel q => h σ v B' H' (s.trans s') rel q
  | exc c st => exact fun σ B' H' s' rel => h σ B' H' (s.trans s') rel
  | bad => exact h
/-- an expression ahead of the rest -/
theorem Post.bindS {α β : Type} {Val : VR α β} {e : R α} {k : α → S → R Fl} (h : PostS K mg W B0 H0 B ba Dn (e.bind k)) :
    Post K mg W Val B0 H0 B σ ba (fun b H1 => ∃ B1 st1 a, Same B B1 ∧ Rel K B0 H0 B1 σ H1 ba st1 ∧ Val a b ⟨H0, B1, σ, H1, ba, st1⟩ ∧ PostS K mg W B0 H0 B1 ba Dn (k a st1)) e := by
  cases e with
  | ok a st => exact fun b B' H' s' rel v => ⟨B', st, a, s', rel, v, PostS.mono s' h⟩
  | exc c st => exact fun B' H' s' rel => h σ B' H' s' rel
  | bad => exact h
theorem PostS.nx {st : S} {H : Hp} (h : PostS K mg W B0 H0 B ba Dn (.ok .nx st)) (rel : Rel K B0 H0 B σ H ba st) : Dn.nx σ H := h σ B H (Same.refl B) rel
end
section
variable {X : Cx} {W : WX} {e a b : Expr} {es : List Expr} {pos : Pos} {s1 s2 : Stmt} {rest : List Stmt}
theorem PS.imp {st : Stmt} {t t' : TS} (h : PS X st t) (i : ∀ Dn σ H, t' Dn σ H → t Dn σ H) : PS X st t' := ⟨fun pins s σ H Dn I q => h.run pins s σ H Dn I (i Dn σ H q)⟩
theorem PSs.imp {st : List Stmt} {t t' : TS} (h : PSs X st t) (i : ∀ Dn σ H, t' Dn σ H → t Dn σ H) : PSs X st t' := ⟨fun pins s σ H Dn I q => h.run pins s σ H Dn I (i Dn σ H q)⟩
def xNx : Sm := fun st => .ok .nx st
/-- then -/
def R.seq (r : R Fl) (g : S → R Fl) : R Fl := match r with
  | .ok .nx st' => g st'
  | r => r
/-- a turn of a loop, then -/
def R.turn (r : R Fl) (g : S → R Fl) : R Fl := match r with
  | .ok .nx st' => g st'
  | .ok .ct st' => g st'
  | .ok .bk st' => .ok .nx st'
  | r => r
@[simp] theorem R.seq_nx (st : S) (g : S → R Fl) : (R.ok .nx st).seq g = g st := rfl
@[simp] theorem R.seq_rt (d : D) (st : S) (g : S → R Fl) : (R.ok (.rt d) st).seq g = .ok (.rt d) st := rfl
@[simp] theorem R.seq_rl (d : List D) (st : S) (g : S → R Fl) : (R.ok (.rl d) st).seq g = .ok (.rl d) st := rfl
@[simp] theorem R.seq_bk (st : S) (g : S → R Fl) : (R.ok .bk st).seq g = .ok .bk st := rfl
@[simp] theorem R.seq_ct (st : S) (g : S → R Fl) : (R.ok .ct st).seq g = .ok .ct st := rfl
@[simp] theorem R.seq_exc (c : Str) (st : S) (g : S → R Fl) : (R.exc c st : R Fl).seq g = .exc c st := rfl
@[simp] theorem R.seq_bad (g : S → R Fl) : (R.bad : R Fl).seq g = .bad := rfl
@[simp] theorem R.turn_nx (st : S) (g : S → R Fl) : (R.ok .nx st).turn g = g st := rfl
@[simp] theorem R.turn_rt (d : D) (st : S) (g : S → R Fl) : (R.ok (.rt d) st).turn g = .ok (.rt d) st := rfl
@[simp] theorem R.turn_rl (d : List D) (st : S) (g : S → R Fl) : (R.ok (.rl d) st).turn g = .ok (.rl d) st := rfl
@[simp] theorem R.turn_bk (st : S) (g : S → R Fl) : (R.ok .bk st).turn g = .ok .nx st := rfl
@[simp] theorem R.turn_ct (st : S) (g : S → R Fl) : (R.ok .ct st).turn g = g st := rfl
@[simp] theorem R.turn_exc (c : Str) (st : S) (g : S → R Fl) : (R.exc c st : R Fl).turn g = .exc c st := rfl
@[simp] theorem R.turn_bad (g : S → R Fl) : (R.bad : R Fl).turn g = .bad := rfl
theorem R.seq_congr {r r' : R Fl} {g : S → R Fl} (h : r = r') : r.seq g = r'.seq g := by rw [h]
theorem R.turn_congr {r r' : R Fl} {g : S → R Fl} (h : r = r') : r.turn g = r'.turn g := by rw [h]
def xSeq (f g : Sm) : Sm := fun st => (f st).seq g
theorem ds_nil : DSs X W [] xNx := PSs.imp pss_nil fun Dn σ H ⟨B0, H0, B, ba, st, rel, h⟩ => h.nx rel
theorem seq_read {K : PySem.W.Frag} {mg : Str → Option Value} {f g : Sm} (Dn : Ends) (σ : St) (H : Hp) (h : tS K mg W (xSeq f g) Dn σ H) : tSeq (tS K mg W f) (tS K mg W g) Dn σ H := by
  obtain ⟨B0, H0, B, ba, st, rel, h⟩ := h
  refine ⟨B0, H0, B, ba, st, rel, ?_⟩
  unfold xSeq at h
  cases e : f st with
  | ok a st1 =>
    rw [e] at h
    cases a with
    | nx => exact fun σ' B' H' s' rel' => ⟨B0, H0, B', ba, st1, rel', PostS.mono s' h⟩
    | bk => exact h
    | ct => exact h
    | rt d => exact h
    | rl ds => exact h
  | exc c st1 => rw [e] at h; exact h
  | bad => rw [e] at h; exact h
theorem ds_cons {f g : Sm} (h1 : DS X W s1 f) (h2 : DSs X W rest g) : DSs X W (s1 :: rest) (xSeq f g) := PSs.imp (pss_cons h1 h2) seq_read
theorem ds_one {f : Sm} (h1 : DS X W s1 f) : DSs X W [s1] f := pss_one h1

/-! ### slots -/
def setV (i : Nat) (d : D) (st : S) : S := ⟨st.env.set i (some (.val d)), st.box⟩
def setO (i : Nat) (ds : List D) (st : S) : S := ⟨st.env.set i (some (.own ds)), st.box⟩
section
variable {K : PySem.W.Frag} {B0 H0 B H : Hp} {σ : St} {ba : Option Addr} {st : S}
theorem set_get {α : Type} {l : List (Option α)} {i j : Nat} {x y : α} (h : (l.set i (some x))[j]? = some (some y)) : (j = i ∧ i < l.length ∧ y = x) ∨ (j ≠ i ∧ l[j]? = some (some y)) := by
  by_cases e : j = i
  · subst e
    by_cases hl : j < l.length
    · rw [List.getElem?_set_self hl] at h
      cases h
      exact .inl ⟨rfl, hl, rfl⟩
    · rw [List.getElem?_eq_none (by simpa using hl)] at h
      cases h
  · rw [List.getElem?_set_ne (Ne.symm e)] at h
    exact .inr ⟨e, h⟩
theorem Rel.setV (r : Rel K B0 H0 B σ H ba st) {i : Nat} {v : V} {d : D} (h : Rp K B v d) : Rel K B0 H0 B (σ.set i (some v)) H ba (setV i d st) := by
  refine ⟨r.stp, r.sub, r.box, r.bal, by simp [DM.setV, r.len], fun j s e => ?_, fun j k ds es w e1 e2 e3 e4 => ?_⟩
  · rcases set_get e with ⟨rfl, hl, rfl⟩ | ⟨hj, e⟩
    · exact ⟨v, List.getElem?_set_self (by rw [r.len]; exact hl), h⟩
    · obtain ⟨w, q1, q2⟩ := r.env j s e
      exact ⟨w, by rw [List.getElem?_set_ne (Ne.symm hj)]; exact q1, q2⟩
  · rcases set_get e1 with ⟨_, _, z⟩ | ⟨hj, e1⟩
    · cases z
    rcases set_get e2 with ⟨_, _, z⟩ | ⟨hk, e2⟩
    · cases z
    rw [List.getElem?_set_ne (Ne.symm hj)] at e3
    rw [List.getElem?_set_ne (Ne.symm hk)] at e4
    exact r.dist j k ds es w e1 e2 e3 e4
theorem Rel.setO (r : Rel K B0 H0 B σ H ba st) {i : Nat} {v : V} {ds : List D} (h : Fresh K H0 B σ H ba st v ds) : Rel K B0 H0 B (σ.set i (some v)) H ba (setO i ds st) := by
  obtain ⟨a, vs, rfl, f1, f2, f3, f4, f5, f6⟩ := h
  refine ⟨r.stp, r.sub, r.box, r.bal, by simp [DM.setO, r.len], fun j s e => ?_, fun j k ds' es w e1 e2 e3 e4 => ?_⟩
  · rcases set_get e with ⟨rfl, hl, rfl⟩ | ⟨hj, e⟩
    · exact ⟨.ref a, List.getElem?_set_self (by rw [r.len]; exact hl), a, vs, rfl, f1, f2, f3, f4, f5⟩
    · obtain ⟨w, q1, q2⟩ := r.env j s e
      exact ⟨w, by rw [List.getElem?_set_ne (Ne.symm hj)]; exact q1, q2⟩
  · rcases set_get e1 with ⟨rfl, hl, z⟩ | ⟨hj, e5⟩
    · rw [List.getElem?_set_self (by rw [r.len]; exact hl)] at e3
      cases e3
      rcases set_get e2 with ⟨rfl, _, _⟩ | ⟨hk, e2⟩
      · rfl
      · rw [List.getElem?_set_ne (Ne.symm hk)] at e4
        exact absurd e4 (f6 k es e2)
    · rw [List.getElem?_set_ne (Ne.symm hj)] at e3
      rcases set_get e2 with ⟨rfl, hl, _⟩ | ⟨hk, e2⟩
      · rw [List.getElem?_set_self (by rw [r.len]; exact hl)] at e4
        cases e4
        exact absurd e3 (f6 j ds' e5)
      · rw [List.getElem?_set_ne (Ne.symm hk)] at e4
        exact r.dist j k ds' es w e5 e2 e3 e4
end

/-! ### targets -/
def Alter (is : List Nat) (σ σ' : St) : Prop := σ'.length = σ.length ∧ ∀ (j : Nat), j ∉ is → σ'[j]? = σ[j]?
def tGt (K : PySem.W.Frag) (is : List Nat) (put : D → S → Option S) : TG := fun v σ H Q => ∃ B0 H0 B ba st d st', Rel K B0 H0 B σ H ba st ∧ Rp K B v d ∧ put d st = some st' ∧ ∀ σ', Alter is σ σ' → Rel K B0 H0 B σ' H ba st' → Q σ' H
def DG (X : Cx) (tg : Expr) (is : List Nat) (put : D → S → Option S) : Prop := PG X tg (tGt X.K is put)
theorem PG.imp {tg : Expr} {t t' : TG} (h : PG X tg t) (i : ∀ v σ H Q, t' v σ H Q → t v σ H Q) : PG X tg t' := ⟨fun pins s σ H v u Q I r q => h.run pins s σ H v u Q I r (i v σ H Q q)⟩
def pN (i : Nat) : D → S → Option S := fun d st => some (setV i d st)
theorem dg_name {i : Nat} {x : Str} (hN : X.N.Nodup) (hi : X.N[i]? = some x := by rfl) (hx : Loc X.env.scope x := by first | exact Or.inl rfl | exact Or.inr rfl) (hf : X.fn x = true ∨ X.env.scope.names.lookup x = some .local := by first | exact .inl rfl | exact .inr rfl | assumption) : DG X (.Name x pos) [i] (pN i) := by
  refine PG.imp (pg_name hN hi hx hf) fun v σ H Q ⟨B0, H0, B, ba, st, d, st', rel, rp, e, q⟩ => ?_
  cases e
  exact q _ ⟨by simp, fun j hj => List.getElem?_set_ne (fun z => hj (by simp [z]))⟩ (rel.setV rp)
/-- names in a row -/
def putM : List Nat → List D → S → Option S
  | [], [], st => some st
  | i :: is, d :: ds, st => putM is ds (setV i d st)
  | _, _, _ => none
def tGs (K : PySem.W.Frag) (is : List Nat) : TGs := fun vs σ H Q => ∃ B0 H0 B ba st ds st', Rel K B0 H0 B σ H ba st ∧ RpA K B vs ds ∧ putM is ds st = some st' ∧ ∀ σ', Alter is σ σ' → Rel K B0 H0 B σ' H ba st' → Q σ' H
def DGs (X : Cx) (ts : List Expr) (is : List Nat) : Prop := PGs X ts (tGs X.K is)
theorem dgs_nil : DGs X [] [] := ⟨fun pins s σ H vs us Q I r ⟨B0, H0, B, ba, st, ds, st', rel, ra, e, q⟩ => by
  cases ds with
  | cons d ds => cases e
  | nil =>
    cases e
    cases ra
    exact pgs_nil.run pins s σ H [] us Q I r ⟨rfl, q σ ⟨rfl, fun _ _ => rfl⟩ rel⟩⟩
theorem dgs_cons {i : Nat} {is : List Nat} {x : Str} {p : Pos} {ts : List Expr} (hN : X.N.Nodup) (h2 : DGs X ts is) (hi : X.N[i]? = some x := by rfl) (hx : Loc X.env.scope x := by first | exact Or.inl rfl | exact Or.inr rfl) (hf : X.fn x = true ∨ X.env.scope.names.lookup x = some .local := by first | exact .inl rfl | exact .inr rfl | assumption)
    (hs : (assignEach (.Name x p :: ts) X.env).map (·.2) = assign (.Name x p) X.env :: (assignEach ts X.env).map (·.2) := by rfl) : DGs X (.Name x p :: ts) (i :: is) := ⟨fun pins s σ H vs us Q I r ⟨B0, H0, B, ba, st, ds, st', rel, ra, e, q⟩ => by
  cases ds with
  | nil => cases e
  | cons d ds =>
    cases ra with
    | cons r1 r2 =>
      refine (pgs_cons (pg_name hN hi hx hf) h2 hs).run pins s σ H _ us Q I r ⟨_, _, rfl, B0, H0, B, ba, _, ds, st', rel.setV r1, r2, e, fun σ' al r' => q σ' ⟨by rw [al.1]; simp, fun j hj => by rw [al.2 j (fun z => hj (by simp [z])), List.getElem?_set_ne (fun z => hj (by simp [z]))]⟩ r'⟩⟩
def pT (is : List Nat) : D → S → Option S := fun d st => match d with
  | .tuple ds => putM is ds st
  | _ => none
theorem putM_len : ∀ {is : List Nat} {ds : List D} {st st' : S}, putM is ds st = some st' → ds.length = is.length
  | [], [], _, _, _ => rfl
  | i :: is, d :: ds, st, st', h => by simp [putM_len (is := is) (ds := ds) h]
  | [], _ :: _, _, _, h => by cases h
  | _ :: _, [], _, _, h => by cases h
theorem dg_tup {k : Nat} {ts : List Expr} {is : List Nat} (h : DGs X ts is) (hc : X.calm = true := by rfl)
    (hn : (assignEach ts X.env).length = is.length := by rfl) (hst : (assignEach ts X.env).findIdx? (·.1) = none := by rfl) : DG X (.Tuple ts k pos) is (pT is) := by
  refine PG.imp (pg_tup hc h hn hst) fun v σ H Q ⟨B0, H0, B, ba, st, d, st', rel, rp, e, q⟩ => ?_
  cases d <;> simp only [pT] at e <;> first | cases e | skip
  obtain ⟨a, xs, rfl, h1, h2⟩ := rp.tup_inv
  exact ⟨a, xs, rfl, seqT_same (H := B) rel.sub h1, by rw [h2.len, putM_len e], B0, H0, B, ba, st, _, st', rel, h2, e, q⟩

/-! ### assignments, returns, ifs -/
def xAsg (put : D → S → Option S) (g : E) : Sm := fun st => (g st).bind fun d st => (lift (put d st) st).bind fun st' _ => .ok .nx st'
theorem ds_asg {tg : Expr} {is : List Nat} {put : D → S → Option S} {g : E} (he : DE X W e g) (hg : DG X tg is put) (hs : swapsWithSole [tg] e pos.line X.env = pure false := by rfl) (hw : swappedStores [tg] e X.env = pure none := by rfl)
    (h1 : (assignEach [tg] X.env).map (·.2) = [assign tg X.env] := by rfl) : DS X W (.Assign [tg] e pos) (xAsg put g) := by
  refine PS.imp (ps_asg he hg hs hw h1) fun Dn σ H ⟨B0, H0, B, ba, st, rel, h⟩ => ⟨B0, H0, B, ba, st, rel, (Post.bindS h).imp fun v H1 ⟨B1, st1, d, s1, rel1, v1, h2⟩ => ?_⟩
  cases e : put d st1 with
  | none => rw [e] at h2; exact h2.elim
  | some st' =>
    rw [e] at h2
    exact ⟨B0, H0, B1, ba, st1, d, st', rel1, v1, e, fun σ' _ r' => h2.nx r'⟩
def xSet (i : Nat) (g : E) : Sm := fun st => (g st).bind fun d st => .ok .nx (setV i d st)
theorem ds_set {i : Nat} {x : Str} {g : E} {pos' : Pos} (hN : X.N.Nodup) (he : DE X W e g) (hi : X.N[i]? = some x := by rfl) (hx : Loc X.env.scope x := by first | exact Or.inl rfl | exact Or.inr rfl) (hs : swapsWith e (some (.Name x pos')) pos.line X.env = pure false := by rfl) (hf : X.fn x = true ∨ X.env.scope.names.lookup x = some .local := by first | exact .inl rfl | exact .inr rfl | assumption) :
    DS X W (.Assign [.Name x pos'] e pos) (xSet i g) := by
  refine PS.imp (ps_set hN hi hx he hs hf) fun Dn σ H ⟨B0, H0, B, ba, st, rel, h⟩ => ⟨B0, H0, B, ba, st, rel, (Post.bindS h).imp fun v H1 ⟨B1, st1, d, s1, rel1, v1, h2⟩ => ?_⟩
  exact h2.nx (rel1.setV v1)
/-- a fresh list given to a name that will change it -/
def xNew (i : Nat) (g : EF) : Sm := fun st => (g st).bind fun ds st => .ok .nx (setO i ds st)
theorem ds_new {i : Nat} {x : Str} {g : EF} {pos' : Pos} (hN : X.N.Nodup) (he : DF X W e g) (hi : X.N[i]? = some x := by rfl) (hx : Loc X.env.scope x := by first | exact Or.inl rfl | exact Or.inr rfl) (hs : swapsWith e (some (.Name x pos')) pos.line X.env = pure false := by rfl) (hf : X.fn x = true ∨ X.env.scope.names.lookup x = some .local := by first | exact .inl rfl | exact .inr rfl | assumption) :
    DS X W (.Assign [.Name x pos'] e pos) (xNew i g) := by
  refine PS.imp (ps_set hN hi hx he hs hf) fun Dn σ H ⟨B0, H0, B, ba, st, rel, h⟩ => ⟨B0, H0, B, ba, st, rel, (Post.bindS h).imp fun v H1 ⟨B1, st1, d, s1, rel1, v1, h2⟩ => ?_⟩
  exact h2.nx (rel1.setO v1)
/-- a, b = x, y -/
def xPar (i j : Nat) (ga gb : E) : Sm := fun st => (ga st).bind fun x st => (gb st).bind fun y st => .ok .nx (setV j y (setV i x st))
theorem ds_par {i j : Nat} {x y : Str} {ga gb : E} {px py pt : Pos} {kt k2 pt2} (hN : X.N.Nodup) (hij : i ≠ j) (ha : DE X W a ga) (hb : DE X W b gb)
    (hi : X.N[i]? = some x := by rfl) (hj : X.N[j]? = some y := by rfl) (hx : X.env.scope.names.lookup x = some .local := by rfl) (hy : X.env.scope.names.lookup y = some .local := by rfl) (hc : X.calm = true := by rfl)
    (hw : swappedStores [.Tuple [.Name x px, .Name y py] kt pt] (.Tuple [a, b] k2 pt2) X.env = pure (some [x, y]) := by rfl)
    (hs : swapsWithSole [.Tuple [.Name x px, .Name y py] kt pt] (.Tuple [a, b] k2 pt2) pos.line X.env = pure false := by rfl)
    (h1 : starEach [a, b] X.env = (false, eval a X.env) :: starEach [b] X.env := by rfl) (h2 : starEach [b] X.env = (false, eval b X.env) :: starEach [] X.env := by rfl) :
    DS X W (.Assign [.Tuple [.Name x px, .Name y py] kt pt] (.Tuple [a, b] k2 pt2) pos) (xPar i j ga gb) := by
  refine PS.imp (ps_par hc hN hi hj hij hx hy (da_cons ha (da_cons hb da_nil h2) h1) hw hs) fun Dn σ H ⟨B0, H0, B, ba, st, rel, h⟩ => ?_
  show tG _ _ _ _ _ σ H _
  refine ⟨B0, H0, B, ba, st, rel, ?_⟩
  unfold xPar at h
  unfold xCons xNil
  cases e1 : ga st with
  | bad => rw [e1] at h; exact h.elim
  | exc c st1 => rw [e1] at h; exact fun B' H' s' rel' => h σ B' H' s' rel'
  | ok d st1 =>
    rw [e1] at h
    simp only [R.bind_ok] at h ⊢
    cases e2 : gb st1 with
    | bad => rw [e2] at h; exact h.elim
    | exc c st2 => rw [e2] at h; exact fun B' H' s' rel' => h σ B' H' s' rel'
    | ok d2 st2 =>
      rw [e2] at h
      simp only [R.bind_ok] at h ⊢
      intro vs B' H' s' rel' ra
      have ra : RpA X.K B' vs [d, d2] := ra
      cases ra with
      | cons r1 r2 =>
        cases r2 with
        | cons r2 r3 =>
          cases r3
          exact ⟨_, _, rfl, h _ B' H' s' ((rel'.setV r1).setV r2)⟩
def xRet (g : E) : Sm := fun st => (g st).bind fun d st => .ok (.rt d) st
theorem ds_ret {g : E} (he : DE X W e g) : DS X W (.Return (some e) pos) (xRet g) := by
  refine PS.imp (ps_ret he) fun Dn σ H ⟨B0, H0, B, ba, st, rel, h⟩ => ⟨B0, H0, B, ba, st, rel, (Post.bindS h).imp fun v H1 ⟨B1, st1, d, s1, rel1, v1, h2⟩ => ?_⟩
  exact h2 σ v B1 H1 (Same.refl _) rel1 v1
def xRetF (g : EF) : Sm := fun st => (g st).bind fun d st => .ok (.rl d) st
theorem ds_retF {g : EF} (he : DF X W e g) : DS X W (.Return (some e) pos) (xRetF g) := by
  refine PS.imp (ps_ret he) fun Dn σ H ⟨B0, H0, B, ba, st, rel, h⟩ => ⟨B0, H0, B, ba, st, rel, (Post.bindS h).imp fun v H1 ⟨B1, st1, d, s1, rel1, v1, h2⟩ => ?_⟩
  exact h2 σ v B1 H1 (Same.refl _) rel1 v1
def xIf (t : ET) (f g : Sm) : Sm := fun st => (t st).bind fun b st => if b then f st else g st
theorem ds_if {c : Expr} {sa sb : List Stmt} {t : ET} {f g : Sm} (hc : DT X W c t) (ha : DSs X W sa f) (hb : DSs X W sb g) : DS X W (.If c sa sb pos) (xIf t f g) := by
  refine PS.imp (ps_if hc ha hb) fun Dn σ H ⟨B0, H0, B, ba, st, rel, h⟩ => ⟨B0, H0, B, ba, st, rel, (Post.bindS h).imp fun v H1 ⟨B1, st1, d, s1, rel1, v1, h2⟩ => ?_⟩
  obtain rfl : d = v := v1
  cases d with
  | true => exact ⟨B0, H0, B1, ba, st1, rel1, h2⟩
  | false => exact ⟨B0, H0, B1, ba, st1, rel1, h2⟩
def xDrop (g : E) : Sm := fun st => (g st).bind fun _ st => .ok .nx st
theorem ds_expr {g : E} (he : DE X W e g) (hs : swapsWith e none pos.line X.env = pure false := by rfl) : DS X W (.Expr e pos) (xDrop g) := by
  refine PS.imp (ps_expr he hs) fun Dn σ H ⟨B0, H0, B, ba, st, rel, h⟩ => ⟨B0, H0, B, ba, st, rel, (Post.bindS h).imp fun v H1 ⟨B1, st1, d, s1, rel1, v1, h2⟩ => ?_⟩
  exact h2.nx rel1
theorem ds_pass : DS X W (.Pass pos) xNx := PS.imp ps_pass fun Dn σ H ⟨B0, H0, B, ba, st, rel, h⟩ => h.nx rel
def xBk : Sm := fun st => .ok .bk st
def xCt : Sm := fun st => .ok .ct st
theorem ds_break : DS X W (.Break pos) xBk := PS.imp ps_break fun Dn σ H ⟨B0, H0, B, ba, st, rel, h⟩ => h σ B H (Same.refl _) rel
theorem ds_continue : DS X W (.Continue pos) xCt := PS.imp ps_continue fun Dn σ H ⟨B0, H0, B, ba, st, rel, h⟩ => h σ B H (Same.refl _) rel

/-! ### while -/
def whileN (t : ET) (f : Sm) : Nat → Sm
  | 0, _ => .bad
  | n + 1, st => (t st).bind fun b st => if b then (f st).turn (whileN t f n) else .ok .nx st
@[irreducible] def FUEL : Nat := 2 ^ 1000000
def xWhile (t : ET) (f : Sm) : Sm := whileN t f FUEL
theorem ds_while {c : Expr} {body : List Stmt} {t : ET} {f : Sm} (hp : PassesOwn (model X.prog X.w) X.A X.env X.xe) (hc : DT X W c t) (hb : DSs X W body f) : DS X W (.While c body [] pos) (xWhile t f) := by
  refine PS.imp (ps_while hp hc hb) fun Dn σ H ⟨B0, H0, B, ba, st, rel, h⟩ => ?_
  refine ⟨fun m σ H => ∃ B' st, Same B B' ∧ Rel X.K B0 H0 B' σ H ba st ∧ PostS X.K X.mg W B0 H0 B' ba Dn (whileN t f m st), ⟨FUEL, B, st, Same.refl _, rel, h⟩, ?_⟩
  rintro m σ H ⟨B', st, s0, rel, h⟩
  cases m with
  | zero => exact h.elim
  | succ m =>
    refine ⟨B0, H0, B', ba, st, rel, (Post.bindS (show PostS X.K X.mg W B0 H0 B' ba Dn ((t st).bind _) from h)).imp fun v H1 ⟨B1, st1, d, s1, rel1, v1, h2⟩ => ?_⟩
    obtain rfl : d = v := v1
    cases d with
    | false => exact h2.nx rel1
    | true =>
      refine ⟨fun σ' H' => ∃ B' st, Same B B' ∧ Rel X.K B0 H0 B' σ' H' ba st ∧ PostS X.K X.mg W B0 H0 B' ba Dn (whileN t f m st), fun σ' H' q => ⟨m, Nat.lt_succ_self m, q⟩, B0, H0, B1, ba, st1, rel1, ?_⟩
      simp only [if_true] at h2
      cases e : f st1 with
      | bad => rw [e] at h2; exact h2
      | exc c st2 => rw [e] at h2; exact h2
      | ok a st2 =>
        rw [e] at h2
        cases a with
        | nx => exact fun σ' B2 H' s' rel' => ⟨B2, st2, (s0.trans s1).trans s', rel', PostS.mono s' h2⟩
        | ct => exact fun σ' B2 H' s' rel' => ⟨B2, st2, (s0.trans s1).trans s', rel', PostS.mono s' h2⟩
        | bk => exact h2
        | rt d => exact h2
        | rl ds => exact h2

/-! ### what is walked -/
def Yld (K : PySem.W.Frag) (J : It) (ds : List D) (B : Hp) : Prop := ∀ B' H', Same B B' → SubH B' H' → ∀ (i : Nat),
  (∀ d, ds[i]? = some d → J.go i H' ∧ ∀ x H2, J.yld i H' x H2 → ∃ B2, Grow B' H' B2 H2 ∧ Rp K B2 x d) ∧ (ds.length ≤ i → J.stop i H')
def vI (K : PySem.W.Frag) : VR (List D) It := fun ds J c => Yld K J ds c.B
def DI (X : Cx) (W : WX) (tg iter : Expr) (g : EA) : Prop := PI X tg iter (tG X.K X.mg W (vI X.K) g)
theorem PI.imp {tg iter : Expr} {t t' : TI} (h : PI X tg iter t) (i : ∀ σ H Q, t' σ H Q → t σ H Q) : PI X tg iter t' := ⟨fun pins s σ H Q I q => h.run pins s σ H Q I (i σ H Q q)⟩
def forL (put : D → S → Option S) (f : Sm) : List D → Sm
  | [], st => .ok .nx st
  | d :: ds, st => match put d st with
    | none => .bad
    | some st1 => (f st1).turn (forL put f ds)
def xFor (gi : EA) (put : D → S → Option S) (f : Sm) : Sm := fun st => (gi st).bind fun ds st => forL put f ds st
theorem ds_for {tg iter : Expr} {body : List Stmt} {gi : EA} {is : List Nat} {put : D → S → Option S} {f : Sm} (hp : PassesOwn (model X.prog X.w) X.A X.env X.xe) (hi : DI X W tg iter gi) (hg : DG X tg is put) (hb : DSs X W body f) (hc : X.calm = true := by rfl)
    (hs : ∀ x, foldedSetIterable iter X.env x = pure x := by intro _; rfl) : DS X W (.For tg iter body [] pos) (xFor gi put f) := by
  refine PS.imp (ps_for hp hc hi hg hb hs) fun Dn σ H ⟨B0, H0, B, ba, st, rel, h⟩ => ⟨B0, H0, B, ba, st, rel, (Post.bindS h).imp fun J H1 ⟨B1, st1, ds, s1, rel1, v1, h2⟩ => ?_⟩
  have v1 : Yld X.K J ds B1 := v1
  refine ⟨fun i m σ H => m = ds.length - i ∧ i ≤ ds.length ∧ ∃ B' st, Same B1 B' ∧ Rel X.K B0 H0 B' σ H ba st ∧ PostS X.K X.mg W B0 H0 B' ba Dn (forL put f (ds.drop i) st), ⟨ds.length, by simp, Nat.zero_le _, B1, st1, Same.refl _, rel1, by simpa using h2⟩, ?_⟩
  rintro i m σ H ⟨rfl, hle, B', st, s0, rel, h⟩
  obtain ⟨go, stop⟩ := v1 B' H s0 rel.sub i
  by_cases hi : i < ds.length
  · have hd : ds[i]? = some ds[i] := List.getElem?_eq_getElem hi
    rw [List.drop_eq_getElem_cons hi] at h
    obtain ⟨g1, g2⟩ := go _ hd
    refine .inr ⟨g1, fun σ' H' => ∃ B' st, Same B1 B' ∧ Rel X.K B0 H0 B' σ' H' ba st ∧ PostS X.K X.mg W B0 H0 B' ba Dn (forL put f (ds.drop (i + 1)) st), fun σ' H' q => ⟨ds.length - (i + 1), by omega, rfl, hi, q⟩, fun x H' y => ?_⟩
    obtain ⟨B2, gr, rp⟩ := g2 x H' y
    obtain ⟨rel2, s2⟩ := rel.grow gr
    unfold forL at h
    cases e : put ds[i] st with
    | none => rw [e] at h; exact h.elim
    | some st' =>
      rw [e] at h
      refine ⟨B0, H0, B2, ba, st, ds[i], st', rel2, rp, e, fun σ' _ rel' => ⟨B0, H0, B2, ba, st', rel', ?_⟩⟩
      have h := PostS.mono s2 h
      simp only at h
      cases e : f st' with
      | bad => rw [e] at h; exact h
      | exc c st2 => rw [e] at h; exact h
      | ok a st2 =>
        rw [e] at h
        cases a with
        | nx => exact fun σ' B3 H' s' rel' => ⟨B3, st2, (s0.trans s2).trans s', rel', PostS.mono s' h⟩
        | ct => exact fun σ' B3 H' s' rel' => ⟨B3, st2, (s0.trans s2).trans s', rel', PostS.mono s' h⟩
        | bk => exact h
        | rt d => exact h
        | rl ds => exact h
  · have e : ds.drop i = [] := List.drop_eq_nil_of_le (by omega)
    rw [e] at h
    exact .inl ⟨stop (by omega), h.nx rel⟩
end
end DM
/-! Part 5: defs and their calls; comprehensions. -/
namespace DM
open PySem L2

structure After (K : PySem.W.Frag) (ba : Option Addr) (B H B' H' : Hp) (bx : Option (List D)) : Prop where
  stp : Step ba B H B' H'
  sub : SubH B' H'
  box : BoxR K B' H' ba bx
def PostF (K : PySem.W.Frag) (mg : Str → Option Value) (B H : Hp) (ba : Option Addr) (Q : VK) (Ex : XK) : R Fl → Prop
  | .ok .nx st => ∀ B' H', After K ba B H B' H' st.box → Q .non H'
  | .ok (.rt d) st => ∀ v B' H', After K ba B H B' H' st.box → Rp K B' v d → Q v H'
  | .ok (.rl ds) st => ∀ a vs B' H', After K ba B H B' H' st.box → B' a = none → H a = none → H' a = some (.lst vs) → RpA K B' vs ds → ba ≠ some a → Q (.ref a) H'
  | .ok .bk _ => False
  | .ok .ct _ => False
  | .exc c st => ∀ B' H', After K ba B H B' H' st.box → Ex (clsV mg c) none H'
  | .bad => False
def SpD (K : PySem.W.Frag) (mg : Str → Option Value) (n : Nat) (g : Sm) : Sp := fun vs H Q Ex => vs.length = n ∧ ∃ B ba st, Rel K B H B (vs.map some) H ba st ∧ PostF K mg B H ba Q Ex (g st)
def FnD (P : Program) (w : World) (K : PySem.W.Frag) (mg : Str → Option Value) (base : Heap) (k : Nat) (f : Addr) (fd : FuncData) (ps : List Str) (g : Sm) : Prop := FnOk P w K mg base (L2.CX P w) k f fd ps (SpD K mg ps.length g)
/-- a def's body, run at its arguments; n: how many other slots -/
def runB (n : Nat) (s : Sm) : Sm := fun st => s ⟨st.env ++ List.replicate n none, st.box⟩
theorem get_pad {α : Type} {l : List (Option α)} {n i : Nat} {x : α} (h : (l ++ List.replicate n none)[i]? = some (some x)) : l[i]? = some (some x) := by
  by_cases hi : i < l.length
  · rw [List.getElem?_append_left hi] at h; exact h
  · rw [List.getElem?_append_right (by omega), List.getElem?_replicate] at h
    split at h <;> cases h
theorem pad_get {α : Type} {l : List (Option α)} {n i : Nat} {x : α} (h : l[i]? = some (some x)) : (l ++ List.replicate n none)[i]? = some (some x) := by
  have hi : i < l.length := (List.getElem?_eq_some_iff.mp h).1
  rw [List.getElem?_append_left hi]; exact h
theorem fnD_of {P : Program} {w : World} {K : PySem.W.Frag} {mg : Str → Option Value} {base : Heap} {x qual : Str} {st : Stmt} {f : Addr} {fd : FuncData} {N ps : List Str} {k : Nat} {sm : Sm} (F : Fun K x qual st f fd) (Sc : FnScope N ps (defScope st))
    (hbody : ∀ (cdv : Value) (A : Around) (outer : List Env) (s : Shared) (H : Hp) (Ex : XK), Room k (A.deeper (PyProof.Rows.envOfC qual (defScope st) s.heap.objs.size f cdv)) →
      DSs (cxOf (L2.CX P w) P w K mg base N qual (defScope st) f cdv A outer s H Ex) (fun cls d _ H => Ex cls d H) (defBody st) sm) :
    FnD P w K mg base (k + 1) f fd ps (runB (N.length - ps.length) sm) := by
  refine F.okX Sc (fun vs H Q Ex h => h.1) fun cdv A outer s H vs Q Ex hr h => ⟨_, hbody cdv A outer s H Ex hr, ?_⟩
  obtain ⟨hl, B, ba, st, rel, h⟩ := h
  have e0 : L2.start N vs = vs.map some ++ List.replicate (N.length - ps.length) none := by unfold L2.start; rw [hl]
  show tS K mg _ sm _ (L2.start N vs) H
  rw [e0]
  refine ⟨B, H, B, ba, ⟨st.env ++ List.replicate (N.length - ps.length) none, st.box⟩, ⟨rel.stp, rel.sub, rel.box, rel.bal, by have := rel.len; simp at this ⊢; omega, fun i s e => ?_, fun i j ds es v e1 e2 e3 e4 => ?_⟩, ?_⟩
  · obtain ⟨v, q1, q2⟩ := rel.env i s (get_pad e)
    exact ⟨v, pad_get q1, q2⟩
  · exact rel.dist i j ds es v (get_pad e1) (get_pad e2) (get_pad e3) (get_pad e4)
  · unfold runB at h
    cases e : sm ⟨st.env ++ List.replicate (N.length - ps.length) none, st.box⟩ with
    | bad => rw [e] at h; exact h
    | exc c st' => rw [e] at h; exact fun σ B' H' s' r' => h B' H' ⟨r'.stp, r'.sub, r'.box⟩
    | ok a st' =>
      rw [e] at h
      cases a with
      | nx => exact fun σ B' H' s' r' => h B' H' ⟨r'.stp, r'.sub, r'.box⟩
      | bk => exact h.elim
      | ct => exact h.elim
      | rt d => exact fun σ v B' H' s' r' q => h v B' H' ⟨r'.stp, r'.sub, r'.box⟩ q
      | rl ds =>
        intro σ v B' H' s' r' ⟨a, vs', e', f1, f2, f3, f4, f5, _⟩
        subst e'
        exact h a vs' B' H' ⟨r'.stp, r'.sub, r'.box⟩ f1 f2 f3 f4 f5

/-! ### arguments: data, or a list that may be changed -/
inductive Ag where
  | v (d : D)
  | c (i : Nat)
  | s (ns : List Int)
def Ag.sl : Ag → Option Sl
  | .v d => some (.val d)
  | .c _ => some .box
  | .s ns => some (.scr ns)
def Ag.cs : List Ag → List Nat
  | [] => []
  | .v _ :: r => Ag.cs r
  | .c i :: r => i :: Ag.cs r
  | .s _ :: r => Ag.cs r
inductive AgR (K : PySem.W.Frag) (B : Hp) (σ : St) : List V → List Ag → Prop
  | nil : AgR K B σ [] []
  | v {x : V} {d : D} {xs : List V} {as : List Ag} : Rp K B x d → AgR K B σ xs as → AgR K B σ (x :: xs) (.v d :: as)
  | c {x : V} {i : Nat} {xs : List V} {as : List Ag} : σ[i]? = some (some x) → AgR K B σ xs as → AgR K B σ (x :: xs) (.c i :: as)
  | s {a : Addr} {ns : List Int} {xs : List V} {as : List Ag} : SqL K B a (ns.map V.int) → AgR K B σ xs as → AgR K B σ (.ref a :: xs) (.s ns :: as)
theorem AgR.mono {K : PySem.W.Frag} {B B' : Hp} {σ : St} (s : Same B B') : ∀ {as : List Ag} {xs : List V}, AgR K B σ xs as → AgR K B' σ xs as
  | [], _, h => by cases h; exact .nil
  | .v d :: as, _, h => by
    cases h with
    | v h1 h2 => exact .v (Rp.mono s h1) (AgR.mono s h2)
  | .c i :: as, _, h => by
    cases h with
    | c h1 h2 => exact .c h1 (AgR.mono s h2)
  | .s i :: as, _, h => by
    cases h with
    | s h1 h2 => exact .s (s.seq h1) (AgR.mono s h2)
theorem AgR.len {K : PySem.W.Frag} {B : Hp} {σ : St} : ∀ {as : List Ag} {xs : List V}, AgR K B σ xs as → xs.length = as.length
  | [], _, h => by cases h; rfl
  | .v d :: as, _, h => by
    cases h with
    | v h1 h2 => simp [AgR.len h2]
  | .c i :: as, _, h => by
    cases h with
    | c h1 h2 => simp [AgR.len h2]
  | .s i :: as, _, h => by
    cases h with
    | s h1 h2 => simp [AgR.len h2]
theorem AgR.slots {K : PySem.W.Frag} {B : Hp} {σ : St} : ∀ {as : List Ag} {xs : List V}, AgR K B σ xs as → ∀ (i : Nat) (w : Sl), (as.map Ag.sl)[i]? = some (some w) →
    ∃ x, (xs.map some)[i]? = some (some x) ∧ ((∃ d, w = .val d ∧ Rp K B x d) ∨ (∃ j, w = .box ∧ j ∈ Ag.cs as ∧ σ[j]? = some (some x)) ∨ ∃ ns, w = .scr ns ∧ ∃ a, x = .ref a ∧ SqL K B a (ns.map V.int))
  | [], _, h, i, w, e => by simp at e
  | .v d :: as, _, h, i, w, e => by
    cases h with
    | v h1 h2 =>
      cases i with
      | zero =>
        simp [Ag.sl] at e
        subst e
        exact ⟨_, rfl, .inl ⟨d, rfl, h1⟩⟩
      | succ i =>
        obtain ⟨x, q1, q2⟩ := AgR.slots h2 i w (by simpa using e)
        refine ⟨x, by simpa using q1, ?_⟩
        rcases q2 with q2 | ⟨j, q2, q3, q4⟩ | q2
        · exact .inl q2
        · exact .inr (.inl ⟨j, q2, q3, q4⟩)
        · exact .inr (.inr q2)
  | .c j :: as, _, h, i, w, e => by
    cases h with
    | c h1 h2 =>
      cases i with
      | zero =>
        simp [Ag.sl] at e
        subst e
        exact ⟨_, rfl, .inr (.inl ⟨j, rfl, by simp [Ag.cs], h1⟩)⟩
      | succ i =>
        obtain ⟨x, q1, q2⟩ := AgR.slots h2 i w (by simpa using e)
        refine ⟨x, by simpa using q1, ?_⟩
        rcases q2 with q2 | ⟨k, q2, q3, q4⟩ | q2
        · exact .inl q2
        · exact .inr (.inl ⟨k, q2, by simp [Ag.cs, q3], q4⟩)
        · exact .inr (.inr q2)
  | .s ns :: as, _, h, i, w, e => by
    cases h with
    | s h1 h2 =>
      cases i with
      | zero =>
        simp [Ag.sl] at e
        subst e
        exact ⟨_, rfl, .inr (.inr ⟨ns, rfl, _, rfl, h1⟩)⟩
      | succ i =>
        obtain ⟨x, q1, q2⟩ := AgR.slots h2 i w (by simpa using e)
        refine ⟨x, by simpa using q1, ?_⟩
        rcases q2 with q2 | ⟨k, q2, q3, q4⟩ | q2
        · exact .inl q2
        · exact .inr (.inl ⟨k, q2, by simpa [Ag.cs] using q3, q4⟩)
        · exact .inr (.inr q2)
def vG (K : PySem.W.Frag) : VR (List Ag) (List V) := fun as xs c => AgR K c.B c.σ xs as
abbrev EU := S → R (List Ag)
def DU (X : Cx) (W : WX) (es : List Expr) (g : EU) : Prop := PA X es (tG X.K X.mg W (vG X.K) g)
def cellAt (i : Nat) (st : S) : Option (List D) := match st.env[i]? with
  | some (some (.own ds)) => some ds
  | some (some .box) => st.box
  | _ => none
def setCell (i : Nat) (ds : List D) (st : S) : S := match st.env[i]? with
  | some (some (.own _)) => ⟨st.env.set i (some (.own ds)), st.box⟩
  | some (some .box) => ⟨st.env, some ds⟩
  | _ => st
section
variable {X : Cx} {W : WX} {e a b : Expr} {es : List Expr} {pos : Pos}
def uNil : EU := fun st => .ok [] st
def uV (ga : E) (gr : EU) : EU := fun st => (ga st).bind fun x st => (gr st).bind fun xs st => .ok (.v x :: xs) st
def uC (i : Nat) (gr : EU) : EU := fun st => match cellAt i st with
  | some _ => (gr st).bind fun xs st => .ok (.c i :: xs) st
  | none => .bad
theorem du_nil : DU X W [] uNil := PA.imp pa_nil fun σ H Q ⟨B0, H0, B, ba, st, rel, h⟩ => h.ok rel AgR.nil
theorem du_val {ga : E} {gr : EU} (ha : DE X W a ga) (hr : DU X W es gr) (hs : starEach (a :: es) X.env = (false, eval a X.env) :: starEach es X.env := by rfl) : DU X W (a :: es) (uV ga gr) := by
  refine PA.imp (pa_cons ha hr hs) fun σ H Q ⟨B0, H0, B, ba, st, rel, h⟩ => ⟨B0, H0, B, ba, st, rel, (Post.bind h).imp fun x H1 ⟨B1, st1, d, s1, rel1, v1, h1⟩ => ⟨B0, H0, B1, ba, st1, rel1, (Post.bind h1).imp fun y H2 ⟨B2, st2, e, s2, rel2, v2, h2⟩ => ?_⟩⟩
  exact h2.ok rel2 (AgR.v (Rp.mono s2 v1) v2)
theorem cell_val {K : PySem.W.Frag} {B0 H0 B H : Hp} {σ : St} {ba : Option Addr} {st : S} {i : Nat} {ds : List D} (r : Rel K B0 H0 B σ H ba st) (h : cellAt i st = some ds) : ∃ a vs, σ[i]? = some (some (.ref a)) ∧ B a = none ∧ H a = some (.lst vs) ∧ RpA K B vs ds ∧
    ((ba = some a ∧ st.env[i]? = some (some .box)) ∨ (ba ≠ some a ∧ H0 a = none ∧ st.env[i]? = some (some (.own ds)))) := by
  unfold cellAt at h
  split at h
  · rename_i ds' e
    cases h
    obtain ⟨v, e1, a, vs, rfl, q1, q2, q3, q4, q5⟩ := r.env i _ e
    exact ⟨a, vs, e1, q1, q3, q4, .inr ⟨q5, q2, e⟩⟩
  · rename_i e
    obtain ⟨v, e1, a, q1, rfl⟩ := r.env i _ e
    obtain ⟨a', vs, p1, p2, p3, p4⟩ := r.box ds h
    rw [q1] at p1
    cases p1
    exact ⟨a, vs, e1, p2, p3, p4, .inl ⟨q1, e⟩⟩
  · cases h
theorem du_cel {gr : EU} (i : Nat) {x : Str} {p : Pos} (hr : DU X W es gr) (hN : X.N[i]? = some x := by rfl) (hv : Vis X.env.scope x := by first | exact Or.inl rfl | exact Or.inr (Or.inl rfl) | exact Or.inr (Or.inr rfl)) (hd : (x == ("__debug__" : Str)) = false := by decide)
    (hcd : (x == ("__classdict__" : Str)) = false := by decide) (hs : starEach (.Name x p :: es) X.env = (false, eval (.Name x p) X.env) :: starEach es X.env := by rfl) : DU X W (.Name x p :: es) (uC i gr) := by
  refine PA.imp (pa_cons (pv i hN hv hd hcd) hr hs) fun σ H Q ⟨B0, H0, B, ba, st, rel, h⟩ => ?_
  unfold uC at h
  cases e : cellAt i st with
  | none => rw [e] at h; exact h.elim
  | some ds =>
    rw [e] at h
    obtain ⟨a, vs, e1, _⟩ := cell_val rel e
    exact ⟨.ref a, e1, B0, H0, B, ba, st, rel, (Post.bind h).imp fun y H2 ⟨B2, st2, e, s2, rel2, v2, h2⟩ => h2.ok rel2 (AgR.c e1 v2)⟩

/-! the law's script -/
def getS (i : Nat) (st : S) : Option (List Int) := match st.env[i]? with
  | some (some (.scr ns)) => some ns
  | _ => none
def uS (i : Nat) (gr : EU) : EU := fun st => (lift (getS i st) st).bind fun ns st => (gr st).bind fun xs st => .ok (.s ns :: xs) st
theorem scr_val {K : PySem.W.Frag} {B0 H0 B H : Hp} {σ : St} {ba : Option Addr} {st : S} {i : Nat} {ns : List Int} (r : Rel K B0 H0 B σ H ba st) (h : getS i st = some ns) : ∃ a, σ[i]? = some (some (.ref a)) ∧ SqL K B a (ns.map V.int) := by
  unfold getS at h
  split at h
  · rename_i ns' e
    cases h
    obtain ⟨v, e1, a, rfl, q⟩ := r.env i _ e
    exact ⟨a, e1, q⟩
  · cases h
theorem du_scr {gr : EU} (i : Nat) {x : Str} {p : Pos} (hr : DU X W es gr) (hN : X.N[i]? = some x := by rfl) (hv : Vis X.env.scope x := by first | exact Or.inl rfl | exact Or.inr (Or.inl rfl) | exact Or.inr (Or.inr rfl)) (hd : (x == ("__debug__" : Str)) = false := by decide)
    (hcd : (x == ("__classdict__" : Str)) = false := by decide) (hs : starEach (.Name x p :: es) X.env = (false, eval (.Name x p) X.env) :: starEach es X.env := by rfl) : DU X W (.Name x p :: es) (uS i gr) := by
  refine PA.imp (pa_cons (pv i hN hv hd hcd) hr hs) fun σ H Q ⟨B0, H0, B, ba, st, rel, h⟩ => ?_
  unfold uS at h
  cases e : getS i st with
  | none => rw [e] at h; exact h.elim
  | some ns =>
    rw [e, lift_some, R.bind_ok] at h
    obtain ⟨a, e1, e2⟩ := scr_val rel e
    exact ⟨.ref a, e1, B0, H0, B, ba, st, rel, (Post.bind h).imp fun y H2 ⟨B2, st2, e, s2, rel2, v2, h2⟩ => h2.ok rel2 (AgR.s (s2.seq e2) v2)⟩
def xLenS (i : Nat) : E := fun st => (lift (getS i st) st).bind fun ns st => .ok (.int ns.length) st
theorem de_lenS (i : Nat) {x : Str} {p p' : Pos} (hm : X.mg "len" = none) (hN : X.N[i]? = some x := by rfl) (hv : Vis X.env.scope x := by first | exact Or.inl rfl | exact Or.inr (Or.inl rfl) | exact Or.inr (Or.inr rfl)) (hd : (x == ("__debug__" : Str)) = false := by decide)
    (hcd : (x == ("__classdict__" : Str)) = false := by decide) (hg : Gl X "len" := by rfl) (hs : starEach [.Name x p'] X.env = (false, eval (.Name x p') X.env) :: starEach [] X.env := by rfl) (hpl : (backTo pos (starEach [] X.env)).any (·.1) = false := by rfl) : DE X W (.Call (.Name "len" p) [.Name x p'] [] pos) (xLenS i) := by
  refine PE.imp (pe_callB call_len_seq hg hm PySem.boot_len (pa_cons (pv i hN hv hd hcd) pa_nil hs) (by decide) (by decide) hs hpl) fun σ H Q ⟨B0, H0, B, ba, st, rel, h⟩ => ?_
  unfold xLenS at h
  cases e : getS i st with
  | none => rw [e] at h; exact h.elim
  | some ns =>
    rw [e, lift_some, R.bind_ok] at h
    obtain ⟨a, e1, e2⟩ := scr_val rel e
    have e2 : SqL X.K H a (ns.map V.int) := Same.seq (H := B) rel.sub e2
    refine ⟨.ref a, e1, a, _, rfl, .inl e2, ?_⟩
    rw [List.length_map]
    exact h.ok rel (Rp.int _)
def xIxS (i : Nat) (gb : E) : E := fun st => (lift (getS i st) st).bind fun ns st => (gb st).bind fun k st => match k with
  | .int n => lift ((atI ns n).map .int) st
  | _ => .bad
theorem atI_map {α β : Type} (f : α → β) (xs : List α) (i : Int) : atI (xs.map f) i = (atI xs i).map f := by
  unfold atI
  rw [List.length_map]
  cases ixN xs.length i with
  | none => rfl
  | some j => simp
theorem de_ixS (i : Nat) {x : Str} {p : Pos} {gb : E} (hb : DE X W b gb) (hN : X.N[i]? = some x := by rfl) (hv : Vis X.env.scope x := by first | exact Or.inl rfl | exact Or.inr (Or.inl rfl) | exact Or.inr (Or.inr rfl)) (hd : (x == ("__debug__" : Str)) = false := by decide)
    (hcd : (x == ("__classdict__" : Str)) = false := by decide) (hs : PlainIx b := by exact fun _ _ => rfl) : DE X W (.Subscript (.Name x p) b pos) (xIxS i gb) := by
  refine PE.imp (pe_ix ix_list (pv i hN hv hd hcd) hb hs) fun σ H Q ⟨B0, H0, B, ba, st, rel, h⟩ => ?_
  unfold xIxS at h
  cases e : getS i st with
  | none => rw [e] at h; exact h.elim
  | some ns =>
    rw [e, lift_some, R.bind_ok] at h
    obtain ⟨a, e1, e2⟩ := scr_val rel e
    refine ⟨.ref a, e1, B0, H0, B, ba, st, rel, (Post.bind h).imp fun y H1 ⟨B1, st1, k, s1, rel1, v1, h1⟩ => ?_⟩
    have v1 : Rp X.K B1 y k := v1
    have e3 : SqL X.K H1 a (ns.map V.int) := Same.seq (H := B1) rel1.sub (s1.seq e2)
    cases k <;> first | exact h1.elim | skip
    have ey := v1.int_inv
    subst ey
    obtain ⟨z, ez, h2⟩ := Post.lift h1
    cases ea : atI ns (_ : Int) with
    | none => rw [ea] at ez; cases ez
    | some n =>
      rw [ea] at ez
      cases ez
      exact ⟨a, _, _, .int n, rfl, rfl, e3, by rw [atI_map, ea]; rfl, h2.ok rel1 (Rp.int _)⟩

/-! ### calls -/
/-- what a def's run comes to: its answer, and the list that it may change -/
inductive Out where
  | ok (fl : Fl) (bx : Option (List D))
  | exc (c : Str) (bx : Option (List D))
  | bad
def R.out : R Fl → Out
  | .ok fl st => .ok fl st.box
  | .exc c st => .exc c st.box
  | .bad => .bad
@[simp] theorem R.out_ok (fl : Fl) (st : S) : (R.ok fl st).out = .ok fl st.box := rfl
@[simp] theorem R.out_exc (c : Str) (st : S) : (R.exc c st : R Fl).out = .exc c st.box := rfl
@[simp] theorem R.out_bad : (R.bad : R Fl).out = .bad := rfl
def ev (g : Sm) (env : List (Option Sl)) (bx : Option (List D)) : Out := (g ⟨env, bx⟩).out
def backC (i : Nat) (st : S) : Out → R Fl
  | .ok fl (some ds) => .ok fl (setCell i ds st)
  | .exc c (some ds) => .exc c (setCell i ds st)
  | _ => .bad
def back0 (st : S) : Out → R Fl
  | .ok fl _ => .ok fl st
  | .exc c _ => .exc c st
  | .bad => .bad
@[simp] theorem backC_ok (i : Nat) (st : S) (fl : Fl) (ds : List D) : backC i st (.ok fl (some ds)) = .ok fl (setCell i ds st) := rfl
@[simp] theorem backC_exc (i : Nat) (st : S) (c : Str) (ds : List D) : backC i st (.exc c (some ds)) = .exc c (setCell i ds st) := rfl
@[simp] theorem back0_ok (st : S) (fl : Fl) (bx : Option (List D)) : back0 st (.ok fl bx) = .ok fl st := rfl
@[simp] theorem back0_exc (st : S) (c : Str) (bx : Option (List D)) : back0 st (.exc c bx) = .exc c st := rfl
@[simp] theorem back0_bad (st : S) : back0 st .bad = .bad := rfl
def callG (n : Nat) (g : Sm) (ags : List Ag) (st : S) : R Fl :=
  if ags.length = n then (match Ag.cs ags with
    | [] => back0 st (ev g (ags.map Ag.sl) none)
    | [i] => (match cellAt i st with
      | some ds => backC i st (ev g (ags.map Ag.sl) (some ds))
      | none => .bad)
    | _ => .bad) else .bad
section
variable {K : PySem.W.Frag} {B0 H0 B H B' H' : Hp} {σ : St} {ba : Option Addr} {st : S} {bx : Option (List D)}
theorem Rel.after0 (r : Rel K B0 H0 B σ H ba st) (f : After K none B H B' H' bx) : Rel K B0 H0 B' σ H' ba st ∧ Same B B' := by
  have sm : Same B B' := f.stp.same
  have kp : ∀ b o, H b = some o → H' b = some o := fun b o e => f.stp.fr b o e (fun z => nomatch z)
  refine ⟨⟨⟨fun b o e => sm _ _ (r.stp.same _ _ e), fun b e n => f.stp.new b (r.stp.new b e n) (r.stp.live b n), fun b o e n => kp _ _ (r.stp.fr b o e n), fun b n => f.stp.live b (r.stp.live b n)⟩, f.sub, fun ds e => ?_, fun a e => f.stp.live a (r.bal a e), r.len, fun i s e => ?_, r.dist⟩, sm⟩
  · obtain ⟨a, vs, e1, e2, e3, e4⟩ := r.box ds e
    exact ⟨a, vs, e1, f.stp.new a e2 (by rw [e3]; exact fun z => nomatch z), kp _ _ e3, e4.mono sm⟩
  · obtain ⟨v, e1, e2⟩ := r.env i s e
    refine ⟨v, e1, ?_⟩
    cases s with
    | val d => exact Rp.mono sm e2
    | own ds =>
      obtain ⟨a, vs, q1, q2, q3, q4, q5, q6⟩ := e2
      exact ⟨a, vs, q1, f.stp.new a q2 (by rw [q4]; exact fun z => nomatch z), q3, kp _ _ q4, q5.mono sm, q6⟩
    | box => exact e2
    | scr ns => obtain ⟨a, q1, q2⟩ := e2; exact ⟨a, q1, sm.seq q2⟩
theorem Rel.afterC (r : Rel K B0 H0 B σ H ba st) {i : Nat} {a : Addr} {ds ds' : List D} (hc : cellAt i st = some ds) (ha : σ[i]? = some (some (.ref a))) (f : After K (some a) B H B' H' (some ds')) : Rel K B0 H0 B' σ H' ba (setCell i ds' st) ∧ Same B B' := by
  have sm : Same B B' := f.stp.same
  obtain ⟨a', vs, e1, e2, e3, e4, e5⟩ := cell_val r hc
  rw [e1] at ha
  cases ha
  have kp : ∀ b o, b ≠ a → H b = some o → H' b = some o := fun b o n e => f.stp.fr b o e (fun z => n (Option.some.inj z).symm)
  obtain ⟨c, ws, f1, f2, f3, f4⟩ := f.box ds' rfl
  cases f1
  have hfr : ∀ b o, H0 b = some o → ba ≠ some b → H' b = some o := fun b o e n => by
    refine kp b o (fun z => ?_) (r.stp.fr b o e n)
    subst z
    rcases e5 with ⟨z, _⟩ | ⟨_, z, _⟩
    · exact n z
    · rw [z] at e; cases e
  have hst : Step ba B0 H0 B' H' := ⟨fun b o e => sm _ _ (r.stp.same _ _ e), fun b e n => f.stp.new b (r.stp.new b e n) (r.stp.live b n), hfr, fun b n => f.stp.live b (r.stp.live b n)⟩
  rcases e5 with ⟨z, eb⟩ | ⟨z, z0, eo⟩
  · have es : setCell i ds' st = ⟨st.env, some ds'⟩ := by unfold setCell; rw [eb]
    rw [es]
    refine ⟨⟨hst, f.sub, fun es e => ?_, fun a e => f.stp.live a (r.bal a e), r.len, fun j s e => ?_, r.dist⟩, sm⟩
    · cases e
      exact ⟨a, ws, z, f2, f3, f4⟩
    · obtain ⟨v, q1, q2⟩ := r.env j s e
      refine ⟨v, q1, ?_⟩
      cases s with
      | val d => exact Rp.mono sm q2
      | own es =>
        obtain ⟨c, us, p1, p2, p3, p4, p5, p6⟩ := q2
        have hne : c ≠ a := fun y => p6 (by rw [y]; exact z)
        exact ⟨c, us, p1, f.stp.new c p2 (by rw [p4]; exact fun z => nomatch z), p3, kp _ _ hne p4, p5.mono sm, p6⟩
      | box => exact q2
      | scr ns => obtain ⟨a, q1, q2⟩ := q2; exact ⟨a, q1, sm.seq q2⟩
  · have es : setCell i ds' st = ⟨st.env.set i (some (.own ds')), st.box⟩ := by unfold setCell; rw [eo]
    have hil : i < st.env.length := (List.getElem?_eq_some_iff.mp eo).1
    rw [es]
    refine ⟨⟨hst, f.sub, fun es e => ?_, fun a e => f.stp.live a (r.bal a e), by simp [r.len], fun j s e => ?_, fun j k as bs w p1 p2 p3 p4 => ?_⟩, sm⟩
    · obtain ⟨c, us, p1, p2, p3, p4⟩ := r.box es e
      have hne : c ≠ a := fun y => z (by rw [← y]; exact p1)
      exact ⟨c, us, p1, f.stp.new c p2 (by rw [p3]; exact fun z => nomatch z), kp _ _ hne p3, p4.mono sm⟩
    · rcases set_get e with ⟨rfl, hl, rfl⟩ | ⟨hj, e⟩
      · exact ⟨.ref a, e1, a, ws, rfl, f2, z0, f3, f4, z⟩
      · obtain ⟨v, q1, q2⟩ := r.env j s e
        refine ⟨v, q1, ?_⟩
        cases s with
        | val d => exact Rp.mono sm q2
        | own es =>
          obtain ⟨c, us, p1, p2, p3, p4, p5, p6⟩ := q2
          have hne : c ≠ a := fun y => hj (r.dist j i es ds (.ref a) e eo (by rw [q1, p1, y]) e1)
          exact ⟨c, us, p1, f.stp.new c p2 (by rw [p4]; exact fun z => nomatch z), p3, kp _ _ hne p4, p5.mono sm, p6⟩
        | box => exact q2
        | scr ns => obtain ⟨a, q1, q2⟩ := q2; exact ⟨a, q1, sm.seq q2⟩
    · have key : ∀ (m : Nat) (us : List D), (st.env.set i (some (.own ds')))[m]? = some (some (.own us)) → ∃ us', st.env[m]? = some (some (.own us')) := fun m us q => by
        rcases set_get q with ⟨rfl, _, _⟩ | ⟨_, q⟩
        · exact ⟨ds, eo⟩
        · exact ⟨us, q⟩
      obtain ⟨as', p1⟩ := key j as p1
      obtain ⟨bs', p2⟩ := key k bs p2
      exact r.dist j k as' bs' w p1 p2 p3 p4
/-- the callee's state -/
theorem Rel.into0 (r : Rel K B0 H0 B σ H ba st) {ags : List Ag} {vs : List V} (h : AgR K B σ vs ags) (hc : Ag.cs ags = []) : Rel K B H B (vs.map some) H none ⟨ags.map Ag.sl, none⟩ := by
  refine ⟨Step.refl, r.sub, fun ds e => (by cases e), fun a e => (by cases e), (by simp [h.len]), fun i s e => ?_, fun i j ds es v e1 => ?_⟩
  · obtain ⟨x, q1, q2⟩ := h.slots i s e
    refine ⟨x, q1, ?_⟩
    rcases q2 with ⟨d, rfl, q⟩ | ⟨j, _, q, _⟩ | ⟨ns, rfl, q⟩
    · exact q
    · rw [hc] at q; cases q
    · exact q
  · obtain ⟨x, q1, q2⟩ := h.slots i _ e1
    rcases q2 with ⟨d, q, _⟩ | ⟨j, q, _⟩ | ⟨ns, q, _⟩ <;> cases q
theorem Rel.intoC (r : Rel K B0 H0 B σ H ba st) {ags : List Ag} {vs : List V} {j : Nat} {ds : List D} {a : Addr} (h : AgR K B σ vs ags) (hc : Ag.cs ags = [j]) (hd : cellAt j st = some ds) (ha : σ[j]? = some (some (.ref a))) :
    Rel K B H B (vs.map some) H (some a) ⟨ags.map Ag.sl, some ds⟩ := by
  obtain ⟨a', ws, e1, e2, e3, e4, _⟩ := cell_val r hd
  rw [e1] at ha
  cases ha
  refine ⟨Step.refl, r.sub, fun es e => (by cases e; exact ⟨a, ws, rfl, e2, e3, e4⟩), fun b e => (by cases e; rw [e3]; exact (fun z => nomatch z)), (by simp [h.len]), fun i s e => ?_, fun i j ds es v e1 => ?_⟩
  · obtain ⟨x, q1, q2⟩ := h.slots i s e
    refine ⟨x, q1, ?_⟩
    rcases q2 with ⟨d, rfl, q⟩ | ⟨k, rfl, q, q'⟩ | ⟨ns, rfl, q⟩
    · exact q
    · rw [hc] at q
      have : k = j := by simpa using q
      subst this
      rw [e1] at q'
      cases q'
      exact ⟨a, rfl, rfl⟩
    · exact q
  · obtain ⟨x, q1, q2⟩ := h.slots i _ e1
    rcases q2 with ⟨d, q, _⟩ | ⟨j, q, _⟩ | ⟨ns, q, _⟩ <;> cases q
end
/-- what a call hands on -/
def PostC (K : PySem.W.Frag) (mg : Str → Option Value) (W : WX) (B0 H0 B : Hp) (σ : St) (ba : Option Addr) (Q : VK) : R Fl → Prop
  | .ok .nx st => ∀ B' H', Same B B' → Rel K B0 H0 B' σ H' ba st → Q .non H'
  | .ok (.rt d) st => ∀ v B' H', Same B B' → Rel K B0 H0 B' σ H' ba st → Rp K B' v d → Q v H'
  | .ok (.rl ds) st => ∀ v B' H', Same B B' → Rel K B0 H0 B' σ H' ba st → Fresh K H0 B' σ H' ba st v ds → Q v H'
  | .ok .bk _ => False
  | .ok .ct _ => False
  | .exc c st => ∀ B' H', Same B B' → Rel K B0 H0 B' σ H' ba st → W (clsV mg c) none σ H'
  | .bad => False
theorem call_ok {K : PySem.W.Frag} {mg : Str → Option Value} {B0 H0 B H : Hp} {σ : St} {ba : Option Addr} {st : S} {n : Nat} {g : Sm} {ags : List Ag} {vs : List V} {Q : VK} (r : Rel K B0 H0 B σ H ba st) (h : AgR K B σ vs ags) (q : PostC K mg W B0 H0 B σ ba Q (callG n g ags st)) :
    SpD K mg n g vs H Q (WE W σ) := by
  unfold callG at q
  split at q
  · rename_i hn
    split at q
    · rename_i hc
      refine ⟨by rw [h.len, hn], B, none, _, r.into0 h hc, ?_⟩
      have frsh : ∀ {a : Addr} {B' H' : Hp} {ws : List V} {ds : List D}, After K none B H B' H' none → B' a = none → H a = none → H' a = some (.lst ws) → RpA K B' ws ds → Fresh K H0 B' σ H' ba st (.ref a) ds := fun {a B' H' ws ds} f z1 z2 z3 z4 =>
        ⟨a, ws, rfl, z1, (r.fresh0 z2).2, z3, z4, fun y => r.bal a y z2, fun i es e y => by
          obtain ⟨v, p1, c, us, p2, p3, p4, p5, _⟩ := r.env i _ e
          rw [p1] at y; cases y; cases p2; rw [z2] at p5; cases p5⟩
      unfold ev at q
      cases e : g ⟨ags.map Ag.sl, none⟩ with
      | bad => rw [e] at q; exact q
      | exc c st' =>
        rw [e] at q
        intro B' H' f
        obtain ⟨r', s'⟩ := r.after0 (bx := st'.box) f
        exact q B' H' s' r'
      | ok fl st' =>
        rw [e] at q
        cases fl with
        | nx => intro B' H' f; obtain ⟨r', s'⟩ := r.after0 (bx := st'.box) f; exact q B' H' s' r'
        | bk => exact q
        | ct => exact q
        | rt d => intro v B' H' f rp; obtain ⟨r', s'⟩ := r.after0 (bx := st'.box) f; exact q v B' H' s' r' rp
        | rl ds =>
          intro a ws B' H' f z1 z2 z3 z4 _
          obtain ⟨r', s'⟩ := r.after0 (bx := st'.box) f
          exact q (.ref a) B' H' s' r' (frsh ⟨f.stp, f.sub, fun ds e => by cases e⟩ z1 z2 z3 z4)
    · rename_i j hc
      split at q
      · rename_i ds hd
        obtain ⟨a, ws, e1, e2, e3, e4, e5⟩ := cell_val r hd
        refine ⟨by rw [h.len, hn], B, some a, _, r.intoC h hc hd e1, ?_⟩
        unfold ev at q
        cases e : g ⟨ags.map Ag.sl, some ds⟩ with
        | bad => rw [e] at q; exact q
        | exc c st' =>
          rw [e] at q
          simp only [R.out_ok, R.out_exc] at q
          cases eb : st'.box with
          | none => rw [eb] at q; exact q.elim
          | some ds' =>
            rw [eb] at q
            intro B' H' f
            rw [eb] at f
            obtain ⟨r', s'⟩ := r.afterC hd e1 f
            exact q B' H' s' r'
        | ok fl st' =>
          rw [e] at q
          simp only [R.out_ok, R.out_exc] at q
          cases eb : st'.box with
          | none => rw [eb] at q; exact q.elim
          | some ds' =>
            rw [eb] at q
            cases fl with
            | nx => intro B' H' f; rw [eb] at f; obtain ⟨r', s'⟩ := r.afterC hd e1 f; exact q B' H' s' r'
            | bk => exact q.elim
            | ct => exact q.elim
            | rt d => intro v B' H' f rp; rw [eb] at f; obtain ⟨r', s'⟩ := r.afterC hd e1 f; exact q v B' H' s' r' rp
            | rl es =>
              intro c us B' H' f z1 z2 z3 z4 z5
              rw [eb] at f
              obtain ⟨r', s'⟩ := r.afterC hd e1 f
              refine q (.ref c) B' H' s' r' ⟨c, us, rfl, z1, (r.fresh0 z2).2, z3, z4, fun y => r.bal c y z2, fun i es' e y => ?_⟩
              have key : ∃ us', st.env[i]? = some (some (.own us')) := by
                unfold setCell at e
                split at e
                · rcases set_get e with ⟨rfl, _, _⟩ | ⟨_, e⟩
                  · exact ⟨_, by assumption⟩
                  · exact ⟨_, e⟩
                · exact ⟨_, e⟩
                · exact ⟨_, e⟩
              obtain ⟨us', e⟩ := key
              obtain ⟨v, p1, c', us2, p2, p3, p4, p5, _⟩ := r.env i _ e
              rw [p1] at y; cases y; cases p2; rw [z2] at p5; cases p5
      · exact q.elim
    · exact q.elim
  · exact q.elim
def flD : Fl → Option D
  | .rt d => some d
  | .rl ds => some (.list ds)
  | .nx => some .none
  | _ => none
def flF : Fl → Option (List D)
  | .rl ds => some ds
  | _ => none
def xCall (n : Nat) (g : Sm) (ga : EU) : E := fun st => (ga st).bind fun ags st => (callG n g ags st).bind fun fl st => lift (flD fl) st
def xCallF (n : Nat) (g : Sm) (ga : EU) : EF := fun st => (ga st).bind fun ags st => (callG n g ags st).bind fun fl st => lift (flF fl) st
theorem call_readE {K : PySem.W.Frag} {mg : Str → Option Value} {B0 H0 B : Hp} {σ : St} {ba : Option Addr} {Q : VK} {r : R Fl} (h : Post K mg W (vD K) B0 H0 B σ ba Q (r.bind fun fl st => lift (flD fl) st)) : PostC K mg W B0 H0 B σ ba Q r := by
  cases r with
  | bad => exact h
  | exc c st => exact h
  | ok fl st =>
    cases fl with
    | nx => exact fun B' H' s' r' => h .non B' H' s' r' Rp.non
    | bk => exact h
    | ct => exact h
    | rt d => exact fun v B' H' s' r' q => h v B' H' s' r' q
    | rl ds =>
      intro v B' H' s' r' q
      obtain ⟨B2, s2, r2, q2, _⟩ := r'.freeze q
      exact h v B2 H' (s'.trans s2) r2 q2
theorem call_readF {K : PySem.W.Frag} {mg : Str → Option Value} {B0 H0 B : Hp} {σ : St} {ba : Option Addr} {Q : VK} {r : R Fl} (h : Post K mg W (vF K) B0 H0 B σ ba Q (r.bind fun fl st => lift (flF fl) st)) : PostC K mg W B0 H0 B σ ba Q r := by
  cases r with
  | bad => exact h
  | exc c st => exact h
  | ok fl st =>
    cases fl with
    | nx => exact h.elim
    | bk => exact h
    | ct => exact h
    | rt d => exact h.elim
    | rl ds => exact fun v B' H' s' r' q => h v B' H' s' r' q
section
variable {k : Nat} {f : Addr} {fd : FuncData} {ps : List Str} {g : Sm} {x : Str} {p : Pos} {ga : EU}
theorem de_call (F : FnD X.prog X.w X.K X.mg X.base k f fd ps g) (hr : Room k X.A) (hm : X.mg x = some (.ref f)) (hk : PySem.W.keepIn X.K (.ref f) = true) (hb : Binds X.K fd ps []) (tk : Takes X W) (ha : DU X W (e :: es) ga) (hg : Gl X x := by rfl)
    (hdb : (x == ("__debug__" : Str)) = false := by decide) (he : starEach (e :: es) X.env = (false, eval e X.env) :: starEach es X.env := by rfl) (hpl : (backTo pos (starEach es X.env)).any (·.1) = false := by rfl) :
    DE X W (.Call (.Name x p) (e :: es) [] pos) (xCall ps.length g ga) := by
  refine PE.imp (pe_callS F hr hg hm hk hb (fun σ => passAt tk σ) ha hdb he hpl) fun σ H Q ⟨B0, H0, B, ba, st, rel, h⟩ => ⟨B0, H0, B, ba, st, rel, (Post.bind h).imp fun vs H1 ⟨B1, st1, ags, s1, rel1, v1, h1⟩ => ?_⟩
  exact call_ok rel1 v1 (call_readE h1)
theorem df_call (F : FnD X.prog X.w X.K X.mg X.base k f fd ps g) (hr : Room k X.A) (hm : X.mg x = some (.ref f)) (hk : PySem.W.keepIn X.K (.ref f) = true) (hb : Binds X.K fd ps []) (tk : Takes X W) (ha : DU X W (e :: es) ga) (hg : Gl X x := by rfl)
    (hdb : (x == ("__debug__" : Str)) = false := by decide) (he : starEach (e :: es) X.env = (false, eval e X.env) :: starEach es X.env := by rfl) (hpl : (backTo pos (starEach es X.env)).any (·.1) = false := by rfl) :
    DF X W (.Call (.Name x p) (e :: es) [] pos) (xCallF ps.length g ga) := by
  refine PE.imp (pe_callS F hr hg hm hk hb (fun σ => passAt tk σ) ha hdb he hpl) fun σ H Q ⟨B0, H0, B, ba, st, rel, h⟩ => ⟨B0, H0, B, ba, st, rel, (Post.bind h).imp fun vs H1 ⟨B1, st1, ags, s1, rel1, v1, h1⟩ => ?_⟩
  exact call_ok rel1 v1 (call_readF h1)
end
end
end DM
/-! Part 6: comprehensions. -/
namespace DM
open PySem L2

def keepV (o : Option (Option Sl)) : Option Sl := match o with
  | some (some (.val d)) => some (.val d)
  | _ => none
def wipeS (vs : List Nat) (st : S) : S := ⟨vs.foldr (fun j env => env.set j none) st.env, st.box⟩
def backS (vs : List Nat) (st0 st : S) : S := ⟨vs.foldr (fun j env => env.set j (keepV st0.env[j]?)) st.env, st.box⟩
theorem fold_len {α : Type} (f : Nat → Option α) (l : List (Option α)) : ∀ vs : List Nat, (vs.foldr (fun j env => env.set j (f j)) l).length = l.length
  | [] => rfl
  | v :: vs => by simp [fold_len f l vs]
theorem fold_get {α : Type} (f : Nat → Option α) (l : List (Option α)) : ∀ (vs : List Nat) (i : Nat) (x : α), (vs.foldr (fun j env => env.set j (f j)) l)[i]? = some (some x) → (i ∈ vs ∧ i < l.length ∧ f i = some x) ∨ (i ∉ vs ∧ l[i]? = some (some x))
  | [], i, x, h => .inr ⟨by simp, h⟩
  | v :: vs, i, x, h => by
    simp only [List.foldr_cons] at h
    by_cases e : i = v
    · subst e
      by_cases hl : i < (vs.foldr (fun j env => env.set j (f j)) l).length
      · rw [List.getElem?_set_self hl] at h
        rw [fold_len] at hl
        exact .inl ⟨by simp, hl, Option.some.inj h⟩
      · rw [List.getElem?_eq_none (by simpa using hl)] at h; cases h
    · rw [List.getElem?_set_ne (Ne.symm e)] at h
      rcases fold_get f l vs i x h with ⟨h1, h2, h3⟩ | ⟨h1, h2⟩
      · exact .inl ⟨by simp [h1], h2, h3⟩
      · exact .inr ⟨by simp [e, h1], h2⟩
theorem wipe_fold (σ : St) : ∀ vs : List Nat, wipe σ vs = vs.foldr (fun j env => env.set j none) σ
  | [] => rfl
  | v :: vs => by simp [wipe, wipe_fold σ vs]
theorem wipe_none {σ : St} : ∀ {vs : List Nat} {i : Nat}, i ∈ vs → i < σ.length → (wipe σ vs)[i]? = some none
  | [], i, h, _ => by cases h
  | v :: vs, i, h, hl => by
    unfold wipe
    by_cases e : v = i
    · subst e; rw [List.getElem?_set_self (by rw [wipe_length]; exact hl)]
    · rw [List.getElem?_set_ne e]
      exact wipe_none (by simpa [Ne.symm e] using h) hl
theorem wipe_alter {σ σ' : St} {vs is : List Nat} (h : Alter is (wipe σ vs) σ') (hs : ∀ i ∈ is, i ∈ vs) : wipe σ' vs = wipe σ vs ∧ ∀ (j : Nat), j ∉ vs → σ'[j]? = σ[j]? := by
  have hl : σ'.length = σ.length := by rw [h.1, wipe_length]
  have key : ∀ (j : Nat), j ∉ vs → σ'[j]? = σ[j]? := fun j hj => by
    rw [h.2 j (fun z => hj (hs j z)), wipe_out hj]
  refine ⟨List.ext_getElem? fun j => ?_, key⟩
  by_cases hj : j ∈ vs
  · by_cases hjl : j < σ.length
    · rw [wipe_none hj hjl, wipe_none hj (by rw [hl]; exact hjl)]
    · rw [List.getElem?_eq_none (by rw [wipe_length]; omega), List.getElem?_eq_none (by rw [wipe_length]; omega)]
  · rw [wipe_out hj, wipe_out hj]
    exact key j hj
section
variable {K : PySem.W.Frag} {B0 H0 B H B' H' : Hp} {σ σ' : St} {ba : Option Addr} {st st' : S}
theorem Rel.wipe (r : Rel K B0 H0 B σ H ba st) (vs : List Nat) : Rel K B0 H0 B (L2.wipe σ vs) H ba (wipeS vs st) := by
  have key : ∀ (i : Nat) (s : Sl), (wipeS vs st).env[i]? = some (some s) → st.env[i]? = some (some s) ∧ i ∉ vs := fun i s e => by
    rcases fold_get (fun _ => none) st.env vs i s e with ⟨_, _, z⟩ | ⟨h1, h2⟩
    · cases z
    · exact ⟨h2, h1⟩
  refine ⟨r.stp, r.sub, r.box, r.bal, by rw [wipe_length, r.len]; exact (fold_len (fun _ => none) st.env vs).symm, fun i s e => ?_, fun i j ds es v e1 e2 e3 e4 => ?_⟩
  · obtain ⟨h1, h2⟩ := key i s e
    obtain ⟨v, q1, q2⟩ := r.env i s h1
    exact ⟨v, by rw [wipe_out h2]; exact q1, q2⟩
  · obtain ⟨h1, h2⟩ := key i _ e1
    obtain ⟨h3, h4⟩ := key j _ e2
    rw [wipe_out h2] at e3
    rw [wipe_out h4] at e4
    exact r.dist i j ds es v h1 h3 e3 e4
/-- out of a comprehension's block -/
theorem Rel.unwipe (r0 : Rel K B0 H0 B σ H ba st) (sm : Same B B') {vs : List Nat} (r : Rel K B0 H0 B' σ' H' ba st') (hl : σ'.length = σ.length) (hσ : ∀ (j : Nat), j ∉ vs → σ'[j]? = σ[j]?) : Rel K B0 H0 B' σ H' ba (backS vs st st') := by
  refine ⟨r.stp, r.sub, r.box, r.bal, ?_, fun i s e => ?_, fun i j ds es v e1 e2 e3 e4 => ?_⟩
  · rw [← hl, r.len]
    exact (fold_len (fun j => keepV st.env[j]?) st'.env vs).symm
  · rcases fold_get (fun j => keepV st.env[j]?) st'.env vs i s e with ⟨_, _, z⟩ | ⟨h1, h2⟩
    · unfold keepV at z
      split at z
      · rename_i d eq
        cases z
        obtain ⟨v, q1, q2⟩ := r0.env i _ eq
        exact ⟨v, q1, Rp.mono sm q2⟩
      · cases z
    · obtain ⟨v, q1, q2⟩ := r.env i s h2
      exact ⟨v, by rw [← hσ i h1]; exact q1, q2⟩
  · have own : ∀ (i : Nat) (ds : List D), (backS vs st st').env[i]? = some (some (.own ds)) → i ∉ vs ∧ st'.env[i]? = some (some (.own ds)) := fun i ds e => by
      rcases fold_get (fun j => keepV st.env[j]?) st'.env vs i _ e with ⟨_, _, z⟩ | ⟨h1, h2⟩
      · unfold keepV at z
        split at z <;> cases z
      · exact ⟨h1, h2⟩
    obtain ⟨h1, h2⟩ := own i ds e1
    obtain ⟨h3, h4⟩ := own j es e2
    rw [← hσ i h1] at e3
    rw [← hσ j h3] at e4
    exact r.dist i j ds es v h2 h4 e3 e4
/-- a thing aside is kept: it counts as of the entry -/
theorem Rel.protect (r : Rel K B0 H0 B σ H ba st) {p : Addr} {o : HO} (hH : H p = some o) (hB : B p = none) (hb : ba ≠ some p) (hn : ∀ (i : Nat) (es : List D), st.env[i]? = some (some (.own es)) → σ[i]? ≠ some (some (V.ref p))) :
    Rel K B0 (upd H0 p o) B σ H ba st := by
  refine ⟨⟨r.stp.same, fun b e n => ?_, fun b x e n => ?_, fun b n => ?_⟩, r.sub, r.box, r.bal, r.len, fun i s e => ?_, r.dist⟩
  · by_cases hb : b = p
    · rw [hb]; exact hB
    · rw [upd_ne hb] at n; exact r.stp.new b e n
  · by_cases hb : b = p
    · subst hb; rw [upd_same] at e; rw [hH]; exact e
    · rw [upd_ne hb] at e; exact r.stp.fr b x e n
  · by_cases hb : b = p
    · subst hb; rw [hH]; exact fun z => nomatch z
    · rw [upd_ne hb] at n; exact r.stp.live b n
  · obtain ⟨v, q1, q2⟩ := r.env i s e
    refine ⟨v, q1, ?_⟩
    cases s with
    | val d => exact q2
    | own ds =>
      obtain ⟨a, vs, p1, p2, p3, p4, p5, p6⟩ := q2
      have hne : a ≠ p := fun z => hn i ds e (by rw [q1, p1, z])
      exact ⟨a, vs, p1, p2, by rw [upd_ne hne]; exact p3, p4, p5, p6⟩
    | box => exact q2
    | scr ns => exact q2
theorem Rel.unprotect {p : Addr} {o : HO} (r : Rel K B0 (upd H0 p o) B σ H ba st) (h0 : H0 p = none) (hb : ba ≠ some p) : Rel K B0 H0 B σ H ba st ∧ H p = some o ∧ ∀ (i : Nat) (es : List D), st.env[i]? = some (some (.own es)) → σ[i]? ≠ some (some (V.ref p)) := by
  have sm : ∀ b x, H0 b = some x → upd H0 p o b = some x := fun b x e => by rw [upd_ne (ne_of_none e h0)]; exact e
  refine ⟨⟨⟨r.stp.same, fun b e n => r.stp.new b e (fun z => ?_), fun b x e n => r.stp.fr b x (sm b x e) n, fun b n => r.stp.live b (fun z => ?_)⟩, r.sub, r.box, r.bal, r.len, fun i s e => ?_, r.dist⟩, r.stp.fr p o upd_same hb, fun i es e q => ?_⟩
  · by_cases hb : b = p
    · rw [hb] at n; exact n h0
    · rw [upd_ne hb] at z; exact n z
  · by_cases hb : b = p
    · rw [hb] at n; exact n h0
    · rw [upd_ne hb] at z; exact n z
  · obtain ⟨v, q1, q2⟩ := r.env i s e
    refine ⟨v, q1, ?_⟩
    cases s with
    | val d => exact q2
    | own ds =>
      obtain ⟨a, vs, p1, p2, p3, p4, p5, p6⟩ := q2
      have hne : a ≠ p := fun z => by rw [z, upd_same] at p3; cases p3
      exact ⟨a, vs, p1, p2, by rw [upd_ne hne] at p3; exact p3, p4, p5, p6⟩
    | box => exact q2
    | scr ns => exact q2
  · obtain ⟨v, q1, a, vs, p1, p2, p3, _⟩ := r.env i _ e
    rw [q1, p1] at q
    cases q
    rw [upd_same] at p3
    cases p3
end
def nox {α : Type} : R α → R α
  | .exc _ _ => .bad
  | r => r
def szLt {α : Type} (xs : List α) : Bool := decide (xs.length < 16777216)
def lcL (put : D → S → Option S) (gt : ET) (ge : E) (vs : List Nat) : List D → List D → S → R (List D)
  | [], acc, st => .ok acc st
  | d :: ds, acc, st => match put d (wipeS vs st) with
    | none => .bad
    | some st1 => (nox (gt st1)).bind fun b st2 => if b then (nox (ge st2)).bind fun y st3 => if szLt acc then lcL put gt ge vs ds (acc ++ [y]) (backS vs st st3) else .bad else lcL put gt ge vs ds acc (backS vs st st2)
def xLc (gi : EA) (put : D → S → Option S) (gt : ET) (ge : E) (vs : List Nat) : EF := fun st => (gi st).bind fun ds st => lcL put gt ge vs ds [] st
def WF : WX := fun _ _ _ _ => False
section
variable {X : Cx} {W : WX}
def DTs (X : Cx) (ifs : List Expr) (g : ET) : Prop := PTs X ifs (tG X.K X.mg WF vB g)
def xYes : ET := fun st => .ok true st
theorem PTs.imp {ifs : List Expr} {t t' : TT} (h : PTs X ifs t) (i : ∀ σ H Q, t' σ H Q → t σ H Q) : PTs X ifs t' := ⟨fun pins s σ H Q I q => h.run pins s σ H Q I (i σ H Q q)⟩
theorem dts_nil : DTs X [] xYes := PTs.imp pts_nil fun σ H Q ⟨B0, H0, B, ba, st, rel, h⟩ => h.ok rel rfl
theorem dts_one {c : Expr} {g : ET} (h : DT X WF c g) : DTs X [c] g := pts_one h
theorem lc_read {K : PySem.W.Frag} {mg : Str → Option Value} {gi : EA} {is : List Nat} {put : D → S → Option S} {gt : ET} {ge : E} {vs : List Nat} (hs : ∀ i ∈ is, i ∈ vs) (σ : St) (H : Hp) (Q : VK) (h : tG K mg W (vF K) (xLc gi put gt ge vs) σ H Q) :
    tLc (tG K mg W (vI K) gi) (tGt K is put) (tG K mg WF vB gt) (tG K mg WF (vD K) ge) vs σ H Q := by
  obtain ⟨B0, H0, B, ba, st, rel, h⟩ := h
  refine ⟨B0, H0, B, ba, st, rel, (Post.bind h).imp fun J H1 ⟨B1, st1, ds, s1, rel1, v1, h1⟩ => fun Dd hD => ?_⟩
  have v1 : Yld K J ds B1 := v1
  obtain ⟨hB1, hH0⟩ := rel1.fresh0 hD
  have hba : ba ≠ some Dd := fun z => rel1.bal _ z hD
  have no0 : ∀ (i : Nat) (es : List D), st1.env[i]? = some (some (.own es)) → σ[i]? ≠ some (some (V.ref Dd)) := fun i es e q => by
    obtain ⟨v, e1, a, ws, e2, e3, e4, e5, _⟩ := rel1.env i _ e
    rw [e1] at q; cases q; cases e2; rw [hD] at e5; cases e5
  refine ⟨fun i m H => m = ds.length - i ∧ i ≤ ds.length ∧ ∃ B' st acc ws, Same B1 B' ∧ H Dd = some (.lst ws) ∧ B' Dd = none ∧ RpA K B' ws acc ∧ Rel K B0 H0 B' σ H ba st ∧ (∀ (i : Nat) (es : List D), st.env[i]? = some (some (.own es)) → σ[i]? ≠ some (some (V.ref Dd))) ∧
      Post K mg W (vF K) B0 H0 B' σ ba Q (lcL put gt ge vs (ds.drop i) acc st), ⟨ds.length, by simp, Nat.zero_le _, B1, st1, [], [], Same.refl _, upd_same, hB1, .nil, rel1.aside hD, no0, by simpa using h1⟩, ?_⟩
  rintro i m H ⟨rfl, hle, B', st, acc, ws, s0, hd, hB, ra, rel, no, h⟩
  obtain ⟨go, stop⟩ := v1 B' H s0 rel.sub i
  by_cases hi : i < ds.length
  · have hdi : ds[i]? = some ds[i] := List.getElem?_eq_getElem hi
    rw [List.drop_eq_getElem_cons hi] at h
    obtain ⟨g1, g2⟩ := go _ hdi
    refine .inr ⟨g1, fun H => ∃ B' st acc ws, Same B1 B' ∧ H Dd = some (.lst ws) ∧ B' Dd = none ∧ RpA K B' ws acc ∧ Rel K B0 H0 B' σ H ba st ∧ (∀ (i : Nat) (es : List D), st.env[i]? = some (some (.own es)) → σ[i]? ≠ some (some (V.ref Dd))) ∧
      Post K mg W (vF K) B0 H0 B' σ ba Q (lcL put gt ge vs (ds.drop (i + 1)) acc st), fun H' q => ⟨ds.length - (i + 1), by omega, rfl, hi, q⟩, fun x H' y => ?_⟩
    obtain ⟨B2, gr, rp⟩ := g2 x H' y
    obtain ⟨rel2, s2⟩ := rel.grow gr
    have hd2 : H' Dd = some (.lst ws) := by
      rcases gr with ⟨_, rfl⟩ | ⟨p, o, hp, _, rfl⟩
      · exact hd
      · rw [upd_ne (ne_of_none hd hp)]; exact hd
    have hB2 : B2 Dd = none := by
      rcases gr with ⟨rfl, _⟩ | ⟨p, o, hp, rfl, _⟩
      · exact hB
      · rw [upd_ne (ne_of_none hd hp)]; exact hB
    have rel3 := rel2.protect hd2 hB2 hba no
    unfold lcL at h
    cases e : put ds[i] (wipeS vs st) with
    | none => rw [e] at h; exact h.elim
    | some st1 =>
      rw [e] at h
      refine ⟨B0, _, B2, ba, wipeS vs st, ds[i], st1, rel3.wipe vs, rp, e, fun σ2 al rel4 => ?_⟩
      obtain ⟨hw, hσ⟩ := wipe_alter al hs
      have hl2 : σ2.length = σ.length := by rw [al.1, wipe_length]
      refine ⟨hw, B0, _, B2, ba, st1, rel4, ?_⟩
      have h := Post.mono s2 h
      simp only at h
      cases eg : gt st1 with
      | bad => rw [eg] at h; exact h.elim
      | exc c st2 => rw [eg] at h; exact h.elim
      | ok b st2 =>
        rw [eg] at h
        intro b' B3 H3 s3 rel5 eb
        obtain rfl : b = b' := eb
        cases b with
        | false =>
          obtain ⟨rel6, k1, k2⟩ := rel5.unprotect hH0 hba
          have rb := rel2.unwipe s3 rel6 hl2 hσ
          refine ⟨B3, _, acc, ws, (s0.trans s2).trans s3, k1, ?_, (ra.mono s2).mono s3, rb, fun j es e q => ?_, Post.mono s3 h⟩
          · exact rel5.stp.new Dd (by
              have := rel2.stp.same
              cases z : B0 Dd with
              | none => rfl
              | some o => rw [rel2.stp.same _ _ z] at hB2; cases hB2) (by rw [upd_same]; exact fun z => nomatch z)
          · rcases fold_get (fun j => keepV st.env[j]?) st2.env vs j _ e with ⟨_, _, z⟩ | ⟨z1, z2⟩
            · unfold keepV at z
              split at z <;> cases z
            · exact k2 j es z2 (by rw [hσ j z1]; exact q)
        | true =>
          refine ⟨B0, _, B3, ba, st2, rel5, ?_⟩
          have h := Post.mono s3 h
          simp only [nox, R.bind_ok, if_true] at h
          cases ee : ge st2 with
          | bad => rw [ee] at h; exact h.elim
          | exc c st3 => rw [ee] at h; exact h.elim
          | ok y st3 =>
            rw [ee] at h
            simp only [nox, R.bind_ok] at h
            intro v B4 H4 s4 rel6 rv
            have rv : Rp K B4 v y := rv
            split at h
            · rename_i hz
              obtain ⟨rel7, k1, k2⟩ := rel6.unprotect hH0 hba
              have hB4 : B4 Dd = none := rel6.stp.new Dd (by
                cases z : B0 Dd with
                | none => rfl
                | some o => rw [rel2.stp.same _ _ z] at hB2; cases hB2) (by rw [upd_same]; exact fun z => nomatch z)
              have rb := rel2.unwipe (s3.trans s4) rel7 hl2 hσ
              have ra4 : RpA K B4 ws acc := ((ra.mono s2).mono s3).mono s4
              have no4 : ∀ (i : Nat) (es : List D), (backS vs st st3).env[i]? = some (some (.own es)) → σ[i]? ≠ some (some (V.ref Dd)) := fun j es e q => by
                rcases fold_get (fun j => keepV st.env[j]?) st3.env vs j _ e with ⟨_, _, z⟩ | ⟨z1, z2⟩
                · unfold keepV at z
                  split at z <;> cases z
                · exact k2 j es z2 (by rw [hσ j z1]; exact q)
              have rw4 : Rel K B0 H0 B4 σ (upd H4 Dd (.lst (ws ++ [v]))) ba (backS vs st st3) := by
                refine ⟨⟨rb.stp.same, rb.stp.new, fun b o e n => ?_, fun b n => ?_⟩, fun b o e => ?_, fun es e => ?_, fun a e => ?_, rb.len, fun j s e => ?_, rb.dist⟩
                · rw [upd_ne (fun z => by rw [z, hH0] at e; cases e)]; exact rb.stp.fr b o e n
                · by_cases hb : b = Dd
                  · rw [hb, upd_same]; exact fun z => nomatch z
                  · rw [upd_ne hb]; exact rb.stp.live b n
                · rw [upd_ne (fun z => by rw [z, hB4] at e; cases e)]; exact rb.sub b o e
                · obtain ⟨a, us, p1, p2, p3, p4⟩ := rb.box es e
                  exact ⟨a, us, p1, p2, by rw [upd_ne (fun z => hba (by rw [← z]; exact p1))]; exact p3, p4⟩
                · by_cases hb : a = Dd
                  · rw [hb, upd_same]; exact fun z => nomatch z
                  · rw [upd_ne hb]; exact rb.bal a e
                · obtain ⟨u, q1, q2⟩ := rb.env j s e
                  refine ⟨u, q1, ?_⟩
                  cases s with
                  | val d => exact q2
                  | own es =>
                    obtain ⟨a, us, p1, p2, p3, p4, p5, p6⟩ := q2
                    have hne : a ≠ Dd := fun z => no4 j es e (by rw [q1, p1, z])
                    exact ⟨a, us, p1, p2, p3, by rw [upd_ne hne]; exact p4, p5, p6⟩
                  | box => exact q2
                  | scr ns => exact q2
              refine ⟨ws, k1, ?_, B4, _, acc ++ [y], ws ++ [v], ((s0.trans s2).trans s3).trans s4, upd_same, hB4, ra4.app (.cons rv .nil), rw4, no4, Post.mono s4 h⟩
              rw [ra4.len, sizeLine_eq]
              exact of_decide_eq_true hz
            · exact h.elim
  · have e : ds.drop i = [] := List.drop_eq_nil_of_le (by omega)
    rw [e] at h
    refine .inl ⟨stop (by omega), ?_⟩
    exact h (.ref Dd) B' H (Same.refl _) rel ⟨Dd, ws, rfl, hB, hH0, hd, ra, hba, no⟩
theorem df_lc {elt tg iter : Expr} {ifs : List Expr} {scope : Scope} {own : List (Str × Nat)} {pos : Pos} {gi : EA} {is : List Nat} {put : D → S → Option S} {gt : ET} {ge : E} (hN : X.N.Nodup) (hi : DI X W tg iter gi) (ok : BlkOk X.N X.env.scope scope own)
    (hg : ∀ (s : Shared) (H : Hp) (C : Addr) (cl : List (Str × Addr)) (fp : List Addr), DG (X.blk s H scope (compEnvC scope cl C X.env) fp) tg is put) (ht : ∀ (s : Shared) (H : Hp) (C : Addr) (cl : List (Str × Addr)) (fp : List Addr), DTs (X.blk s H scope (compEnvC scope cl C X.env) fp) ifs gt)
    (he : ∀ (s : Shared) (H : Hp) (C : Addr) (cl : List (Str × Addr)) (fp : List Addr), DE (X.blk s H scope (compEnvC scope cl C X.env) fp) WF elt ge) (hv : ∀ i ∈ is, i ∈ own.map (·.2) := by decide) (hc : X.calm = true := by rfl) (hs : ∀ x, foldedSetIterable iter X.env x = pure x := by intro _; rfl) :
    DF X W (.ListComp elt [⟨tg, iter, ifs, 0⟩] scope pos) (xLc gi put gt ge (own.map (·.2))) := PE.imp (pe_lc (g := tGt X.K is put) (tt := tG X.K X.mg WF vB gt) (te := tG X.K X.mg WF (vD X.K) ge) hc hN hi ok hg ht he hs) (lc_read hv)
/-- name = [..] -/
theorem ds_newLc {i : Nat} {y : Str} {py : Pos} {elt tg iter : Expr} {ifs : List Expr} {scope : Scope} {own : List (Str × Nat)} {pos spos : Pos} {gi : EA} {is : List Nat} {put : D → S → Option S} {gt : ET} {ge : E} (hN : X.N.Nodup) (hi : DI X W tg iter gi) (ok : BlkOk X.N X.env.scope scope own)
    (hg : ∀ (s : Shared) (H : Hp) (C : Addr) (cl : List (Str × Addr)) (fp : List Addr), DG (X.blk s H scope (compEnvC scope cl C X.env) fp) tg is put) (ht : ∀ (s : Shared) (H : Hp) (C : Addr) (cl : List (Str × Addr)) (fp : List Addr), DTs (X.blk s H scope (compEnvC scope cl C X.env) fp) ifs gt)
    (he : ∀ (s : Shared) (H : Hp) (C : Addr) (cl : List (Str × Addr)) (fp : List Addr), DE (X.blk s H scope (compEnvC scope cl C X.env) fp) WF elt ge) (hsw : swapsWith (.ListComp elt [⟨tg, iter, ifs, 0⟩] scope pos) (some (.Name y py)) spos.line X.env = pure true) (hv : ∀ i ∈ is, i ∈ own.map (·.2) := by decide) (hy : X.N[i]? = some y := by rfl) (hyl : X.env.scope.names.lookup y = some .local := by rfl) (hc : X.calm = true := by rfl) (hs : ∀ x, foldedSetIterable iter X.env x = pure x := by intro _; rfl) :
    DS X W (.Assign [.Name y py] (.ListComp elt [⟨tg, iter, ifs, 0⟩] scope pos) spos) (xNew i (xLc gi put gt ge (own.map (·.2)))) := by
  refine PS.imp (ps_setLc (g := tGt X.K is put) (tt := tG X.K X.mg WF vB gt) (te := tG X.K X.mg WF (vD X.K) ge) hc hN hy hyl hsw hi ok hg ht he hs) fun Dn σ H ⟨B0, H0, B, ba, st, rel, h⟩ => ?_
  refine lc_read hv σ H _ ⟨B0, H0, B, ba, st, rel, (Post.bindS h).imp fun v H1 ⟨B1, st1, d, s1, rel1, v1, h2⟩ => ?_⟩
  exact h2.nx (rel1.setO v1)
theorem ds_setLc {i : Nat} {y : Str} {py : Pos} {elt tg iter : Expr} {ifs : List Expr} {scope : Scope} {own : List (Str × Nat)} {pos spos : Pos} {gi : EA} {is : List Nat} {put : D → S → Option S} {gt : ET} {ge : E} (hN : X.N.Nodup) (hi : DI X W tg iter gi) (ok : BlkOk X.N X.env.scope scope own)
    (hg : ∀ (s : Shared) (H : Hp) (C : Addr) (cl : List (Str × Addr)) (fp : List Addr), DG (X.blk s H scope (compEnvC scope cl C X.env) fp) tg is put) (ht : ∀ (s : Shared) (H : Hp) (C : Addr) (cl : List (Str × Addr)) (fp : List Addr), DTs (X.blk s H scope (compEnvC scope cl C X.env) fp) ifs gt)
    (he : ∀ (s : Shared) (H : Hp) (C : Addr) (cl : List (Str × Addr)) (fp : List Addr), DE (X.blk s H scope (compEnvC scope cl C X.env) fp) WF elt ge) (hsw : swapsWith (.ListComp elt [⟨tg, iter, ifs, 0⟩] scope pos) (some (.Name y py)) spos.line X.env = pure true) (hv : ∀ i ∈ is, i ∈ own.map (·.2) := by decide) (hy : X.N[i]? = some y := by rfl) (hyl : X.env.scope.names.lookup y = some .local := by rfl) (hc : X.calm = true := by rfl) (hs : ∀ x, foldedSetIterable iter X.env x = pure x := by intro _; rfl) :
    DS X W (.Assign [.Name y py] (.ListComp elt [⟨tg, iter, ifs, 0⟩] scope pos) spos) (xSet i (xL (xLc gi put gt ge (own.map (·.2))))) := by
  refine PS.imp (ps_setLc (g := tGt X.K is put) (tt := tG X.K X.mg WF vB gt) (te := tG X.K X.mg WF (vD X.K) ge) hc hN hy hyl hsw hi ok hg ht he hs) fun Dn σ H ⟨B0, H0, B, ba, st, rel, h⟩ => ?_
  have h' : PostS X.K X.mg W B0 H0 B ba Dn ((xLc gi put gt ge (own.map (·.2)) st).bind fun ds st => .ok .nx (setV i (.list ds) st)) := by
    cases e : xLc gi put gt ge (own.map (·.2)) st <;> (simp only [xSet, xL, e] at h ⊢; exact h)
  refine lc_read hv σ H _ ⟨B0, H0, B, ba, st, rel, (Post.bindS h').imp fun v H1 ⟨B1, st1, d, s1, rel1, v1, h2⟩ => ?_⟩
  obtain ⟨B2, s2, r2, q, _⟩ := rel1.freeze v1
  exact (PostS.mono s2 h2).nx (r2.setV q)
end
end DM
/-! Part 7: lists that are changed; built-ins. -/
namespace DM
open PySem L2
section
variable {K : PySem.W.Frag} {B0 H0 B H : Hp} {σ : St} {ba : Option Addr} {st : S}
theorem cell_after {a : Addr} {ws : List V} {ds' : List D} (sub : SubH B H) (hB : B a = none) (hH : H a ≠ none) (ra : RpA K B ws ds') : After K (some a) B H B (upd H a (.lst ws)) (some ds') := by
  refine ⟨⟨fun _ _ e => e, fun _ e _ => e, fun b o e n => ?_, fun b n => ?_⟩, fun b o e => ?_, fun ds e => ?_⟩
  · rw [upd_ne (fun z => n (by rw [z]))]; exact e
  · by_cases hb : b = a
    · rw [hb, upd_same]; exact fun z => nomatch z
    · rw [upd_ne hb]; exact n
  · rw [upd_ne (fun z => by rw [z, hB] at e; cases e)]; exact sub b o e
  · cases e
    exact ⟨a, ws, rfl, hB, upd_same, ra⟩
theorem Rel.setC (r : Rel K B0 H0 B σ H ba st) {i : Nat} {a : Addr} {ds ds' : List D} {ws : List V} (hc : cellAt i st = some ds) (ha : σ[i]? = some (some (.ref a))) (ra : RpA K B ws ds') : Rel K B0 H0 B σ (upd H a (.lst ws)) ba (setCell i ds' st) := by
  obtain ⟨a', vs, e1, e2, e3, e4, e5⟩ := cell_val r hc
  rw [e1] at ha
  cases ha
  exact (r.afterC hc e1 (cell_after r.sub e2 (by rw [e3]; exact fun z => nomatch z) ra)).1
end
section
variable {X : Cx} {W : WX} {e a b : Expr} {es : List Expr} {pos : Pos}
/-! ### a list that is changed -/
def withC {α : Type} (i : Nat) (st : S) (k : List D → R α) : R α := match cellAt i st with
  | some ds => k ds
  | none => .bad
theorem tyV_list {K : PySem.W.Frag} {H : Hp} {a : Addr} {vs : List V} (h : H a = some (.lst vs)) : tyV K "list" (.ref a) H := .inl ⟨rfl, vs, SqL.of h⟩
/-- a method with arguments: f, of the list and the arguments, gives the value and the list behind it -/
def xMt (i : Nat) (ga : EA) (f : List D → List D → Option (D × List D)) : E := fun st => withC i st fun _ => (ga st).bind fun ys st => withC i st fun ds => (lift (f ds ys) st).bind fun z st => .ok z.1 (setCell i z.2 st)
/-- what a method's rule must give -/
def MtD (K : PySem.W.Frag) (r : V → List V → Hp → VK → Prop) (f : List D → List D → Option (D × List D)) : Prop :=
  ∀ (a : Addr) (vs : List V) (H B : Hp) (ys : List V) (ds es : List D) (z : D × List D) (Q : VK), SubH B H → B a = none → H a = some (.lst vs) → RpA K B vs ds → RpA K B ys es → f ds es = some z → (∀ v ws, RpA K B ws z.2 → Rp K B v z.1 → Q v (upd H a (.lst ws))) → r (.ref a) ys H Q
theorem mt_read {K : PySem.W.Frag} {mg : Str → Option Value} {i : Nat} {ga : EA} {f : List D → List D → Option (D × List D)} {r : V → List V → Hp → VK → Prop} (hr : MtD K r f) (σ : St) (H : Hp) (Q : VK) (h : tG K mg W (vD K) (xMt i ga f) σ H Q) :
    tBM K "list" r (tVar i) (tG K mg W (vA K) ga) σ H Q := by
  obtain ⟨B0, H0, B, ba, st, rel, h⟩ := h
  unfold xMt withC at h
  cases e : cellAt i st with
  | none => rw [e] at h; exact h.elim
  | some ds0 =>
    rw [e] at h
    obtain ⟨a, vs, e1, e2, e3, e4, e5⟩ := cell_val rel e
    refine ⟨.ref a, e1, tyV_list e3, B0, H0, B, ba, st, rel, (Post.bind h).imp fun ys H1 ⟨B1, st1, es, s1, rel1, v1, h1⟩ => ?_⟩
    cases e' : cellAt i st1 with
    | none => rw [e'] at h1; exact h1.elim
    | some ds =>
      rw [e'] at h1
      obtain ⟨a', vs', p1, p2, p3, p4, p5⟩ := cell_val rel1 e'
      rw [e1] at p1
      cases p1
      simp only at h1
      cases ef : f ds es with
      | none => rw [ef] at h1; exact h1.elim
      | some z =>
        rw [ef] at h1
        exact hr a vs' H1 B1 ys ds es z _ rel1.sub p2 p3 p4 v1 ef fun v ws rw' rv => h1.ok (rel1.setC e' e1 rw') rv
theorem de_mt {name : Str} {id : String} {r : V → List V → Hp → VK → Prop} {f : List D → List D → Option (D × List D)} {ga : EA} {apos cpos : Pos} {x : Str} {p : Pos} (i : Nat) (slot : PySem.Slot "list" name id) (hty : typeOf (.builtin id) = pure (.type "method_descriptor")) (hm : MtR X id r) (hr : MtD X.K r f) (ha : DA X W (e :: es) ga) (hN : X.N[i]? = some x := by rfl) (hv : Vis X.env.scope x := by first | exact Or.inl rfl | exact Or.inr (Or.inl rfl) | exact Or.inr (Or.inr rfl)) (hd : (x == ("__debug__" : Str)) = false := by decide)
    (hcd : (x == ("__classdict__" : Str)) = false := by decide) (hbase : attributeBase (.Name x p) name X.env (eval (.Name x p) X.env) = eval (.Name x p) X.env := by rfl)
    (hfew : ((backTo cpos (starEach (e :: es) X.env)).all (fun x => !x.1) && (backToKw cpos (keywordEach [] X.env)).all (fun x => x.1.isSome) && decide ((e :: es).length + ([] : List Keyword).length + (if ([] : List Keyword).isEmpty then 0 else 1) < 30)) = true := by rfl)
    (hline : (apos.endLine == cpos.line) = true := by rfl) (hs : starEach (e :: es) X.env = (false, eval e X.env) :: starEach es X.env := by rfl) (hplain : (backTo cpos (starEach es X.env)).any (·.1) = false := by rfl) :
    DE X W (.Call (.Attribute (.Name x p) name apos) (e :: es) [] cpos) (xMt i ga f) := PE.imp (pe_bm PySem.F.plainAttrs_list slot hty hm (pv i hN hv hd hcd) ha hbase hfew hline hs hplain) (mt_read hr)
/-- without arguments -/
def xMt0 (i : Nat) (f : List D → Option (D × List D)) : E := fun st => withC i st fun ds => (lift (f ds) st).bind fun z st => .ok z.1 (setCell i z.2 st)
theorem de_mt0 {name : Str} {id : String} {r : V → List V → Hp → VK → Prop} {f : List D → Option (D × List D)} {apos cpos : Pos} {x : Str} {p : Pos} (i : Nat) (slot : PySem.Slot "list" name id) (hty : typeOf (.builtin id) = pure (.type "method_descriptor")) (hm : MtR X id r) (hr : MtD X.K r (fun ds es => match es with | [] => f ds | _ => none)) (hN : X.N[i]? = some x := by rfl) (hv : Vis X.env.scope x := by first | exact Or.inl rfl | exact Or.inr (Or.inl rfl) | exact Or.inr (Or.inr rfl)) (hd : (x == ("__debug__" : Str)) = false := by decide)
    (hcd : (x == ("__classdict__" : Str)) = false := by decide) (hbase : attributeBase (.Name x p) name X.env (eval (.Name x p) X.env) = eval (.Name x p) X.env := by rfl) (hline : (apos.endLine == cpos.line) = true := by rfl) : DE X W (.Call (.Attribute (.Name x p) name apos) [] [] cpos) (xMt0 i f) := by
  refine PE.imp (pe_bm0 PySem.F.plainAttrs_list slot hty hm (pv i hN hv hd hcd) hbase hline) fun σ H Q ⟨B0, H0, B, ba, st, rel, h⟩ => ?_
  unfold xMt0 withC at h
  cases e : cellAt i st with
  | none => rw [e] at h; exact h.elim
  | some ds =>
    rw [e] at h
    obtain ⟨a, vs, e1, e2, e3, e4, e5⟩ := cell_val rel e
    refine ⟨.ref a, e1, tyV_list e3, ?_⟩
    simp only at h
    cases ef : f ds with
    | none => rw [ef] at h; exact h.elim
    | some z =>
      rw [ef] at h
      exact hr a vs H B [] ds [] z _ rel.sub e2 e3 e4 .nil ef fun v ws rw' rv => h.ok (rel.setC e e1 rw') rv
theorem szLt_line {α : Type} {xs : List α} (h : szLt xs = true) : xs.length < sizeLine := by rw [sizeLine_eq]; exact of_decide_eq_true h
def fApp : List D → List D → Option (D × List D)
  | ds, [y] => if szLt ds then some (.none, ds ++ [y]) else none
  | _, _ => none
theorem m_append {K : PySem.W.Frag} : MtD K rAppend fApp := by
  intro a vs H B ys ds es z Q sub hB hH ra rs ef q
  cases rs with
  | nil => cases ef
  | cons r1 r2 =>
    cases r2 with
    | cons _ _ => cases ef
    | nil =>
      simp only [fApp] at ef
      split at ef
      · rename_i hz
        cases ef
        exact ⟨a, vs, _, rfl, rfl, hH, by rw [ra.len]; exact szLt_line hz, q _ _ (ra.app (.cons r1 .nil)) .non⟩
      · cases ef
def fPop (ds : List D) : Option (D × List D) := match ds[ds.length - 1]? with
  | some d => some (d, ds.dropLast)
  | none => none
theorem RpA.dropLast {K : PySem.W.Frag} {H : Hp} {ds : List D} {vs : List V} (h : RpA K H vs ds) : RpA K H vs.dropLast ds.dropLast := by
  rw [List.dropLast_eq_take, List.dropLast_eq_take, h.len]
  exact h.take _
theorem m_pop {K : PySem.W.Frag} : MtD K rPop (fun ds es => match es with | [] => fPop ds | _ => none) := by
  intro a vs H B ys ds es z Q sub hB hH ra rs ef q
  cases rs with
  | cons _ _ => cases ef
  | nil =>
    simp only [fPop] at ef
    split at ef
    · rename_i d ed
      cases ef
      obtain ⟨v, e1, e2⟩ := ra.get ed
      exact ⟨a, vs, v, rfl, rfl, hH, by rw [ra.len]; exact e1, q _ _ ra.dropLast e2⟩
    · cases ef
def fPopAt : List D → List D → Option (D × List D)
  | ds, [.int i] => if szOk ds then (match ixN ds.length i with
    | some j => (ds[j]?).map fun d => (d, ds.eraseIdx j)
    | none => none) else none
  | _, _ => none
theorem m_popAt {K : PySem.W.Frag} : MtD K rPopAt fPopAt := by
  intro a vs H B ys ds es z Q sub hB hH ra rs ef q
  cases rs with
  | nil => cases ef
  | @cons w _ d _ r1 r2 =>
    cases r2 with
    | cons _ _ => cases d <;> cases ef
    | nil =>
      cases d <;> simp only [fPopAt] at ef <;> first | cases ef | skip
      have e0 := r1.int_inv
      subst e0
      split at ef
      · rename_i hsz
        have hsz : ds.length ≤ 16777216 := of_decide_eq_true hsz
        split at ef
        · rename_i j ej
          cases ed : ds[j]? with
          | none => rw [ed] at ef; cases ef
          | some d =>
            rw [ed] at ef
            cases ef
            obtain ⟨v, e1, e2⟩ := ra.get ed
            obtain ⟨k1, k2, k3, k4⟩ := ixN_seq ej
            exact ⟨a, vs, _, j, v, rfl, rfl, hH, by omega, by omega, by rw [ra.len]; exact k1, e1, q _ _ (ra.erase j) e2⟩
        · cases ef
      · cases ef
def fIns : List D → List D → Option (D × List D)
  | ds, [.int i, y] => if szLt ds && decide (0 ≤ i) && decide (i < 1000000000) then some (.none, ds.take i.toNat ++ [y] ++ ds.drop i.toNat) else none
  | _, _ => none
theorem m_insert {K : PySem.W.Frag} : MtD K (fun x vs H Q => ∃ (l : Addr) (xs : List V) (i : Int) (y : V), x = .ref l ∧ vs = [.int i, y] ∧ H l = some (.lst xs) ∧ xs.length < sizeLine ∧ 0 ≤ i ∧ i < 2 ^ 63 ∧ Q .non (upd H l (.lst (xs.take i.toNat ++ [y] ++ xs.drop i.toNat)))) fIns := by
  intro a vs H B ys ds es z Q sub hB hH ra rs ef q
  cases rs with
  | nil => cases ef
  | @cons w _ d _ r1 r2 =>
    cases r2 with
    | nil => cases d <;> cases ef
    | cons r2 r3 =>
      cases r3 with
      | cons _ _ => cases d <;> cases ef
      | nil =>
        cases d <;> simp only [fIns] at ef <;> first | cases ef | skip
        have e0 := r1.int_inv
        subst e0
        split at ef
        · rename_i hc
          cases ef
          simp only [Bool.and_eq_true, decide_eq_true_eq] at hc
          exact ⟨a, vs, _, _, rfl, rfl, hH, by rw [ra.len]; exact szLt_line hc.1.1, hc.1.2, by omega, q _ _ (((ra.take _).app (.cons r2 .nil)).app (ra.drop _)) .non⟩
        · cases ef
/-! x[i] = e -/
def xStore (i : Nat) (ge gk : E) : Sm := fun st => (ge st).bind fun y st => withC i st fun _ => (gk st).bind fun k st => withC i st fun ds => match k with
  | .int n => (match ixN ds.length n with
    | some j => .ok .nx (setCell i (ds.set j y) st)
    | none => .bad)
  | _ => .bad
theorem ds_store {ge gk : E} {x : Str} {p q : Pos} {kx : Expr} (i : Nat) (he : DE X W e ge) (hk : DE X W kx gk) (hN : X.N[i]? = some x := by rfl) (hv : Vis X.env.scope x := by first | exact Or.inl rfl | exact Or.inr (Or.inl rfl) | exact Or.inr (Or.inr rfl)) (hd : (x == ("__debug__" : Str)) = false := by decide)
    (hcd : (x == ("__classdict__" : Str)) = false := by decide)
    (ha : ∀ v, assign (.Subscript (.Name x p) kx q) X.env v = (do
      let ov ← holding [v] (eval (.Name x p) X.env)
      let iv ← holding [v, ov] (eval kx X.env)
      standAt q
      holding [v, ov, iv] (setItem ov iv v)
      release [v, ov, iv] []) := by intro _; rfl)
    (hs : swapsWithSole [.Subscript (.Name x p) kx q] e pos.line X.env = pure false := by rfl) (hw : swappedStores [.Subscript (.Name x p) kx q] e X.env = pure none := by rfl)
    (h1 : (assignEach [.Subscript (.Name x p) kx q] X.env).map (·.2) = [assign (.Subscript (.Name x p) kx q) X.env] := by rfl) : DS X W (.Assign [.Subscript (.Name x p) kx q] e pos) (xStore i ge gk) := by
  refine PS.imp (ps_asg he (pg_sub (pv i hN hv hd hcd) hk set_list ha) hs hw h1) fun Dn σ H ⟨B0, H0, B, ba, st, rel, h⟩ => ⟨B0, H0, B, ba, st, rel, (Post.bindS h).imp fun v H1 ⟨B1, st1, d, s1, rel1, v1, h2⟩ => ?_⟩
  unfold withC at h2
  cases e1 : cellAt i st1 with
  | none => rw [e1] at h2; exact h2.elim
  | some ds0 =>
    rw [e1] at h2
    obtain ⟨a, vs, p1, p2, p3, p4, p5⟩ := cell_val rel1 e1
    refine ⟨.ref a, p1, B0, H0, B1, ba, st1, rel1, (Post.bindS h2).imp fun k H2 ⟨B2, st2, n, s2, rel2, v2, h3⟩ => ?_⟩
    have v2 : Rp X.K B2 k n := v2
    cases e2 : cellAt i st2 with
    | none => rw [e2] at h3; exact h3.elim
    | some ds =>
      rw [e2] at h3
      obtain ⟨a', ws, q1, q2, q3, q4, q5⟩ := cell_val rel2 e2
      rw [p1] at q1
      cases q1
      simp only at h3
      cases n <;> try exact h3.elim
      have ek := v2.int_inv
      subst ek
      simp only at h3
      split at h3
      · rename_i j ej
        refine ⟨a, ws, _, j, rfl, rfl, q3, by rw [q4.len]; exact ej, h3.nx (rel2.setC e2 p1 (q4.set (Rp.mono s2 v1) j))⟩
      · exact h3.elim

/-! ### a list that may be changed, read -/
def vwC {K : PySem.W.Frag} {B0 H0 B H : Hp} {σ : St} {ba : Option Addr} {st : S} {i : Nat} {ds : List D} (r : Rel K B0 H0 B σ H ba st) (h : cellAt i st = some ds) : ∃ a, σ[i]? = some (some (.ref a)) ∧ Vw K B H (.ref a) (.list ds) := by
  obtain ⟨a, vs, p1, p2, p3, p4, p5⟩ := cell_val r h
  exact ⟨a, p1, .inr ⟨a, vs, ds, rfl, .inl p3, p4, rfl⟩⟩
def xOpCL (f : D → D → Option D) (i : Nat) (gb : E) : E := fun st => withC i st fun _ => (gb st).bind fun y st => withC i st fun ds => lift (f (.list ds) y) st
def xOpCR (f : D → D → Option D) (ga : E) (i : Nat) : E := fun st => (ga st).bind fun x st => withC i st fun ds => lift (f x (.list ds)) st
theorem opCL_read {K : PySem.W.Frag} {mg : Str → Option Value} {f : D → D → Option D} {i : Nat} {gb : E} (σ : St) (H : Hp) (Q : VK) (h : tG K mg W (vD K) (xOpCL f i gb) σ H Q) : tOp (rD K f) (tVar i) (tG K mg W (vD K) gb) σ H Q := by
  obtain ⟨B0, H0, B, ba, st, rel, h⟩ := h
  unfold xOpCL withC at h
  cases e1 : cellAt i st with
  | none => rw [e1] at h; exact h.elim
  | some ds0 =>
    rw [e1] at h
    obtain ⟨a, p1, _⟩ := vwC rel e1
    refine ⟨.ref a, p1, B0, H0, B, ba, st, rel, (Post.bind h).imp fun y H1 ⟨B1, st1, d, s1, rel1, v1, h1⟩ => ?_⟩
    cases e2 : cellAt i st1 with
    | none => rw [e2] at h1; exact h1.elim
    | some ds =>
      rw [e2] at h1
      obtain ⟨a', q1, q2⟩ := vwC rel1 e2
      rw [p1] at q1
      cases q1
      obtain ⟨z, ez, h2⟩ := Post.lift h1
      refine ⟨B1, _, d, z, rel1.sub, q2, .inl v1, ez, fun v B' H' g r => ?_⟩
      obtain ⟨r3, s3⟩ := rel1.grow g
      exact h2 v B' H' s3 r3 r
theorem opCR_read {K : PySem.W.Frag} {mg : Str → Option Value} {f : D → D → Option D} {i : Nat} {ga : E} (σ : St) (H : Hp) (Q : VK) (h : tG K mg W (vD K) (xOpCR f ga i) σ H Q) : tOp (rD K f) (tG K mg W (vD K) ga) (tVar i) σ H Q := by
  obtain ⟨B0, H0, B, ba, st, rel, h⟩ := h
  refine ⟨B0, H0, B, ba, st, rel, (Post.bind h).imp fun y H1 ⟨B1, st1, d, s1, rel1, v1, h1⟩ => ?_⟩
  unfold withC at h1
  cases e2 : cellAt i st1 with
  | none => rw [e2] at h1; exact h1.elim
  | some ds =>
    rw [e2] at h1
    obtain ⟨a', q1, q2⟩ := vwC rel1 e2
    obtain ⟨z, ez, h2⟩ := Post.lift h1
    refine ⟨.ref a', q1, B1, d, _, z, rel1.sub, .inl v1, q2, ez, fun v B' H' g r => ?_⟩
    obtain ⟨r3, s3⟩ := rel1.grow g
    exact h2 v B' H' s3 r3 r
section
variable {x : Str} {p : Pos} (i : Nat) {f : D → D → Option D}
theorem de_ixC {gb : E} (ho : IxR X (rD X.K f)) (hb : DE X W b gb) (hN : X.N[i]? = some x := by rfl) (hv : Vis X.env.scope x := by first | exact Or.inl rfl | exact Or.inr (Or.inl rfl) | exact Or.inr (Or.inr rfl)) (hd : (x == ("__debug__" : Str)) = false := by decide) (hcd : (x == ("__classdict__" : Str)) = false := by decide) (hs : PlainIx b := by exact fun _ _ => rfl) :
    DE X W (.Subscript (.Name x p) b pos) (xOpCL f i gb) := PE.imp (pe_ix ho (pv i hN hv hd hcd) hb hs) opCL_read
theorem de_cmpCL {op : CmpOp} {gb : E} (ho : OpR X (compareOp op) (rD X.K f)) (hb : DE X W b gb) (hN : X.N[i]? = some x := by rfl) (hv : Vis X.env.scope x := by first | exact Or.inl rfl | exact Or.inr (Or.inl rfl) | exact Or.inr (Or.inr rfl)) (hd : (x == ("__debug__" : Str)) = false := by decide) (hcd : (x == ("__classdict__" : Str)) = false := by decide) (hm : behindInMarks op b = false := by first | exact nomark _ | rfl) :
    DE X W (.Compare (.Name x p) [op] [b] pos) (xOpCL f i gb) := PE.imp (pe_cmpR ho (pv i hN hv hd hcd) hb hm) opCL_read
theorem de_cmpCR {op : CmpOp} {ga : E} (ho : OpR X (compareOp op) (rD X.K f)) (ha : DE X W a ga) (hN : X.N[i]? = some x := by rfl) (hv : Vis X.env.scope x := by first | exact Or.inl rfl | exact Or.inr (Or.inl rfl) | exact Or.inr (Or.inr rfl)) (hd : (x == ("__debug__" : Str)) = false := by decide) (hcd : (x == ("__classdict__" : Str)) = false := by decide) (hm : behindInMarks op (.Name x p) = false := by first | exact nomark _ | rfl) :
    DE X W (.Compare a [op] [.Name x p] pos) (xOpCR f ga i) := PE.imp (pe_cmpR ho ha (pv i hN hv hd hcd) hm) opCR_read
end
/-- a built-in of one such list -/
def xFnC (f : List D → Option D) (i : Nat) : E := fun st => withC i st fun ds => lift (f [.list ds]) st
theorem fnC_read {K : PySem.W.Frag} {mg : Str → Option Value} {f : List D → Option D} {i : Nat} (σ : St) (H : Hp) (Q : VK) (h : tG K mg W (vD K) (xFnC f i) σ H Q) : tCB (rDs K f) (tCons (tVar i) tNil) σ H Q := by
  obtain ⟨B0, H0, B, ba, st, rel, h⟩ := h
  unfold xFnC withC at h
  cases e1 : cellAt i st with
  | none => rw [e1] at h; exact h.elim
  | some ds =>
    rw [e1] at h
    obtain ⟨a, q1, q2⟩ := vwC rel e1
    obtain ⟨z, ez, h2⟩ := Post.lift h
    refine ⟨.ref a, q1, B, _, z, rel.sub, .cons q2 .nil, ez, fun v B' H' g r => ?_⟩
    obtain ⟨r3, s3⟩ := rel.grow g
    exact h2 v B' H' s3 r3 r
theorem de_callBC {id : String} {x y : Str} {p p' : Pos} {f : List D → Option D} (i : Nat) (hc : CallR X (.builtin id) (rDs X.K f)) (hm : X.mg x = none) (hv : bootBuiltins x = some (.builtin id)) (hN : X.N[i]? = some y := by rfl) (hvs : Vis X.env.scope y := by first | exact Or.inl rfl | exact Or.inr (Or.inl rfl) | exact Or.inr (Or.inr rfl)) (hd : (y == ("__debug__" : Str)) = false := by decide) (hcd : (y == ("__classdict__" : Str)) = false := by decide) (hg : Gl X x := by rfl) (hn : x ≠ "__name__" := by decide) (hdb : (x == ("__debug__" : Str)) = false := by decide)
    (he : starEach [.Name y p'] X.env = (false, eval (.Name y p') X.env) :: starEach [] X.env := by rfl) (hpl : (backTo pos (starEach [] X.env)).any (·.1) = false := by rfl) : DE X W (.Call (.Name x p) [.Name y p'] [] pos) (xFnC f i) := PE.imp (pe_callB hc hg hm hv (pa_cons (pv i hN hvs hd hcd) pa_nil he) hn hdb he hpl) fnC_read
theorem de_callTyC {id : String} {x y : Str} {p p' : Pos} {f : List D → Option D} (i : Nat) (hc : CallR X (.type id) (rDs X.K f)) (hm : X.mg x = none) (hv : bootBuiltins x = some (.type id)) (hN : X.N[i]? = some y := by rfl) (hvs : Vis X.env.scope y := by first | exact Or.inl rfl | exact Or.inr (Or.inl rfl) | exact Or.inr (Or.inr rfl)) (hd : (y == ("__debug__" : Str)) = false := by decide) (hcd : (y == ("__classdict__" : Str)) = false := by decide) (hg : Gl X x := by rfl) (hn : x ≠ "__name__" := by decide) (hdb : (x == ("__debug__" : Str)) = false := by decide)
    (he : starEach [.Name y p'] X.env = (false, eval (.Name y p') X.env) :: starEach [] X.env := by rfl) (hpl : (backTo pos (starEach [] X.env)).any (·.1) = false := by rfl) : DE X W (.Call (.Name x p) [.Name y p'] [] pos) (xFnC f i) := PE.imp (pe_callTy hc hg hm hv (pa_cons (pv i hN hvs hd hcd) pa_nil he) hn hdb he hpl) fnC_read
/-- it is frozen -/
def xFrz (i : Nat) : E := fun st => match st.env[i]? with
  | some (some (.own ds)) => .ok (.list ds) (setV i (.list ds) st)
  | _ => .bad
theorem own_fresh {K : PySem.W.Frag} {B0 H0 B H : Hp} {σ : St} {ba : Option Addr} {st : S} {i : Nat} {ds : List D} (r : Rel K B0 H0 B σ H ba st) (h : st.env[i]? = some (some (.own ds))) :
    ∃ v, σ[i]? = some (some v) ∧ Rel K B0 H0 B σ H ba ⟨st.env.set i none, st.box⟩ ∧ Fresh K H0 B σ H ba ⟨st.env.set i none, st.box⟩ v ds := by
  obtain ⟨v, e1, a, vs, rfl, q1, q2, q3, q4, q5⟩ := r.env i _ h
  have key : ∀ (j : Nat) (s : Sl), (st.env.set i none)[j]? = some (some s) → j ≠ i ∧ st.env[j]? = some (some s) := fun j s e => by
    by_cases hj : j = i
    · subst hj
      by_cases hl : j < st.env.length
      · rw [List.getElem?_set_self hl] at e; cases e
      · rw [List.getElem?_eq_none (by simpa using hl)] at e; cases e
    · rw [List.getElem?_set_ne (Ne.symm hj)] at e
      exact ⟨hj, e⟩
  refine ⟨.ref a, e1, ⟨r.stp, r.sub, r.box, r.bal, by simp [r.len], fun j s e => r.env j s (key j s e).2, fun j k es fs w p1 p2 => r.dist j k es fs w (key j _ p1).2 (key k _ p2).2⟩, a, vs, rfl, q1, q2, q3, q4, q5, fun j es e q => ?_⟩
  obtain ⟨hj, e⟩ := key j _ e
  exact hj (r.dist j i es ds _ e h q e1)
theorem set_set {α : Type} (l : List α) (i : Nat) (x y : α) : (l.set i x).set i y = l.set i y := by simp
theorem de_frzV (i : Nat) {x : Str} (hN : X.N[i]? = some x := by rfl) (hv : Vis X.env.scope x := by first | exact Or.inl rfl | exact Or.inr (Or.inl rfl) | exact Or.inr (Or.inr rfl)) (hd : (x == ("__debug__" : Str)) = false := by decide)
    (hcd : (x == ("__classdict__" : Str)) = false := by decide) : DE X W (.Name x pos) (xFrz i) := by
  refine PE.imp (pv i hN hv hd hcd) fun σ H Q ⟨B0, H0, B, ba, st, rel, h⟩ => ?_
  unfold xFrz at h
  split at h
  · rename_i ds e
    obtain ⟨v, e1, r1, f1⟩ := own_fresh rel e
    obtain ⟨B2, s2, r2, q2, _⟩ := r1.freeze f1
    refine ⟨v, e1, h v B2 H s2 ?_ q2⟩
    have r3 := r2.setV (i := i) q2
    have e3 : setV i (.list ds) ⟨st.env.set i none, st.box⟩ = setV i (.list ds) st := by simp [setV]
    have e4 : σ.set i (some v) = σ := List.ext_getElem? fun j => by
      by_cases hj : j = i
      · subst hj
        have hl : j < σ.length := (List.getElem?_eq_some_iff.mp e1).1
        rw [List.getElem?_set_self hl, e1]
      · rw [List.getElem?_set_ne (Ne.symm hj)]
    rw [e3, e4] at r3
    exact r3
  · exact h.elim
/-- it is handed back -/
def xRetO (i : Nat) : Sm := fun st => match st.env[i]? with
  | some (some (.own ds)) => .ok (.rl ds) ⟨st.env.set i none, st.box⟩
  | _ => .bad
theorem ds_retO (i : Nat) {x : Str} {p : Pos} (hN : X.N[i]? = some x := by rfl) (hv : Vis X.env.scope x := by first | exact Or.inl rfl | exact Or.inr (Or.inl rfl) | exact Or.inr (Or.inr rfl)) (hd : (x == ("__debug__" : Str)) = false := by decide)
    (hcd : (x == ("__classdict__" : Str)) = false := by decide) : DS X W (.Return (some (.Name x p)) pos) (xRetO i) := by
  refine PS.imp (ps_ret (pv i hN hv hd hcd)) fun Dn σ H ⟨B0, H0, B, ba, st, rel, h⟩ => ?_
  unfold xRetO at h
  split at h
  · rename_i ds e
    obtain ⟨v, e1, r1, f1⟩ := own_fresh rel e
    exact ⟨v, e1, h σ v B H (Same.refl _) r1 f1⟩
  · exact h.elim

/-! ### built-ins -/
theorem c_of {f : Value} {r : List V → Hp → VK → Prop} {df : List D → Option D} (hc : CallR X f r) (h : ∀ xs H Q, rDs X.K df xs H Q → r xs H Q) : CallR X f (rDs X.K df) := fun pins s σ H xs us Q I rs q => hc pins s σ H xs us Q I rs (h xs H Q q)
def un1 (f : D → Option D) : List D → Option D
  | [d] => f d
  | _ => none
def un2 (f : D → D → Option D) : List D → Option D
  | [d, e] => f d e
  | _ => none
theorem of_un1 {K : PySem.W.Frag} {f : D → Option D} {xs : List V} {H : Hp} {Q : VK} (h : rDs K (un1 f) xs H Q) : ∃ x, xs = [x] ∧ rD1 K f x H Q := by
  obtain ⟨B, ds, z, sub, vs, hz, q⟩ := h
  cases vs with
  | nil => cases hz
  | cons v1 vr =>
    cases vr with
    | nil => exact ⟨_, rfl, B, _, z, sub, v1, hz, q⟩
    | cons _ _ => cases hz
theorem of_un2 {K : PySem.W.Frag} {f : D → D → Option D} {xs : List V} {H : Hp} {Q : VK} (h : rDs K (un2 f) xs H Q) : ∃ x y, xs = [x, y] ∧ rD K f x y H Q := by
  obtain ⟨B, ds, z, sub, vs, hz, q⟩ := h
  cases vs with
  | nil => cases hz
  | cons v1 vr =>
    cases vr with
    | nil => cases hz
    | cons v2 vr =>
      cases vr with
      | nil => exact ⟨_, _, rfl, B, _, _, z, sub, v1, v2, hz, q⟩
      | cons _ _ => cases hz
def lenD : D → Option D
  | .list ds => some (.int ds.length)
  | .tuple ds => some (.int ds.length)
  | .str x => if decide (x.length ≤ 16777216) then some (.int x.length) else none
  | _ => none
abbrev fLen := un1 lenD
theorem c_len : CallR X (.builtin "len") (rDs X.K fLen) := c_of call_len fun xs H Q h => by
  obtain ⟨x, rfl, B, d, z, sub, v1, hz, q⟩ := of_un1 h
  cases d <;> simp only [lenD] at hz <;> first | cases hz | skip
  · split at hz
    · rename_i hc
      cases hz
      have e := (v1.rp (fun _ z => nomatch z)).str_inv
      subst e
      exact ⟨_, _, rfl, ⟨by rw [sizeLine_eq]; exact of_decide_eq_true hc, rfl⟩, q _ B H grow0 (.int _)⟩
    · cases hz
  · obtain ⟨a, ws, rfl, h1, h2⟩ := v1.lst sub
    exact ⟨_, _, rfl, .inl ⟨ws, .inl h1, rfl⟩, by rw [h2.len]; exact q _ B H grow0 (.int _)⟩
  · obtain ⟨a, ws, rfl, h1, h2⟩ := v1.tup sub
    exact ⟨_, _, rfl, .inr ⟨ws, h1, rfl⟩, by rw [h2.len]; exact q _ B H grow0 (.int _)⟩
def absD : D → Option D
  | .int i => some (.int (if i < 0 then -i else i))
  | _ => none
abbrev fAbs := un1 absD
theorem c_abs : CallR X (.builtin "abs") (rDs X.K fAbs) := c_of call_abs fun xs H Q h => by
  obtain ⟨x, rfl, B, d, z, sub, v1, hz, q⟩ := of_un1 h
  cases d <;> simp only [absD] at hz <;> first | cases hz | skip
  have e := (v1.rp (fun _ z => nomatch z)).int_inv
  subst e
  exact ⟨_, rfl, q _ B H grow0 (.int _)⟩
def maxD : D → D → Option D
  | .int i, .int j => some (.int (if j > i then j else i))
  | _, _ => none
def minD : D → D → Option D
  | .int i, .int j => some (.int (if j < i then j else i))
  | _, _ => none
abbrev fMax := un2 maxD
abbrev fMin := un2 minD
theorem c_max (hc : X.calm = true) : CallR X (.builtin "max") (rDs X.K fMax) := c_of (call_max2 hc) fun xs H Q h => by
  obtain ⟨x, y, rfl, B, d, e, z, sub, v1, v2, hz, q⟩ := of_un2 h
  cases d <;> cases e <;> simp only [maxD] at hz <;> first | cases hz | skip
  have e1 := (v1.rp (fun _ z => nomatch z)).int_inv
  have e2 := (v2.rp (fun _ z => nomatch z)).int_inv
  subst e1 e2
  exact ⟨_, _, rfl, q _ B H grow0 (.int _)⟩
theorem c_min (hc : X.calm = true) : CallR X (.builtin "min") (rDs X.K fMin) := c_of (call_min2 hc) fun xs H Q h => by
  obtain ⟨x, y, rfl, B, d, e, z, sub, v1, v2, hz, q⟩ := of_un2 h
  cases d <;> cases e <;> simp only [minD] at hz <;> first | cases hz | skip
  have e1 := (v1.rp (fun _ z => nomatch z)).int_inv
  have e2 := (v2.rp (fun _ z => nomatch z)).int_inv
  subst e1 e2
  exact ⟨_, _, rfl, q _ B H grow0 (.int _)⟩
def intD : D → Option D
  | .int i => some (.int i)
  | .bool b => some (.int (if b then 1 else 0))
  | _ => none
abbrev fInt := un1 intD
theorem c_int : CallR X (.type "int") (rDs X.K fInt) := c_of call_int1 fun xs H Q h => by
  obtain ⟨x, rfl, B, d, z, sub, v1, hz, q⟩ := of_un1 h
  cases d <;> simp only [intD] at hz <;> first | cases hz | skip
  · have e := (v1.rp (fun _ z => nomatch z)).bl_inv
    subst e
    exact .inr ⟨_, rfl, q _ B H grow0 (.int _)⟩
  · have e := (v1.rp (fun _ z => nomatch z)).int_inv
    subst e
    exact .inl ⟨_, rfl, q _ B H grow0 (.int _)⟩
def tupD : D → Option D
  | .list ds => some (.tuple ds)
  | .tuple ds => some (.tuple ds)
  | _ => none
abbrev fTup := un1 tupD
theorem c_tup : CallR X (.type "tuple") (rDs X.K fTup) := c_of call_tuple_of fun xs H Q h => by
  obtain ⟨x, rfl, B, d, z, sub, v1, hz, q⟩ := of_un1 h
  cases d <;> simp only [tupD] at hz <;> first | cases hz | skip
  · obtain ⟨a, ws, rfl, h1, h2⟩ := v1.lst sub
    exact ⟨a, ws, rfl, .inl ⟨.inl h1, fun l hl => q _ _ _ (grow1 hl) (.tup (SqT.of upd_same) (h2.mono (same1 sub hl)))⟩⟩
  · obtain ⟨a, ws, rfl, h1, h2⟩ := (v1.rp (fun _ z => nomatch z)).tup_inv
    exact ⟨a, ws, rfl, .inr ⟨seqT_same (H := B) sub h1, q _ B H grow0 (.tup h1 h2)⟩⟩

/-! ### walks -/
def intsD (lo : Int) (n : Nat) : List D := (List.range n).map fun (i : Nat) => .int (lo + (i : Int))
theorem intsD_get (lo : Int) (n i : Nat) (d : D) (h : (intsD lo n)[i]? = some d) : i < n ∧ d = .int (lo + (i : Int)) := by
  unfold intsD at h
  rw [List.getElem?_map] at h
  by_cases hi : i < n
  · rw [List.getElem?_range hi] at h
    exact ⟨hi, (Option.some.inj h).symm⟩
  · rw [List.getElem?_eq_none (by simpa using hi)] at h
    cases h
theorem yld_range {K : PySem.W.Frag} {lo : Int} {n : Nat} {B : Hp} : Yld K (Itr lo n) (intsD lo n) B := fun B' H' s sub i =>
  ⟨fun d e => by
    obtain ⟨h1, h2⟩ := intsD_get lo n i d e
    refine ⟨h1, fun x H2 y => ?_⟩
    obtain ⟨y1, y2⟩ := y
    subst y1 y2 h2
    exact ⟨B', grow0, .int _⟩, fun e => show n ≤ i by simpa [intsD] using e⟩
def rgOk (j : Int) : Bool := decide (-1000000000 ≤ j) && decide (j ≤ 1000000000)
def r1D : D → Option (List D)
  | .int j => if rgOk j then some (intsD 0 j.toNat) else none
  | _ => none
def r2D : D → D → Option (List D)
  | .int i, .int j => if rgOk i && rgOk j then some (intsD i (j - i).toNat) else none
  | _, _ => none
def xI1 (f : D → Option (List D)) (ga : E) : EA := fun st => (ga st).bind fun d st => lift (f d) st
def xI2 (f : D → D → Option (List D)) (ga gb : E) : EA := fun st => (ga st).bind fun d st => (gb st).bind fun e st => lift (f d e) st
theorem di_range1 {tg : Expr} {ga : E} {p : Pos} (hm : X.mg "range" = none) (ha : DE X W a ga) (hg : Gl X "range" := by rfl) (hs : starEach [a] X.env = [(false, eval a X.env)] := by rfl) (hs' : starEach [a] X.env = (false, eval a X.env) :: starEach [] X.env := by rfl) : DI X W tg (.Call (.Name "range" p) [a] [] pos) (xI1 r1D ga) := by
  refine PI.imp (pi_range1 hg hm (pa_cons ha pa_nil hs') hs) fun σ H Q ⟨B0, H0, B, ba, st, rel, h⟩ => ⟨B0, H0, B, ba, st, rel, (Post.bind h).imp fun x H1 ⟨B1, st1, d, s1, rel1, v1, h1⟩ => ?_⟩
  obtain ⟨z, ez, h2⟩ := Post.lift h1
  have v1 : Rp X.K B1 x d := v1
  cases d <;> simp only [r1D] at ez <;> first | cases ez | skip
  split at ez
  · rename_i hc
    cases ez
    have e := v1.int_inv
    subst e
    simp only [rgOk, Bool.and_eq_true, decide_eq_true_eq] at hc
    exact ⟨_, rfl, by omega, by omega, h2.ok rel1 yld_range⟩
  · cases ez
theorem di_range2 {tg : Expr} {ga gb : E} {p : Pos} (hm : X.mg "range" = none) (ha : DE X W a ga) (hb : DE X W b gb) (hg : Gl X "range" := by rfl) (hs : starEach [a, b] X.env = [(false, eval a X.env), (false, eval b X.env)] := by rfl) (hs2 : starEach [b] X.env = [(false, eval b X.env)] := by rfl)
    (hs' : starEach [a, b] X.env = (false, eval a X.env) :: starEach [b] X.env := by rfl) (hs2' : starEach [b] X.env = (false, eval b X.env) :: starEach [] X.env := by rfl) : DI X W tg (.Call (.Name "range" p) [a, b] [] pos) (xI2 r2D ga gb) := by
  refine PI.imp (pi_range2 hg hm (pa_cons ha (pa_cons hb pa_nil hs2') hs') hs hs2) fun σ H Q ⟨B0, H0, B, ba, st, rel, h⟩ => ⟨B0, H0, B, ba, st, rel, (Post.bind h).imp fun x H1 ⟨B1, st1, d, s1, rel1, v1, h1⟩ => ⟨B0, H0, B1, ba, st1, rel1, (Post.bind h1).imp fun y H2 ⟨B2, st2, e, s2, rel2, v2, h2⟩ => ?_⟩⟩
  obtain ⟨z, ez, h3⟩ := Post.lift h2
  have v1 : Rp X.K B2 x d := Rp.mono s2 v1
  have v2 : Rp X.K B2 y e := v2
  cases d <;> cases e <;> simp only [r2D] at ez <;> first | cases ez | skip
  split at ez
  · rename_i hc
    cases ez
    have e1 := v1.int_inv
    have e2 := v2.int_inv
    subst e1 e2
    simp only [rgOk, Bool.and_eq_true, decide_eq_true_eq] at hc
    exact ⟨_, _, rfl, ⟨by omega, by omega, by omega, by omega⟩, h3.ok rel2 yld_range⟩
  · cases ez
/-- a list or a tuple in the ground -/
def asSeq : D → Option (List D)
  | .list ds => some ds
  | .tuple ds => some ds
  | _ => none
def asL : D → Option (List D)
  | .list ds => some ds
  | _ => none
def asT : D → Option (List D)
  | .tuple ds => some ds
  | _ => none
def xIt (f : D → Option (List D)) (ge : E) : EA := fun st => (ge st).bind fun d st => lift (f d) st
theorem yld_list {K : PySem.W.Frag} {B : Hp} {a : Addr} {vs : List V} {ds : List D} (h : Rd B a (.lst vs)) (ra : RpA K B vs ds) : Yld K (Itl K a) ds B := fun B' H' s sub i => by
  have hr : SqL K H' a vs := .inl (rd_same (H := B') sub (rd_same s h))
  refine ⟨fun d e => ?_, fun e => ⟨vs, hr, by rw [ra.len]; exact e⟩⟩
  obtain ⟨v, e1, e2⟩ := ra.get e
  refine ⟨⟨vs, v, hr, e1⟩, fun x H2 y => ?_⟩
  obtain ⟨y1, y2⟩ := y
  subst y1
  have := y2 vs hr
  rw [e1] at this
  cases this
  exact ⟨B', grow0, Rp.mono s e2⟩
theorem yld_tup {K : PySem.W.Frag} {B : Hp} {a : Addr} {vs : List V} {ds : List D} (h : SqT K B a vs) (ra : RpA K B vs ds) : Yld K (Itt K a) ds B := fun B' H' s sub i => by
  have hr : SqT K H' a vs := seqT_same (H := B') sub (seqT_same s h)
  refine ⟨fun d e => ?_, fun e => ⟨vs, hr, by rw [ra.len]; exact e⟩⟩
  obtain ⟨v, e1, e2⟩ := ra.get e
  refine ⟨⟨vs, v, hr, e1⟩, fun x H2 y => ?_⟩
  obtain ⟨y1, y2⟩ := y
  subst y1
  have := y2 vs hr
  rw [e1] at this
  cases this
  exact ⟨B', grow0, Rp.mono s e2⟩
theorem di_list {tg : Expr} {ge : E} (he : DE X W e ge) : DI X W tg e (xIt asL ge) := by
  refine PI.imp (pi_list he) fun σ H Q ⟨B0, H0, B, ba, st, rel, h⟩ => ⟨B0, H0, B, ba, st, rel, (Post.bind h).imp fun v H1 ⟨B1, st1, d, s1, rel1, v1, h1⟩ => ?_⟩
  obtain ⟨z, ez, h2⟩ := Post.lift h1
  have v1 : Rp X.K B1 v d := v1
  cases d <;> simp only [asL] at ez <;> first | cases ez | skip
  obtain ⟨a, vs, rfl, p1, p2⟩ := v1.lst_inv
  exact ⟨a, rfl, ⟨vs, .inl (rd_same (H := B1) rel1.sub p1)⟩, h2.ok rel1 (yld_list p1 p2)⟩
theorem di_tup {tg : Expr} {ge : E} (he : DE X W e ge) : DI X W tg e (xIt asT ge) := by
  refine PI.imp (pi_tup he) fun σ H Q ⟨B0, H0, B, ba, st, rel, h⟩ => ⟨B0, H0, B, ba, st, rel, (Post.bind h).imp fun v H1 ⟨B1, st1, d, s1, rel1, v1, h1⟩ => ?_⟩
  obtain ⟨z, ez, h2⟩ := Post.lift h1
  have v1 : Rp X.K B1 v d := v1
  cases d <;> simp only [asT] at ez <;> first | cases ez | skip
  obtain ⟨a, vs, rfl, p1, p2⟩ := v1.tup_inv
  exact ⟨a, rfl, ⟨vs, seqT_same (H := B1) rel1.sub p1⟩, h2.ok rel1 (yld_tup p1 p2)⟩
end
end DM
/-! Part 8: isinstance, short words for defs, slices. -/
namespace DM
open PySem L2
def tyName : D → String
  | .none => "NoneType"
  | .bool _ => "bool"
  | .int _ => "int"
  | .str _ => "str"
  | .list _ => "list"
  | .tuple _ => "tuple"
  | .dict _ => "dict"
theorem Vw.ty {K : PySem.W.Frag} {B H : Hp} {v : V} {d : D} (s : SubH B H) (h : Vw K B H v d) : TyX K H v (.type (tyName d)) := by
  rcases h with h | ⟨a, vs, ds', e, h1, h2, e2⟩
  · cases h with
    | non => exact .base .non
    | bl b => exact .base (.bl b)
    | int i => exact .base (.int i)
    | str x => exact .base (.str x)
    | lst h1 h2 =>
      rcases h1 with h1 | ⟨o, h1⟩
      · exact .base (.lst (s _ _ h1))
      · exact .base (.frz (s _ _ h1))
    | tup h1 h2 =>
      rcases h1 with (h1 | ⟨o, h1⟩) | ⟨o, its, n, h1, h3, _⟩
      · exact .base (.tup (s _ _ h1))
      · exact .fTuple (s _ _ h1)
      · exact .kTuple h1 h3
    | dic h1 h2 => exact .base (.dK (s _ _ h1))
  · subst e e2
    rcases h1 with h1 | ⟨o, h1⟩
    · exact .base (.lst h1)
    · exact .base (.frz h1)
def isTy (T : String) (d : D) : Option D := (kitB (tyName d) T).map .bool
section
variable {X : Cx} {W : WX} {e a b : Expr} {es : List Expr} {pos : Pos}
def xIsi (T : String) (g : E) : E := fun st => (g st).bind fun d st => lift (isTy T d) st
theorem isi_ok {K : PySem.W.Frag} {B H : Hp} {v : V} {d z : D} {T : String} {Q : VK} (sub : SubH B H) (hv : Vw K B H v d) (hz : isTy T d = some z) (q : ∀ v B' H', Grow B H B' H' → Rp K B' v z → Q v H') : rIsi K [v, .ty T] H Q := by
  unfold isTy at hz
  cases ek : kitB (tyName d) T with
  | none => rw [ek] at hz; cases hz
  | some b =>
    rw [ek] at hz
    cases hz
    exact ⟨v, .ty T, .type (tyName d), .type T, b, rfl, .ty T, hv.ty sub, kit_ty ek, q _ B H grow0 (.bl b)⟩
theorem de_isi {T : String} {x : Str} {p p' : Pos} {g : E} (hm : X.mg "isinstance" = none) (hmx : X.mg x = none) (hvx : bootBuiltins x = some (.type T)) (he : DE X W e g) (hg : Gl X "isinstance" := by rfl) (hgx : Gl X x := by rfl) (hn : x ≠ "__name__" := by decide) (hdb : (x == ("__debug__" : Str)) = false := by decide)
    (h1 : starEach [e, .Name x p'] X.env = (false, eval e X.env) :: starEach [.Name x p'] X.env := by rfl) (h2 : starEach [.Name x p'] X.env = (false, eval (.Name x p') X.env) :: starEach [] X.env := by rfl) (hpl : (backTo pos (starEach [.Name x p'] X.env)).any (·.1) = false := by rfl) :
    DE X W (.Call (.Name "isinstance" p) [e, .Name x p'] [] pos) (xIsi T g) := by
  refine PE.imp (pe_callB call_isi hg hm (by decide +kernel) (pa_cons he (pa_cons (pe_bltn (v := .ty T) hgx hmx hvx rfl hn hdb) pa_nil h2) h1) (by decide) (by decide) h1 hpl) fun σ H Q ⟨B0, H0, B, ba, st, rel, h⟩ => ⟨B0, H0, B, ba, st, rel, (Post.bind h).imp fun v H1 ⟨B1, st1, d, s1, rel1, v1, h1⟩ => ?_⟩
  obtain ⟨z, ez, h2⟩ := Post.lift h1
  exact isi_ok rel1.sub (.inl v1) ez fun w B' H' g r => by
    obtain ⟨r3, s3⟩ := rel1.grow g
    exact h2 w B' H' s3 r3 r
def xIsiC (T : String) (i : Nat) : E := fun st => withC i st fun ds => lift (isTy T (.list ds)) st
theorem de_isiC {T : String} {x y : Str} {p p' p2 : Pos} (i : Nat) (hm : X.mg "isinstance" = none) (hmx : X.mg x = none) (hvx : bootBuiltins x = some (.type T)) (hN : X.N[i]? = some y := by rfl) (hvs : Vis X.env.scope y := by first | exact Or.inl rfl | exact Or.inr (Or.inl rfl) | exact Or.inr (Or.inr rfl)) (hd : (y == ("__debug__" : Str)) = false := by decide) (hcd : (y == ("__classdict__" : Str)) = false := by decide) (hg : Gl X "isinstance" := by rfl) (hgx : Gl X x := by rfl) (hn : x ≠ "__name__" := by decide) (hdb : (x == ("__debug__" : Str)) = false := by decide)
    (h1 : starEach [.Name y p2, .Name x p'] X.env = (false, eval (.Name y p2) X.env) :: starEach [.Name x p'] X.env := by rfl) (h2 : starEach [.Name x p'] X.env = (false, eval (.Name x p') X.env) :: starEach [] X.env := by rfl) (hpl : (backTo pos (starEach [.Name x p'] X.env)).any (·.1) = false := by rfl) :
    DE X W (.Call (.Name "isinstance" p) [.Name y p2, .Name x p'] [] pos) (xIsiC T i) := by
  refine PE.imp (pe_callB call_isi hg hm (by decide +kernel) (pa_cons (pv i hN hvs hd hcd) (pa_cons (pe_bltn (v := .ty T) hgx hmx hvx rfl hn hdb) pa_nil h2) h1) (by decide) (by decide) h1 hpl) fun σ H Q ⟨B0, H0, B, ba, st, rel, h⟩ => ?_
  unfold xIsiC withC at h
  cases e1 : cellAt i st with
  | none => rw [e1] at h; exact h.elim
  | some ds =>
    rw [e1] at h
    obtain ⟨a, q1, q2⟩ := vwC rel e1
    obtain ⟨z, ez, h2⟩ := Post.lift h
    refine ⟨.ref a, q1, isi_ok rel.sub q2 ez fun w B' H' g r => ?_⟩
    obtain ⟨r3, s3⟩ := rel.grow g
    exact h2 w B' H' s3 r3 r

/-! ### a def as its callers see it; a constant of the module -/
structure Cal (P : Program) (w : World) (K : PySem.W.Frag) (mg : Str → Option Value) (base : Heap) (k : Nat) (x : Str) (ps : List Str) (g : Sm) : Prop where
  ex : ∃ (f : Addr) (fd : FuncData), FnD P w K mg base k f fd ps g ∧ mg x = some (.ref f) ∧ PySem.W.keepIn K (.ref f) = true ∧ Binds K fd ps []
def GCon (K : PySem.W.Frag) (mg : Str → Option Value) (x : Str) (d : D) : Prop := ∃ (v : V) (u : Value), mg x = some u ∧ RelV v u ∧ ∀ B, Rp K B v d
theorem de_con {x : Str} {d : D} (h : GCon X.K X.mg x d) (hg : Gl X x := by rfl) (hdb : (x == ("__debug__" : Str)) = false := by decide) : DE X W (.Name x pos) (xC d) := by
  obtain ⟨v, u, h1, h2, h3⟩ := h
  exact de_glob hg h1 h2 h3 hdb
theorem takesF : Takes X WF := takes0
section
variable {k j n : Nat} {ps : List Str} {g : Sm} {x : Str} {p : Pos} {ga : EU}
theorem de_cl (C : Cal X.prog X.w X.K X.mg X.base j x ps g) (hr : Room k X.A) (hj : j ≤ k) (tk : Takes X W) (ha : DU X W (e :: es) ga) (hg : Gl X x := by rfl)
    (hdb : (x == ("__debug__" : Str)) = false := by decide) (he : starEach (e :: es) X.env = (false, eval e X.env) :: starEach es X.env := by rfl) (hpl : (backTo pos (starEach es X.env)).any (·.1) = false := by rfl) (hn : ps.length = n := by rfl) :
    DE X W (.Call (.Name x p) (e :: es) [] pos) (xCall n g ga) := by
  obtain ⟨f, fd, F, hm, hk, hb⟩ := C.ex
  subst hn
  exact de_call F (hr.mono hj) hm hk hb tk ha hg hdb he hpl
theorem df_cl (C : Cal X.prog X.w X.K X.mg X.base j x ps g) (hr : Room k X.A) (hj : j ≤ k) (tk : Takes X W) (ha : DU X W (e :: es) ga) (hg : Gl X x := by rfl)
    (hdb : (x == ("__debug__" : Str)) = false := by decide) (he : starEach (e :: es) X.env = (false, eval e X.env) :: starEach es X.env := by rfl) (hpl : (backTo pos (starEach es X.env)).any (·.1) = false := by rfl) (hn : ps.length = n := by rfl) :
    DF X W (.Call (.Name x p) (e :: es) [] pos) (xCallF n g ga) := by
  obtain ⟨f, fd, F, hm, hk, hb⟩ := C.ex
  subst hn
  exact df_call F (hr.mono hj) hm hk hb tk ha hg hdb he hpl
end
/-- from the def as the top left it -/
theorem cal_of {P : Program} {w : World} {K : PySem.W.Frag} {mg : Str → Option Value} {base : Heap} {k : Nat} {x qual : Str} {st : Stmt} {f : Addr} {fd : FuncData} {ps : List Str} {g : Sm} (F : Fun K x qual st f fd) (hm : mg x = some (.ref f))
    (hb : ∀ (kV doc pm : Value) (an : Option Addr) (cdv ct : Value) (us : List Value), us.length = ps.length → bindArgs (PySem.W.fnOf x qual (defArgs st) (defBody st) (defScope st) .none kV doc pm an cdv ct) ⟨us, []⟩ = pure (ps.zip us)) (h : FnD P w K mg base k f fd ps g) : Cal P w K mg base k x ps g := ⟨f, fd, h, hm, F.kp, F.binds hb⟩
end
end DM
namespace DM
open PySem L2
/-! ### a def of the text as it stands behind the top -/
def Tp (K : PySem.W.Frag) (x : Str) (st : Stmt) : Prop := ∃ (f : Addr) (oc : Value) (od : Option Addr) (kV doc pm : Value) (an : Option Addr) (cdv ct : Value) (osl : Array (Option Value)),
  PySem.W.nsIn K mainGlobals x = some (some (.ref f)) ∧ K.lookup f = some ⟨oc, od, .func (PySem.W.fnOf x x (defArgs st) (defBody st) (defScope st) .none kV doc pm an cdv ct), osl⟩ ∧ PySem.W.codeIn K cdv x = true ∧ PySem.W.keepIn K (.ref f) = true
theorem tp_cal {P : Program} {w : World} {K : PySem.W.Frag} {mg : Str → Option Value} {base h : Heap} {k : Nat} {x : Str} {st : Stmt} {ps : List Str} {g : Sm} (X : K.In h) (G : h.Ns mainGlobals mg) (t : Tp K x st)
    (hb : ∀ (kV doc pm : Value) (an : Option Addr) (cdv ct : Value) (us : List Value), us.length = ps.length → bindArgs (PySem.W.fnOf x x (defArgs st) (defBody st) (defScope st) .none kV doc pm an cdv ct) ⟨us, []⟩ = pure (ps.zip us))
    (ok : ∀ {f : Addr} {fd : FuncData}, Fun K x x st f fd → FnD P w K mg base k f fd ps g) : Cal P w K mg base k x ps g := by
  obtain ⟨f, oc, od, kV, doc, pm, an, cdv, ct, osl, a1, l1, c1, k1⟩ := t
  have F := fun_mk (st := st) l1 c1 k1
  exact cal_of F (PySem.W.mg_of X G a1) hb (ok F)
/-- what is asked of the law's def -/
def spLaw (K : PySem.W.Frag) : Sp := fun vs H Q _ => ∃ (a : Addr) (ns : List Int), vs = [.ref a] ∧ SqL K H a (ns.map V.int) ∧ ns.length ≤ 63 ∧ ∀ H', Q (.bl true) H'
/-- the law's promise at the script -/
theorem law_sp {K : PySem.W.Frag} {mg : Str → Option Value} {g : Sm} (hg : ∀ ns : List Int, ns.length ≤ 63 → ∃ bx, ev g [some (.scr ns)] none = .ok (.rt (.bool true)) bx) (vs : List V) (H : Hp) (Q : VK) (Ex : XK) (h : spLaw K vs H Q Ex) : SpD K mg 1 g vs H Q Ex := by
  obtain ⟨a, ns, rfl, hS, hl, q⟩ := h
  obtain ⟨bx, e⟩ := hg ns hl
  refine ⟨rfl, H, none, ⟨[some (.scr ns)], none⟩, ⟨Step.refl, fun _ _ e => e, fun ds e => (by cases e), fun a e => (by cases e), rfl, fun i s e => ?_, fun i j ds es v e1 => ?_⟩, ?_⟩
  · cases i with
    | zero =>
      cases e
      exact ⟨.ref a, rfl, a, rfl, hS⟩
    | succ i => simp at e
  · cases i with
    | zero => cases e1
    | succ i => simp at e1
  · unfold ev at e
    cases e2 : g ⟨[some (.scr ns)], none⟩ with
    | bad => rw [e2] at e; cases e
    | exc c st => rw [e2] at e; cases e
    | ok fl st =>
      rw [e2] at e
      cases e
      intro v B' H' _ rp
      rw [rp.bl_inv]
      exact q H'
theorem tp_law {P : Program} {w : World} {K : PySem.W.Frag} {mg : Str → Option Value} {h : Heap} {k : Nat} {x y : Str} {st : Stmt} {g : Sm} {fa : Addr} (X : K.In h) (G : h.Ns mainGlobals mg) (hfa : mg x = some (.ref fa)) (t : Tp K x st) (hg : ∀ ns : List Int, ns.length ≤ 63 → ∃ bx, ev g [some (.scr ns)] none = .ok (.rt (.bool true)) bx)
    (hb : ∀ (kV doc pm : Value) (an : Option Addr) (cdv ct : Value) (u : Value), bindArgs (PySem.W.fnOf x x (defArgs st) (defBody st) (defScope st) .none kV doc pm an cdv ct) ⟨[u], []⟩ = pure [(y, u)])
    (ok : ∀ {base : Heap} {f : Addr} {fd : FuncData}, K.In base → base.Ns mainGlobals mg → Fun K x x st f fd → FnD P w K mg base k f fd [y] g) :
    ∃ fd : FuncData, (∀ (s : Shared) (u : Value), BindsTo s fd ⟨[u], []⟩ [(y, u)]) ∧ ∀ base : Heap, K.In base → base.Ns mainGlobals mg → FnOk P w K mg base (L2.CX P w) k fa fd [y] (spLaw K) := by
  obtain ⟨f, oc, od, kV, doc, pm, an, cdv, ct, osl, a1, l1, c1, k1⟩ := t
  have e := hfa.symm.trans (PySem.W.mg_of X G a1)
  cases e
  exact ⟨_, fun s v => .of_eq (hb kV doc pm an cdv ct v), fun base i n => FnOk.imp (ok i n (fun_mk (st := st) l1 c1 k1)) (law_sp hg)⟩
theorem cx_false {P : Program} {w : World} {H : Hp} {s : Shared} {e : Value} {s' : Shared} (h : L2.CX P w [] H s (fun _ _ _ => False) e s') : False := by
  obtain ⟨_, _, _, _, _, _, _, _, _, _, _, _, z⟩ := h
  exact z
end DM
namespace DM
open PySem L2
theorem tp_mk {K : PySem.W.Frag} {x : Str} {st : Stmt} {f : Addr} {oc : Value} {od : Option Addr} {kV doc pm : Value} {an : Option Addr} {cdv ct : Value} {osl : Array (Option Value)}
    (a : PySem.W.nsIn K mainGlobals x = some (some (.ref f))) (l : K.lookup f = some ⟨oc, od, .func (PySem.W.fnOf x x (defArgs st) (defBody st) (defScope st) .none kV doc pm an cdv ct), osl⟩) (c : PySem.W.codeIn K cdv x = true) (k : PySem.W.keepIn K (.ref f) = true) : Tp K x st := ⟨f, oc, od, kV, doc, pm, an, cdv, ct, osl, a, l, c, k⟩
theorem con_int {K : PySem.W.Frag} {h : Heap} {mg : Str → Option Value} {x : Str} {i : Int} {t : Tok} (X : K.In h) (G : h.Ns mainGlobals mg) (a : PySem.W.nsIn K mainGlobals x = some (some (.int i t))) : GCon K mg x (.int i) := ⟨.int i, _, PySem.W.mg_of X G a, ⟨t, rfl⟩, fun _ => .int i⟩
theorem con_str {K : PySem.W.Frag} {h : Heap} {mg : Str → Option Value} {x y : Str} {t : Tok} (X : K.In h) (G : h.Ns mainGlobals mg) (a : PySem.W.nsIn K mainGlobals x = some (some (.str y t))) : GCon K mg x (.str y) := ⟨.str y, _, PySem.W.mg_of X G a, ⟨t, rfl⟩, fun _ => .str y⟩
end DM
/-! Part 9: how mirrors are reckoned. -/
namespace DM
open PySem L2
@[simp ↓] theorem e_bind {α β : Type} (r : R α) (k : α → S → R β) : r.bind k = match r with
  | .ok a st => k a st
  | .exc c st => .exc c st
  | .bad => .bad := rfl
/-! expressions -/
@[simp] theorem e_var (i : Nat) (st : S) : xVar i st = lift (getV i st) st := rfl
@[simp] theorem getV_0 (d : D) (r : List (Option Sl)) (b : Option (List D)) : getV 0 ⟨some (.val d) :: r, b⟩ = some d := rfl
@[simp] theorem getV_s (i : Nat) (x : Option Sl) (r : List (Option Sl)) (b : Option (List D)) : getV (i + 1) ⟨x :: r, b⟩ = getV i ⟨r, b⟩ := rfl
@[simp] theorem getS_0 (ns : List Int) (r : List (Option Sl)) (b : Option (List D)) : getS 0 ⟨some (.scr ns) :: r, b⟩ = some ns := rfl
@[simp] theorem getS_s (i : Nat) (x : Option Sl) (r : List (Option Sl)) (b : Option (List D)) : getS (i + 1) ⟨x :: r, b⟩ = getS i ⟨r, b⟩ := rfl
@[simp] theorem cellAt_0 (ds : List D) (r : List (Option Sl)) (b : Option (List D)) : cellAt 0 ⟨some (.own ds) :: r, b⟩ = some ds := rfl
@[simp] theorem cellAt_0b (r : List (Option Sl)) (b : Option (List D)) : cellAt 0 ⟨some .box :: r, b⟩ = b := rfl
@[simp] theorem cellAt_s (i : Nat) (x : Option Sl) (r : List (Option Sl)) (b : Option (List D)) : cellAt (i + 1) ⟨x :: r, b⟩ = cellAt i ⟨r, b⟩ := rfl
def conS (x : Option Sl) (st : S) : S := ⟨x :: st.env, st.box⟩
@[simp] theorem conS_eq (x : Option Sl) (r : List (Option Sl)) (b : Option (List D)) : conS x ⟨r, b⟩ = ⟨x :: r, b⟩ := rfl
@[simp] theorem setCell_0 (ds es : List D) (r : List (Option Sl)) (b : Option (List D)) : setCell 0 ds ⟨some (.own es) :: r, b⟩ = ⟨some (.own ds) :: r, b⟩ := rfl
@[simp] theorem setCell_0b (ds : List D) (r : List (Option Sl)) (b : Option (List D)) : setCell 0 ds ⟨some .box :: r, b⟩ = ⟨some .box :: r, some ds⟩ := rfl
@[simp] theorem setCell_s (i : Nat) (ds : List D) (x : Option Sl) (r : List (Option Sl)) (b : Option (List D)) : setCell (i + 1) ds ⟨x :: r, b⟩ = conS x (setCell i ds ⟨r, b⟩) := by
  unfold setCell conS
  simp only [List.getElem?_cons_succ]
  cases r[i]? with
  | none => rfl
  | some o =>
    cases o with
    | none => rfl
    | some s => cases s <;> rfl
@[simp] theorem setV_0 (d : D) (x : Option Sl) (r : List (Option Sl)) (b : Option (List D)) : setV 0 d ⟨x :: r, b⟩ = ⟨some (.val d) :: r, b⟩ := rfl
@[simp] theorem setV_s (i : Nat) (d : D) (x : Option Sl) (r : List (Option Sl)) (b : Option (List D)) : setV (i + 1) d ⟨x :: r, b⟩ = conS x (setV i d ⟨r, b⟩) := rfl
@[simp] theorem setO_0 (d : List D) (x : Option Sl) (r : List (Option Sl)) (b : Option (List D)) : setO 0 d ⟨x :: r, b⟩ = ⟨some (.own d) :: r, b⟩ := rfl
@[simp] theorem setO_s (i : Nat) (d : List D) (x : Option Sl) (r : List (Option Sl)) (b : Option (List D)) : setO (i + 1) d ⟨x :: r, b⟩ = conS x (setO i d ⟨r, b⟩) := rfl
@[simp] theorem e_c (d : D) (st : S) : xC d st = .ok d st := rfl
@[simp] theorem e_op (f : D → D → Option D) (ga gb : E) (st : S) : xOp f ga gb st = (ga st).bind fun x st => (gb st).bind fun y st => lift (f x y) st := rfl
@[simp] theorem e_un (f : D → Option D) (ga : E) (st : S) : xUn f ga st = (ga st).bind fun x st => lift (f x) st := rfl
@[simp] theorem e_nil (st : S) : xNil st = .ok [] st := rfl
@[simp] theorem e_cons (ga : E) (gr : EA) (st : S) : xCons ga gr st = (ga st).bind fun x st => (gr st).bind fun xs st => .ok (x :: xs) st := rfl
@[simp] theorem e_tup (ga : EA) (st : S) : xTup ga st = (ga st).bind fun ds st => lift (mkTup ds) st := rfl
@[simp] theorem e_lst (ga : EA) (st : S) : xLst ga st = (ga st).bind fun ds st => lift (mkLst ds) st := rfl
@[simp] theorem e_L (g : EF) (st : S) : xL g st = (g st).bind fun ds st => .ok (.list ds) st := rfl
@[simp] theorem e_T (g : E) (st : S) : xT g st = (g st).bind fun d st => match d with
  | .bool b => .ok b st
  | _ => .bad := rfl
@[simp] theorem e_and (ga gb : ET) (st : S) : xAnd ga gb st = (ga st).bind fun b st => if b then gb st else .ok false st := rfl
@[simp] theorem e_or (ga gb : ET) (st : S) : xOr ga gb st = (ga st).bind fun b st => if b then .ok true st else gb st := rfl
@[simp] theorem e_not (ga : ET) (st : S) : xNot ga st = (ga st).bind fun b st => .ok (!b) st := rfl
@[simp] theorem e_andV (ga gb : E) (st : S) : xAndV ga gb st = (ga st).bind fun d st => match d with
  | .bool true => gb st
  | .bool false => .ok (.bool false) st
  | _ => .bad := rfl
@[simp] theorem e_orV (ga gb : E) (st : S) : xOrV ga gb st = (ga st).bind fun d st => match d with
  | .bool true => .ok (.bool true) st
  | .bool false => gb st
  | _ => .bad := rfl
@[simp] theorem e_notV (ga : E) (st : S) : xNotV ga st = (ga st).bind fun d st => match d with
  | .bool b => .ok (.bool (!b)) st
  | _ => .bad := rfl
@[simp] theorem e_fn (f : List D → Option D) (ga : EA) (st : S) : xFn f ga st = (ga st).bind fun ds st => lift (f ds) st := rfl
@[simp] theorem e_isi (T : String) (g : E) (st : S) : xIsi T g st = (g st).bind fun d st => lift (isTy T d) st := rfl
theorem withC_congr {α : Type} {i : Nat} {st st' : S} {k : List D → R α} (h : st = st') : withC i st k = withC i st' k := by rw [h]
@[simp ↓] theorem e_withC {α : Type} (i : Nat) (st : S) (k : List D → R α) : withC i st k = (lift (cellAt i st) st).bind fun ds _ => k ds := by
  unfold withC
  cases cellAt i st <;> rfl
@[simp] theorem e_mt (i : Nat) (ga : EA) (f : List D → List D → Option (D × List D)) (st : S) : xMt i ga f st = withC i st fun _ => (ga st).bind fun ys st => withC i st fun ds => (lift (f ds ys) st).bind fun z st => .ok z.1 (setCell i z.2 st) := rfl
@[simp] theorem e_mt0 (i : Nat) (f : List D → Option (D × List D)) (st : S) : xMt0 i f st = withC i st fun ds => (lift (f ds) st).bind fun z st => .ok z.1 (setCell i z.2 st) := rfl
@[simp] theorem e_opCL (f : D → D → Option D) (i : Nat) (gb : E) (st : S) : xOpCL f i gb st = withC i st fun _ => (gb st).bind fun y st => withC i st fun ds => lift (f (.list ds) y) st := rfl
@[simp] theorem e_opCR (f : D → D → Option D) (i : Nat) (ga : E) (st : S) : xOpCR f ga i st = (ga st).bind fun x st => withC i st fun ds => lift (f x (.list ds)) st := rfl
@[simp] theorem e_fnC (f : List D → Option D) (i : Nat) (st : S) : xFnC f i st = withC i st fun ds => lift (f [.list ds]) st := rfl
@[simp] theorem e_lenS (i : Nat) (st : S) : xLenS i st = (lift (getS i st) st).bind fun ns st => .ok (.int ns.length) st := rfl
@[simp] theorem e_ixS (i : Nat) (gb : E) (st : S) : xIxS i gb st = (lift (getS i st) st).bind fun ns st => (gb st).bind fun k st => match k with
  | .int n => lift ((atI ns n).map .int) st
  | _ => .bad := rfl
/-! calls -/
@[simp] theorem e_uNil (st : S) : uNil st = .ok [] st := rfl
@[simp] theorem e_uV (ga : E) (gr : EU) (st : S) : uV ga gr st = (ga st).bind fun x st => (gr st).bind fun xs st => .ok (.v x :: xs) st := rfl
@[simp] theorem e_uC (i : Nat) (gr : EU) (st : S) : uC i gr st = (lift (cellAt i st) st).bind fun _ _ => (gr st).bind fun xs st => .ok (.c i :: xs) st := by
  unfold uC
  cases cellAt i st <;> rfl
@[simp] theorem e_uS (i : Nat) (gr : EU) (st : S) : uS i gr st = (lift (getS i st) st).bind fun ns st => (gr st).bind fun xs st => .ok (.s ns :: xs) st := rfl
def callK (g : Sm) (ags : List Ag) (st : S) : List Nat → R Fl
  | [] => back0 st (ev g (ags.map Ag.sl) none)
  | [i] => (lift (cellAt i st) st).bind fun ds _ => backC i st (ev g (ags.map Ag.sl) (some ds))
  | _ => .bad
@[simp] theorem callK_0 (g : Sm) (ags : List Ag) (st : S) : callK g ags st [] = back0 st (ev g (ags.map Ag.sl) none) := rfl
@[simp] theorem callK_1 (g : Sm) (ags : List Ag) (st : S) (i : Nat) : callK g ags st [i] = (lift (cellAt i st) st).bind fun ds _ => backC i st (ev g (ags.map Ag.sl) (some ds)) := rfl
@[simp] theorem e_callG (n : Nat) (g : Sm) (ags : List Ag) (st : S) : callG n g ags st = if ags.length = n then callK g ags st (Ag.cs ags) else .bad := by
  unfold callG
  split
  · split
    · rename_i h; rw [h]; rfl
    · rename_i i h
      rw [h, callK_1]
      cases cellAt i st <;> rfl
    · rename_i h1 h2
      unfold callK
      cases e : Ag.cs ags with
      | nil => exact absurd e h1
      | cons a r =>
        cases r with
        | nil => exact absurd e (h2 a)
        | cons b r => rfl
  · rfl
@[simp] theorem cs_nil : Ag.cs [] = [] := rfl
@[simp] theorem cs_v (d : D) (r : List Ag) : Ag.cs (.v d :: r) = Ag.cs r := rfl
@[simp] theorem cs_c (i : Nat) (r : List Ag) : Ag.cs (.c i :: r) = i :: Ag.cs r := rfl
@[simp] theorem cs_s (ns : List Int) (r : List Ag) : Ag.cs (.s ns :: r) = Ag.cs r := rfl
@[simp] theorem sl_v (d : D) : Ag.sl (.v d) = some (.val d) := rfl
@[simp] theorem sl_c (i : Nat) : Ag.sl (.c i) = some .box := rfl
@[simp] theorem sl_s (ns : List Int) : Ag.sl (.s ns) = some (.scr ns) := rfl
@[simp] theorem e_call (n : Nat) (g : Sm) (ga : EU) (st : S) : xCall n g ga st = (ga st).bind fun ags st => (callG n g ags st).bind fun fl st => lift (flD fl) st := rfl
@[simp] theorem e_callF (n : Nat) (g : Sm) (ga : EU) (st : S) : xCallF n g ga st = (ga st).bind fun ags st => (callG n g ags st).bind fun fl st => lift (flF fl) st := rfl
@[simp] theorem flD_rt (d : D) : flD (.rt d) = some d := rfl
@[simp] theorem flD_rl (ds : List D) : flD (.rl ds) = some (.list ds) := rfl
@[simp] theorem flD_nx : flD .nx = some .none := rfl
@[simp] theorem flF_rl (ds : List D) : flF (.rl ds) = some ds := rfl
/-! statements -/
@[simp] theorem e_nx (st : S) : xNx st = .ok .nx st := rfl
@[simp] theorem e_bk (st : S) : xBk st = .ok .bk st := rfl
@[simp] theorem e_seq (f g : Sm) (st : S) : xSeq f g st = (f st).seq g := rfl
@[simp] theorem e_set (i : Nat) (g : E) (st : S) : xSet i g st = (g st).bind fun d st => .ok .nx (setV i d st) := rfl
@[simp] theorem e_new (i : Nat) (g : EF) (st : S) : xNew i g st = (g st).bind fun d st => .ok .nx (setO i d st) := rfl
@[simp] theorem e_asg (put : D → S → Option S) (g : E) (st : S) : xAsg put g st = (g st).bind fun d st => (lift (put d st) st).bind fun st' _ => .ok .nx st' := rfl
@[simp] theorem e_par (i j : Nat) (ga gb : E) (st : S) : xPar i j ga gb st = (ga st).bind fun x st => (gb st).bind fun y st => .ok .nx (setV j y (setV i x st)) := rfl
@[simp] theorem e_ret (g : E) (st : S) : xRet g st = (g st).bind fun d st => .ok (.rt d) st := rfl
@[simp] theorem e_retF (g : EF) (st : S) : xRetF g st = (g st).bind fun d st => .ok (.rl d) st := rfl
@[simp] theorem e_if (t : ET) (f g : Sm) (st : S) : xIf t f g st = (t st).bind fun b st => if b then f st else g st := rfl
@[simp] theorem e_drop (g : E) (st : S) : xDrop g st = (g st).bind fun _ st => .ok .nx st := rfl
@[simp] theorem e_store (i : Nat) (ge gk : E) (st : S) : xStore i ge gk st = (ge st).bind fun y st => withC i st fun _ => (gk st).bind fun k st => withC i st fun ds => match k with
  | .int n => (lift (ixN ds.length n) st).bind fun j st => .ok .nx (setCell i (ds.set j y) st)
  | _ => .bad := by
  unfold xStore
  congr; funext y st; congr; funext _; congr; funext k st; congr; funext ds
  cases k <;> first | rfl | (dsimp only; cases ixN _ _ <;> rfl)
@[simp] theorem e_pN (i : Nat) (d : D) (st : S) : pN i d st = some (setV i d st) := rfl
@[simp] theorem e_pT (is : List Nat) (ds : List D) (st : S) : pT is (.tuple ds) st = putM is ds st := rfl
@[simp] theorem putM_nil (st : S) : putM [] [] st = some st := rfl
@[simp] theorem putM_cons (i : Nat) (is : List Nat) (d : D) (ds : List D) (st : S) : putM (i :: is) (d :: ds) st = putM is ds (setV i d st) := rfl
@[simp] theorem e_for (gi : EA) (put : D → S → Option S) (f : Sm) (st : S) : xFor gi put f st = (gi st).bind fun ds st => forL put f ds st := rfl
@[simp] theorem forL_nil (put : D → S → Option S) (f : Sm) (st : S) : forL put f [] st = .ok .nx st := rfl
theorem forL_cons (put : D → S → Option S) (f : Sm) (d : D) (ds : List D) (st : S) : forL put f (d :: ds) st = (lift (put d st) st).bind fun st1 _ => (f st1).turn (forL put f ds) := by
  show (match put d st with
    | none => R.bad
    | some st1 => (f st1).turn (forL put f ds)) = _
  cases put d st <;> rfl
@[simp] theorem e_I1 (f : D → Option (List D)) (ga : E) (st : S) : xI1 f ga st = (ga st).bind fun d st => lift (f d) st := rfl
@[simp] theorem e_I2 (f : D → D → Option (List D)) (ga gb : E) (st : S) : xI2 f ga gb st = (ga st).bind fun d st => (gb st).bind fun e st => lift (f d e) st := rfl
theorem whileN_s (t : ET) (f : Sm) (n : Nat) (st : S) : whileN t f (n + 1) st = (t st).bind fun b st => if b then (f st).turn (whileN t f n) else .ok .nx st := rfl
@[simp] theorem e_runB (n : Nat) (s : Sm) (env : List (Option Sl)) (b : Option (List D)) : runB n s ⟨env, b⟩ = s ⟨env ++ List.replicate n none, b⟩ := rfl
@[simp] theorem ev_runB (n : Nat) (s : Sm) (env : List (Option Sl)) (b : Option (List D)) : ev (runB n s) env b = (s ⟨env ++ List.replicate n none, b⟩).out := rfl
/-! operations -/
@[simp] theorem add_ii (i j : Int) : dAdd (.int i) (.int j) = some (.int (i + j)) := rfl
@[simp] theorem sub_ii (i j : Int) : dSub (.int i) (.int j) = some (.int (i - j)) := rfl
@[simp] theorem neg_i (i : Int) : dNeg (.int i) = some (.int (-i)) := rfl
@[simp] theorem lt_ii (i j : Int) : dLt (.int i) (.int j) = some (.bool (decide (i < j))) := rfl
@[simp] theorem le_ii (i j : Int) : dLe (.int i) (.int j) = some (.bool (decide (i ≤ j))) := rfl
@[simp] theorem gt_ii (i j : Int) : dGt (.int i) (.int j) = some (.bool (decide (j < i))) := rfl
@[simp] theorem ge_ii (i j : Int) : dGe (.int i) (.int j) = some (.bool (decide (j ≤ i))) := rfl
theorem mul_ii {i j : Int} (h : mulOk i j = true) : dMul (.int i) (.int j) = some (.int (i * j)) := by simp [dMul, h]
theorem div_ii {i j : Int} (h : divOk i j = true) : dDiv (.int i) (.int j) = some (.int (i.fdiv j)) := by simp [dDiv, h]
theorem mod_ii {i j : Int} (h : j ≠ 0) : dMod (.int i) (.int j) = some (.int (i.fmod j)) := by simp [dMod, h]
@[simp] theorem okE_int (i : Int) : okE (.int i) = true := rfl
@[simp] theorem okE_bool (i : Bool) : okE (.bool i) = true := rfl
@[simp] theorem okE_none : okE .none = true := rfl
@[simp] theorem eqv_ii (i j : Int) : PyData.eqv (.int i) (.int j) = decide (i = j) := by
  unfold PyData.eqv
  by_cases h : i = j
  · subst h; simp
  · rw [decide_eq_false h]; exact beq_eq_false_iff_ne.mpr h
@[simp] theorem eq_ii (i j : Int) : dEq (.int i) (.int j) = some (.bool (decide (i = j))) := by simp [dEq]
@[simp] theorem ne_ii (i j : Int) : dNe (.int i) (.int j) = some (.bool (!decide (i = j))) := by simp [dNe]
@[simp] theorem un1_eq (f : D → Option D) (d : D) : un1 f [d] = f d := rfl
@[simp] theorem un2_eq (f : D → D → Option D) (d e : D) : un2 f [d, e] = f d e := rfl
@[simp] theorem len_l (ds : List D) : lenD (.list ds) = some (.int ds.length) := rfl
@[simp] theorem len_t (ds : List D) : lenD (.tuple ds) = some (.int ds.length) := rfl
theorem abs_i (i : Int) : absD (.int i) = some (.int (if i < 0 then -i else i)) := rfl
@[simp] theorem max_ii (i j : Int) : maxD (.int i) (.int j) = some (.int (if j > i then j else i)) := rfl
@[simp] theorem min_ii (i j : Int) : minD (.int i) (.int j) = some (.int (if j < i then j else i)) := rfl
@[simp] theorem int_i (i : Int) : intD (.int i) = some (.int i) := rfl
@[simp] theorem int_b (b : Bool) : intD (.bool b) = some (.int (if b then 1 else 0)) := rfl
@[simp] theorem tup_l (ds : List D) : tupD (.list ds) = some (.tuple ds) := rfl
@[simp] theorem tup_t (ds : List D) : tupD (.tuple ds) = some (.tuple ds) := rfl
@[simp] theorem ix_l (ds : List D) (i : Int) : dIx (.list ds) (.int i) = atI ds i := rfl
@[simp] theorem ix_t (ds : List D) (i : Int) : dIx (.tuple ds) (.int i) = atI ds i := rfl
@[simp] theorem mkTup_2 (a b : D) : mkTup [a, b] = some (.tuple [a, b]) := rfl
@[simp] theorem mkTup_1 (a : D) : mkTup [a] = some (.tuple [a]) := rfl
@[simp] theorem mkTup_0 : mkTup [] = some (.tuple []) := rfl
@[simp] theorem mkTup_3 (a b c : D) : mkTup [a, b, c] = some (.tuple [a, b, c]) := rfl
@[simp] theorem mkTup_4 (a b c d : D) : mkTup [a, b, c, d] = some (.tuple [a, b, c, d]) := rfl
theorem mkLst_of {ds : List D} (h : ds.length ≤ 16777216) : mkLst ds = some ds := by
  unfold mkLst szOk
  rw [decide_eq_true h]; rfl
theorem mkTup_of {ds : List D} (h : ds.length ≤ 16777216) : mkTup ds = some (.tuple ds) := by
  unfold mkTup szOk
  rw [decide_eq_true h]; rfl
@[simp] theorem fApp_eq (ds : List D) (y : D) (h : ds.length < 16777216) : fApp ds [y] = some (.none, ds ++ [y]) := by
  simp [fApp, szLt, h]
/-! sizes -/
theorem big_eq : BIG = 2 ^ 1000000 := by unfold BIG; exact Eq.refl _
theorem mulOk_of {i j : Int} {a b : Nat} (h1 : i.natAbs < 2 ^ a) (h2 : j.natAbs < 2 ^ b) (ha : a ≤ 1000000) (hb : b ≤ 1000000) : mulOk i j = true := by
  unfold mulOk
  rw [big_eq, Bool.and_eq_true]
  exact ⟨decide_eq_true (Nat.lt_of_lt_of_le h1 (Nat.pow_le_pow_right (by decide) ha)), decide_eq_true (Nat.lt_of_lt_of_le h2 (Nat.pow_le_pow_right (by decide) hb))⟩
theorem divOk_of {i j : Int} (h : j ≠ 0) (hs : i.natAbs < 2 ^ 13000 ∨ j.natAbs < 2 ^ 9000) : divOk i j = true := by
  have e : Builtin.divisionGoesByPylong i j = false := by
    rcases hs with hs | hs
    · unfold Builtin.divisionGoesByPylong
      have hi : i ≠ 0 → i.natAbs.log2 < 13000 := fun hi => (Nat.log2_lt (by omega)).mpr hs
      by_cases h0 : i = 0
      · subst h0
        simp
      · have hl := hi h0
        have hj : (j == 0) = false := by simpa using h
        have hi0 : (i == 0) = false := by simpa using h0
        simp only [hj, hi0]
        rw [Bool.and_eq_false_iff]
        by_cases hd : j.natAbs.log2 / 30 + 1 > 300
        · right
          simp
          omega
        · left
          simp
          omega
    · exact PyProof.noPylong_of_log2 ((Nat.log2_lt (by omega)).mpr hs)
  unfold divOk
  rw [e]
  simpa using h
end DM
/-! Numbers in lowest terms; plain Lean. -/
namespace NM
theorem fmod_def (x y : Int) : x.fmod y = x - y * x.fdiv y := Int.fmod_def x y
theorem gcd_fmod (x y : Int) : Int.gcd y (x.fmod y) = Int.gcd x y := by
  have e := fmod_def x y
  apply Nat.dvd_antisymm
  · have h1 : ((Int.gcd y (x.fmod y) : Nat) : Int) ∣ y := Int.gcd_dvd_left ..
    have h2 : ((Int.gcd y (x.fmod y) : Nat) : Int) ∣ x.fmod y := Int.gcd_dvd_right ..
    have h3 : ((Int.gcd y (x.fmod y) : Nat) : Int) ∣ x := by
      have h4 := Int.dvd_add h2 (Int.dvd_mul_of_dvd_left (c := x.fdiv y) h1)
      have : x.fmod y + y * x.fdiv y = x := by omega
      rw [this] at h4
      exact h4
    exact Int.ofNat_dvd.mp (Int.dvd_coe_gcd h3 h1)
  · have h1 : ((Int.gcd x y : Nat) : Int) ∣ x := Int.gcd_dvd_left ..
    have h2 : ((Int.gcd x y : Nat) : Int) ∣ y := Int.gcd_dvd_right ..
    have h3 : ((Int.gcd x y : Nat) : Int) ∣ x.fmod y := by
      rw [e]
      exact Int.dvd_sub h1 (Int.dvd_mul_of_dvd_left h2)
    exact Int.ofNat_dvd.mp (Int.dvd_coe_gcd h2 h3)
theorem fmod_small (x : Int) {y : Int} (h : y ≠ 0) : (x.fmod y).natAbs < y.natAbs := by
  rcases Int.lt_or_gt_of_ne h with h | h
  · have e : x.fmod y = -((-x).fmod (-y)) := by
      have := Int.neg_fmod_neg x y
      omega
    have h1 := Int.fmod_lt_of_pos (-x) (b := -y) (by omega)
    have h2 := Int.fmod_nonneg_of_pos (-x) (b := -y) (by omega)
    omega
  · have h1 := Int.fmod_lt_of_pos x h
    have h2 := Int.fmod_nonneg_of_pos x h
    omega
/-- the divisor that brings to lowest terms, with the bottom's sign -/
def by3 (a b c : Int) : Int := if c < 0 then -(Int.gcd (Int.gcd a b) c : Nat) else (Int.gcd (Int.gcd a b) c : Nat)
structure Nm where
  a : Int
  b : Int
  c : Int
  deriving DecidableEq
def low (a b c : Int) : Nm := ⟨a.fdiv (by3 a b c), b.fdiv (by3 a b c), c.fdiv (by3 a b c)⟩
/-- a number: its bottom above 0, in lowest terms -/
structure Nm.Ok (n : Nm) : Prop where
  pos : 0 < n.c
  one : Int.gcd (Int.gcd n.a n.b) n.c = 1
theorem by3_ne {a b c : Int} (h : c ≠ 0) : by3 a b c ≠ 0 := by
  unfold by3
  have : Int.gcd (Int.gcd a b) c ≠ 0 := fun z => h (Int.gcd_eq_zero_iff.mp z).2
  split <;> omega
theorem by3_dvd (a b c : Int) : by3 a b c ∣ a ∧ by3 a b c ∣ b ∧ by3 a b c ∣ c := by
  have h0 : ((Int.gcd (Int.gcd a b) c : Nat) : Int) ∣ (Int.gcd a b : Nat) := Int.gcd_dvd_left ..
  have h1 : ((Int.gcd (Int.gcd a b) c : Nat) : Int) ∣ a := Int.dvd_trans h0 (Int.gcd_dvd_left ..)
  have h2 : ((Int.gcd (Int.gcd a b) c : Nat) : Int) ∣ b := Int.dvd_trans h0 (Int.gcd_dvd_right ..)
  have h3 : ((Int.gcd (Int.gcd a b) c : Nat) : Int) ∣ c := Int.gcd_dvd_right ..
  unfold by3
  split
  · exact ⟨Int.neg_dvd.mpr h1, Int.neg_dvd.mpr h2, Int.neg_dvd.mpr h3⟩
  · exact ⟨h1, h2, h3⟩
theorem fdiv_mul {x y : Int} (h : y ∣ x) (h0 : y ≠ 0) : x.fdiv y * y = x := by
  obtain ⟨k, rfl⟩ := h
  rw [Int.mul_comm y k, Int.mul_fdiv_cancel k h0]
/-- the three parts by the divisor -/
theorem low_mul (a b : Int) {c : Int} (h : c ≠ 0) : (low a b c).a * by3 a b c = a ∧ (low a b c).b * by3 a b c = b ∧ (low a b c).c * by3 a b c = c := by
  obtain ⟨h1, h2, h3⟩ := by3_dvd a b c
  exact ⟨fdiv_mul h1 (by3_ne h), fdiv_mul h2 (by3_ne h), fdiv_mul h3 (by3_ne h)⟩
theorem low_ok (a b : Int) {c : Int} (h : c ≠ 0) : (low a b c).Ok := by
  obtain ⟨h1, h2, h3⟩ := low_mul a b h
  have hn := by3_ne (a := a) (b := b) h
  refine ⟨?_, ?_⟩
  · by_cases hc : c < 0
    · have hb : by3 a b c < 0 := by
        have : by3 a b c = -(Int.gcd (Int.gcd a b) c : Nat) := by unfold by3; rw [if_pos hc]
        omega
      apply Decidable.byContradiction
      intro z
      have : 0 ≤ (low a b c).c * by3 a b c := Int.mul_nonneg_of_nonpos_of_nonpos (by omega) (by omega)
      omega
    · have hb : 0 < by3 a b c := by
        have : by3 a b c = (Int.gcd (Int.gcd a b) c : Nat) := by unfold by3; rw [if_neg hc]
        omega
      apply Decidable.byContradiction
      intro z
      have : (low a b c).c * by3 a b c ≤ 0 := Int.mul_nonpos_of_nonpos_of_nonneg (by omega) (by omega)
      omega
  · have e : (by3 a b c).natAbs = Int.gcd (Int.gcd a b) c := by
      unfold by3; split <;> omega
    have e2 : Int.gcd (Int.gcd a b) c = (by3 a b c).natAbs * Int.gcd (Int.gcd (low a b c).a (low a b c).b) (low a b c).c := by
      have k1 : Int.gcd a b = (by3 a b c).natAbs * Int.gcd (low a b c).a (low a b c).b := by
        rw [← Int.gcd_mul_left, Int.mul_comm (by3 a b c) (low a b c).a, Int.mul_comm (by3 a b c) (low a b c).b, h1, h2]
      have k2 : ((by3 a b c).natAbs : Int) = by3 a b c ∨ ((by3 a b c).natAbs : Int) = -by3 a b c := by omega
      have k3 : ((Int.gcd a b : Nat) : Int) = ((by3 a b c).natAbs : Int) * (Int.gcd (low a b c).a (low a b c).b : Nat) := by rw [k1]; exact Int.natCast_mul ..
      rw [k3]
      rcases k2 with k2 | k2
      · rw [k2]
        conv => lhs; arg 2; rw [← h3, Int.mul_comm]
        rw [Int.gcd_mul_left]
      · rw [k2]
        have : Int.gcd (-by3 a b c * ((Int.gcd (low a b c).a (low a b c).b : Nat) : Int)) c = Int.gcd (by3 a b c * ((Int.gcd (low a b c).a (low a b c).b : Nat) : Int)) c := by
          rw [Int.neg_mul, Int.neg_gcd]
        rw [this]
        conv => lhs; arg 2; rw [← h3, Int.mul_comm]
        rw [Int.gcd_mul_left]
    rw [← e] at e2
    have pos : 0 < (by3 a b c).natAbs := by omega
    have k9 : (by3 a b c).natAbs * Int.gcd (Int.gcd (low a b c).a (low a b c).b) (low a b c).c = (by3 a b c).natAbs * 1 := by omega
    exact Nat.eq_of_mul_eq_mul_left pos k9
theorem Nm.ext' {m n : Nm} (h1 : m.a = n.a) (h2 : m.b = n.b) (h3 : m.c = n.c) : m = n := by
  cases m; cases n; simp_all
/-- one worth, one number -/
theorem Nm.Ok.uniq {m n : Nm} (hm : m.Ok) (hn : n.Ok) (h1 : m.a * n.c = n.a * m.c) (h2 : m.b * n.c = n.b * m.c) : m = n := by
  have key : ∀ {m n : Nm}, m.Ok → n.Ok → m.a * n.c = n.a * m.c → m.b * n.c = n.b * m.c → m.c ∣ n.c := by
    intro m n hm hn h1 h2
    have d1 : m.c ∣ n.c * m.a := ⟨n.a, by rw [Int.mul_comm n.c, h1, Int.mul_comm]⟩
    have d2 : m.c ∣ n.c * m.b := ⟨n.b, by rw [Int.mul_comm n.c, h2, Int.mul_comm]⟩
    have d3 : m.c ∣ n.c * m.c := ⟨n.c, Int.mul_comm ..⟩
    have d4 : m.c ∣ ((Int.gcd (n.c * m.a) (n.c * m.b) : Nat) : Int) := Int.dvd_coe_gcd d1 d2
    rw [Int.gcd_mul_left, Int.natCast_mul] at d4
    have d5 : m.c ∣ n.c * ((Int.gcd m.a m.b : Nat) : Int) := by
      have : ((n.c.natAbs : Nat) : Int) = n.c := by have := hn.pos; omega
      rw [this] at d4; exact d4
    have d6 := Int.dvd_coe_gcd d5 d3
    rw [Int.gcd_mul_left, hm.one, Nat.mul_one] at d6
    have : ((n.c.natAbs : Nat) : Int) = n.c := by have := hn.pos; omega
    rw [this] at d6; exact d6
  have e : m.c = n.c := Int.dvd_antisymm (Int.le_of_lt hm.pos) (Int.le_of_lt hn.pos) (key hm hn h1 h2) (key hn hm h1.symm h2.symm)
  have hp := hm.pos
  rw [← e] at h1 h2
  exact Nm.ext' (Int.eq_of_mul_eq_mul_right (by omega) h1) (Int.eq_of_mul_eq_mul_right (by omega) h2) e
theorem low_congr {a b c a' b' c' : Int} (h : c ≠ 0) (h' : c' ≠ 0) (h1 : a * c' = a' * c) (h2 : b * c' = b' * c) : low a b c = low a' b' c' := by
  obtain ⟨p1, p2, p3⟩ := low_mul a b h
  obtain ⟨q1, q2, q3⟩ := low_mul a' b' h'
  have n1 := by3_ne (a := a) (b := b) h
  have n2 := by3_ne (a := a') (b := b') h'
  refine (low_ok a b h).uniq (low_ok a' b' h') ?_ ?_
  · apply Int.eq_of_mul_eq_mul_right (Int.mul_ne_zero n1 n2)
    rw [← p1, ← p3, ← q1, ← q3] at h1
    grind
  · apply Int.eq_of_mul_eq_mul_right (Int.mul_ne_zero n1 n2)
    rw [← p2, ← p3, ← q2, ← q3] at h2
    grind
theorem low_self {n : Nm} (h : n.Ok) : low n.a n.b n.c = n := by
  obtain ⟨p1, p2, p3⟩ := low_mul n.a n.b (c := n.c) (by have := h.pos; omega)
  have hn := by3_ne (a := n.a) (b := n.b) (c := n.c) (by have := h.pos; omega)
  refine (low_ok n.a n.b (by have := h.pos; omega)).uniq h ?_ ?_
  · apply Int.eq_of_mul_eq_mul_right hn; grind
  · apply Int.eq_of_mul_eq_mul_right hn; grind
end NM
/-! Signs and order; whole parts. Plain Lean. -/
namespace NM
def ab (x : Int) : Int := if x < 0 then -x else x
theorem ab_nonneg (x : Int) : 0 ≤ ab x := by unfold ab; split <;> omega
theorem ab_of_nonneg {x : Int} (h : 0 ≤ x) : ab x = x := by unfold ab; split <;> omega
theorem ab_of_neg {x : Int} (h : x ≤ 0) : ab x = -x := by unfold ab; split <;> omega
/-- the worth by whose sign a number's sign is told -/
def wt (r a b : Int) : Int := a * ab a + r * b * ab b
theorem ab_mul_pos {x g : Int} (hg : 0 < g) : ab (x * g) = ab x * g := by
  by_cases h : 0 ≤ x
  · rw [ab_of_nonneg h, ab_of_nonneg (Int.mul_nonneg h (Int.le_of_lt hg))]
  · have hx : x ≤ 0 := by omega
    have hxg : x * g ≤ 0 := Int.mul_nonpos_of_nonpos_of_nonneg hx (Int.le_of_lt hg)
    rw [ab_of_neg hx, ab_of_neg hxg, Int.neg_mul]
theorem wt_scale (r a b : Int) {g : Int} (hg : 0 < g) : wt r (a * g) (b * g) = g * g * wt r a b := by
  unfold wt
  rw [ab_mul_pos hg, ab_mul_pos hg]
  grind
theorem wt_pos_scale (r a b : Int) {g : Int} (hg : 0 < g) : (0 < wt r (a * g) (b * g) ↔ 0 < wt r a b) ∧ (wt r (a * g) (b * g) < 0 ↔ wt r a b < 0) := by
  rw [wt_scale r a b hg]
  have h2 : 0 < g * g := Int.mul_pos hg hg
  refine ⟨⟨fun h => ?_, fun h => Int.mul_pos h2 h⟩, ⟨fun h => ?_, fun h => Int.mul_neg_of_pos_of_neg h2 h⟩⟩
  · apply Decidable.byContradiction
    intro z
    have := Int.mul_nonpos_of_nonneg_of_nonpos (Int.le_of_lt h2) (show wt r a b ≤ 0 by omega)
    omega
  · apply Decidable.byContradiction
    intro z
    have := Int.mul_nonneg (Int.le_of_lt h2) (show 0 ≤ wt r a b by omega)
    omega
theorem wt_low (r a b : Int) {c : Int} (hc : 0 < c) : (0 < wt r (low a b c).a (low a b c).b ↔ 0 < wt r a b) ∧ (wt r (low a b c).a (low a b c).b < 0 ↔ wt r a b < 0) := by
  obtain ⟨h1, h2, h3⟩ := low_mul a b (c := c) (by omega)
  have hb : 0 < by3 a b c := by
    have e : by3 a b c = (Int.gcd (Int.gcd a b) c : Nat) := by unfold by3; rw [if_neg (by omega)]
    have := by3_ne (a := a) (b := b) (c := c) (by omega)
    omega
  have := wt_pos_scale r (low a b c).a (low a b c).b hb
  rw [h1, h2] at this
  exact ⟨this.1.symm, this.2.symm⟩
/-- r is no square of a fraction -/
def Irr (r : Int) : Prop := ∀ x y : Int, x * x = r * (y * y) → y = 0
theorem irr_nat {r k : Int} (hk : 0 ≤ k) (h1 : k * k < r) (h2 : r < (k + 1) * (k + 1)) : ∀ (n : Nat) (x y : Int), 0 ≤ x → 0 ≤ y → y.toNat ≤ n → x * x = r * (y * y) → y = 0
  | 0, x, y, hx, hy, hn, h => by omega
  | n + 1, x, y, hx, hy, hn, h => by
    apply Decidable.byContradiction
    intro hy0
    have hyp : 0 < y := by omega
    have yy : 0 < y * y := Int.mul_pos hyp hyp
    have a1 : (k * k) * (y * y) < r * (y * y) := Int.mul_lt_mul_of_pos_right h1 yy
    have a2 : r * (y * y) < ((k + 1) * (k + 1)) * (y * y) := Int.mul_lt_mul_of_pos_right h2 yy
    have b1 : k * y < x := by
      apply Decidable.byContradiction
      intro z
      have z' : x ≤ k * y := by omega
      have : x * x ≤ (k * y) * (k * y) := Int.mul_le_mul z' z' hx (by omega)
      grind
    have b2 : x < (k + 1) * y := by
      apply Decidable.byContradiction
      intro z
      have z' : (k + 1) * y ≤ x := by omega
      have : ((k + 1) * y) * ((k + 1) * y) ≤ x * x := Int.mul_le_mul z' z' (Int.mul_nonneg (by omega) hy) hx
      grind
    have e : (r * y - k * x) * (r * y - k * x) = r * ((x - k * y) * (x - k * y)) := by grind
    have c1 : 0 ≤ x - k * y := by omega
    have c2 : x - k * y < y := by have : (k + 1) * y = k * y + y := by grind
                                  omega
    have c3 : 0 ≤ r * y - k * x := by
      apply Decidable.byContradiction
      intro z
      have z' : r * y < k * x := by omega
      have hk0 : 0 < k := by
        apply Decidable.byContradiction
        intro w
        have : k = 0 := by omega
        subst this
        have : 0 ≤ r * y := Int.mul_nonneg (by omega) hy
        omega
      have hxp : 0 < x := by have := Int.mul_nonneg hk hy; omega
      have m1 : (r * y) * y < (k * x) * y := Int.mul_lt_mul_of_pos_right z' hyp
      have m2 : (k * y) * x < x * x := Int.mul_lt_mul_of_pos_right b1 hxp
      grind
    have := irr_nat hk h1 h2 n (r * y - k * x) (x - k * y) c3 c1 (by omega) e
    omega
theorem irr_of {r k : Int} (hk : 0 ≤ k) (h1 : k * k < r) (h2 : r < (k + 1) * (k + 1)) : Irr r := fun x y h => by
  have hx : (x.natAbs : Int) * x.natAbs = x * x := Int.natAbs_mul_self
  have hy : (y.natAbs : Int) * y.natAbs = y * y := Int.natAbs_mul_self
  have := irr_nat hk h1 h2 _ (x.natAbs : Int) (y.natAbs : Int) (by omega) (by omega) (Nat.le_refl _) (by rw [hx, hy]; exact h)
  omega
/-- the whole part -/
theorem floor_nonneg {r a b c s f : Int} (hb : 0 ≤ b) (hr : 0 ≤ r) (hc : 0 < c) (hs : 0 ≤ s) (s1 : s * s ≤ b * b * r) (s2 : b * b * r < (s + 1) * (s + 1)) (hf : f = (a + s).fdiv c) :
    ¬ wt r (a - f * c) b < 0 ∧ wt r (a - (f + 1) * c) b < 0 := by
  have d := fmod_def (a + s) c
  have m1 := Int.fmod_lt_of_pos (a + s) hc
  have m2 := Int.fmod_nonneg_of_pos (a + s) hc
  rw [← hf] at d
  have e1 : (f + 1) * c = c * f + c := by grind
  have e2 : f * c = c * f := Int.mul_comm ..
  unfold wt
  rw [ab_of_nonneg hb]
  constructor
  · by_cases hx : 0 ≤ a - f * c
    · rw [ab_of_nonneg hx]
      have h1 := Int.mul_nonneg hx hx
      have h2 := Int.mul_nonneg hr (Int.mul_nonneg hb hb)
      have : r * b * b = r * (b * b) := by grind
      omega
    · rw [ab_of_neg (by omega)]
      have h1 : -(a - f * c) ≤ s := by omega
      have h2 : (-(a - f * c)) * (-(a - f * c)) ≤ s * s := Int.mul_le_mul h1 h1 (by omega) hs
      grind
  · have h1 : s + 1 ≤ -(a - (f + 1) * c) := by omega
    rw [ab_of_neg (by omega)]
    have h2 : (s + 1) * (s + 1) ≤ (-(a - (f + 1) * c)) * (-(a - (f + 1) * c)) := Int.mul_le_mul h1 h1 (by omega) (by omega)
    grind
theorem floor_neg {r a b c s f : Int} (hb : b < 0) (hr : 0 < r) (hi : Irr r) (hc : 0 < c) (hs : 0 ≤ s) (s1 : s * s ≤ b * b * r) (s2 : b * b * r < (s + 1) * (s + 1)) (hf : f = (a - s - 1).fdiv c) :
    ¬ wt r (a - f * c) b < 0 ∧ wt r (a - (f + 1) * c) b < 0 := by
  have d := fmod_def (a - s - 1) c
  have m1 := Int.fmod_lt_of_pos (a - s - 1) hc
  have m2 := Int.fmod_nonneg_of_pos (a - s - 1) hc
  rw [← hf] at d
  have e1 : (f + 1) * c = c * f + c := by grind
  have e2 : f * c = c * f := Int.mul_comm ..
  unfold wt
  rw [ab_of_neg (Int.le_of_lt hb)]
  constructor
  · have h1 : s + 1 ≤ a - f * c := by omega
    rw [ab_of_nonneg (by omega)]
    have h2 : (s + 1) * (s + 1) ≤ (a - f * c) * (a - f * c) := Int.mul_le_mul h1 h1 (by omega) (by omega)
    grind
  · have bb : 0 < r * (b * b) := Int.mul_pos hr (Int.mul_pos_of_neg_of_neg hb hb)
    by_cases hx : 0 ≤ a - (f + 1) * c
    · rw [ab_of_nonneg hx]
      have h1 : a - (f + 1) * c ≤ s := by omega
      have h2 : (a - (f + 1) * c) * (a - (f + 1) * c) ≤ s * s := Int.mul_le_mul h1 h1 hx hs
      have h3 : (a - (f + 1) * c) * (a - (f + 1) * c) ≠ r * (b * b) := fun z => by
        have := hi _ _ z
        omega
      generalize (a - (f + 1) * c) * (a - (f + 1) * c) = YY at h2 h3 ⊢
      have e3 : r * b * -b = -(r * (b * b)) := by grind
      have e4 : b * b * r = r * (b * b) := by grind
      omega
    · rw [ab_of_neg (by omega)]
      have h1 := Int.mul_nonneg (show 0 ≤ -(a - (f + 1) * c) by omega) (show 0 ≤ -(a - (f + 1) * c) by omega)
      grind
/-- the roots that laws draw -/
theorem root_irr {r : Int} (h : r = 2 ∨ r = 3 ∨ r = 5 ∨ r = 6 ∨ r = 7 ∨ r = 13) : Irr r := by
  rcases h with rfl | rfl | rfl | rfl | rfl | rfl
  · exact irr_of (k := 1) (by decide) (by decide) (by decide)
  · exact irr_of (k := 1) (by decide) (by decide) (by decide)
  · exact irr_of (k := 2) (by decide) (by decide) (by decide)
  · exact irr_of (k := 2) (by decide) (by decide) (by decide)
  · exact irr_of (k := 2) (by decide) (by decide) (by decide)
  · exact irr_of (k := 3) (by decide) (by decide) (by decide)
end NM
/-! Part 10: loops and sizes. -/
namespace DM
open PySem L2 NM
theorem r1D_of {n : Int} (h : n ≤ 1000000) (h0 : 0 ≤ n) : r1D (.int n) = some (intsD 0 n.toNat) := by
  have : rgOk n = true := by unfold rgOk; simp; omega
  simp [r1D, this]
theorem r2D_of {i j : Int} (h : -1000000 ≤ i ∧ i ≤ 1000000) (h0 : -1000000 ≤ j ∧ j ≤ 1000000) : r2D (.int i) (.int j) = some (intsD i (j - i).toNat) := by
  have h1 : rgOk i = true := by unfold rgOk; simp; omega
  have h2 : rgOk j = true := by unfold rgOk; simp; omega
  simp [r2D, h1, h2]
theorem mem_intsD {d : D} {i : Int} {n : Nat} (h : d ∈ intsD i n) : ∃ j : Nat, j < n ∧ d = .int (i + j) := by
  unfold intsD at h
  obtain ⟨j, hj, rfl⟩ := List.mem_map.mp h
  exact ⟨j, List.mem_range.mp hj, rfl⟩
theorem len_intsD (i : Int) (n : Nat) : (intsD i n).length = n := by simp [intsD]
/-- a loop that keeps P -/
theorem forL_inv {put : D → S → Option S} {f : Sm} (P : S → Prop) : ∀ (ds : List D), (∀ d ∈ ds, ∀ st, P st → ∃ st1 st2, put d st = some st1 ∧ f st1 = .ok .nx st2 ∧ P st2) → ∀ st, P st → ∃ st', forL put f ds st = .ok .nx st' ∧ P st'
  | [], _, st, h => ⟨st, rfl, h⟩
  | d :: ds, hs, st, h => by
    obtain ⟨st1, st2, e1, e2, h2⟩ := hs d (by simp) st h
    obtain ⟨st', e, h'⟩ := forL_inv P ds (fun d hd => hs d (by simp [hd])) st2 h2
    refine ⟨st', ?_, h'⟩
    rw [forL_cons, e1]
    show (f st1).turn _ = _
    rw [e2]
    exact e
theorem whileN_inv {t : ET} {f : Sm} (P Q : S → Prop) (m : S → Nat) (hs : ∀ st, P st → (∃ st1, t st = .ok false st1 ∧ Q st1) ∨ (∃ st1 st2, t st = .ok true st1 ∧ f st1 = .ok .nx st2 ∧ P st2 ∧ m st2 < m st)) : ∀ (n : Nat) (st : S), P st → m st < n → ∃ st', whileN t f n st = .ok .nx st' ∧ Q st'
  | 0, _, _, h => absurd h (Nat.not_lt_zero _)
  | n + 1, st, h, hm => by
    rcases hs st h with ⟨st1, e, q⟩ | ⟨st1, st2, e1, e2, h2, hm2⟩
    · refine ⟨st1, ?_, q⟩
      rw [whileN_s, e]; rfl
    · obtain ⟨st', e, q⟩ := whileN_inv P Q m hs n st2 h2 (by omega)
      refine ⟨st', ?_, q⟩
      rw [whileN_s, e1]
      show (f st1).turn _ = _
      rw [e2]
      exact e
theorem fuel_eq : FUEL = 2 ^ 1000000 := by unfold FUEL; exact Eq.refl _
theorem lt_fuel {n k : Nat} (h : n < 2 ^ k) (hk : k ≤ 1000000) : n < FUEL := by
  rw [fuel_eq]
  exact Nat.lt_of_lt_of_le h (Nat.pow_le_pow_right (by decide) hk)
@[simp] theorem e_while (t : ET) (f : Sm) (st : S) : xWhile t f st = whileN t f FUEL st := rfl
/-! sizes -/
structure Sz (k : Nat) (x : Int) : Prop where
  lt : x.natAbs < 2 ^ k
theorem Sz.mono {j k : Nat} {x : Int} (h : Sz j x) (hk : j ≤ k) : Sz k x := ⟨Nat.lt_of_lt_of_le h.lt (Nat.pow_le_pow_right (by decide) hk)⟩
theorem Sz.mul {j k : Nat} {x y : Int} (hx : Sz j x) (hy : Sz k y) : Sz (j + k) (x * y) := ⟨by
  rw [Int.natAbs_mul, Nat.pow_add]
  exact Nat.mul_lt_mul'' hx.lt hy.lt⟩
theorem Sz.add {k : Nat} {x y : Int} (hx : Sz k x) (hy : Sz k y) : Sz (k + 1) (x + y) := ⟨by
  have h1 := hx.lt
  have h2 := hy.lt
  rw [Nat.pow_succ]; omega⟩
theorem Sz.neg {k : Nat} {x : Int} (hx : Sz k x) : Sz k (-x) := ⟨by rw [Int.natAbs_neg]; exact hx.lt⟩
theorem Sz.sub {k : Nat} {x y : Int} (hx : Sz k x) (hy : Sz k y) : Sz (k + 1) (x - y) := by rw [Int.sub_eq_add_neg]; exact hx.add hy.neg
theorem Sz.ab {k : Nat} {x : Int} (hx : Sz k x) : Sz k (NM.ab x) := ⟨by have := hx.lt; unfold NM.ab; split <;> omega⟩
theorem Sz.le {k : Nat} {x y : Int} (hx : Sz k x) (h : y.natAbs ≤ x.natAbs) : Sz k y := ⟨by have := hx.lt; omega⟩
theorem Sz.mulOk {j k : Nat} {x y : Int} (hx : Sz j x) (hy : Sz k y) (h1 : j ≤ 1000000 := by decide) (h2 : k ≤ 1000000 := by decide) : mulOk x y = true := mulOk_of hx.lt hy.lt h1 h2
theorem Sz.divOk {k : Nat} {x y : Int} (hx : Sz k x) (hy : y ≠ 0) (h1 : k ≤ 13000 := by decide) : divOk x y = true := divOk_of hy (.inl (hx.mono h1).lt)
theorem Sz.divOkR {k : Nat} {x y : Int} (hx : Sz k y) (hy : y ≠ 0) (h1 : k ≤ 9000 := by decide) : DM.divOk x y = true := divOk_of hy (.inr (hx.mono h1).lt)
theorem fdiv_le (x : Int) {y : Int} (hy : 0 < y) : (x.fdiv y).natAbs ≤ x.natAbs := by
  have d := NM.fmod_def x y
  have m1 := Int.fmod_lt_of_pos x hy
  have m2 := Int.fmod_nonneg_of_pos x hy
  by_cases h : 0 ≤ x.fdiv y
  · have : x.fdiv y ≤ y * x.fdiv y := by
      have := Int.mul_le_mul_of_nonneg_right (show 1 ≤ y by omega) h
      omega
    omega
  · have : y * (x.fdiv y + 1) ≤ 1 * (x.fdiv y + 1) := Int.mul_le_mul_of_nonpos_right (by omega) (by omega)
    have e : y * (x.fdiv y + 1) = y * x.fdiv y + y := by grind
    omega
theorem Sz.fdiv {k : Nat} {x y : Int} (hx : Sz k x) (hy : 0 < y) : Sz k (x.fdiv y) := hx.le (fdiv_le x hy)
theorem Sz.fmod {k : Nat} {x y : Int} (hy : Sz k y) (h : y ≠ 0) : Sz k (x.fmod y) := ⟨Nat.lt_trans (NM.fmod_small x h) hy.lt⟩
theorem Sz.of {k : Nat} {x : Int} (h : x.natAbs < 2 ^ k) : Sz k x := ⟨h⟩
theorem sz_low {k : Nat} {a b c : Int} (h : c ≠ 0) (ha : Sz k a) (hb : Sz k b) (hc : Sz k c) : Sz k (low a b c).a ∧ Sz k (low a b c).b ∧ Sz k (low a b c).c := by
  obtain ⟨h1, h2, h3⟩ := low_mul a b h
  have hn := by3_ne (a := a) (b := b) h
  have key : ∀ x y : Int, x * by3 a b c = y → x.natAbs ≤ y.natAbs := by
    intro x y e
    rw [← e, Int.natAbs_mul]
    exact Nat.le_mul_of_pos_right _ (by omega)
  exact ⟨ha.le (key _ _ h1), hb.le (key _ _ h2), hc.le (key _ _ h3)⟩
abbrev sI (i : Int) : Option Sl := some (.val (.int i))
abbrev dN (n : Nm) : D := .tuple [.int n.a, .int n.b, .int n.c]
abbrev sN (n : Nm) : Option Sl := some (.val (dN n))
@[simp] theorem atI_0 {α : Type} (x : α) (xs : List α) : atI (x :: xs) 0 = some x := by simp [atI, ixN]
@[simp] theorem abs_ab (x : Int) : absD (.int x) = some (.int (ab x)) := rfl
theorem ab_nat (x : Int) : ab x = (x.natAbs : Int) := by unfold ab; split <;> omega
end DM
namespace WK
open PySem L2 DM NM
def m__law_cell : Sm := runB 0
  ((xSeq (xIf (xT (xOp dLt (xVar 1) (xLenS 0))) (xRet (xIxS 0 (xVar 1))) xNx)
    (xRet (xOp dAdd (xOp dMul (xC (.int 6151)) (xVar 1)) (xC (.int 29))))))
def m__law_box : Sm := runB 4
  ((xSeq (xSet 2 (xCall 2 m__law_cell (uS 0 (uV (xVar 1) uNil))))
    (xSeq (xIf (xT (xOp dEq (xOp dMod (xVar 2) (xC (.int 2))) (xC (.int 0)))) (xRetF (xLst (xCons (xOp dDiv (xVar 2) (xC (.int 2))) xNil))) xNx)
    (xSeq (xSet 3 (xC (.int 0)))
    (xSeq (xSet 4 (xOp dMod (xVar 2) (xC (.int 2147483647))))
    (xSeq (xFor (xI1 r1D (xC (.int 24))) (pN 5) (xSeq (xSet 4 (xOp dMod (xOp dAdd (xOp dAdd (xOp dAdd (xOp dMul (xVar 4) (xC (.int 48271))) (xOp dMul (xOp dMul (xC (.int 7)) (xVar 5)) (xVar 5))) (xOp dMul (xC (.int 11)) (xVar 1))) (xC (.int 1))) (xC (.int 2147483647))))
    (xSet 3 (xOp dAdd (xOp dMul (xVar 3) (xC (.int 2147483647))) (xVar 4)))))
    (xRetF (xLst (xCons (xVar 3) xNil)))))))))
def m__law_take : Sm := runB 1
  ((xSeq (xSet 2 (xOp dMod (xOpCL dIx 0 (xC (.int 0))) (xVar 1)))
    (xSeq (xStore 0 (xOp dDiv (xOpCL dIx 0 (xC (.int 0))) (xVar 1)) (xC (.int 0)))
    (xRet (xVar 2)))))
def m__law_root : Sm := runB 0
  ((xRet (xOp dIx (xL (xLst (xCons (xC (.int 0)) (xCons (xC (.int 0)) (xCons (xC (.int 2)) (xCons (xC (.int 3)) (xCons (xC (.int 5)) (xCons (xC (.int 6)) (xCons (xC (.int 7)) (xCons (xC (.int 13)) xNil)))))))))) (xCall 2 m__law_take (uC 0 (uV (xC (.int 8)) uNil))))))
def m__law_low : Sm := runB 2
  ((xSeq (xPar 3 4 (xFn fAbs (xCons (xVar 0) xNil)) (xFn fAbs (xCons (xVar 1) xNil)))
    (xSeq (xWhile (xT (xOp dGt (xVar 4) (xC (.int 0)))) (xPar 3 4 (xVar 4) (xOp dMod (xVar 3) (xVar 4))))
    (xSeq (xSet 4 (xFn fAbs (xCons (xVar 2) xNil)))
    (xSeq (xWhile (xT (xOp dGt (xVar 4) (xC (.int 0)))) (xPar 3 4 (xVar 4) (xOp dMod (xVar 3) (xVar 4))))
    (xSeq (xIf (xT (xOp dLt (xVar 2) (xC (.int 0)))) (xSet 3 (xUn dNeg (xVar 3))) xNx)
    (xRet (xTup (xCons (xOp dDiv (xVar 0) (xVar 3)) (xCons (xOp dDiv (xVar 1) (xVar 3)) (xCons (xOp dDiv (xVar 2) (xVar 3)) xNil)))))))))))
def m__law_any : Sm := runB 2
  ((xSeq (xSet 2 (xOp dIx (xL (xLst (xCons (xC (.int 10)) (xCons (xC (.int 100)) (xCons (xOp dPow (xC (.int 10)) (xC (.int 10))) (xCons (xOp dPow (xC (.int 10)) (xC (.int 20))) xNil)))))) (xCall 2 m__law_take (uC 0 (uV (xC (.int 4)) uNil)))))
    (xSeq (xSet 3 (xOp dMul (xOp dSub (xCall 2 m__law_take (uC 0 (uV (xOp dAdd (xOp dMul (xC (.int 2)) (xVar 2)) (xC (.int 1))) uNil))) (xVar 2)) (xFn fInt (xCons (xOp dGt (xVar 1) (xC (.int 0))) xNil))))
    (xRet (xCall 3 m__law_low (uV (xOp dSub (xCall 2 m__law_take (uC 0 (uV (xOp dAdd (xOp dMul (xC (.int 2)) (xVar 2)) (xC (.int 1))) uNil))) (xVar 2)) (uV (xVar 3) (uV (xOp dAdd (xC (.int 1)) (xCall 2 m__law_take (uC 0 (uV (xOp dIx (xL (xLst (xCons (xC (.int 1)) (xCons (xC (.int 9)) (xCons (xVar 2) xNil))))) (xCall 2 m__law_take (uC 0 (uV (xC (.int 3)) uNil)))) uNil)))) uNil))))))))
def m_root_below : Sm := runB 3
  ((xSeq (xSet 1 (xC (.int 0)))
    (xSeq (xSet 2 (xOp dAdd (xVar 0) (xC (.int 1))))
    (xSeq (xWhile (xT (xOp dGt (xOp dSub (xVar 2) (xVar 1)) (xC (.int 1)))) (xSeq (xSet 3 (xOp dDiv (xOp dAdd (xVar 1) (xVar 2)) (xC (.int 2))))
    (xIf (xT (xOp dGt (xOp dMul (xVar 3) (xVar 3)) (xVar 0))) (xSet 2 (xVar 3)) (xSet 1 (xVar 3)))))
    (xRet (xVar 1))))))
def m_floor_of : Sm := runB 3
  ((xSeq (xAsg (pT [2, 3, 4]) (xVar 1))
    (xSeq (xIf (xT (xOp dGe (xVar 3) (xC (.int 0)))) (xRet (xOp dDiv (xOp dAdd (xVar 2) (xCall 1 m_root_below (uV (xOp dMul (xOp dMul (xVar 3) (xVar 3)) (xVar 0)) uNil))) (xVar 4))) xNx)
    (xRet (xOp dDiv (xOp dSub (xOp dSub (xVar 2) (xCall 1 m_root_below (uV (xOp dMul (xOp dMul (xVar 3) (xVar 3)) (xVar 0)) uNil))) (xC (.int 1))) (xVar 4))))))
def m__law_sign : Sm := runB 1
  ((xSeq (xSet 2 (xOp dAdd (xOp dMul (xOp dIx (xVar 1) (xC (.int 0))) (xFn fAbs (xCons (xOp dIx (xVar 1) (xC (.int 0))) xNil))) (xOp dMul (xOp dMul (xVar 0) (xOp dIx (xVar 1) (xC (.int 1)))) (xFn fAbs (xCons (xOp dIx (xVar 1) (xC (.int 1))) xNil)))))
    (xRet (xOp dSub (xFn fInt (xCons (xOp dGt (xVar 2) (xC (.int 0))) xNil)) (xFn fInt (xCons (xOp dLt (xVar 2) (xC (.int 0))) xNil))))))
def m__law_plus : Sm := runB 6
  ((xSeq (xAsg (pT [2, 3, 4]) (xVar 0))
    (xSeq (xAsg (pT [5, 6, 7]) (xVar 1))
    (xRet (xCall 3 m__law_low (uV (xOp dAdd (xOp dMul (xVar 2) (xVar 7)) (xOp dMul (xVar 5) (xVar 4))) (uV (xOp dAdd (xOp dMul (xVar 3) (xVar 7)) (xOp dMul (xVar 6) (xVar 4))) (uV (xOp dMul (xVar 4) (xVar 7)) uNil))))))))
def m__law_minus : Sm := runB 0
  ((xRet (xCall 2 m__law_plus (uV (xVar 0) (uV (xTup (xCons (xUn dNeg (xOp dIx (xVar 1) (xC (.int 0)))) (xCons (xUn dNeg (xOp dIx (xVar 1) (xC (.int 1)))) (xCons (xOp dIx (xVar 1) (xC (.int 2))) xNil)))) uNil)))))
def m__law_less : Sm := runB 0
  ((xRet (xOp dLt (xCall 2 m__law_sign (uV (xVar 0) (uV (xCall 2 m__law_minus (uV (xVar 1) (uV (xVar 2) uNil))) uNil))) (xC (.int 0)))))
def m__law_whole : Sm := runB 0
  ((xRet (xAndV (xIsi "int" (xVar 0)) (xNotV (xIsi "bool" (xVar 0))))))
def m_law : Sm := runB 5
  ((xSeq (xFor (xI1 r1D (xFn fMax (xCons (xC (.int 1)) (xCons (xFn fMin (xCons (xLenS 0) (xCons (xC (.int 12)) xNil))) xNil)))) (pN 1) (xSeq (xNew 2 (xCallF 2 m__law_box (uS 0 (uV (xVar 1) uNil))))
    (xSeq (xSet 3 (xCall 1 m__law_root (uC 2 uNil)))
    (xSeq (xSet 4 (xCall 2 m__law_any (uC 2 (uV (xVar 3) uNil))))
    (xSeq (xSet 5 (xCall 2 m_floor_of (uV (xVar 3) (uV (xVar 4) uNil))))
    (xIf (xOr (xNot (xT (xCall 1 m__law_whole (uV (xVar 5) uNil)))) (xOr (xT (xCall 3 m__law_less (uV (xVar 3) (uV (xVar 4) (uV (xTup (xCons (xVar 5) (xCons (xC (.int 0)) (xCons (xC (.int 1)) xNil)))) uNil))))) (xNot (xT (xCall 3 m__law_less (uV (xVar 3) (uV (xVar 4) (uV (xTup (xCons (xOp dAdd (xVar 5) (xC (.int 1))) (xCons (xC (.int 0)) (xCons (xC (.int 1)) xNil)))) uNil)))))))) (xRet (xC (.bool false))) xNx))))))
    (xRet (xC (.bool true)))))
/-! ### the law's draws -/
theorem cell_ok (ns : List Int) (k : Int) (h0 : 0 ≤ k) (h1 : k ≤ 1000) : ∃ c : Int, ev m__law_cell [some (.scr ns), sI k] none = .ok (.rt (.int c)) none := by
  by_cases h : k < (ns.length : Int)
  · obtain ⟨j, rfl⟩ : ∃ j : Nat, k = j := ⟨k.toNat, by omega⟩
    have hj : j < ns.length := by omega
    refine ⟨ns[j], ?_⟩
    have e : atI ns (j : Int) = some ns[j] := atI_nat (List.getElem?_eq_getElem hj)
    simp [m__law_cell, h, e]
  · refine ⟨6151 * k + 29, ?_⟩
    have hm : mulOk 6151 k = true := mulOk_of (a := 20) (b := 20) (by decide) (by omega) (by decide) (by decide)
    simp [m__law_cell, h, mul_ii hm]
theorem take_ok (n : Int) {m : Int} (h0 : 0 < m) (h1 : Sz 200 m) : ev m__law_take [some .box, sI m] (some [.int n]) = .ok (.rt (.int (n.fmod m))) (some [.int (n.fdiv m)]) := by
  have hn : m ≠ 0 := by omega
  have hd : divOk n m = true := h1.divOkR hn
  have e1 : ixN 1 0 = some 0 := rfl
  simp [m__law_take, e1, mod_ii hn, div_ii hd]
theorem box_loop (k : Int) (x0 x2 : Option Sl) (h0 : 0 ≤ k) (h1 : k ≤ 1000) : ∀ (ds : List D) (mixed number : Int) (x5 : Option Sl) (a : Nat), (∀ d ∈ ds, ∃ j : Nat, j < 24 ∧ d = .int (0 + j)) → 0 ≤ mixed → mixed < 2147483647 → number.natAbs < 2 ^ a → 32 ≤ a → a + 32 * ds.length ≤ 100000 →
    ∃ (number' mixed' : Int) (x : Option Sl), forL (pN 5) (xSeq (xSet 4 (xOp dMod (xOp dAdd (xOp dAdd (xOp dAdd (xOp dMul (xVar 4) (xC (.int 48271))) (xOp dMul (xOp dMul (xC (.int 7)) (xVar 5)) (xVar 5))) (xOp dMul (xC (.int 11)) (xVar 1))) (xC (.int 1))) (xC (.int 2147483647))))
    (xSet 3 (xOp dAdd (xOp dMul (xVar 3) (xC (.int 2147483647))) (xVar 4)))) ds ⟨[x0, sI k, x2, sI number, sI mixed, x5], none⟩ = .ok .nx ⟨[x0, sI k, x2, sI number', sI mixed', x], none⟩
  | [], mixed, number, x5, a, _, _, _, _, _, _ => ⟨number, mixed, x5, by simp⟩
  | d :: ds, mixed, number, x5, a, hds, hm0, hm1, hn, ha, hs => by
    obtain ⟨j', hj1, rfl⟩ := hds d (by simp)
    obtain ⟨j, hj⟩ : ∃ j : Int, j = 0 + (j' : Int) := ⟨_, rfl⟩
    have hj0 : 0 ≤ j := by omega
    rw [← hj]
    have m1 : mulOk mixed 48271 = true := mulOk_of (a := 40) (b := 40) (by omega) (by decide) (by decide) (by decide)
    have m2 : mulOk 7 j = true := mulOk_of (a := 40) (b := 40) (by decide) (by omega) (by decide) (by decide)
    have m3 : mulOk (7 * j) j = true := mulOk_of (a := 40) (b := 40) (by omega) (by omega) (by decide) (by decide)
    have m4 : mulOk 11 k = true := mulOk_of (a := 40) (b := 40) (by decide) (by omega) (by decide) (by decide)
    simp only [List.length_cons] at hs
    have m5 : mulOk number 2147483647 = true := mulOk_of (a := a) (b := 40) hn (by decide) (by omega) (by decide)
    have hz : (2147483647 : Int) ≠ 0 := by decide
    let mixed' : Int := (mixed * 48271 + 7 * j * j + 11 * k + 1).fmod 2147483647
    have q0 : 0 ≤ mixed' := Int.fmod_nonneg_of_pos _ (by decide)
    have q1 : mixed' < 2147483647 := Int.fmod_lt_of_pos _ (by decide)
    have q2 : (number * 2147483647 + mixed').natAbs < 2 ^ (a + 32) := by
      have e1 : (number * 2147483647 + mixed').natAbs ≤ number.natAbs * 2147483647 + 2147483647 := by omega
      have e2 : number.natAbs * 2147483647 + 2147483647 ≤ 2 ^ a * 2147483647 := by omega
      have e3 : 2 ^ (a + 32) = 2 ^ a * 4294967296 := Nat.pow_add 2 a 32
      have e4 : 0 < 2 ^ a := Nat.two_pow_pos a
      omega
    obtain ⟨n', mm, x, e⟩ := box_loop k x0 x2 h0 h1 ds mixed' (number * 2147483647 + mixed') (sI j) (a + 32) (fun i hi => hds i (by simp [hi])) q0 q1 q2 (by omega) (by omega)
    refine ⟨n', mm, x, ?_⟩
    rw [← e]
    simp [forL_cons, mul_ii m1, mul_ii m2, mul_ii m3, mul_ii m4, mul_ii m5, mod_ii hz, mixed']
theorem box_ok (ns : List Int) (k : Int) (h0 : 0 ≤ k) (h1 : k ≤ 1000) : ∃ n : Int, ev m__law_box [some (.scr ns), sI k] none = .ok (.rl [.int n]) none := by
  obtain ⟨c, hc⟩ := cell_ok ns k h0 h1
  have hz : (2 : Int) ≠ 0 := by decide
  have hz2 : (2147483647 : Int) ≠ 0 := by decide
  have hd : divOk c 2 = true := (show Sz 2 2 from ⟨by decide⟩).divOkR (by decide)
  have ml : ∀ d : D, mkLst [d] = some [d] := fun d => rfl
  by_cases h : c.fmod 2 = 0
  · refine ⟨c.fdiv 2, ?_⟩
    simp [m__law_box, hc, mod_ii hz, h, div_ii hd, ml]
  · obtain ⟨n', mm, x, e⟩ := box_loop k (some (.scr ns)) (sI c) h0 h1 (intsD 0 24) (c.fmod 2147483647) 0 none 32 (fun d hd => mem_intsD hd) (Int.fmod_nonneg_of_pos _ (by decide)) (Int.fmod_lt_of_pos _ (by decide)) (by decide) (by decide) (by rw [len_intsD]; decide)
    have er : r1D (.int 24) = some (intsD 0 24) := r1D_of (by decide) (by decide)
    refine ⟨n', ?_⟩
    simp [m__law_box, hc, mod_ii hz, mod_ii hz2, h, er, ml, e]
theorem gcd_loop (a b c : Int) : ∀ (n : Nat) (x y : Int), 0 ≤ x → 0 ≤ y → y.toNat < n → whileN (xT (xOp dGt (xVar 4) (xC (.int 0)))) (xPar 3 4 (xVar 4) (xOp dMod (xVar 3) (xVar 4))) n ⟨[sI a, sI b, sI c, sI x, sI y], none⟩ = .ok .nx ⟨[sI a, sI b, sI c, sI (Int.gcd x y : Nat), sI 0], none⟩
  | 0, x, y, hx, hy, hn => absurd hn (Nat.not_lt_zero _)
  | n + 1, x, y, hx, hy, hn => by
    rw [whileN_s]
    by_cases h : 0 < y
    · have hz : y ≠ 0 := by omega
      have e := gcd_loop a b c n y (x.fmod y) hy (Int.fmod_nonneg_of_pos _ h) (by have := Int.fmod_lt_of_pos x h; omega)
      rw [gcd_fmod] at e
      simp [h, mod_ii hz, e]
    · have hz : y = 0 := by omega
      subst hz
      simp
      omega
theorem low_ev {k : Nat} {a b c : Int} (hc : c ≠ 0) (ha : Sz k a) (hb : Sz k b) (hcs : Sz k c) (hk : k ≤ 13000) : ev m__law_low [sI a, sI b, sI c] none = .ok (.rt (dN (low a b c))) none := by
  have e1 := gcd_loop a b c FUEL (ab a) (ab b) (ab_nonneg a) (ab_nonneg b) (lt_fuel (k := k) (by have := hb.ab.lt; have := ab_nonneg b; omega) (by omega))
  have e2 := gcd_loop a b c FUEL ((Int.gcd (ab a) (ab b) : Nat) : Int) (ab c) (by omega) (ab_nonneg c) (lt_fuel (k := k) (by have := hcs.ab.lt; have := ab_nonneg c; omega) (by omega))
  have g1 : Int.gcd (ab a) (ab b) = Int.gcd a b := by rw [ab_nat, ab_nat]; simp [Int.gcd]
  have g2 : Int.gcd ((Int.gcd a b : Nat) : Int) (ab c) = Int.gcd ((Int.gcd a b : Nat) : Int) c := by rw [ab_nat]; simp [Int.gcd]
  rw [g1] at e1 e2
  rw [g2] at e2
  have hn := by3_ne (a := a) (b := b) hc
  have d1 : divOk a (by3 a b c) = true := ha.divOk hn hk
  have d2 : divOk b (by3 a b c) = true := hb.divOk hn hk
  have d3 : divOk c (by3 a b c) = true := hcs.divOk hn hk
  have e3 : by3 a b c = if c < 0 then -((Int.gcd (Int.gcd a b) c : Nat) : Int) else ((Int.gcd (Int.gcd a b) c : Nat) : Int) := rfl
  by_cases h : c < 0
  · rw [if_pos h] at e3
    rw [e3] at d1 d2 d3
    simp [m__law_low, fAbs, e1, e2, h, div_ii d1, div_ii d2, div_ii d3, low, e3]
  · rw [if_neg h] at e3
    rw [e3] at d1 d2 d3
    simp [m__law_low, fAbs, e1, e2, h, div_ii d1, div_ii d2, div_ii d3, low, e3]
def RootOk (r : Int) : Prop := r = 0 ∨ r = 2 ∨ r = 3 ∨ r = 5 ∨ r = 6 ∨ r = 7 ∨ r = 13
theorem RootOk.nonneg {r : Int} (h : RootOk r) : 0 ≤ r := by rcases h with rfl | rfl | rfl | rfl | rfl | rfl | rfl <;> decide
theorem RootOk.sz {r : Int} (h : RootOk r) : Sz 4 r := ⟨by rcases h with rfl | rfl | rfl | rfl | rfl | rfl | rfl <;> decide⟩
theorem RootOk.irr {r : Int} (h : RootOk r) (h0 : r ≠ 0) : Irr r := root_irr (h.resolve_left h0)
theorem root_ok (n : Int) : ∃ r n' : Int, ev m__law_root [some .box] (some [.int n]) = .ok (.rt (.int r)) (some [.int n']) ∧ RootOk r := by
  have h1 := Int.fmod_nonneg_of_pos n (b := 8) (by decide)
  have h2 := Int.fmod_lt_of_pos n (b := 8) (by decide)
  have t := take_ok n (m := 8) (by decide) ⟨by decide⟩
  have key : ∃ r : Int, atI [PyData.int 0, .int 0, .int 2, .int 3, .int 5, .int 6, .int 7, .int 13] (n.fmod 8) = some (.int r) ∧ RootOk r := by
    generalize n.fmod 8 = j at h1 h2
    have hj : j = 0 ∨ j = 1 ∨ j = 2 ∨ j = 3 ∨ j = 4 ∨ j = 5 ∨ j = 6 ∨ j = 7 := by omega
    unfold RootOk
    rcases hj with rfl | rfl | rfl | rfl | rfl | rfl | rfl | rfl <;> exact ⟨_, rfl, by decide⟩
  obtain ⟨r, e, hr⟩ := key
  refine ⟨r, n.fdiv 8, ?_, hr⟩
  have ml := mkLst_of (ds := [PyData.int 0, .int 0, .int 2, .int 3, .int 5, .int 6, .int 7, .int 13]) (by simp)
  simp [m__law_root, t, ml, e]
/-- a number that a law may draw: in lowest terms, its parts below 2^k -/
structure Num (k : Nat) (r : Int) (x : Nm) : Prop where
  ok : x.Ok
  a : Sz k x.a
  b : Sz k x.b
  c : Sz k x.c
  z : r = 0 → x.b = 0
theorem num_low {k : Nat} {r a b c : Int} (hc : c ≠ 0) (ha : Sz k a) (hb : Sz k b) (hcs : Sz k c) (hz : r = 0 → b = 0) : Num k r (low a b c) := by
  obtain ⟨h1, h2, h3⟩ := sz_low hc ha hb hcs
  refine ⟨low_ok a b hc, h1, h2, h3, fun hr => ?_⟩
  have e := (low_mul a b hc).2.1
  rw [hz hr] at e
  have hn := by3_ne (a := a) (b := 0) hc
  rw [hz hr]
  exact (Int.mul_eq_zero.mp e).resolve_right hn
theorem any_ok (n : Int) {r : Int} (hr : RootOk r) : ∃ (x : Nm) (n' : Int), ev m__law_any [some .box, sI r] (some [.int n]) = .ok (.rt (dN x)) (some [.int n']) ∧ Num 100 r x := by
  have h1 := Int.fmod_nonneg_of_pos n (b := 4) (by decide)
  have h2 := Int.fmod_lt_of_pos n (b := 4) (by decide)
  have t := take_ok n (m := 4) (by decide) ⟨by decide⟩
  have key : ∃ b : Int, atI [PyData.int 10, .int 100, .int 10000000000, .int 100000000000000000000] (n.fmod 4) = some (.int b) ∧ 0 < b ∧ b ≤ 100000000000000000000 := by
    generalize n.fmod 4 = j at h1 h2
    have hj : j = 0 ∨ j = 1 ∨ j = 2 ∨ j = 3 := by omega
    rcases hj with rfl | rfl | rfl | rfl <;> exact ⟨_, rfl, by decide⟩
  obtain ⟨bd, e, b0, b1⟩ := key
  have ml := mkLst_of (ds := [PyData.int 10, .int 100, .int 10000000000, .int 100000000000000000000]) (by simp)
  have p1 : dPow (.int 10) (.int 10) = some (.int 10000000000) := rfl
  have p2 : dPow (.int 10) (.int 20) = some (.int 100000000000000000000) := rfl
  have m0 : mulOk 2 bd = true := mulOk_of (a := 100) (b := 100) (by decide) (by omega) (by decide) (by decide)
  have t2 := take_ok (n.fdiv 4) (m := 2 * bd + 1) (by omega) ⟨by omega⟩
  have q1 := Int.fmod_nonneg_of_pos (n.fdiv 4) (b := 2 * bd + 1) (by omega)
  have q2 := Int.fmod_lt_of_pos (n.fdiv 4) (b := 2 * bd + 1) (by omega)
  obtain ⟨u, hu⟩ : ∃ u : Int, u = (n.fdiv 4).fmod (2 * bd + 1) - bd := ⟨_, rfl⟩
  obtain ⟨n2, hn2⟩ : ∃ u : Int, u = (n.fdiv 4).fdiv (2 * bd + 1) := ⟨_, rfl⟩
  rw [← hn2] at t2
  have t3 := take_ok n2 (m := 2 * bd + 1) (by omega) ⟨by omega⟩
  have q3 := Int.fmod_nonneg_of_pos n2 (b := 2 * bd + 1) (by omega)
  have q4 := Int.fmod_lt_of_pos n2 (b := 2 * bd + 1) (by omega)
  obtain ⟨w, hw⟩ : ∃ u : Int, u = n2.fmod (2 * bd + 1) - bd := ⟨_, rfl⟩
  obtain ⟨n3, hn3⟩ : ∃ u : Int, u = n2.fdiv (2 * bd + 1) := ⟨_, rfl⟩
  rw [← hn3] at t3
  obtain ⟨g, hg⟩ : ∃ g : Int, g = if 0 < r then 1 else 0 := ⟨_, rfl⟩
  have hg2 : g = 0 ∨ g = 1 := by rw [hg]; split <;> simp
  have m1 : mulOk u g = true := mulOk_of (a := 100) (b := 100) (by omega) (by omega) (by decide) (by decide)
  have t4 := take_ok n3 (m := 3) (by decide) ⟨by decide⟩
  have q5 := Int.fmod_nonneg_of_pos n3 (b := 3) (by decide)
  have q6 := Int.fmod_lt_of_pos n3 (b := 3) (by decide)
  obtain ⟨n4, hn4⟩ : ∃ u : Int, u = n3.fdiv 3 := ⟨_, rfl⟩
  rw [← hn4] at t4
  have key2 : ∃ b : Int, atI [PyData.int 1, .int 9, .int bd] (n3.fmod 3) = some (.int b) ∧ 0 < b ∧ b ≤ 100000000000000000000 := by
    generalize n3.fmod 3 = j at q5 q6
    have hj : j = 0 ∨ j = 1 ∨ j = 2 := by omega
    rcases hj with rfl | rfl | rfl
    · exact ⟨1, rfl, by decide⟩
    · exact ⟨9, rfl, by decide⟩
    · exact ⟨bd, rfl, b0, b1⟩
  obtain ⟨d, ed, d0, d1⟩ := key2
  have ml2 := mkLst_of (ds := [PyData.int 1, .int 9, .int bd]) (by simp)
  have t5 := take_ok n4 (m := d) d0 ⟨by omega⟩
  have q7 := Int.fmod_nonneg_of_pos n4 d0
  have q8 := Int.fmod_lt_of_pos n4 d0
  have s1 : Sz 100 w := ⟨by omega⟩
  have s2 : Sz 100 (u * g) := ⟨by rcases hg2 with rfl | rfl <;> omega⟩
  have s3 : Sz 100 (1 + n4.fmod d) := ⟨by omega⟩
  have l := low_ev (a := w) (b := u * g) (c := 1 + n4.fmod d) (by omega) s1 s2 s3 (by decide)
  refine ⟨low w (u * g) (1 + n4.fmod d), n4.fdiv d, ?_, num_low (by omega) s1 s2 s3 ?_⟩
  · simp [m__law_any, t, ml, e, p1, p2, mul_ii m0, t2, fInt, ← hu, ← hg, mul_ii m1, t3, ← hw, t4, ml2, ed, t5, l]
  · intro h
    rw [hg, h]
    simp
theorem below_loop (n : Int) (hn : 0 ≤ n) (hs : Sz 1000 n) : ∀ (m : Nat) (lo hi : Int) (x : Option Sl), 0 ≤ lo → lo < hi → hi ≤ n + 1 → lo * lo ≤ n → n < hi * hi → (hi - lo).toNat < m →
    ∃ (s : Int) (y : Option Sl) (z : Option Sl), whileN (xT (xOp dGt (xOp dSub (xVar 2) (xVar 1)) (xC (.int 1)))) (xSeq (xSet 3 (xOp dDiv (xOp dAdd (xVar 1) (xVar 2)) (xC (.int 2))))
    (xIf (xT (xOp dGt (xOp dMul (xVar 3) (xVar 3)) (xVar 0))) (xSet 2 (xVar 3)) (xSet 1 (xVar 3)))) m ⟨[sI n, sI lo, sI hi, x], none⟩ = .ok .nx ⟨[sI n, sI s, y, z], none⟩ ∧ 0 ≤ s ∧ s * s ≤ n ∧ n < (s + 1) * (s + 1)
  | 0, lo, hi, x, _, _, _, _, _, h => absurd h (Nat.not_lt_zero _)
  | m + 1, lo, hi, x, h0, h1, h2, h3, h4, h => by
    rw [whileN_s]
    by_cases hq : 1 < hi - lo
    · have e := NM.fmod_def (lo + hi) 2
      have m1 := Int.fmod_lt_of_pos (lo + hi) (b := 2) (by decide)
      have m2 := Int.fmod_nonneg_of_pos (lo + hi) (b := 2) (by decide)
      obtain ⟨q, hq'⟩ : ∃ q : Int, q = (lo + hi).fdiv 2 := ⟨_, rfl⟩
      rw [← hq'] at e
      have hd : divOk (lo + hi) 2 = true := (show Sz 2 2 from ⟨by decide⟩).divOkR (by decide)
      have sq : Sz 1001 q := by
        have := hs.lt
        have e2 : (2 : Nat) ^ 1001 = 2 ^ 1000 * 2 := Nat.pow_succ ..
        exact ⟨by omega⟩
      have mo : mulOk q q = true := sq.mulOk sq
      by_cases hb : n < q * q
      · obtain ⟨s, y, z, es, r⟩ := below_loop n hn hs m lo q (sI q) h0 (by omega) (by omega) h3 hb (by omega)
        refine ⟨s, y, z, ?_, r⟩
        simp [hq, div_ii hd, ← hq', mul_ii mo, hb, es]
      · obtain ⟨s, y, z, es, r⟩ := below_loop n hn hs m q hi (sI q) (by omega) (by omega) h2 (by omega) h4 (by omega)
        refine ⟨s, y, z, ?_, r⟩
        simp [hq, div_ii hd, ← hq', mul_ii mo, hb, es]
    · refine ⟨lo, sI hi, x, by simp [hq], h0, h3, ?_⟩
      have : hi = lo + 1 := by omega
      rw [this] at h4
      exact h4
theorem below_ok {n : Int} (hn : 0 ≤ n) (hs : Sz 1000 n) : ∃ s : Int, ev m_root_below [sI n] none = .ok (.rt (.int s)) none ∧ 0 ≤ s ∧ s * s ≤ n ∧ n < (s + 1) * (s + 1) := by
  have h4 : n < (n + 1) * (n + 1) := by
    have h := Int.mul_le_mul_of_nonneg_right (show 1 ≤ n + 1 by omega) (show 0 ≤ n + 1 by omega)
    omega
  have hl := hs.lt
  obtain ⟨s, y, z, e, r⟩ := below_loop n hn hs FUEL 0 (n + 1) none (by decide) (by omega) (by omega) (by omega) h4 (lt_fuel (k := 1002) (by
    have e2 : (2 : Nat) ^ 1002 = 2 ^ 1001 * 2 := Nat.pow_succ ..
    have e3 : (2 : Nat) ^ 1001 = 2 ^ 1000 * 2 := Nat.pow_succ ..
    omega) (by decide))
  refine ⟨s, ?_, r⟩
  simp [m_root_below, e]
theorem floor_ok {k : Nat} {r : Int} (hr : RootOk r) {x : Nm} (hx : Num k r x) (hk : k ≤ 400) : ∃ f : Int, ev m_floor_of [sI r, sN x] none = .ok (.rt (.int f)) none ∧ Sz 806 f ∧ ¬ wt r (x.a - f * x.c) x.b < 0 ∧ wt r (x.a - (f + 1) * x.c) x.b < 0 := by
  have hb := hx.b.mono hk
  have m1 : mulOk x.b x.b = true := hb.mulOk hb
  have m2 : mulOk (x.b * x.b) r = true := (hb.mul hb).mulOk hr.sz
  have n0 : 0 ≤ x.b * x.b * r := Int.mul_nonneg (by rw [← Int.natAbs_mul_self]; omega) hr.nonneg
  obtain ⟨s, es, s0, s1, s2⟩ := below_ok n0 (((hb.mul hb).mul hr.sz).mono (by decide))
  have hc := hx.ok.pos
  have hcz : x.c ≠ 0 := by omega
  have hc2 := hx.c.mono hk
  have ss : Sz 804 s := ((hb.mul hb).mul hr.sz).le (by
    have : s ≤ s * s := by
      rcases (show s = 0 ∨ 1 ≤ s by omega) with h | h
      · rw [h]; decide
      · have := Int.mul_le_mul_of_nonneg_right h s0
        omega
    omega)
  have sa := (hx.a.mono hk).mono (show 400 ≤ 804 by decide)
  by_cases h : 0 ≤ x.b
  · have dd : divOk (x.a + s) x.c = true := hc2.divOkR hcz
    refine ⟨(x.a + s).fdiv x.c, ?_, ((sa.add ss).fdiv hc).mono (by decide), floor_nonneg h hr.nonneg hc s0 s1 s2 rfl⟩
    simp [m_floor_of, h, mul_ii m1, mul_ii m2, es, div_ii dd]
  · have dd : divOk (x.a - s - 1) x.c = true := hc2.divOkR hcz
    have hr0 : r ≠ 0 := fun z => by have := hx.z z; omega
    refine ⟨(x.a - s - 1).fdiv x.c, ?_, ((sa.sub ss).sub ((show Sz 1 1 from ⟨by decide⟩).mono (show 1 ≤ 805 by decide))).fdiv hc, floor_neg (by omega) (by have := hr.nonneg; omega) (hr.irr hr0) hc s0 s1 s2 rfl⟩
    simp [m_floor_of, h, mul_ii m1, mul_ii m2, es, div_ii dd]
@[simp] theorem ix3_0 (a b c : D) : atI [a, b, c] 0 = some a := rfl
@[simp] theorem ix3_1 (a b c : D) : atI [a, b, c] 1 = some b := rfl
@[simp] theorem ix3_2 (a b c : D) : atI [a, b, c] 2 = some c := rfl
def sg (w : Int) : Int := (if 0 < w then 1 else 0) - (if w < 0 then 1 else 0)
theorem sign_ev {k : Nat} {r : Int} (hr : RootOk r) {x : Nm} (ha : Sz k x.a) (hb : Sz k x.b) (hk : k ≤ 4000) : ev m__law_sign [sI r, sN x] none = .ok (.rt (.int (sg (wt r x.a x.b)))) none := by
  have ha := ha.mono hk
  have hb := hb.mono hk
  have m1 : mulOk x.a (ab x.a) = true := ha.mulOk ha.ab
  have m2 : mulOk r x.b = true := hr.sz.mulOk hb
  have m3 : mulOk (r * x.b) (ab x.b) = true := (hr.sz.mul hb).mulOk hb.ab
  simp [m__law_sign, fAbs, fInt, mul_ii m1, mul_ii m2, mul_ii m3, sg, wt]
  congr
theorem plus_ev {k : Nat} {a b c a' b' c' : Int} (hc : 0 < c) (hc' : 0 < c') (ha : Sz k a) (hb : Sz k b) (hcs : Sz k c) (ha' : Sz k a') (hb' : Sz k b') (hcs' : Sz k c') (hk : k ≤ 4000) :
    ev m__law_plus [some (.val (.tuple [.int a, .int b, .int c])), some (.val (.tuple [.int a', .int b', .int c']))] none = .ok (.rt (dN (low (a * c' + a' * c) (b * c' + b' * c) (c * c')))) none := by
  have ha := ha.mono hk
  have hb := hb.mono hk
  have hcs := hcs.mono hk
  have ha' := ha'.mono hk
  have hb' := hb'.mono hk
  have hcs' := hcs'.mono hk
  have m1 : mulOk a c' = true := ha.mulOk hcs'
  have m2 : mulOk a' c = true := ha'.mulOk hcs
  have m3 : mulOk b c' = true := hb.mulOk hcs'
  have m4 : mulOk b' c = true := hb'.mulOk hcs
  have m5 : mulOk c c' = true := hcs.mulOk hcs'
  have l := low_ev (a := a * c' + a' * c) (b := b * c' + b' * c) (c := c * c') (by have := Int.mul_pos hc hc'; omega) ((ha.mul hcs').add (ha'.mul hcs)) ((hb.mul hcs').add (hb'.mul hcs)) ((hcs.mul hcs').mono (by decide)) (by decide)
  simp [m__law_plus, mul_ii m1, mul_ii m2, mul_ii m3, mul_ii m4, mul_ii m5, l]
theorem minus_ev {k : Nat} {a b c a' b' c' : Int} (hc : 0 < c) (hc' : 0 < c') (ha : Sz k a) (hb : Sz k b) (hcs : Sz k c) (ha' : Sz k a') (hb' : Sz k b') (hcs' : Sz k c') (hk : k ≤ 4000) :
    ev m__law_minus [some (.val (.tuple [.int a, .int b, .int c])), some (.val (.tuple [.int a', .int b', .int c']))] none = .ok (.rt (dN (low (a * c' + -a' * c) (b * c' + -b' * c) (c * c')))) none := by
  have l := plus_ev hc hc' ha hb hcs ha'.neg hb'.neg hcs' hk
  simp [m__law_minus, l]
theorem less_ev {k : Nat} {r : Int} (hr : RootOk r) {a b c a' b' c' : Int} (hc : 0 < c) (hc' : 0 < c') (ha : Sz k a) (hb : Sz k b) (hcs : Sz k c) (ha' : Sz k a') (hb' : Sz k b') (hcs' : Sz k c') (hk : k ≤ 1000) :
    ev m__law_less [sI r, some (.val (.tuple [.int a, .int b, .int c])), some (.val (.tuple [.int a', .int b', .int c']))] none = .ok (.rt (.bool (decide (wt r (a * c' - a' * c) (b * c' - b' * c) < 0)))) none := by
  have l := minus_ev hc hc' ha hb hcs ha' hb' hcs' (by omega)
  have ha := ha.mono hk
  have hb := hb.mono hk
  have hcs := hcs.mono hk
  have ha' := ha'.mono hk
  have hb' := hb'.mono hk
  have hcs' := hcs'.mono hk
  have hcc := Int.mul_pos hc hc'
  obtain ⟨z1, z2, z3⟩ := sz_low (a := a * c' + -a' * c) (b := b * c' + -b' * c) (c := c * c') (by omega) ((ha.mul hcs').add (ha'.neg.mul hcs)) ((hb.mul hcs').add (hb'.neg.mul hcs)) ((hcs.mul hcs').mono (by decide))
  have s := sign_ev hr (x := low (a * c' + -a' * c) (b * c' + -b' * c) (c * c')) z1 z2 (by decide)
  have w := (wt_low r (a * c' + -a' * c) (b * c' + -b' * c) hcc)
  have e1 : a * c' + -a' * c = a * c' - a' * c := by grind
  have e2 : b * c' + -b' * c = b * c' - b' * c := by grind
  rw [e1, e2] at w s l
  have e3 : (sg (wt r (low (a * c' - a' * c) (b * c' - b' * c) (c * c')).a (low (a * c' - a' * c) (b * c' - b' * c) (c * c')).b) < 0) ↔ (wt r (a * c' - a' * c) (b * c' - b' * c) < 0) := by
    rw [← w.2]
    unfold sg
    constructor <;> intro h <;> repeat' split at * <;> omega
  simp [m__law_less, l, s, e3]
theorem whole_ev (i : Int) : ev m__law_whole [sI i] none = .ok (.rt (.bool true)) none := by
  have e1 : isTy "int" (.int i) = some (.bool true) := rfl
  have e2 : isTy "bool" (.int i) = some (.bool false) := rfl
  simp [m__law_whole, e1, e2]
theorem law_true (ns : List Int) (hl : ns.length ≤ 63) : ∃ bx, ev m_law [some (.scr ns)] none = .ok (.rt (.bool true)) bx := by
  have step : ∀ (d : D), (∃ j : Nat, j < 12 ∧ d = .int (0 + j)) → ∀ st : S, (∃ x1 x2 x3 x4 x5, st = ⟨[some (.scr ns), x1, x2, x3, x4, x5], none⟩) → ∃ st1 st2, pN 1 d st = some st1 ∧ (xSeq (xNew 2 (xCallF 2 m__law_box (uS 0 (uV (xVar 1) uNil))))
    (xSeq (xSet 3 (xCall 1 m__law_root (uC 2 uNil)))
    (xSeq (xSet 4 (xCall 2 m__law_any (uC 2 (uV (xVar 3) uNil))))
    (xSeq (xSet 5 (xCall 2 m_floor_of (uV (xVar 3) (uV (xVar 4) uNil))))
    (xIf (xOr (xNot (xT (xCall 1 m__law_whole (uV (xVar 5) uNil)))) (xOr (xT (xCall 3 m__law_less (uV (xVar 3) (uV (xVar 4) (uV (xTup (xCons (xVar 5) (xCons (xC (.int 0)) (xCons (xC (.int 1)) xNil)))) uNil))))) (xNot (xT (xCall 3 m__law_less (uV (xVar 3) (uV (xVar 4) (uV (xTup (xCons (xOp dAdd (xVar 5) (xC (.int 1))) (xCons (xC (.int 0)) (xCons (xC (.int 1)) xNil)))) uNil)))))))) (xRet (xC (.bool false))) xNx))))) st1 = .ok .nx st2 ∧ (∃ x1 x2 x3 x4 x5, st2 = ⟨[some (.scr ns), x1, x2, x3, x4, x5], none⟩) := by
    rintro d ⟨j, hj, rfl⟩ st ⟨x1, x2, x3, x4, x5, rfl⟩
    obtain ⟨i, hi⟩ : ∃ i : Int, i = 0 + (j : Int) := ⟨_, rfl⟩
    rw [← hi]
    obtain ⟨n, hb⟩ := box_ok ns i (by omega) (by omega)
    obtain ⟨r, n1, hr, rok⟩ := root_ok n
    obtain ⟨x, n2, hx, xok⟩ := any_ok n1 rok
    obtain ⟨f, hf, fs, f1, f2⟩ := floor_ok rok xok (by decide)
    have w := whole_ev f
    have z1 : Sz 900 1 := (show Sz 1 1 from ⟨by decide⟩).mono (by decide)
    have z0 : Sz 900 0 := (show Sz 1 0 from ⟨by decide⟩).mono (by decide)
    have sa := xok.a.mono (show 100 ≤ 900 by decide)
    have sb := xok.b.mono (show 100 ≤ 900 by decide)
    have sc := xok.c.mono (show 100 ≤ 900 by decide)
    have l1 := less_ev rok (a' := f) (b' := 0) (c' := 1) xok.ok.pos (by decide) sa sb sc (fs.mono (by decide)) z0 z1 (by decide)
    have l2 := less_ev rok (a' := f + 1) (b' := 0) (c' := 1) xok.ok.pos (by decide) sa sb sc ((fs.add (show Sz 806 1 from (show Sz 1 1 from ⟨by decide⟩).mono (by decide))).mono (by decide)) z0 z1 (by decide)
    simp only [Int.mul_one, Int.zero_mul, Int.sub_zero] at l1 l2
    have f1' : decide (wt r (x.a - f * x.c) x.b < 0) = false := decide_eq_false f1
    have f2' : decide (wt r (x.a - (f + 1) * x.c) x.b < 0) = true := decide_eq_true f2
    rw [f1'] at l1
    rw [f2'] at l2
    refine ⟨_, ⟨[some (.scr ns), sI i, some (.own [.int n2]), sI r, sN x, sI f], none⟩, rfl, ?_, _, _, _, _, _, rfl⟩
    simp [hb, hr, hx, hf, w, l1, l2]
  have hr : ∃ m : Nat, m ≤ 12 ∧ r1D (.int (if (if (12 : Int) < (ns.length : Int) then 12 else (ns.length : Int)) > 1 then (if (12 : Int) < (ns.length : Int) then 12 else (ns.length : Int)) else 1)) = some (intsD 0 m) := by
    refine ⟨_, ?_, r1D_of ?_ ?_⟩ <;> repeat' split <;> omega
  obtain ⟨m, hm, er⟩ := hr
  obtain ⟨st', e, x1, x2, x3, x4, x5, rfl⟩ := forL_inv _ (intsD 0 m) (fun d hd => step d (by obtain ⟨j, h1, h2⟩ := mem_intsD hd; exact ⟨j, by omega, h2⟩)) ⟨[some (.scr ns), none, none, none, none, none], none⟩ ⟨_, _, _, _, _, rfl⟩
  refine ⟨none, ?_⟩
  simp [m_law, fMax, fMin, er, e]
def topS (i : Nat) : Stmt := PySem.Challenge.pw_cutexchange_k03_whole_parts.main.body.getD i (.Pass ⟨0, 0, 0, 0⟩)
abbrev s__law_cell : Stmt := topS 4
abbrev n__law_cell : List Str := ["_law_script", "_law_k"]
theorem sc__law_cell : FnScope n__law_cell ["_law_script", "_law_k"] (defScope s__law_cell) := ⟨rfl, rfl, rfl, by decide +kernel, rfl, by decide +kernel, by decide +kernel⟩
theorem ok__law_cell {P : Program} {w : World} {K : PySem.W.Frag} {mg : Str → Option Value} {base : Heap} {f : Addr} {fd : FuncData} (F : Fun K "_law_cell" "_law_cell" s__law_cell f fd) (b_len : mg "len" = none) : FnD P w K mg base 1 f fd ["_law_script", "_law_k"] m__law_cell := by
  refine fnD_of (k := 0) F sc__law_cell fun cdv A outer s H Ex hr => ?_
  exact (ds_cons (ds_if (dt_cmp o_lt (de_var 1) (de_lenS 0 b_len)) (ds_one (ds_ret (de_ixS 0 (de_var 1)))) ds_nil)
    (ds_one (ds_ret (de_op o_add (de_op o_mul de_int (de_var 1)) de_int))))
abbrev s__law_box : Stmt := topS 5
abbrev n__law_box : List Str := ["_law_script", "_law_k", "_law_cell_here", "_law_number", "_law_mixed", "_law_j"]
theorem sc__law_box : FnScope n__law_box ["_law_script", "_law_k"] (defScope s__law_box) := ⟨rfl, rfl, rfl, by decide +kernel, rfl, by decide +kernel, by decide +kernel⟩
theorem ok__law_box {P : Program} {w : World} {K : PySem.W.Frag} {mg : Str → Option Value} {base : Heap} {f : Addr} {fd : FuncData} (F : Fun K "_law_box" "_law_box" s__law_box f fd) (b_range : mg "range" = none) (C__law_cell : Cal P w K mg base 1 "_law_cell" ["_law_script", "_law_k"] m__law_cell) : FnD P w K mg base 2 f fd ["_law_script", "_law_k"] m__law_box := by
  refine fnD_of (k := 1) F sc__law_box fun cdv A outer s H Ex hr => ?_
  exact (ds_cons (ds_set (i := 2) sc__law_box.nd (de_cl C__law_cell hr (by decide) (takes_of rfl rfl rfl rfl) (du_scr 0 (du_val (de_var 1) du_nil))))
    (ds_cons (ds_if (dt_cmp (o_eq hr) (de_op o_mod (de_var 2) de_int) de_int) (ds_one (ds_retF (df_lst (da_cons (de_op o_div (de_var 2) de_int) da_nil)))) ds_nil)
    (ds_cons (ds_set (i := 3) sc__law_box.nd de_int)
    (ds_cons (ds_set (i := 4) sc__law_box.nd (de_op o_mod (de_var 2) de_int))
    (ds_cons (ds_for (passes_of rfl) (di_range1 b_range de_int) (dg_name (i := 5) sc__law_box.nd) (ds_cons (ds_set (i := 4) sc__law_box.nd (de_op o_mod (de_op o_add (de_op o_add (de_op o_add (de_op o_mul (de_var 4) de_int) (de_op o_mul (de_op o_mul de_int (de_var 5)) (de_var 5))) (de_op o_mul de_int (de_var 1))) de_int) de_int))
    (ds_one (ds_set (i := 3) sc__law_box.nd (de_op o_add (de_op o_mul (de_var 3) de_int) (de_var 4))))))
    (ds_one (ds_retF (df_lst (da_cons (de_var 3) da_nil)))))))))
abbrev s__law_take : Stmt := topS 6
abbrev n__law_take : List Str := ["_law_box_here", "_law_many", "_law_digit"]
theorem sc__law_take : FnScope n__law_take ["_law_box_here", "_law_many"] (defScope s__law_take) := ⟨rfl, rfl, rfl, by decide +kernel, rfl, by decide +kernel, by decide +kernel⟩
theorem ok__law_take {P : Program} {w : World} {K : PySem.W.Frag} {mg : Str → Option Value} {base : Heap} {f : Addr} {fd : FuncData} (F : Fun K "_law_take" "_law_take" s__law_take f fd) : FnD P w K mg base 1 f fd ["_law_box_here", "_law_many"] m__law_take := by
  refine fnD_of (k := 0) F sc__law_take fun cdv A outer s H Ex hr => ?_
  exact (ds_cons (ds_set (i := 2) sc__law_take.nd (de_op o_mod (de_ixC 0 i_ix de_int) (de_var 1)))
    (ds_cons (ds_store 0 (de_op o_div (de_ixC 0 i_ix de_int) (de_var 1)) de_int)
    (ds_one (ds_ret (de_var 2)))))
abbrev s__law_root : Stmt := topS 13
abbrev n__law_root : List Str := ["_law_box_here"]
theorem sc__law_root : FnScope n__law_root ["_law_box_here"] (defScope s__law_root) := ⟨rfl, rfl, rfl, by decide +kernel, rfl, by decide +kernel, by decide +kernel⟩
theorem ok__law_root {P : Program} {w : World} {K : PySem.W.Frag} {mg : Str → Option Value} {base : Heap} {f : Addr} {fd : FuncData} (F : Fun K "_law_root" "_law_root" s__law_root f fd) (C__law_take : Cal P w K mg base 1 "_law_take" ["_law_box_here", "_law_many"] m__law_take) : FnD P w K mg base 2 f fd ["_law_box_here"] m__law_root := by
  refine fnD_of (k := 1) F sc__law_root fun cdv A outer s H Ex hr => ?_
  exact (ds_one (ds_ret (de_ix i_ix (de_frz (df_lst (da_cons de_int (da_cons de_int (da_cons de_int (da_cons de_int (da_cons de_int (da_cons de_int (da_cons de_int (da_cons de_int da_nil)))))))))) (de_cl C__law_take hr (by decide) (takes_of rfl rfl rfl rfl) (du_cel 0 (du_val de_int du_nil))))))
abbrev s__law_low : Stmt := topS 8
abbrev n__law_low : List Str := ["_law_a", "_law_b", "_law_c", "_law_one", "_law_other"]
theorem sc__law_low : FnScope n__law_low ["_law_a", "_law_b", "_law_c"] (defScope s__law_low) := ⟨rfl, rfl, rfl, by decide +kernel, rfl, by decide +kernel, by decide +kernel⟩
theorem ok__law_low {P : Program} {w : World} {K : PySem.W.Frag} {mg : Str → Option Value} {base : Heap} {f : Addr} {fd : FuncData} (F : Fun K "_law_low" "_law_low" s__law_low f fd) (b_abs : mg "abs" = none) : FnD P w K mg base 1 f fd ["_law_a", "_law_b", "_law_c"] m__law_low := by
  refine fnD_of (k := 0) F sc__law_low fun cdv A outer s H Ex hr => ?_
  exact (ds_cons (ds_par (i := 3) (j := 4) sc__law_low.nd (by decide) (de_callB c_abs (by rfl) b_abs (by decide +kernel) (da_cons (de_var 0) da_nil)) (de_callB c_abs (by rfl) b_abs (by decide +kernel) (da_cons (de_var 1) da_nil)))
    (ds_cons (ds_while (passes_of rfl) (dt_cmp o_gt (de_var 4) de_int) (ds_one (ds_par (i := 3) (j := 4) sc__law_low.nd (by decide) (de_var 4) (de_op o_mod (de_var 3) (de_var 4)))))
    (ds_cons (ds_set (i := 4) sc__law_low.nd (de_callB c_abs (by rfl) b_abs (by decide +kernel) (da_cons (de_var 2) da_nil)))
    (ds_cons (ds_while (passes_of rfl) (dt_cmp o_gt (de_var 4) de_int) (ds_one (ds_par (i := 3) (j := 4) sc__law_low.nd (by decide) (de_var 4) (de_op o_mod (de_var 3) (de_var 4)))))
    (ds_cons (ds_if (dt_cmp o_lt (de_var 2) de_int) (ds_one (ds_set (i := 3) sc__law_low.nd (de_un u_neg (de_var 3)))) ds_nil)
    (ds_one (ds_ret (de_tup (da_cons (de_op o_div (de_var 0) (de_var 3)) (da_cons (de_op o_div (de_var 1) (de_var 3)) (da_cons (de_op o_div (de_var 2) (de_var 3)) da_nil)))))))))))
abbrev s__law_any : Stmt := topS 14
abbrev n__law_any : List Str := ["_law_box_here", "_law_root_here", "_law_far", "_law_b"]
theorem sc__law_any : FnScope n__law_any ["_law_box_here", "_law_root_here"] (defScope s__law_any) := ⟨rfl, rfl, rfl, by decide +kernel, rfl, by decide +kernel, by decide +kernel⟩
theorem ok__law_any {P : Program} {w : World} {K : PySem.W.Frag} {mg : Str → Option Value} {base : Heap} {f : Addr} {fd : FuncData} (F : Fun K "_law_any" "_law_any" s__law_any f fd) (b_int : mg "int" = none) (C__law_low : Cal P w K mg base 1 "_law_low" ["_law_a", "_law_b", "_law_c"] m__law_low) (C__law_take : Cal P w K mg base 1 "_law_take" ["_law_box_here", "_law_many"] m__law_take) : FnD P w K mg base 2 f fd ["_law_box_here", "_law_root_here"] m__law_any := by
  refine fnD_of (k := 1) F sc__law_any fun cdv A outer s H Ex hr => ?_
  exact (ds_cons (ds_set (i := 2) sc__law_any.nd (de_ix i_ix (de_frz (df_lst (da_cons de_int (da_cons de_int (da_cons (de_op o_pow de_int de_int) (da_cons (de_op o_pow de_int de_int) da_nil)))))) (de_cl C__law_take hr (by decide) (takes_of rfl rfl rfl rfl) (du_cel 0 (du_val de_int du_nil)))))
    (ds_cons (ds_set (i := 3) sc__law_any.nd (de_op o_mul (de_op o_sub (de_cl C__law_take hr (by decide) (takes_of rfl rfl rfl rfl) (du_cel 0 (du_val (de_op o_add (de_op o_mul de_int (de_var 2)) de_int) du_nil))) (de_var 2)) (de_callTy c_int (by rfl) b_int (by decide +kernel) (da_cons (de_cmp o_gt (de_var 1) de_int) da_nil))))
    (ds_one (ds_ret (de_cl C__law_low hr (by decide) (takes_of rfl rfl rfl rfl) (du_val (de_op o_sub (de_cl C__law_take hr (by decide) (takes_of rfl rfl rfl rfl) (du_cel 0 (du_val (de_op o_add (de_op o_mul de_int (de_var 2)) de_int) du_nil))) (de_var 2)) (du_val (de_var 3) (du_val (de_op o_add de_int (de_cl C__law_take hr (by decide) (takes_of rfl rfl rfl rfl) (du_cel 0 (du_val (de_ix i_ix (de_frz (df_lst (da_cons de_int (da_cons de_int (da_cons (de_var 2) da_nil))))) (de_cl C__law_take hr (by decide) (takes_of rfl rfl rfl rfl) (du_cel 0 (du_val de_int du_nil)))) du_nil)))) du_nil))))))))
abbrev s_root_below : Stmt := topS 1
abbrev n_root_below : List Str := ["number", "low", "high", "middle"]
theorem sc_root_below : FnScope n_root_below ["number"] (defScope s_root_below) := ⟨rfl, rfl, rfl, by decide +kernel, rfl, by decide +kernel, by decide +kernel⟩
theorem ok_root_below {P : Program} {w : World} {K : PySem.W.Frag} {mg : Str → Option Value} {base : Heap} {f : Addr} {fd : FuncData} (F : Fun K "root_below" "root_below" s_root_below f fd) : FnD P w K mg base 1 f fd ["number"] m_root_below := by
  refine fnD_of (k := 0) F sc_root_below fun cdv A outer s H Ex hr => ?_
  exact (ds_cons (ds_set (i := 1) sc_root_below.nd de_int)
    (ds_cons (ds_set (i := 2) sc_root_below.nd (de_op o_add (de_var 0) de_int))
    (ds_cons (ds_while (passes_of rfl) (dt_cmp o_gt (de_op o_sub (de_var 2) (de_var 1)) de_int) (ds_cons (ds_set (i := 3) sc_root_below.nd (de_op o_div (de_op o_add (de_var 1) (de_var 2)) de_int))
    (ds_one (ds_if (dt_cmp o_gt (de_op o_mul (de_var 3) (de_var 3)) (de_var 0)) (ds_one (ds_set (i := 2) sc_root_below.nd (de_var 3))) (ds_one (ds_set (i := 1) sc_root_below.nd (de_var 3)))))))
    (ds_one (ds_ret (de_var 1))))))
abbrev s_floor_of : Stmt := topS 2
abbrev n_floor_of : List Str := ["root", "one", "a", "b", "c"]
theorem sc_floor_of : FnScope n_floor_of ["root", "one"] (defScope s_floor_of) := ⟨rfl, rfl, rfl, by decide +kernel, rfl, by decide +kernel, by decide +kernel⟩
theorem ok_floor_of {P : Program} {w : World} {K : PySem.W.Frag} {mg : Str → Option Value} {base : Heap} {f : Addr} {fd : FuncData} (F : Fun K "floor_of" "floor_of" s_floor_of f fd) (C_root_below : Cal P w K mg base 1 "root_below" ["number"] m_root_below) : FnD P w K mg base 2 f fd ["root", "one"] m_floor_of := by
  refine fnD_of (k := 1) F sc_floor_of fun cdv A outer s H Ex hr => ?_
  exact (ds_cons (ds_asg (de_var 1) (dg_tup (dgs_cons (i := 2) sc_floor_of.nd (dgs_cons (i := 3) sc_floor_of.nd (dgs_cons (i := 4) sc_floor_of.nd dgs_nil)))))
    (ds_cons (ds_if (dt_cmp o_ge (de_var 3) de_int) (ds_one (ds_ret (de_op o_div (de_op o_add (de_var 2) (de_cl C_root_below hr (by decide) (takes_of rfl rfl rfl rfl) (du_val (de_op o_mul (de_op o_mul (de_var 3) (de_var 3)) (de_var 0)) du_nil))) (de_var 4)))) ds_nil)
    (ds_one (ds_ret (de_op o_div (de_op o_sub (de_op o_sub (de_var 2) (de_cl C_root_below hr (by decide) (takes_of rfl rfl rfl rfl) (du_val (de_op o_mul (de_op o_mul (de_var 3) (de_var 3)) (de_var 0)) du_nil))) de_int) (de_var 4))))))
abbrev s__law_sign : Stmt := topS 11
abbrev n__law_sign : List Str := ["_law_root_here", "_law_one", "_law_worth"]
theorem sc__law_sign : FnScope n__law_sign ["_law_root_here", "_law_one"] (defScope s__law_sign) := ⟨rfl, rfl, rfl, by decide +kernel, rfl, by decide +kernel, by decide +kernel⟩
theorem ok__law_sign {P : Program} {w : World} {K : PySem.W.Frag} {mg : Str → Option Value} {base : Heap} {f : Addr} {fd : FuncData} (F : Fun K "_law_sign" "_law_sign" s__law_sign f fd) (b_abs : mg "abs" = none) (b_int : mg "int" = none) : FnD P w K mg base 1 f fd ["_law_root_here", "_law_one"] m__law_sign := by
  refine fnD_of (k := 0) F sc__law_sign fun cdv A outer s H Ex hr => ?_
  exact (ds_cons (ds_set (i := 2) sc__law_sign.nd (de_op o_add (de_op o_mul (de_ix i_ix (de_var 1) de_int) (de_callB c_abs (by rfl) b_abs (by decide +kernel) (da_cons (de_ix i_ix (de_var 1) de_int) da_nil))) (de_op o_mul (de_op o_mul (de_var 0) (de_ix i_ix (de_var 1) de_int)) (de_callB c_abs (by rfl) b_abs (by decide +kernel) (da_cons (de_ix i_ix (de_var 1) de_int) da_nil)))))
    (ds_one (ds_ret (de_op o_sub (de_callTy c_int (by rfl) b_int (by decide +kernel) (da_cons (de_cmp o_gt (de_var 2) de_int) da_nil)) (de_callTy c_int (by rfl) b_int (by decide +kernel) (da_cons (de_cmp o_lt (de_var 2) de_int) da_nil))))))
abbrev s__law_plus : Stmt := topS 9
abbrev n__law_plus : List Str := ["_law_one", "_law_other", "_law_a", "_law_b", "_law_c", "_law_d", "_law_e", "_law_f"]
theorem sc__law_plus : FnScope n__law_plus ["_law_one", "_law_other"] (defScope s__law_plus) := ⟨rfl, rfl, rfl, by decide +kernel, rfl, by decide +kernel, by decide +kernel⟩
theorem ok__law_plus {P : Program} {w : World} {K : PySem.W.Frag} {mg : Str → Option Value} {base : Heap} {f : Addr} {fd : FuncData} (F : Fun K "_law_plus" "_law_plus" s__law_plus f fd) (C__law_low : Cal P w K mg base 1 "_law_low" ["_law_a", "_law_b", "_law_c"] m__law_low) : FnD P w K mg base 2 f fd ["_law_one", "_law_other"] m__law_plus := by
  refine fnD_of (k := 1) F sc__law_plus fun cdv A outer s H Ex hr => ?_
  exact (ds_cons (ds_asg (de_var 0) (dg_tup (dgs_cons (i := 2) sc__law_plus.nd (dgs_cons (i := 3) sc__law_plus.nd (dgs_cons (i := 4) sc__law_plus.nd dgs_nil)))))
    (ds_cons (ds_asg (de_var 1) (dg_tup (dgs_cons (i := 5) sc__law_plus.nd (dgs_cons (i := 6) sc__law_plus.nd (dgs_cons (i := 7) sc__law_plus.nd dgs_nil)))))
    (ds_one (ds_ret (de_cl C__law_low hr (by decide) (takes_of rfl rfl rfl rfl) (du_val (de_op o_add (de_op o_mul (de_var 2) (de_var 7)) (de_op o_mul (de_var 5) (de_var 4))) (du_val (de_op o_add (de_op o_mul (de_var 3) (de_var 7)) (de_op o_mul (de_var 6) (de_var 4))) (du_val (de_op o_mul (de_var 4) (de_var 7)) du_nil))))))))
abbrev s__law_minus : Stmt := topS 10
abbrev n__law_minus : List Str := ["_law_one", "_law_other"]
theorem sc__law_minus : FnScope n__law_minus ["_law_one", "_law_other"] (defScope s__law_minus) := ⟨rfl, rfl, rfl, by decide +kernel, rfl, by decide +kernel, by decide +kernel⟩
theorem ok__law_minus {P : Program} {w : World} {K : PySem.W.Frag} {mg : Str → Option Value} {base : Heap} {f : Addr} {fd : FuncData} (F : Fun K "_law_minus" "_law_minus" s__law_minus f fd) (C__law_plus : Cal P w K mg base 2 "_law_plus" ["_law_one", "_law_other"] m__law_plus) : FnD P w K mg base 3 f fd ["_law_one", "_law_other"] m__law_minus := by
  refine fnD_of (k := 2) F sc__law_minus fun cdv A outer s H Ex hr => ?_
  exact (ds_one (ds_ret (de_cl C__law_plus hr (by decide) (takes_of rfl rfl rfl rfl) (du_val (de_var 0) (du_val (de_tup (da_cons (de_un u_neg (de_ix i_ix (de_var 1) de_int)) (da_cons (de_un u_neg (de_ix i_ix (de_var 1) de_int)) (da_cons (de_ix i_ix (de_var 1) de_int) da_nil)))) du_nil)))))
abbrev s__law_less : Stmt := topS 12
abbrev n__law_less : List Str := ["_law_root_here", "_law_one", "_law_other"]
theorem sc__law_less : FnScope n__law_less ["_law_root_here", "_law_one", "_law_other"] (defScope s__law_less) := ⟨rfl, rfl, rfl, by decide +kernel, rfl, by decide +kernel, by decide +kernel⟩
theorem ok__law_less {P : Program} {w : World} {K : PySem.W.Frag} {mg : Str → Option Value} {base : Heap} {f : Addr} {fd : FuncData} (F : Fun K "_law_less" "_law_less" s__law_less f fd) (C__law_sign : Cal P w K mg base 1 "_law_sign" ["_law_root_here", "_law_one"] m__law_sign) (C__law_minus : Cal P w K mg base 3 "_law_minus" ["_law_one", "_law_other"] m__law_minus) : FnD P w K mg base 4 f fd ["_law_root_here", "_law_one", "_law_other"] m__law_less := by
  refine fnD_of (k := 3) F sc__law_less fun cdv A outer s H Ex hr => ?_
  exact (ds_one (ds_ret (de_cmp o_lt (de_cl C__law_sign hr (by decide) (takes_of rfl rfl rfl rfl) (du_val (de_var 0) (du_val (de_cl C__law_minus hr (by decide) (takes_of rfl rfl rfl rfl) (du_val (de_var 1) (du_val (de_var 2) du_nil))) du_nil))) de_int)))
abbrev s__law_whole : Stmt := topS 7
abbrev n__law_whole : List Str := ["_law_thing"]
theorem sc__law_whole : FnScope n__law_whole ["_law_thing"] (defScope s__law_whole) := ⟨rfl, rfl, rfl, by decide +kernel, rfl, by decide +kernel, by decide +kernel⟩
theorem ok__law_whole {P : Program} {w : World} {K : PySem.W.Frag} {mg : Str → Option Value} {base : Heap} {f : Addr} {fd : FuncData} (F : Fun K "_law_whole" "_law_whole" s__law_whole f fd) (b_bool : mg "bool" = none) (b_int : mg "int" = none) (b_isinstance : mg "isinstance" = none) : FnD P w K mg base 1 f fd ["_law_thing"] m__law_whole := by
  refine fnD_of (k := 0) F sc__law_whole fun cdv A outer s H Ex hr => ?_
  exact (ds_one (ds_ret (de_and (de_isi b_isinstance b_int (by decide +kernel) (de_var 0)) (de_one (de_not (de_isi b_isinstance b_bool (by decide +kernel) (de_var 0)))))))
abbrev s_law : Stmt := topS 15
abbrev n_law : List Str := ["_law_script", "_law_k", "_law_box_here", "_law_root_here", "_law_one", "_law_found"]
theorem sc_law : FnScope n_law ["_law_script"] (defScope s_law) := ⟨rfl, rfl, rfl, by decide +kernel, rfl, by decide +kernel, by decide +kernel⟩
theorem ok_law {P : Program} {w : World} {K : PySem.W.Frag} {mg : Str → Option Value} {base : Heap} {f : Addr} {fd : FuncData} (F : Fun K "law" "law" s_law f fd) (b_len : mg "len" = none) (b_max : mg "max" = none) (b_min : mg "min" = none) (b_range : mg "range" = none) (C__law_whole : Cal P w K mg base 1 "_law_whole" ["_law_thing"] m__law_whole) (C__law_less : Cal P w K mg base 4 "_law_less" ["_law_root_here", "_law_one", "_law_other"] m__law_less) (C_floor_of : Cal P w K mg base 2 "floor_of" ["root", "one"] m_floor_of) (C__law_any : Cal P w K mg base 2 "_law_any" ["_law_box_here", "_law_root_here"] m__law_any) (C__law_root : Cal P w K mg base 2 "_law_root" ["_law_box_here"] m__law_root) (C__law_box : Cal P w K mg base 2 "_law_box" ["_law_script", "_law_k"] m__law_box) : FnD P w K mg base 5 f fd ["_law_script"] m_law := by
  refine fnD_of (k := 4) F sc_law fun cdv A outer s H Ex hr => ?_
  exact (ds_cons (ds_for (passes_of rfl) (di_range1 b_range (de_callB (c_max rfl) (by rfl) b_max (by decide +kernel) (da_cons de_int (da_cons (de_callB (c_min rfl) (by rfl) b_min (by decide +kernel) (da_cons (de_lenS 0 b_len) (da_cons de_int da_nil))) da_nil)))) (dg_name (i := 1) sc_law.nd) (ds_cons (ds_new (i := 2) sc_law.nd (df_cl C__law_box hr (by decide) (takes_of rfl rfl rfl rfl) (du_scr 0 (du_val (de_var 1) du_nil))))
    (ds_cons (ds_set (i := 3) sc_law.nd (de_cl C__law_root hr (by decide) (takes_of rfl rfl rfl rfl) (du_cel 2 du_nil)))
    (ds_cons (ds_set (i := 4) sc_law.nd (de_cl C__law_any hr (by decide) (takes_of rfl rfl rfl rfl) (du_cel 2 (du_val (de_var 3) du_nil))))
    (ds_cons (ds_set (i := 5) sc_law.nd (de_cl C_floor_of hr (by decide) (takes_of rfl rfl rfl rfl) (du_val (de_var 3) (du_val (de_var 4) du_nil))))
    (ds_one (ds_if (dt_w (dw_or (dt_not (dt_val (de_cl C__law_whole hr (by decide) (takes_of rfl rfl rfl rfl) (du_val (de_var 5) du_nil)))) (dw_or (dt_val (de_cl C__law_less hr (by decide) (takes_of rfl rfl rfl rfl) (du_val (de_var 3) (du_val (de_var 4) (du_val (de_tup (da_cons (de_var 5) (da_cons de_int (da_cons de_int da_nil)))) du_nil))))) (dw_or1 (dt_not (dt_val (de_cl C__law_less hr (by decide) (takes_of rfl rfl rfl rfl) (du_val (de_var 3) (du_val (de_var 4) (du_val (de_tup (da_cons (de_op o_add (de_var 5) de_int) (da_cons de_int (da_cons de_int da_nil)))) du_nil)))))))))) (ds_one (ds_ret de_bl)) ds_nil)))))))
    (ds_one (ds_ret de_bl)))
theorem all_mk {P : Program} {w : World} {K : PySem.W.Frag} {h : Heap} {mg : Str → Option Value} {fa : Addr} (X : K.In h) (G : h.Ns mainGlobals mg) (hfa : mg "law" = some (.ref fa)) (t__law_cell : Tp K "_law_cell" s__law_cell) (t__law_box : Tp K "_law_box" s__law_box) (t__law_take : Tp K "_law_take" s__law_take) (t__law_root : Tp K "_law_root" s__law_root) (t__law_low : Tp K "_law_low" s__law_low) (t__law_any : Tp K "_law_any" s__law_any) (t_root_below : Tp K "root_below" s_root_below) (t_floor_of : Tp K "floor_of" s_floor_of) (t__law_sign : Tp K "_law_sign" s__law_sign) (t__law_plus : Tp K "_law_plus" s__law_plus) (t__law_minus : Tp K "_law_minus" s__law_minus) (t__law_less : Tp K "_law_less" s__law_less) (t__law_whole : Tp K "_law_whole" s__law_whole) (t_law : Tp K "law" s_law) (z_abs : PySem.W.nsIn K mainGlobals "abs" = some none) (z_bool : PySem.W.nsIn K mainGlobals "bool" = some none) (z_int : PySem.W.nsIn K mainGlobals "int" = some none) (z_isinstance : PySem.W.nsIn K mainGlobals "isinstance" = some none) (z_len : PySem.W.nsIn K mainGlobals "len" = some none) (z_max : PySem.W.nsIn K mainGlobals "max" = some none) (z_min : PySem.W.nsIn K mainGlobals "min" = some none) (z_range : PySem.W.nsIn K mainGlobals "range" = some none) :
    ∃ fd : FuncData, (∀ (s : Shared) (u : Value), BindsTo s fd ⟨[u], []⟩ [("_law_script", u)]) ∧ ∀ base : Heap, K.In base → base.Ns mainGlobals mg → FnOk P w K mg base (L2.CX P w) 5 fa fd ["_law_script"] (spLaw K) := by
  have b_abs := PySem.W.mg_none_of X G z_abs
  have b_bool := PySem.W.mg_none_of X G z_bool
  have b_int := PySem.W.mg_none_of X G z_int
  have b_isinstance := PySem.W.mg_none_of X G z_isinstance
  have b_len := PySem.W.mg_none_of X G z_len
  have b_max := PySem.W.mg_none_of X G z_max
  have b_min := PySem.W.mg_none_of X G z_min
  have b_range := PySem.W.mg_none_of X G z_range
  refine tp_law X G hfa t_law law_true (fun _ _ _ _ _ _ u => rfl) fun {base _ _} _ _ F => ?_
  have C__law_cell : Cal P w K mg base 1 "_law_cell" ["_law_script", "_law_k"] m__law_cell := tp_cal X G t__law_cell (fun _ _ _ _ _ _ us hl => match us, hl with | [_, _], _ => rfl) fun F => ok__law_cell F b_len
  have C__law_box : Cal P w K mg base 2 "_law_box" ["_law_script", "_law_k"] m__law_box := tp_cal X G t__law_box (fun _ _ _ _ _ _ us hl => match us, hl with | [_, _], _ => rfl) fun F => ok__law_box F b_range C__law_cell
  have C__law_take : Cal P w K mg base 1 "_law_take" ["_law_box_here", "_law_many"] m__law_take := tp_cal X G t__law_take (fun _ _ _ _ _ _ us hl => match us, hl with | [_, _], _ => rfl) fun F => ok__law_take F 
  have C__law_root : Cal P w K mg base 2 "_law_root" ["_law_box_here"] m__law_root := tp_cal X G t__law_root (fun _ _ _ _ _ _ us hl => match us, hl with | [_], _ => rfl) fun F => ok__law_root F C__law_take
  have C__law_low : Cal P w K mg base 1 "_law_low" ["_law_a", "_law_b", "_law_c"] m__law_low := tp_cal X G t__law_low (fun _ _ _ _ _ _ us hl => match us, hl with | [_, _, _], _ => rfl) fun F => ok__law_low F b_abs
  have C__law_any : Cal P w K mg base 2 "_law_any" ["_law_box_here", "_law_root_here"] m__law_any := tp_cal X G t__law_any (fun _ _ _ _ _ _ us hl => match us, hl with | [_, _], _ => rfl) fun F => ok__law_any F b_int C__law_low C__law_take
  have C_root_below : Cal P w K mg base 1 "root_below" ["number"] m_root_below := tp_cal X G t_root_below (fun _ _ _ _ _ _ us hl => match us, hl with | [_], _ => rfl) fun F => ok_root_below F 
  have C_floor_of : Cal P w K mg base 2 "floor_of" ["root", "one"] m_floor_of := tp_cal X G t_floor_of (fun _ _ _ _ _ _ us hl => match us, hl with | [_, _], _ => rfl) fun F => ok_floor_of F C_root_below
  have C__law_sign : Cal P w K mg base 1 "_law_sign" ["_law_root_here", "_law_one"] m__law_sign := tp_cal X G t__law_sign (fun _ _ _ _ _ _ us hl => match us, hl with | [_, _], _ => rfl) fun F => ok__law_sign F b_abs b_int
  have C__law_plus : Cal P w K mg base 2 "_law_plus" ["_law_one", "_law_other"] m__law_plus := tp_cal X G t__law_plus (fun _ _ _ _ _ _ us hl => match us, hl with | [_, _], _ => rfl) fun F => ok__law_plus F C__law_low
  have C__law_minus : Cal P w K mg base 3 "_law_minus" ["_law_one", "_law_other"] m__law_minus := tp_cal X G t__law_minus (fun _ _ _ _ _ _ us hl => match us, hl with | [_, _], _ => rfl) fun F => ok__law_minus F C__law_plus
  have C__law_less : Cal P w K mg base 4 "_law_less" ["_law_root_here", "_law_one", "_law_other"] m__law_less := tp_cal X G t__law_less (fun _ _ _ _ _ _ us hl => match us, hl with | [_, _, _], _ => rfl) fun F => ok__law_less F C__law_sign C__law_minus
  have C__law_whole : Cal P w K mg base 1 "_law_whole" ["_law_thing"] m__law_whole := tp_cal X G t__law_whole (fun _ _ _ _ _ _ us hl => match us, hl with | [_], _ => rfl) fun F => ok__law_whole F b_bool b_int b_isinstance
  exact ok_law F b_len b_max b_min b_range C__law_whole C__law_less C_floor_of C__law_any C__law_root C__law_box
end WK
open PySem PySem.W PyProof.Rows in
set_option maxRecDepth 100000 in
set_option maxHeartbeats 0 in
theorem PySem.Challenge.cw_cutexchange_k03_whole_parts_holds : PySem.Challenge.rw_cutexchange_k03_whole_parts.Holds := by
  w_on; o_law; k_head; (case hw => w_witness2)
  k_fill
  refine L2.walk_of (l := PySem.Challenge.rw_cutexchange_k03_whole_parts) (n := 63) (k := 5) (x := "_law_script") (CX := fun w => L2.CX PySem.Challenge.pw_cutexchange_k03_whole_parts w) (sp := fun w => DM.spLaw _) rfl (by decide) rfl ⟨rfl, by decide, by decide⟩ (fun w h Y => PySem.W.kIn_of Y) ?F (fun _ H a ns hl _ hS => ⟨a, ns, rfl, hS, hl, fun _ => rfl⟩) (fun _ _ _ _ _ h => DM.cx_false h)
  case F =>
    intro w mg fa h KX G hmg
    refine' WK.all_mk KX G hmg ?t__law_cell ?t__law_box ?t__law_take ?t__law_root ?t__law_low ?t__law_any ?t_root_below ?t_floor_of ?t__law_sign ?t__law_plus ?t__law_minus ?t__law_less ?t__law_whole ?t_law ?z_abs ?z_bool ?z_int ?z_isinstance ?z_len ?z_max ?z_min ?z_range 
    case t__law_cell => (refine' DM.tp_mk ?a ?l ?c ?k; (case a => k_is); (case l => k_is); (case c => k_is); (case k => k_is))
    case t__law_box => (refine' DM.tp_mk ?a ?l ?c ?k; (case a => k_is); (case l => k_is); (case c => k_is); (case k => k_is))
    case t__law_take => (refine' DM.tp_mk ?a ?l ?c ?k; (case a => k_is); (case l => k_is); (case c => k_is); (case k => k_is))
    case t__law_root => (refine' DM.tp_mk ?a ?l ?c ?k; (case a => k_is); (case l => k_is); (case c => k_is); (case k => k_is))
    case t__law_low => (refine' DM.tp_mk ?a ?l ?c ?k; (case a => k_is); (case l => k_is); (case c => k_is); (case k => k_is))
    case t__law_any => (refine' DM.tp_mk ?a ?l ?c ?k; (case a => k_is); (case l => k_is); (case c => k_is); (case k => k_is))
    case t_root_below => (refine' DM.tp_mk ?a ?l ?c ?k; (case a => k_is); (case l => k_is); (case c => k_is); (case k => k_is))
    case t_floor_of => (refine' DM.tp_mk ?a ?l ?c ?k; (case a => k_is); (case l => k_is); (case c => k_is); (case k => k_is))
    case t__law_sign => (refine' DM.tp_mk ?a ?l ?c ?k; (case a => k_is); (case l => k_is); (case c => k_is); (case k => k_is))
    case t__law_plus => (refine' DM.tp_mk ?a ?l ?c ?k; (case a => k_is); (case l => k_is); (case c => k_is); (case k => k_is))
    case t__law_minus => (refine' DM.tp_mk ?a ?l ?c ?k; (case a => k_is); (case l => k_is); (case c => k_is); (case k => k_is))
    case t__law_less => (refine' DM.tp_mk ?a ?l ?c ?k; (case a => k_is); (case l => k_is); (case c => k_is); (case k => k_is))
    case t__law_whole => (refine' DM.tp_mk ?a ?l ?c ?k; (case a => k_is); (case l => k_is); (case c => k_is); (case k => k_is))
    case t_law => (refine' DM.tp_mk ?a ?l ?c ?k; (case a => k_is); (case l => k_is); (case c => k_is); (case k => k_is))
    case z_abs => k_is
    case z_bool => k_is
    case z_int => k_is
    case z_isinstance => k_is
    case z_len => k_is
    case z_max => k_is
    case z_min => k_is
    case z_range => k_is
