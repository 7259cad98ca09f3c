import PyProof.Rows.All
import Wide.All
import OpenK.AllK
import Wide.FinOn
import HandS.ForMost
import HandS.Deep
import HandS.Wide
import HandS.Style
import HandS.Flow
import HandS.IsInst
import HandS.Zip
import HandS.Conv
import PyProof.ReprRoads
import PySem.Challenge.RW_sumworkshop_k18_whole_power_sums_by_tele
set_option Elab.async false
set_option linter.all false
set_option maxRecDepth 100000
set_option maxHeartbeats 8000000
/-! Wk: what a def computes, as a plain function over plain data, beside the hand layer's readings -/
namespace Wk
open PySem PySem.Spec PyProof.Rows L2
abbrev D := PyData
/-- the script, told apart from lists that the code makes -/
def scrD (ns : List Int) : D := .dict [(.none, .list (ns.map .int))]
mutual
inductive Rp (K : PySem.W.Frag) (G : Hp) : V → D → Prop
  | non : Rp K G .non .none
  | bl (b : Bool) : Rp K G (.bl b) (.bool b)
  | int (i : Int) : Rp K G (.int i) (.int i)
  | str (x : Str) : Rp K G (.str x) (.str x)
  | lst {a : Addr} {xs : List V} {ds : List D} : G a = some (.lst xs) → Rps K G xs ds → Rp K G (.ref a) (.list ds)
  | tup {a : Addr} {xs : List V} {ds : List D} : SqT K G a xs → Rps K G xs ds → Rp K G (.ref a) (.tuple ds)
  | scr {a : Addr} {ns : List Int} : SqL K G a (ns.map V.int) → Rp K G (.ref a) (scrD ns)
inductive Rps (K : PySem.W.Frag) (G : Hp) : List V → List D → Prop
  | nil : Rps K G [] []
  | cons {v : V} {vs : List V} {d : D} {ds : List D} : Rp K G v d → Rps K G vs ds → Rps K G (v :: vs) (d :: ds)
end
theorem same_tup {K : PySem.W.Frag} {H H' : Hp} {a : Addr} {xs : List V} (e : Same H H') (h : SqT K H a xs) : SqT K H' a xs := by
  rcases h with (h | ⟨o, h⟩) | h
  · exact .inl (.inl (e _ _ h))
  · exact .inl (.inr ⟨o, e _ _ h⟩)
  · exact .inr h
section
variable {K : PySem.W.Frag} {G G' : Hp}
mutual
theorem Rp.mono (e : Same G G') : ∀ (d : D) (v : V), Rp K G v d → Rp K G' v d
  | .none, _, h => by cases h; exact .non
  | .bool b, _, h => by cases h; exact .bl b
  | .int i, _, h => by cases h; exact .int i
  | .str x, _, h => by cases h; exact .str x
  | .list ds, _, h => by cases h with | lst h1 h2 => exact .lst (e _ _ h1) (Rps.mono e ds _ h2)
  | .tuple ds, _, h => by cases h with | tup h1 h2 => exact .tup (same_tup e h1) (Rps.mono e ds _ h2)
  | .dict kvs, _, h => by cases h with | scr h1 => exact .scr (e.seq h1)
theorem Rps.mono (e : Same G G') : ∀ (ds : List D) (vs : List V), Rps K G vs ds → Rps K G' vs ds
  | [], _, h => by cases h; exact .nil
  | d :: ds, _, h => by cases h with | cons h1 h2 => exact .cons (Rp.mono e d _ h1) (Rps.mono e ds _ h2)
end
theorem Rp.up {d : D} {v : V} (h : Rp K G v d) (e : Same G G') : Rp K G' v d := Rp.mono e d v h
theorem Rps.up {d : List D} {v : List V} (h : Rps K G v d) (e : Same G G') : Rps K G' v d := Rps.mono e d v h
-- data without a script in it
mutual
def noScr : D → Bool
  | .dict _ => false
  | .list ds => noScrs ds
  | .tuple ds => noScrs ds
  | _ => true
def noScrs : List D → Bool
  | [] => true
  | d :: ds => noScr d && noScrs ds
end
mutual
theorem Rp.dp : ∀ (d : D) (v : V), noScr d = true → Rp K G v d → Dp K G v d
  | .none, _, _, h => by cases h; exact .non
  | .bool b, _, _, h => by cases h; exact .bl b
  | .int i, _, _, h => by cases h; exact .int i
  | .str x, _, _, h => by cases h; exact .str x
  | .list ds, _, n, h => by cases h with | lst h1 h2 => exact .lst (SqL.of h1) (Rps.dp ds _ n h2)
  | .tuple ds, _, n, h => by cases h with | tup h1 h2 => exact .tup h1 (Rps.dp ds _ n h2)
  | .dict _, _, n, _ => by cases n
theorem Rps.dp : ∀ (ds : List D) (vs : List V), noScrs ds = true → Rps K G vs ds → DpAll K G vs ds
  | [], _, _, h => by cases h; exact .nil
  | d :: ds, _, n, h => by
    simp only [noScrs, Bool.and_eq_true] at n
    cases h with | cons h1 h2 => exact .cons (Rp.dp d _ n.1 h1) (Rps.dp ds _ n.2 h2)
end
theorem Rps.length : ∀ {vs : List V} {ds : List D}, Rps K G vs ds → vs.length = ds.length
  | _, _, .nil => rfl
  | _, _, .cons _ t => congrArg Nat.succ (Rps.length t)
theorem Rps.get : ∀ {vs : List V} {ds : List D} {i : Nat} {d : D}, Rps K G vs ds → ds[i]? = some d → ∃ v, vs[i]? = some v ∧ Rp K G v d
  | _, _, _, _, .nil, e => by simp at e
  | _, _, 0, _, .cons h _, e => by simp at e; subst e; exact ⟨_, rfl, h⟩
  | _, _, i + 1, d, .cons _ t, e => by
    obtain ⟨v, h1, h2⟩ := Rps.get (i := i) (d := d) t (by simpa using e)
    exact ⟨v, by simpa using h1, h2⟩
theorem Rps.append : ∀ {xs ys : List V} {ds es : List D}, Rps K G xs ds → Rps K G ys es → Rps K G (xs ++ ys) (ds ++ es)
  | _, _, _, _, .nil, s => s
  | _, _, _, _, .cons r t, s => .cons r (Rps.append t s)
theorem Rps.set {v : V} {d : D} (r : Rp K G v d) : ∀ {xs : List V} {ds : List D} (i : Nat), Rps K G xs ds → Rps K G (xs.set i v) (ds.set i d)
  | _, _, _, .nil => .nil
  | _, _, 0, .cons _ t => .cons r t
  | _, _, i + 1, .cons q t => .cons q (Rps.set r i t)
theorem Rps.take : ∀ {xs : List V} {us : List D} (n : Nat), Rps K G xs us → Rps K G (xs.take n) (us.take n)
  | _, _, 0, _ => by simpa using Rps.nil
  | _, _, _ + 1, .nil => .nil
  | _, _, n + 1, .cons r t => .cons r (Rps.take n t)
theorem Rps.drop : ∀ {xs : List V} {us : List D} (n : Nat), Rps K G xs us → Rps K G (xs.drop n) (us.drop n)
  | _, _, 0, r => r
  | _, _, _ + 1, .nil => .nil
  | _, _, n + 1, .cons _ t => Rps.drop n t
theorem Rps.reverse : ∀ {xs : List V} {us : List D}, Rps K G xs us → Rps K G xs.reverse us.reverse
  | _, _, .nil => .nil
  | _, _, .cons r t => by
    rw [List.reverse_cons, List.reverse_cons]
    exact (Rps.reverse t).append (.cons r .nil)
theorem Rps.rep {xs : List V} {us : List D} (h : Rps K G xs us) : ∀ n : Nat, Rps K G (List.replicate n xs).flatten (List.replicate n us).flatten
  | 0 => .nil
  | n + 1 => by
    rw [List.replicate_succ, List.replicate_succ, List.flatten_cons, List.flatten_cons]
    exact h.append (Rps.rep h n)
theorem Rps.dropLast {xs : List V} {us : List D} (h : Rps K G xs us) : Rps K G xs.dropLast us.dropLast := by
  rw [List.dropLast_eq_take, List.dropLast_eq_take, h.length]
  exact h.take _
/-- flat things know no heap -/
def atomic : D → Bool
  | .none => true
  | .bool _ => true
  | .int _ => true
  | .str _ => true
  | _ => false
theorem Rp.atom {v : V} {d : D} (h : Rp K G v d) (a : atomic d = true) (G' : Hp) : Rp K G' v d := by
  cases h with
  | non => exact .non
  | bl b => exact .bl b
  | int i => exact .int i
  | str x => exact .str x
  | lst _ _ => cases a
  | tup _ _ => cases a
  | scr _ => cases a
theorem Rps.atoms : ∀ {vs : List V} {ds : List D}, Rps K G vs ds → ds.all atomic = true → ∀ G' : Hp, Rps K G' vs ds
  | _, _, .nil, _, _ => .nil
  | _, _, .cons r t, a, G' => by
    simp only [List.all_cons, Bool.and_eq_true] at a
    exact .cons (r.atom a.1 G') (Rps.atoms t a.2 G')
end
/-! ### the state -/
inductive WSl where
  | un | bor | pin
  | val (d : D)
  | own (ds : List D)
structure WSt where
  env : List WSl
  pot : List D
inductive WRt where
  | val (d : D)
  | own (ds : List D)
def WRt.data : WRt → D
  | .val d => d
  | .own ds => .list ds
def WRt.slot : WRt → WSl
  | .val d => .val d
  | .own ds => .own ds
abbrev WMo (α : Type) := WSt → Option (α × WSt)
/-- a frame: the written part, the heap at the def's entry, the part of it that is data, the list that the caller lends -/
structure Fm where
  K : PySem.W.Frag
  H0 : Hp
  G0 : Hp
  PA : Option Addr
  pin : Option V := none
structure Rl (F : Fm) (G : Hp) (S : WSt) (σ : L2.St) (H : Hp) : Prop where
  sub : Same G H
  g0 : Same F.G0 G
  new : ∀ b, G b ≠ none → F.G0 b ≠ none ∨ F.H0 b = none
  keep : ∀ b o, F.H0 b = some o → F.PA ≠ some b → H b = some o
  pa : ∀ a, F.PA = some a → F.H0 a ≠ none
  len : S.env.length = σ.length
  vals : ∀ (i : Nat) (d : D), S.env[i]? = some (WSl.val d) → ∃ v, σ[i]? = some (some v) ∧ Rp F.K G v d
  owns : ∀ (i : Nat) (ds : List D), S.env[i]? = some (WSl.own ds) → ∃ a vs, σ[i]? = some (some (V.ref a)) ∧ H a = some (.lst vs) ∧ G a = none ∧ F.H0 a = none ∧ Rps F.K G vs ds
  bors : ∀ (i : Nat), S.env[i]? = some WSl.bor → ∃ a, F.PA = some a ∧ σ[i]? = some (some (V.ref a))
  pins : ∀ (i : Nat), S.env[i]? = some WSl.pin → ∃ v, F.pin = some v ∧ σ[i]? = some (some v)
  apart : ∀ (i j : Nat) (ds es : List D) (a : Addr), i ≠ j → S.env[i]? = some (WSl.own ds) → S.env[j]? = some (WSl.own es) → σ[i]? = some (some (V.ref a)) → σ[j]? ≠ some (some (V.ref a))
  pot : ∀ a, F.PA = some a → ∃ vs, H a = some (.lst vs) ∧ G a = none ∧ Rps F.K G vs S.pot
/-- a fresh list of one's own at a -/
structure OwnAt (F : Fm) (G : Hp) (S : WSt) (σ : L2.St) (H : Hp) (a : Addr) (ds : List D) : Prop where
  at_ : ∃ vs, H a = some (.lst vs) ∧ Rps F.K G vs ds
  gn : G a = none
  hn : F.H0 a = none
  ap : ∀ (i : Nat) (es : List D), S.env[i]? = some (WSl.own es) → σ[i]? ≠ some (some (V.ref a))
def RV (F : Fm) (G : Hp) (S : WSt) (σ : L2.St) (H : Hp) (v : V) : WRt → Prop
  | .val d => Rp F.K G v d
  | .own ds => ∃ a, v = .ref a ∧ OwnAt F G S σ H a ds
section
variable {F : Fm} {G G' : Hp} {S : WSt} {σ : L2.St} {H H' : Hp}
theorem Rl.free (R : Rl F G S σ H) {p : Addr} (h : H p = none) : F.H0 p = none := by
  cases e : F.H0 p with
  | none => rfl
  | some o =>
    by_cases q : F.PA = some p
    · obtain ⟨vs, e1, _⟩ := R.pot p q
      rw [h] at e1; cases e1
    · rw [R.keep p o e q] at h; cases h
theorem Rl.gfree (R : Rl F G S σ H) {p : Addr} (h : H p = none) : G p = none := R.sub.free h
theorem Rl.pane (R : Rl F G S σ H) {p : Addr} (h : F.H0 p = none) : F.PA ≠ some p := fun e => R.pa p e h
/-- the heap grows, what is tracked stays -/
theorem Rl.grow (R : Rl F G S σ H) (e : Same H H') : Rl F G S σ H' where
  sub := R.sub.trans e
  g0 := R.g0
  new := R.new
  keep := fun b o h n => e b o (R.keep b o h n)
  pa := R.pa
  len := R.len
  vals := R.vals
  owns := fun i ds h => by
    obtain ⟨a, vs, h1, h2, h3, h4, h5⟩ := R.owns i ds h
    exact ⟨a, vs, h1, e _ _ h2, h3, h4, h5⟩
  bors := R.bors
  pins := R.pins
  apart := R.apart
  pot := fun a h => by
    obtain ⟨vs, h1, h2⟩ := R.pot a h
    exact ⟨vs, e _ _ h1, h2⟩
theorem same_upd {H : Hp} {p : Addr} {o : HO} (h : H p = none) : Same H (upd H p o) := fun b x e => by
  rw [upd_ne (ne_of_none e h)]; exact e
theorem upd_mono {G H : Hp} {p : Addr} {o : HO} (e : Same G H) : Same (upd G p o) (upd H p o) := fun b x h => by
  by_cases q : b = p
  · subst q; rw [upd_same] at h ⊢; exact h
  · rw [upd_ne q] at h ⊢; exact e _ _ h
/-- something that stands in the heap, out of what is owned, becomes data -/
theorem Rl.data (R : Rl F G S σ H) {p : Addr} {o : HO} (h : H p = some o) (g : G p = none) (h0 : F.H0 p = none) (ap : ∀ (i : Nat) (es : List D), S.env[i]? = some (WSl.own es) → σ[i]? ≠ some (some (V.ref p))) : Rl F (upd G p o) S σ H where
  sub := fun b x e => by
    by_cases q : b = p
    · subst q; rw [upd_same] at e; cases e; exact h
    · rw [upd_ne q] at e; exact R.sub b x e
  g0 := R.g0.trans (same_upd g)
  new := fun b e => by
    by_cases q : b = p
    · subst q; exact .inr h0
    · rw [upd_ne q] at e; exact R.new b e
  keep := R.keep
  pa := R.pa
  len := R.len
  vals := fun i d e => by
    obtain ⟨v, h1, h2⟩ := R.vals i d e
    exact ⟨v, h1, h2.up (same_upd g)⟩
  owns := fun i ds e => by
    obtain ⟨a, vs, h1, h2, h3, h4, h5⟩ := R.owns i ds e
    have ne : a ≠ p := fun q => ap i ds e (q ▸ h1)
    exact ⟨a, vs, h1, h2, by rw [upd_ne ne]; exact h3, h4, h5.up (same_upd g)⟩
  bors := R.bors
  pins := R.pins
  apart := R.apart
  pot := fun a e => by
    obtain ⟨vs, h1, h2, h3⟩ := R.pot a e
    have ne : a ≠ p := fun q => R.pa a e (q ▸ h0)
    exact ⟨vs, h1, by rw [upd_ne ne]; exact h2, h3.up (same_upd g)⟩
theorem Rl.ownNe (R : Rl F G S σ H) {p : Addr} (h : H p = none) : ∀ (i : Nat) (es : List D), S.env[i]? = some (WSl.own es) → σ[i]? ≠ some (some (V.ref p)) := fun i es e q => by
  obtain ⟨a, vs, h1, h2, _⟩ := R.owns i es e
  rw [h1] at q
  have q' : a = p := by injection q with q; injection q with q; injection q
  rw [q', h] at h2; cases h2
/-- a new object that is data at once -/
theorem Rl.alloc (R : Rl F G S σ H) {p : Addr} {o : HO} (h : H p = none) : Rl F (upd G p o) S σ (upd H p o) :=
  (R.grow (same_upd h)).data upd_same (R.gfree h) (R.free h) (R.ownNe h)
/-- a new list of one's own -/
theorem Rl.fresh (R : Rl F G S σ H) {p : Addr} {vs : List V} {ds : List D} (h : H p = none) (r : Rps F.K G vs ds) : Rl F G S σ (upd H p (.lst vs)) ∧ OwnAt F G S σ (upd H p (.lst vs)) p ds :=
  ⟨R.grow (same_upd h), ⟨⟨vs, upd_same, r⟩, R.gfree h, R.free h, R.ownNe h⟩⟩
/-- a list of one's own becomes data -/
theorem Rl.freeze (R : Rl F G S σ H) {v : V} {r : WRt} (h : RV F G S σ H v r) : ∃ G', Same G G' ∧ Rl F G' S σ H ∧ Rp F.K G' v r.data := by
  cases r with
  | val d => exact ⟨G, Same.refl G, R, h⟩
  | own ds =>
    obtain ⟨a, rfl, O⟩ := h
    obtain ⟨vs, h1, h2⟩ := O.at_
    exact ⟨_, same_upd O.gn, R.data h1 O.gn O.hn O.ap, .lst upd_same (h2.up (same_upd O.gn))⟩
theorem getElem?_set_some {α : Type} {l : List α} {i j : Nat} {a b : α} (h : (l.set i a)[j]? = some b) : (i = j ∧ a = b) ∨ (i ≠ j ∧ l[j]? = some b) := by
  by_cases e : i = j
  · subst e
    rw [List.getElem?_set_self'] at h
    cases q : l[i]? with
    | none => rw [q] at h; cases h
    | some z => rw [q] at h; cases h; exact .inl ⟨rfl, rfl⟩
  · rw [List.getElem?_set_ne e] at h
    exact .inr ⟨e, h⟩
/-- the slot i holds v -/
theorem Rl.store (R : Rl F G S σ H) {v : V} {r : WRt} (h : RV F G S σ H v r) {i : Nat} (hi : i < σ.length) : Rl F G { S with env := S.env.set i r.slot } (σ.set i (some v)) H where
  sub := R.sub
  g0 := R.g0
  new := R.new
  keep := R.keep
  pa := R.pa
  len := by simpa using R.len
  vals := fun j d e => by
    rcases getElem?_set_some e with ⟨rfl, eN⟩ | ⟨ne, eN⟩
    · cases r with
      | val d' => cases eN; exact ⟨v, by rw [List.getElem?_set_self hi], h⟩
      | own ds => cases eN
    · rw [List.getElem?_set_ne ne]; exact R.vals j d eN
  owns := fun j ds e => by
    rcases getElem?_set_some e with ⟨rfl, eN⟩ | ⟨ne, eN⟩
    · cases r with
      | val d' => cases eN
      | own ds' =>
        cases eN
        obtain ⟨a, rfl, O⟩ := h
        obtain ⟨vs, h1, h2⟩ := O.at_
        exact ⟨a, vs, by rw [List.getElem?_set_self hi], h1, O.gn, O.hn, h2⟩
    · rw [List.getElem?_set_ne ne]; exact R.owns j ds eN
  bors := fun j e => by
    rcases getElem?_set_some e with ⟨rfl, eN⟩ | ⟨ne, eN⟩
    · cases r <;> cases eN
    · rw [List.getElem?_set_ne ne]; exact R.bors j eN
  pins := fun j e => by
    rcases getElem?_set_some e with ⟨rfl, eN⟩ | ⟨ne, eN⟩
    · cases r <;> cases eN
    · rw [List.getElem?_set_ne ne]; exact R.pins j eN
  apart := fun j k ds es a ne e1 e2 s1 s2 => by
    rcases getElem?_set_some e1 with ⟨rfl, e1N⟩ | ⟨n1, e1N⟩
    · rcases getElem?_set_some e2 with ⟨rfl, e2N⟩ | ⟨n2, e2N⟩
      · exact ne rfl
      · cases r with
        | val d' => cases e1N
        | own ds' =>
          obtain ⟨b, rfl, O⟩ := h
          rw [List.getElem?_set_self hi] at s1
          rw [List.getElem?_set_ne n2] at s2
          have : b = a := by injection s1 with q; injection q with q; injection q
          exact O.ap k es e2N (this ▸ s2)
    · rw [List.getElem?_set_ne n1] at s1
      rcases getElem?_set_some e2 with ⟨rfl, e2N⟩ | ⟨n2, e2N⟩
      · cases r with
        | val d' => cases e2N
        | own ds' =>
          obtain ⟨b, rfl, O⟩ := h
          rw [List.getElem?_set_self hi] at s2
          have : b = a := by injection s2 with q; injection q with q; injection q
          exact O.ap j ds e1N (this ▸ s1)
      · rw [List.getElem?_set_ne n2] at s2
        exact R.apart j k ds es a ne e1N e2N s1 s2
  pot := R.pot
/-- a slot is forgotten -/
theorem Rl.drop (R : Rl F G S σ H) (i : Nat) : Rl F G { S with env := S.env.set i .un } σ H where
  sub := R.sub
  g0 := R.g0
  new := R.new
  keep := R.keep
  pa := R.pa
  len := by simpa using R.len
  vals := fun j d e => by
    rcases getElem?_set_some e with ⟨rfl, eN⟩ | ⟨ne, eN⟩
    · cases eN
    · exact R.vals j d eN
  owns := fun j ds e => by
    rcases getElem?_set_some e with ⟨rfl, eN⟩ | ⟨ne, eN⟩
    · cases eN
    · exact R.owns j ds eN
  bors := fun j e => by
    rcases getElem?_set_some e with ⟨rfl, eN⟩ | ⟨ne, eN⟩
    · cases eN
    · exact R.bors j eN
  pins := fun j e => by
    rcases getElem?_set_some e with ⟨rfl, eN⟩ | ⟨ne, eN⟩
    · cases eN
    · exact R.pins j eN
  apart := fun j k ds es a ne e1 e2 s1 => by
    rcases getElem?_set_some e1 with ⟨rfl, e1N⟩ | ⟨n1, e1N⟩
    · cases e1N
    · rcases getElem?_set_some e2 with ⟨rfl, e2N⟩ | ⟨n2, e2N⟩
      · cases e2N
      · exact R.apart j k ds es a ne e1N e2N s1
  pot := R.pot
/-- a list of one's own becomes data in its place -/
theorem Rl.share (R : Rl F G S σ H) {i : Nat} {ds : List D} (h : S.env[i]? = some (WSl.own ds)) : ∃ G' v, Same G G' ∧ σ[i]? = some (some v) ∧ Rl F G' { S with env := S.env.set i (.val (.list ds)) } σ H ∧ Rp F.K G' v (.list ds) := by
  obtain ⟨a, vs, h1, h2, h3, h4, h5⟩ := R.owns i ds h
  have hi : i < σ.length := by
    rcases Nat.lt_or_ge i σ.length with q | q
    · exact q
    · rw [List.getElem?_eq_none q] at h1; cases h1
  have R1 := R.drop i
  have ap : ∀ j es, (S.env.set i .un)[j]? = some (WSl.own es) → σ[j]? ≠ some (some (V.ref a)) := fun j es e => by
    rcases getElem?_set_some e with ⟨rfl, eN⟩ | ⟨ne, eN⟩
    · cases eN
    · exact R.apart i j ds es a ne h eN h1
  have R2 := R1.data h2 h3 h4 ap
  have rp : Rp F.K (upd G a (.lst vs)) (.ref a) (.list ds) := .lst upd_same (h5.up (same_upd h3))
  have R3 := R2.store (r := .val (.list ds)) rp hi
  refine ⟨_, .ref a, same_upd h3, h1, ?_, rp⟩
  have es : σ.set i (some (V.ref a)) = σ := by
    apply List.ext_getElem?
    intro j
    by_cases q : i = j
    · subst q; rw [List.getElem?_set_self hi, h1]
    · rw [List.getElem?_set_ne q]
  rw [es] at R3
  have e2 : (S.env.set i WSl.un).set i (WSl.val (.list ds)) = S.env.set i (WSl.val (.list ds)) := by simp
  have R4 : Rl F _ { S with env := (S.env.set i WSl.un).set i (WSl.val (.list ds)) } σ H := R3
  rw [e2] at R4
  exact R4
/-- a list of one's own is given away -/
theorem Rl.move (R : Rl F G S σ H) {i : Nat} {ds : List D} (h : S.env[i]? = some (WSl.own ds)) : ∃ a, σ[i]? = some (some (V.ref a)) ∧ Rl F G { S with env := S.env.set i .un } σ H ∧ OwnAt F G { S with env := S.env.set i .un } σ H a ds := by
  obtain ⟨a, vs, h1, h2, h3, h4, h5⟩ := R.owns i ds h
  refine ⟨a, h1, R.drop i, ⟨vs, h2, h5⟩, h3, h4, fun j es e => ?_⟩
  rcases getElem?_set_some e with ⟨rfl, eN⟩ | ⟨ne, eN⟩
  · cases eN
  · exact R.apart i j ds es a ne h eN h1
/-- a list of one's own changes -/
theorem Rl.write (R : Rl F G S σ H) {i : Nat} {ds ds' : List D} {a : Addr} {vs' : List V} (h : S.env[i]? = some (WSl.own ds)) (ha : σ[i]? = some (some (V.ref a))) (r : Rps F.K G vs' ds') :
    Rl F G { S with env := S.env.set i (.own ds') } σ (upd H a (.lst vs')) := by
  obtain ⟨a', vs, h1, h2, h3, h4, h5⟩ := R.owns i ds h
  have ea : a' = a := by rw [ha] at h1; injection h1 with q; injection q with q; injection q with q; exact q.symm
  subst ea
  have hb : ∀ b o, G b = some o → b ≠ a' := fun b o e q => by rw [q, h3] at e; cases e
  exact
  { sub := fun b o e => by rw [upd_ne (hb b o e)]; exact R.sub b o e
    g0 := R.g0
    new := R.new
    keep := fun b o e n => by
      have : b ≠ a' := fun q => by rw [q, h4] at e; cases e
      rw [upd_ne this]; exact R.keep b o e n
    pa := R.pa
    len := by simpa using R.len
    vals := fun j d e => by
      rcases getElem?_set_some e with ⟨rfl, eN⟩ | ⟨ne, eN⟩
      · cases eN
      · exact R.vals j d eN
    owns := fun j es e => by
      rcases getElem?_set_some e with ⟨rfl, eN⟩ | ⟨ne, eN⟩
      · cases eN; exact ⟨a', vs', ha, upd_same, h3, h4, r⟩
      · obtain ⟨b, ws, q1, q2, q3, q4, q5⟩ := R.owns j es eN
        have : b ≠ a' := fun q => R.apart i j ds es a' ne h eN ha (q ▸ q1)
        exact ⟨b, ws, q1, by rw [upd_ne this]; exact q2, q3, q4, q5⟩
    bors := fun j e => by
      rcases getElem?_set_some e with ⟨rfl, eN⟩ | ⟨ne, eN⟩
      · cases eN
      · exact R.bors j eN
    pins := fun j e => by
      rcases getElem?_set_some e with ⟨rfl, eN⟩ | ⟨ne, eN⟩
      · cases eN
      · exact R.pins j eN
    apart := fun j k ds1 es1 b ne e1 e2 s1 => by
      have f : ∀ j es1, (S.env.set i (.own ds'))[j]? = some (WSl.own es1) → ∃ es2, S.env[j]? = some (WSl.own es2) := fun j es1 e => by
        rcases getElem?_set_some e with ⟨rfl, eN⟩ | ⟨ne, eN⟩
        · exact ⟨ds, h⟩
        · exact ⟨_, eN⟩
      obtain ⟨_, f1⟩ := f j _ e1
      obtain ⟨_, f2⟩ := f k _ e2
      exact R.apart j k _ _ b ne f1 f2 s1
    pot := fun b e => by
      obtain ⟨ws, q1, q2⟩ := R.pot b e
      have : b ≠ a' := fun q => R.pa b e (q ▸ h4)
      exact ⟨ws, by rw [upd_ne this]; exact q1, q2⟩ }
/-- the lent list changes -/
theorem Rl.lend (R : Rl F G S σ H) {a : Addr} {vs' : List V} {pd : List D} (ha : F.PA = some a) (r : Rps F.K G vs' pd) : Rl F G { S with pot := pd } σ (upd H a (.lst vs')) := by
  obtain ⟨ws, w1, w2, w3⟩ := R.pot a ha
  have hb : ∀ b o, G b = some o → b ≠ a := fun b o e q => by rw [q, w2] at e; cases e
  exact
  { sub := fun b o e => by rw [upd_ne (hb b o e)]; exact R.sub b o e
    g0 := R.g0
    new := R.new
    keep := fun b o e n => by
      have : b ≠ a := fun q => n (q ▸ ha)
      rw [upd_ne this]; exact R.keep b o e n
    pa := R.pa
    len := R.len
    vals := R.vals
    owns := fun j es e => by
      obtain ⟨b, us, q1, q2, q3, q4, q5⟩ := R.owns j es e
      have : b ≠ a := fun q => R.pa a ha (q ▸ q4)
      exact ⟨b, us, q1, by rw [upd_ne this]; exact q2, q3, q4, q5⟩
    bors := R.bors
    pins := R.pins
    apart := R.apart
    pot := fun b e => by
      have : b = a := by rw [ha] at e; injection e with q; exact q.symm
      subst this
      exact ⟨vs', upd_same, w2, r⟩ }
theorem RV.up {v : V} {r : WRt} (h : RV F G S σ H v r) (e : Same G G') (n : ∀ a, H a ≠ none → G a = none → G' a = none) : RV F G' S σ H v r := by
  cases r with
  | val d => exact Rp.up h e
  | own ds =>
    obtain ⟨a, rfl, O⟩ := h
    obtain ⟨vs, h1, h2⟩ := O.at_
    exact ⟨a, rfl, ⟨vs, h1, h2.up e⟩, n a (by rw [h1]; simp) O.gn, O.hn, O.ap⟩
end
end Wk

namespace Wk
open PySem PySem.Spec PyProof.Rows L2
/-! ### a reading says what a plain function says -/
def TEok (F : Fm) (t : TE) (g : WMo WRt) : Prop := ∀ (S : WSt) (σ : L2.St) (H G : Hp) (Q : VK) (r : WRt) (S' : WSt), Rl F G S σ H → g S = some (r, S') →
  (∀ v G' H', Same G G' → Rl F G' S' σ H' → RV F G' S' σ H' v r → Q v H') → t σ H Q
def TDok (F : Fm) (t : TE) (g : WMo D) : Prop := ∀ (S : WSt) (σ : L2.St) (H G : Hp) (Q : VK) (d : D) (S' : WSt), Rl F G S σ H → g S = some (d, S') →
  (∀ v G' H', Same G G' → Rl F G' S' σ H' → Rp F.K G' v d → Q v H') → t σ H Q
def TTok (F : Fm) (t : TT) (g : WMo Bool) : Prop := ∀ (S : WSt) (σ : L2.St) (H G : Hp) (Q : Bool → Hp → Prop) (b : Bool) (S' : WSt), Rl F G S σ H → g S = some (b, S') →
  (∀ G' H', Same G G' → Rl F G' S' σ H' → Q b H') → t σ H Q
def TAok (F : Fm) (t : TA) (g : WMo (List D)) : Prop := ∀ (S : WSt) (σ : L2.St) (H G : Hp) (Q : List V → Hp → Prop) (ds : List D) (S' : WSt), Rl F G S σ H → g S = some (ds, S') →
  (∀ vs G' H', Same G G' → Rl F G' S' σ H' → Rps F.K G' vs ds → Q vs H') → t σ H Q
/-- an operation by values -/
def OpOk (F : Fm) (r : R2) (f : D → D → Option WRt) : Prop := ∀ (S : WSt) (σ : L2.St) (H G : Hp) (x y : V) (d e : D) (Q : VK) (z : WRt), Rl F G S σ H → Rp F.K G x d → Rp F.K G y e → f d e = some z →
  (∀ v G' H', Same G G' → Rl F G' S σ H' → RV F G' S σ H' v z → Q v H') → r x y H Q
def UnOk (F : Fm) (r : V → Hp → VK → Prop) (f : D → Option WRt) : Prop := ∀ (S : WSt) (σ : L2.St) (H G : Hp) (x : V) (d : D) (Q : VK) (z : WRt), Rl F G S σ H → Rp F.K G x d → f d = some z →
  (∀ v G' H', Same G G' → Rl F G' S σ H' → RV F G' S σ H' v z → Q v H') → r x H Q
def CbOk (F : Fm) (r : List V → Hp → VK → Prop) (f : List D → Option WRt) : Prop := ∀ (S : WSt) (σ : L2.St) (H G : Hp) (xs : List V) (ds : List D) (Q : VK) (z : WRt), Rl F G S σ H → Rps F.K G xs ds → f ds = some z →
  (∀ v G' H', Same G G' → Rl F G' S σ H' → RV F G' S σ H' v z → Q v H') → r xs H Q

/-! ### the plain functions' words -/
def gC (d : D) : WMo D := fun S => some (d, S)
def gV (g : WMo D) : WMo WRt := fun S => match g S with
  | some (d, S') => some (.val d, S')
  | none => none
def gF (g : WMo WRt) : WMo D := fun S => match g S with
  | some (r, S') => some (r.data, S')
  | none => none
/-- a name: a list of one's own is data from then on -/
def gVar (i : Nat) : WMo D := fun S => match S.env[i]? with
  | some (.val d) => some (d, S)
  | some (.own ds) => some (.list ds, { S with env := S.env.set i (.val (.list ds)) })
  | _ => none
/-- a name: a list of one's own is given away -/
def gMove (i : Nat) : WMo WRt := fun S => match S.env[i]? with
  | some (.val d) => some (.val d, S)
  | some (.own ds) => some (.own ds, { S with env := S.env.set i .un })
  | _ => none
def gOp (f : D → D → Option WRt) (ga gb : WMo D) : WMo WRt := fun S => match ga S with
  | some (d, S1) => match gb S1 with
    | some (e, S2) => match f d e with
      | some z => some (z, S2)
      | none => none
    | none => none
  | none => none
def gUn (f : D → Option WRt) (ga : WMo D) : WMo WRt := fun S => match ga S with
  | some (d, S1) => match f d with
    | some z => some (z, S1)
    | none => none
  | none => none
def gCb (f : List D → Option WRt) (ga : WMo (List D)) : WMo WRt := fun S => match ga S with
  | some (ds, S1) => match f ds with
    | some z => some (z, S1)
    | none => none
  | none => none
def gNil : WMo (List D) := fun S => some ([], S)
def gCons (ga : WMo D) (gr : WMo (List D)) : WMo (List D) := fun S => match ga S with
  | some (d, S1) => match gr S1 with
    | some (ds, S2) => some (d :: ds, S2)
    | none => none
  | none => none
def gTup (g : WMo (List D)) : WMo D := fun S => match g S with
  | some (ds, S1) => if ds.length ≤ sizeLine then some (.tuple ds, S1) else none
  | none => none
def gLst (g : WMo (List D)) : WMo WRt := fun S => match g S with
  | some (ds, S1) => if ds.length ≤ sizeLine then some (.own ds, S1) else none
  | none => none
/-- a test of a truth value -/
def gTest (g : WMo WRt) : WMo Bool := fun S => match g S with
  | some (.val (.bool b), S1) => some (b, S1)
  | _ => none
def gAnd (ga gb : WMo Bool) : WMo Bool := fun S => match ga S with
  | some (true, S1) => gb S1
  | some (false, S1) => some (false, S1)
  | none => none
def gOr (ga gb : WMo Bool) : WMo Bool := fun S => match ga S with
  | some (true, S1) => some (true, S1)
  | some (false, S1) => gb S1
  | none => none
def gNot (ga : WMo Bool) : WMo Bool := fun S => match ga S with
  | some (b, S1) => some (!b, S1)
  | none => none
def gIf {α : Type} (gc : WMo Bool) (ga gb : WMo α) : WMo α := fun S => match gc S with
  | some (true, S1) => ga S1
  | some (false, S1) => gb S1
  | none => none
def gAndV (ga gb : WMo WRt) : WMo WRt := fun S => match ga S with
  | some (.val (.bool true), S1) => gb S1
  | some (.val (.bool false), S1) => some (.val (.bool false), S1)
  | _ => none
def gOrV (ga gb : WMo WRt) : WMo WRt := fun S => match ga S with
  | some (.val (.bool true), S1) => some (.val (.bool true), S1)
  | some (.val (.bool false), S1) => gb S1
  | _ => none
def gNotV (ga : WMo WRt) : WMo WRt := fun S => match ga S with
  | some (.val (.bool b), S1) => some (.val (.bool (!b)), S1)
  | _ => none
/-- a < b < c -/
def gChain (f f' : D → D → Option WRt) (ga gb gc : WMo D) : WMo WRt := fun S => match ga S with
  | some (d, S1) => match gb S1 with
    | some (e, S2) => match f d e with
      | some (.val (.bool true)) => match gc S2 with
        | some (c, S3) => match f' e c with
          | some z => some (z, S3)
          | none => none
        | none => none
      | some (.val (.bool false)) => some (.val (.bool false), S2)
      | _ => none
    | none => none
  | none => none
section
variable {F : Fm} {t ta tb tc : TE} {g ga gb gc : WMo WRt} {da db dc : WMo D}
theorem TDok.v (h : TDok F t da) : TEok F t (gV da) := fun S σ H G Q r S' R e k => by
  unfold gV at e
  split at e
  · rename_i d S' e1; cases e; exact h S σ H G Q d S' R e1 k
  · cases e
theorem TEok.f (h : TEok F t g) : TDok F t (gF g) := fun S σ H G Q d S' R e k => by
  unfold gF at e
  split at e
  · rename_i r S1 e1
    cases e
    refine h S σ H G Q r S' R e1 fun v G' H' s R' rv => ?_
    obtain ⟨G2, s2, R2, rp⟩ := R'.freeze rv
    exact k v G2 H' (s.trans s2) R2 rp
  · cases e
theorem ok_var (i : Nat) : TDok F (tVar i) (gVar i) := fun S σ H G Q d S' R e k => by
  unfold gVar at e
  split at e
  · rename_i d' e1
    cases e
    obtain ⟨v, h1, h2⟩ := R.vals i _ e1
    exact ⟨v, h1, k v G H (Same.refl G) R h2⟩
  · rename_i ds e1
    cases e
    obtain ⟨G', v, s, h1, R', rp⟩ := R.share e1
    exact ⟨v, h1, k v G' H s R' rp⟩
  · cases e
theorem ok_move (i : Nat) : TEok F (tVar i) (gMove i) := fun S σ H G Q d S' R e k => by
  unfold gMove at e
  split at e
  · rename_i d' e1
    cases e
    obtain ⟨v, h1, h2⟩ := R.vals i _ e1
    exact ⟨v, h1, k v G H (Same.refl G) R h2⟩
  · rename_i ds e1
    cases e
    obtain ⟨a, h1, R', O⟩ := R.move e1
    exact ⟨.ref a, h1, k (.ref a) G H (Same.refl G) R' ⟨a, rfl, O⟩⟩
  · cases e
theorem ok_c {v : V} {d : D} (h : ∀ G, Rp F.K G v d) : TDok F (tC v) (gC d) := fun S σ H G Q d' S' R e k => by
  cases e
  exact k v G H (Same.refl G) R (h G)
theorem ok_int (i : Int) : TDok F (tC (.int i)) (gC (.int i)) := ok_c fun _ => .int i
theorem ok_bl (i : Bool) : TDok F (tC (.bl i)) (gC (.bool i)) := ok_c fun _ => .bl i
theorem ok_non : TDok F (tC .non) (gC .none) := ok_c fun _ => .non
theorem ok_str (i : Str) : TDok F (tC (.str i)) (gC (.str i)) := ok_c fun _ => .str i
theorem ok_op {r : R2} {f : D → D → Option WRt} (ho : OpOk F r f) (ha : TDok F ta da) (hb : TDok F tb db) : TEok F (tOp r ta tb) (gOp f da db) := fun S σ H G Q z S' R e k => by
  unfold gOp at e
  split at e
  · rename_i d S1 e1
    split at e
    · rename_i d2 S2 e2
      split at e
      · rename_i z' e3
        cases e
        refine ha S σ H G _ d S1 R e1 fun x G1 H1 s1 R1 r1 => ?_
        refine hb S1 σ H1 G1 _ d2 S' R1 e2 fun y G2 H2 s2 R2 r2 => ?_
        exact ho S' σ H2 G2 x y d d2 Q z R2 (r1.up s2) r2 e3 fun v G3 H3 s3 R3 r3 => k v G3 H3 ((s1.trans s2).trans s3) R3 r3
      · cases e
    · cases e
  · cases e
theorem ok_un {r : V → Hp → VK → Prop} {f : D → Option WRt} (ho : UnOk F r f) (ha : TDok F ta da) : TEok F (tUn r ta) (gUn f da) := fun S σ H G Q z S' R e k => by
  unfold gUn at e
  split at e
  · rename_i d S1 e1
    split at e
    · rename_i z' e3
      cases e
      refine ha S σ H G _ d S' R e1 fun x G1 H1 s1 R1 r1 => ?_
      exact ho S' σ H1 G1 x d Q z R1 r1 e3 fun v G3 H3 s3 R3 r3 => k v G3 H3 (s1.trans s3) R3 r3
    · cases e
  · cases e
theorem ok_nil : TAok F tNil gNil := fun S σ H G Q ds S' R e k => by
  cases e
  exact k [] G H (Same.refl G) R .nil
theorem ok_cons {u : TA} {gu : WMo (List D)} (ha : TDok F ta da) (hu : TAok F u gu) : TAok F (tCons ta u) (gCons da gu) := fun S σ H G Q ds S' R e k => by
  unfold gCons at e
  split at e
  · rename_i d S1 e1
    split at e
    · rename_i es S2 e2
      cases e
      refine ha S σ H G _ d S1 R e1 fun x G1 H1 s1 R1 r1 => ?_
      refine hu S1 σ H1 G1 _ es S' R1 e2 fun xs G2 H2 s2 R2 r2 => ?_
      exact k _ G2 H2 (s1.trans s2) R2 (.cons (r1.up s2) r2)
    · cases e
  · cases e
theorem ok_cb {r : List V → Hp → VK → Prop} {f : List D → Option WRt} {u : TA} {gu : WMo (List D)} (ho : CbOk F r f) (hu : TAok F u gu) : TEok F (tCB r u) (gCb f gu) := fun S σ H G Q z S' R e k => by
  unfold gCb at e
  split at e
  · rename_i d S1 e1
    split at e
    · rename_i z' e3
      cases e
      refine hu S σ H G _ d S' R e1 fun x G1 H1 s1 R1 r1 => ?_
      exact ho S' σ H1 G1 x d Q z R1 r1 e3 fun v G3 H3 s3 R3 r3 => k v G3 H3 (s1.trans s3) R3 r3
    · cases e
  · cases e
theorem ok_tup {u : TA} {gu : WMo (List D)} (hu : TAok F u gu) : TDok F (tTup u) (gTup gu) := fun S σ H G Q z S' R e k => by
  unfold gTup at e
  split at e
  · rename_i ds S1 e1
    split at e
    · rename_i hz
      cases e
      refine hu S σ H G _ ds S' R e1 fun xs G1 H1 s1 R1 r1 => ⟨by rw [r1.length]; exact hz, fun p hp => ?_⟩
      have gp := R1.gfree hp
      exact k _ _ _ (s1.trans (same_upd gp)) (R1.alloc hp) (.tup (SqT.of upd_same) (r1.up (same_upd gp)))
    · cases e
  · cases e
theorem ok_lst {u : TA} {gu : WMo (List D)} (hu : TAok F u gu) : TEok F (tLst u) (gLst gu) := fun S σ H G Q z S' R e k => by
  unfold gLst at e
  split at e
  · rename_i ds S1 e1
    split at e
    · rename_i hz
      cases e
      refine hu S σ H G _ ds S' R e1 fun xs G1 H1 s1 R1 r1 => ⟨by rw [r1.length]; exact hz, fun p hp => ?_⟩
      obtain ⟨R2, O⟩ := R1.fresh hp r1
      exact k _ _ _ s1 R2 ⟨p, rfl, O⟩
    · cases e
  · cases e
/-! ### tests -/
theorem rv_bool {G : Hp} {S : WSt} {σ : L2.St} {H : Hp} {v : V} {b : Bool} (h : RV F G S σ H v (.val (.bool b))) : v = .bl b := by
  have h' : Rp F.K G v (.bool b) := h
  cases h'; rfl
theorem ok_test (h : TEok F t g) : TTok F (tTest t) (gTest g) := fun S σ H G Q b S' R e k => by
  unfold gTest at e
  split at e
  · rename_i b' S1 e1
    cases e
    exact h S σ H G _ _ S' R e1 fun v G' H' s R' rv => ⟨b, rv_bool rv, k G' H' s R'⟩
  · cases e
theorem ok_tB (h : TEok F t g) : TTok F (tB t) (gTest g) := ok_test h
theorem ok_and {u w : TT} {gu gw : WMo Bool} (hu : TTok F u gu) (hw : TTok F w gw) : TTok F (tAnd u w) (gAnd gu gw) := fun S σ H G Q b S' R e k => by
  unfold gAnd at e
  split at e
  · rename_i S1 e1
    exact hu S σ H G _ _ S1 R e1 fun G1 H1 s1 R1 => iteT (hw S1 σ H1 G1 Q b S' R1 e fun G2 H2 s2 R2 => k G2 H2 (s1.trans s2) R2)
  · rename_i S1 e1
    cases e
    exact hu S σ H G _ _ S' R e1 fun G1 H1 s1 R1 => iteF (k G1 H1 s1 R1)
  · cases e
theorem ok_or {u w : TT} {gu gw : WMo Bool} (hu : TTok F u gu) (hw : TTok F w gw) : TTok F (tOr u w) (gOr gu gw) := fun S σ H G Q b S' R e k => by
  unfold gOr at e
  split at e
  · rename_i S1 e1
    cases e
    exact hu S σ H G _ _ S' R e1 fun G1 H1 s1 R1 => iteT (k G1 H1 s1 R1)
  · rename_i S1 e1
    exact hu S σ H G _ _ S1 R e1 fun G1 H1 s1 R1 => iteF (hw S1 σ H1 G1 Q b S' R1 e fun G2 H2 s2 R2 => k G2 H2 (s1.trans s2) R2)
  · cases e
theorem ok_not {u : TT} {gu : WMo Bool} (hu : TTok F u gu) : TTok F (tNot u) (gNot gu) := fun S σ H G Q b S' R e k => by
  unfold gNot at e
  split at e
  · rename_i b' S1 e1
    cases e
    exact hu S σ H G _ _ S' R e1 fun G1 H1 s1 R1 => k G1 H1 s1 R1
  · cases e
theorem ok_if {u : TT} {gu : WMo Bool} (hu : TTok F u gu) (ha : TEok F ta ga) (hb : TEok F tb gb) : TEok F (tIf u ta tb) (gIf gu ga gb) := fun S σ H G Q z S' R e k => by
  unfold gIf at e
  split at e
  · rename_i S1 e1
    exact hu S σ H G _ _ S1 R e1 fun G1 H1 s1 R1 => iteT (ha S1 σ H1 G1 Q z S' R1 e fun v G2 H2 s2 R2 => k v G2 H2 (s1.trans s2) R2)
  · rename_i S1 e1
    exact hu S σ H G _ _ S1 R e1 fun G1 H1 s1 R1 => iteF (hb S1 σ H1 G1 Q z S' R1 e fun v G2 H2 s2 R2 => k v G2 H2 (s1.trans s2) R2)
  · cases e
theorem ok_andV (ha : TEok F ta ga) (hb : TEok F tb gb) : TEok F (tAndV ta tb) (gAndV ga gb) := fun S σ H G Q z S' R e k => by
  unfold gAndV at e
  split at e
  · rename_i S1 e1
    exact ha S σ H G _ _ S1 R e1 fun v G1 H1 s1 R1 rv => ⟨true, rv_bool rv, iteT (hb S1 σ H1 G1 Q z S' R1 e fun v G2 H2 s2 R2 => k v G2 H2 (s1.trans s2) R2)⟩
  · rename_i S1 e1
    cases e
    exact ha S σ H G _ _ _ R e1 fun v G1 H1 s1 R1 rv => ⟨false, rv_bool rv, iteF (k _ G1 H1 s1 R1 (Rp.bl false))⟩
  · cases e
theorem ok_orV (ha : TEok F ta ga) (hb : TEok F tb gb) : TEok F (tOrV ta tb) (gOrV ga gb) := fun S σ H G Q z S' R e k => by
  unfold gOrV at e
  split at e
  · rename_i S1 e1
    cases e
    exact ha S σ H G _ _ _ R e1 fun v G1 H1 s1 R1 rv => ⟨true, rv_bool rv, iteT (k _ G1 H1 s1 R1 (Rp.bl true))⟩
  · rename_i S1 e1
    exact ha S σ H G _ _ S1 R e1 fun v G1 H1 s1 R1 rv => ⟨false, rv_bool rv, iteF (hb S1 σ H1 G1 Q z S' R1 e fun v G2 H2 s2 R2 => k v G2 H2 (s1.trans s2) R2)⟩
  · cases e
theorem ok_notV (ha : TEok F ta ga) : TEok F (tNotV ta) (gNotV ga) := fun S σ H G Q z S' R e k => by
  unfold gNotV at e
  split at e
  · rename_i b S1 e1
    cases e
    exact ha S σ H G _ _ _ R e1 fun v G1 H1 s1 R1 rv => ⟨b, rv_bool rv, k _ G1 H1 s1 R1 (Rp.bl _)⟩
  · cases e
theorem ok_chain {r r' : R2} {f f' : D → D → Option WRt} (ho : OpOk F r f) (ho' : OpOk F r' f') (ha : TDok F ta da) (hb : TDok F tb db) (hc : TDok F tc dc) : TEok F (tChain r r' ta tb tc) (gChain f f' da db dc) := fun S σ H G Q z S' R e k => by
  unfold gChain at e
  split at e
  · rename_i d S1 e1
    split at e
    · rename_i d2 S2 e2
      split at e
      · rename_i e3
        split at e
        · rename_i c S3 e4
          split at e
          · rename_i z' e5
            cases e
            refine ha S σ H G _ d S1 R e1 fun x G1 H1 s1 R1 r1 => ?_
            refine hb S1 σ H1 G1 _ d2 S2 R1 e2 fun y G2 H2 s2 R2 r2 => ?_
            refine ho S2 σ H2 G2 x y d d2 _ _ R2 (r1.up s2) r2 e3 fun v G3 H3 s3 R3 r3 => ⟨true, rv_bool r3, iteT ?_⟩
            refine hc S2 σ H3 G3 _ c S' R3 e4 fun w G4 H4 s4 R4 r4 => ?_
            exact ho' S' σ H4 G4 y w d2 c Q z R4 ((r2.up s3).up s4) r4 e5 fun v G5 H5 s5 R5 r5 => k v G5 H5 ((((s1.trans s2).trans s3).trans s4).trans s5) R5 r5
          · cases e
        · cases e
      · rename_i e3
        cases e
        refine ha S σ H G _ d S1 R e1 fun x G1 H1 s1 R1 r1 => ?_
        refine hb S1 σ H1 G1 _ d2 S' R1 e2 fun y G2 H2 s2 R2 r2 => ?_
        exact ho S' σ H2 G2 x y d d2 _ _ R2 (r1.up s2) r2 e3 fun v G3 H3 s3 R3 r3 => ⟨false, rv_bool r3, iteF (k _ G3 H3 ((s1.trans s2).trans s3) R3 (Rp.bl false))⟩
      · cases e
    · cases e
  · cases e
end
end Wk

namespace Wk
open PySem PySem.Spec PyProof.Rows L2
/-! ### operators by values -/
def okD (d : D) : Bool := noScr d && SeqAt.shaped d
def dAdd : D → D → Option WRt
  | .int i, .int j => some (.val (.int (i + j)))
  | .list xs, .list ys => if xs.length + ys.length ≤ sizeLine then some (.own (xs ++ ys)) else none
  | _, _ => none
def dSub : D → D → Option WRt
  | .int i, .int j => some (.val (.int (i - j)))
  | _, _ => none
def dMul : D → D → Option WRt
  | .int i, .int j => if i.natAbs.log2 + j.natAbs.log2 < 1000000 then some (.val (.int (i * j))) else none
  | .list xs, .int k => if -(2 ^ 63) ≤ k ∧ k < 2 ^ 63 ∧ xs.length * k.toNat ≤ sizeLine then some (.own (List.replicate k.toNat xs).flatten) else none
  | _, _ => none
def dDiv : D → D → Option WRt
  | .int i, .int j => if j ≠ 0 ∧ j.natAbs.log2 < 9000 then some (.val (.int (i.fdiv j))) else none
  | _, _ => none
def dMod : D → D → Option WRt
  | .int i, .int j => if j ≠ 0 then some (.val (.int (i.fmod j))) else none
  | _, _ => none
def dPow : D → D → Option WRt
  | .int i, .int j => if 0 ≤ j ∧ j ≤ 1000000 ∧ i.natAbs < 2 ^ 64 then some (.val (.int (i ^ j.toNat))) else none
  | _, _ => none
def dNeg : D → Option WRt
  | .int i => some (.val (.int (-i)))
  | _ => none
def dCmp (p : Int → Int → Bool) : D → D → Option WRt
  | .int i, .int j => some (.val (.bool (p i j)))
  | _, _ => none
def dLt := dCmp fun i j => decide (i < j)
def dLe := dCmp fun i j => decide (i ≤ j)
def dGt := dCmp fun i j => decide (j < i)
def dGe := dCmp fun i j => decide (j ≤ i)
def dEq (d e : D) : Option WRt := if okD d && okD e then some (.val (.bool (PyData.eqv d e))) else none
def dNe (d e : D) : Option WRt := if okD d && okD e then some (.val (.bool (!PyData.eqv d e))) else none
def dIn (d : D) : D → Option WRt
  | .list ds => if okD d && okD (.list ds) then some (.val (.bool (ds.any fun z => PyData.eqv z d))) else none
  | _ => none
def dNotIn (d : D) : D → Option WRt
  | .list ds => if okD d && okD (.list ds) then some (.val (.bool (!ds.any fun z => PyData.eqv z d))) else none
  | _ => none
def isNone : D → Bool
  | .none => true
  | _ => false
def dIs (d : D) : D → Option WRt
  | .none => some (.val (.bool (isNone d)))
  | _ => none
def dIsNot (d : D) : D → Option WRt
  | .none => some (.val (.bool (!isNone d)))
  | _ => none
def cutA {α : Type} (xs : List α) (lo hi : Option Int) : List α := List.take (HT.sIx xs.length xs.length hi - HT.sIx xs.length 0 lo) (List.drop (HT.sIx xs.length 0 lo) xs)
def dIx : D → D → Option WRt
  | .list ds, .int k => (atI ds k).map .val
  | .tuple ds, .int k => (atI ds k).map .val
  | .dict [(_, .list ds)], .int k => (atI ds k).map .val
  | _, _ => none
def rAddA : R2 := fun x y H Q => (rI0 fun i j => .int (i + j)) x y H Q ∨ rCat x y H Q
def rMulA : R2 := fun x y H Q => (rI CMulW fun i j => .int (i * j)) x y H Q ∨ rRep x y H Q
section
variable {X : Cx}
theorem op_addA : OpR X (binaryOp .Add) rAddA := op_add.or op_cat
theorem op_mulA : OpR X (binaryOp .Mult) rMulA := op_mulW.or op_rep
theorem op_divA : OpR X (binaryOp .FloorDiv) (rI (fun _ j => j ≠ 0 ∧ j.natAbs.log2 < 9000) fun i j => .int (i.fdiv j)) := opI fun i j _ _ _ _ _ hc q => floordiv_int hc.1 q (.inl (PyProof.noPylong_of_log2 hc.2))
end
section
variable {F : Fm}
theorem rps_get {K : PySem.W.Frag} {G : Hp} {vs : List V} {ds : List D} {k : Int} {d : D} (h : Rps K G vs ds) (e : atI ds k = some d) : ∃ v, atI vs k = some v ∧ Rp K G v d := by
  unfold atI at e ⊢
  rw [h.length]
  cases q : ixN ds.length k with
  | none => rw [q] at e; cases e
  | some j =>
    rw [q] at e
    obtain ⟨v, h1, h2⟩ := h.get (i := j) (d := d) e
    exact ⟨v, h1, h2⟩
theorem oo_add : OpOk F rAddA dAdd := fun S σ H G x y d e Q z R rx ry h k => by
  unfold dAdd at h
  split at h
  · cases h; cases rx; cases ry
    exact .inl ⟨_, _, rfl, rfl, k _ G H (Same.refl G) R (Rp.int _)⟩
  · split at h
    · rename_i hz
      cases h
      cases rx with | lst h1 h2 =>
      cases ry with | lst h3 h4 =>
      refine .inr ⟨_, _, _, _, rfl, rfl, R.sub _ _ h1, R.sub _ _ h3, by rw [h2.length, h4.length]; exact hz, fun p hp => ?_⟩
      obtain ⟨R2, O⟩ := R.fresh hp (h2.append h4)
      exact k _ G _ (Same.refl G) R2 ⟨p, rfl, O⟩
    · cases h
  · cases h
theorem oo_sub : OpOk F (rI0 fun i j => .int (i - j)) dSub := fun S σ H G x y d e Q z R rx ry h k => by
  unfold dSub at h
  split at h
  · cases h; cases rx; cases ry
    exact ⟨_, _, rfl, rfl, k _ G H (Same.refl G) R (Rp.int _)⟩
  · cases h
theorem oo_mul : OpOk F rMulA dMul := fun S σ H G x y d e Q z R rx ry h k => by
  unfold dMul at h
  split at h
  · split at h
    · rename_i hz
      cases h; cases rx; cases ry
      exact .inl ⟨_, _, rfl, rfl, hz, k _ G H (Same.refl G) R (Rp.int _)⟩
    · cases h
  · split at h
    · rename_i hz
      cases h
      cases rx with | lst h1 h2 =>
      cases ry
      refine .inr ⟨_, _, _, rfl, rfl, R.sub _ _ h1, hz.1, hz.2.1, by rw [h2.length]; exact hz.2.2, fun p hp => ?_⟩
      obtain ⟨R2, O⟩ := R.fresh hp (h2.rep _)
      exact k _ G _ (Same.refl G) R2 ⟨p, rfl, O⟩
    · cases h
  · cases h
theorem oo_div : OpOk F (rI (fun _ j => j ≠ 0 ∧ j.natAbs.log2 < 9000) fun i j => .int (i.fdiv j)) dDiv := fun S σ H G x y d e Q z R rx ry h k => by
  unfold dDiv at h
  split at h
  · split at h
    · rename_i hz
      cases h; cases rx; cases ry
      exact ⟨_, _, rfl, rfl, hz, k _ G H (Same.refl G) R (Rp.int _)⟩
    · cases h
  · cases h
theorem oo_mod : OpOk F (rI (fun _ j => j ≠ 0) fun i j => .int (i.fmod j)) dMod := fun S σ H G x y d e Q z R rx ry h k => by
  unfold dMod at h
  split at h
  · split at h
    · rename_i hz
      cases h; cases rx; cases ry
      exact ⟨_, _, rfl, rfl, hz, k _ G H (Same.refl G) R (Rp.int _)⟩
    · cases h
  · cases h
theorem oo_pow : OpOk F (rI CPow fun i j => .int (i ^ j.toNat)) dPow := fun S σ H G x y d e Q z R rx ry h k => by
  unfold dPow at h
  split at h
  · split at h
    · rename_i hz
      cases h; cases rx; cases ry
      exact ⟨_, _, rfl, rfl, hz, k _ G H (Same.refl G) R (Rp.int _)⟩
    · cases h
  · cases h
theorem uo_neg : UnOk F (rU fun i => .int (-i)) dNeg := fun S σ H G x d Q z R rx h k => by
  unfold dNeg at h
  split at h
  · cases h; cases rx
    exact ⟨_, rfl, k _ G H (Same.refl G) R (Rp.int _)⟩
  · cases h
theorem oo_cmp {p : Int → Int → Bool} : OpOk F (rI0 fun i j => .bl (p i j)) (dCmp p) := fun S σ H G x y d e Q z R rx ry h k => by
  unfold dCmp at h
  split at h
  · cases h; cases rx; cases ry
    exact ⟨_, _, rfl, rfl, k _ G H (Same.refl G) R (Rp.bl _)⟩
  · cases h
theorem oo_lt : OpOk F (rI0 fun i j => .bl (decide (i < j))) dLt := oo_cmp
theorem oo_le : OpOk F (rI0 fun i j => .bl (decide (i ≤ j))) dLe := oo_cmp
theorem oo_gt : OpOk F (rI0 fun i j => .bl (decide (j < i))) dGt := oo_cmp
theorem oo_ge : OpOk F (rI0 fun i j => .bl (decide (j ≤ i))) dGe := oo_cmp
theorem okD_dp {G H : Hp} {x : V} {d : D} (e : okD d = true) (s : Same G H) (r : Rp F.K G x d) : Dp F.K H x d ∧ SeqAt.shaped d = true := by
  unfold okD at e
  rw [Bool.and_eq_true] at e
  exact ⟨(r.up s).dp _ _ e.1, e.2⟩
theorem oo_eq : OpOk F (rEqD F.K) dEq := fun S σ H G x y d e Q z R rx ry h k => by
  unfold dEq at h
  split at h
  · rename_i c
    rw [Bool.and_eq_true] at c
    cases h
    have a := okD_dp c.1 R.sub rx
    have b := okD_dp c.2 R.sub ry
    exact ⟨d, e, a.1, b.1, a.2, b.2, k _ G H (Same.refl G) R (Rp.bl _)⟩
  · cases h
theorem oo_ne : OpOk F (rNeD F.K) dNe := fun S σ H G x y d e Q z R rx ry h k => by
  unfold dNe at h
  split at h
  · rename_i c
    rw [Bool.and_eq_true] at c
    cases h
    have a := okD_dp c.1 R.sub rx
    have b := okD_dp c.2 R.sub ry
    exact ⟨d, e, a.1, b.1, a.2, b.2, k _ G H (Same.refl G) R (Rp.bl _)⟩
  · cases h
theorem oo_in : OpOk F (rInD F.K) dIn := fun S σ H G x y d e Q z R rx ry h k => by
  unfold dIn at h
  split at h
  · split at h
    · rename_i c
      rw [Bool.and_eq_true] at c
      cases h
      have a := okD_dp c.1 R.sub rx
      have b := okD_dp c.2 R.sub ry
      exact ⟨d, _, a.1, b.1, a.2, b.2, k _ G H (Same.refl G) R (Rp.bl _)⟩
    · cases h
  · cases h
theorem oo_notIn : OpOk F (rNotInD F.K) dNotIn := fun S σ H G x y d e Q z R rx ry h k => by
  unfold dNotIn at h
  split at h
  · split at h
    · rename_i c
      rw [Bool.and_eq_true] at c
      cases h
      have a := okD_dp c.1 R.sub rx
      have b := okD_dp c.2 R.sub ry
      exact ⟨d, _, a.1, b.1, a.2, b.2, k _ G H (Same.refl G) R (Rp.bl _)⟩
    · cases h
  · cases h
theorem isNone_iff {G : Hp} {x : V} {d : D} (r : Rp F.K G x d) : isNone d = decide (x = .non) := by
  cases r <;> rfl
theorem oo_is : OpOk F (fun x y H Q => y = .non ∧ Q (.bl (decide (x = .non))) H) dIs := fun S σ H G x y d e Q z R rx ry h k => by
  unfold dIs at h
  split at h
  · cases h; cases ry
    refine ⟨rfl, ?_⟩
    rw [← isNone_iff rx]
    exact k _ G H (Same.refl G) R (Rp.bl _)
  · cases h
theorem oo_isNot : OpOk F (fun x y H Q => y = .non ∧ Q (.bl (!decide (x = .non))) H) dIsNot := fun S σ H G x y d e Q z R rx ry h k => by
  unfold dIsNot at h
  split at h
  · cases h; cases ry
    refine ⟨rfl, ?_⟩
    rw [← isNone_iff rx]
    exact k _ G H (Same.refl G) R (Rp.bl _)
  · cases h
theorem scr_of {K : PySem.W.Frag} {G : Hp} {x : V} {q : D} {ds : List D} (r : Rp K G x (.dict [(q, .list ds)])) : ∃ (a : Addr) (ns : List Int), x = .ref a ∧ SqL K G a (ns.map V.int) ∧ ds = ns.map PyData.int := by
  cases r with
  | scr h => exact ⟨_, _, rfl, h, rfl⟩
theorem rps_ints {K : PySem.W.Frag} {G : Hp} : ∀ ns : List Int, Rps K G (ns.map V.int) (ns.map PyData.int)
  | [] => .nil
  | n :: ns => .cons (.int n) (rps_ints ns)
theorem oo_ix : OpOk F (rIx F.K) dIx := fun S σ H G x y d e Q z R rx ry h k => by
  unfold dIx at h
  split at h
  · rename_i ds i
    cases ry
    cases rx with | lst h1 h2 =>
    cases q : atI ds i with
    | none => rw [q] at h; cases h
    | some c =>
      rw [q] at h; cases h
      obtain ⟨v, g1, g2⟩ := rps_get h2 q
      exact .inl ⟨_, _, _, v, rfl, rfl, SqL.of (R.sub _ _ h1), g1, k v G H (Same.refl G) R g2⟩
  · rename_i ds i
    cases ry
    cases rx with | tup h1 h2 =>
    cases q : atI ds i with
    | none => rw [q] at h; cases h
    | some c =>
      rw [q] at h; cases h
      obtain ⟨v, g1, g2⟩ := rps_get h2 q
      exact .inr (.inl ⟨_, _, _, v, rfl, rfl, same_tup R.sub h1, g1, k v G H (Same.refl G) R g2⟩)
  · rename_i w ds i
    cases ry
    obtain ⟨a, ns, rfl, hs, rfl⟩ := scr_of rx
    cases q : atI (ns.map PyData.int) i with
    | none => rw [q] at h; cases h
    | some c =>
      rw [q] at h; cases h
      obtain ⟨v, g1, g2⟩ := rps_get (K := F.K) (G := G) (rps_ints ns) q
      exact .inl ⟨_, _, _, v, rfl, rfl, R.sub.seq hs, g1, k v G H (Same.refl G) R g2⟩
  · cases h
/-! ### built-in functions -/
def dLen : List D → Option WRt
  | [.list ds] => some (.val (.int ds.length))
  | [.tuple ds] => some (.val (.int ds.length))
  | [.dict [(_, .list ds)]] => some (.val (.int ds.length))
  | [.str x] => if x.length ≤ sizeLine then some (.val (.int x.length)) else none
  | _ => none
theorem cb_len : CbOk F (fun xs H Q => ∃ x n, xs = [x] ∧ LenV F.K x H n ∧ Q (.int n) H) dLen := fun S σ H G xs ds Q z R rs h k => by
  unfold dLen at h
  split at h
  · cases h
    cases rs with | cons r1 r2 =>
    cases r2
    cases r1 with | lst h1 h2 =>
    exact ⟨_, _, rfl, .inl ⟨_, SqL.of (R.sub _ _ h1), rfl⟩, by rw [h2.length]; exact k _ G H (Same.refl G) R (Rp.int _)⟩
  · cases h
    cases rs with | cons r1 r2 =>
    cases r2
    cases r1 with | tup h1 h2 =>
    exact ⟨_, _, rfl, .inr ⟨_, same_tup R.sub h1, rfl⟩, by rw [h2.length]; exact k _ G H (Same.refl G) R (Rp.int _)⟩
  · cases h
    cases rs with | cons r1 r2 =>
    cases r2
    obtain ⟨a, ns, rfl, hs, rfl⟩ := scr_of r1
    exact ⟨_, _, rfl, .inl ⟨ns.map V.int, R.sub.seq hs, rfl⟩, by
      have e : (ns.map V.int).length = (ns.map PyData.int).length := by rw [List.length_map, List.length_map]
      rw [e]; exact k _ G H (Same.refl G) R (Rp.int _)⟩
  · split at h
    · rename_i x hz
      cases h
      cases rs with | cons r1 r2 =>
      cases r2
      cases r1
      exact ⟨_, _, rfl, ⟨hz, rfl⟩, k _ G H (Same.refl G) R (Rp.int _)⟩
    · cases h
  · cases h
def dAbs : List D → Option WRt
  | [.int i] => some (.val (.int (if i < 0 then -i else i)))
  | _ => none
theorem cb_abs : CbOk F (fun xs H Q => ∃ i, xs = [.int i] ∧ Q (.int (if i < 0 then -i else i)) H) dAbs := fun S σ H G xs ds Q z R rs h k => by
  unfold dAbs at h
  split at h
  · cases h
    cases rs with | cons r1 r2 =>
    cases r2; cases r1
    exact ⟨_, rfl, k _ G H (Same.refl G) R (Rp.int _)⟩
  · cases h
def dMax2 : List D → Option WRt
  | [.int i, .int j] => some (.val (.int (if j > i then j else i)))
  | _ => none
theorem cb_max2 : CbOk F (fun xs H Q => ∃ i j, xs = [.int i, .int j] ∧ Q (.int (if j > i then j else i)) H) dMax2 := fun S σ H G xs ds Q z R rs h k => by
  unfold dMax2 at h
  split at h
  · cases h
    cases rs with | cons r1 r2 =>
    cases r2 with | cons r2 r3 =>
    cases r3; cases r1; cases r2
    exact ⟨_, _, rfl, k _ G H (Same.refl G) R (Rp.int _)⟩
  · cases h
def dMin2 : List D → Option WRt
  | [.int i, .int j] => some (.val (.int (if j < i then j else i)))
  | _ => none
theorem cb_min2 : CbOk F (fun xs H Q => ∃ i j, xs = [.int i, .int j] ∧ Q (.int (if j < i then j else i)) H) dMin2 := fun S σ H G xs ds Q z R rs h k => by
  unfold dMin2 at h
  split at h
  · cases h
    cases rs with | cons r1 r2 =>
    cases r2 with | cons r2 r3 =>
    cases r3; cases r1; cases r2
    exact ⟨_, _, rfl, k _ G H (Same.refl G) R (Rp.int _)⟩
  · cases h
def dInt1 : List D → Option WRt
  | [.int i] => some (.val (.int i))
  | [.bool b] => some (.val (.int (if b then 1 else 0)))
  | _ => none
theorem cb_int1 : CbOk F (fun xs H Q => (∃ i, xs = [.int i] ∧ Q (.int i) H) ∨ ∃ k, xs = [.bl k] ∧ Q (.int (if k then 1 else 0)) H) dInt1 := fun S σ H G xs ds Q z R rs h k => by
  unfold dInt1 at h
  split at h
  · cases h
    cases rs with | cons r1 r2 =>
    cases r2; cases r1
    exact .inl ⟨_, rfl, k _ G H (Same.refl G) R (Rp.int _)⟩
  · cases h
    cases rs with | cons r1 r2 =>
    cases r2; cases r1
    exact .inr ⟨_, rfl, k _ G H (Same.refl G) R (Rp.int _)⟩
  · cases h
def intsOf : List D → Option (List Int)
  | [] => some []
  | .int i :: ds => match intsOf ds with
    | some is => some (i :: is)
    | none => none
  | _ => none
theorem intsOf_eq : ∀ {ds : List D} {is : List Int}, intsOf ds = some is → ds = is.map PyData.int
  | [], is, h => by cases h; rfl
  | d :: ds, is, h => by
    unfold intsOf at h
    split at h
    · rename_i e; cases e
    · rename_i i ds' e
      cases e
      split at h
      · rename_i is' e
        cases h
        rw [intsOf_eq e]; rfl
      · cases h
    · cases h
def boolsOf : List D → Option (List Bool)
  | [] => some []
  | .bool i :: ds => match boolsOf ds with
    | some is => some (i :: is)
    | none => none
  | _ => none
theorem boolsOf_eq : ∀ {ds : List D} {is : List Bool}, boolsOf ds = some is → ds = is.map PyData.bool
  | [], is, h => by cases h; rfl
  | d :: ds, is, h => by
    unfold boolsOf at h
    split at h
    · rename_i e; cases e
    · rename_i i ds' e
      cases e
      split at h
      · rename_i is' e
        cases h
        rw [boolsOf_eq e]; rfl
      · cases h
    · cases h
theorem rps_int_inv {K : PySem.W.Frag} {G : Hp} : ∀ {is : List Int} {vs : List V}, Rps K G vs (is.map PyData.int) → vs = is.map V.int
  | [], _, h => by cases h; rfl
  | i :: is, _, h => by
    cases h with | cons h1 h2 =>
    cases h1
    rw [rps_int_inv h2]; rfl
theorem rps_bool_inv {K : PySem.W.Frag} {G : Hp} : ∀ {is : List Bool} {vs : List V}, Rps K G vs (is.map PyData.bool) → vs = is.map V.bl
  | [], _, h => by cases h; rfl
  | i :: is, _, h => by
    cases h with | cons h1 h2 =>
    cases h1
    rw [rps_bool_inv h2]; rfl
def dSum : List D → Option WRt
  | [.list ds] => match intsOf ds with
    | some is => some (.val (.int is.sum))
    | none => none
  | _ => none
theorem cb_sum : CbOk F (rSum F.K) dSum := fun S σ H G xs ds Q z R rs h k => by
  unfold dSum at h
  split at h
  · split at h
    · rename_i is e
      cases h
      cases rs with | cons r1 r2 =>
      cases r2
      cases r1 with | lst h1 h2 =>
      rw [intsOf_eq e] at h2
      rw [rps_int_inv h2] at h1
      exact ⟨_, is, rfl, SqL.of (R.sub _ _ h1), k _ G H (Same.refl G) R (Rp.int _)⟩
    · cases h
  · cases h
def maxI : Int → List Int → Int
  | m, [] => m
  | m, i :: is => maxI (if m < i then i else m) is
theorem maxI_mem : ∀ (is : List Int) (m : Int), maxI m is = m ∨ maxI m is ∈ is
  | [], _ => .inl rfl
  | i :: is, m => by
    show maxI (if m < i then i else m) is = m ∨ maxI (if m < i then i else m) is ∈ i :: is
    rcases maxI_mem is (if m < i then i else m) with h | h
    · rw [h]; split
      · exact .inr (List.mem_cons_self ..)
      · exact .inl rfl
    · exact .inr (List.mem_cons_of_mem _ h)
theorem maxI_ge : ∀ (is : List Int) (m : Int), m ≤ maxI m is ∧ ∀ y ∈ is, y ≤ maxI m is
  | [], m => ⟨Int.le_refl _, fun y h => by cases h⟩
  | i :: is, m => by
    have h := maxI_ge is (if m < i then i else m)
    show m ≤ maxI (if m < i then i else m) is ∧ ∀ y ∈ i :: is, y ≤ maxI (if m < i then i else m) is
    have h1 := h.1
    refine ⟨by split at h1 <;> (split <;> omega), fun y hy => ?_⟩
    rcases List.mem_cons.mp hy with rfl | hy
    · split at h1 <;> (split <;> omega)
    · exact h.2 y hy
def dMaxL : List D → Option WRt
  | [.list ds] => match intsOf ds with
    | some (i :: is) => some (.val (.int (maxI i is)))
    | _ => none
  | _ => none
theorem cb_maxL : CbOk F (rMax F.K) dMaxL := fun S σ H G xs ds Q z R rs h k => by
  unfold dMaxL at h
  split at h
  · split at h
    · rename_i i is e
      cases h
      cases rs with | cons r1 r2 =>
      cases r2
      cases r1 with | lst h1 h2 =>
      rw [intsOf_eq e] at h2
      rw [rps_int_inv h2] at h1
      refine ⟨_, i :: is, rfl, SqL.of (R.sub _ _ h1), by simp, fun m hm hle => ?_⟩
      have a := maxI_ge is i
      have b := maxI_mem is i
      have e1 : m ≤ maxI i is := by
        rcases List.mem_cons.mp hm with rfl | q
        · exact a.1
        · exact a.2 _ q
      have e2 : maxI i is ≤ m := by
        rcases b with q | q
        · rw [q]; exact hle _ (List.mem_cons_self ..)
        · exact hle _ (List.mem_cons_of_mem _ q)
      have e3 : m = maxI i is := Int.le_antisymm e1 e2
      subst e3
      exact k _ G H (Same.refl G) R (Rp.int _)
    · cases h
  · cases h
def dAll : List D → Option WRt
  | [.list ds] => match boolsOf ds with
    | some is => some (.val (.bool (is.all id)))
    | none => none
  | _ => none
theorem cb_all : CbOk F (rAll F.K) dAll := fun S σ H G xs ds Q z R rs h k => by
  unfold dAll at h
  split at h
  · split at h
    · rename_i is e
      cases h
      cases rs with | cons r1 r2 =>
      cases r2
      cases r1 with | lst h1 h2 =>
      rw [boolsOf_eq e] at h2
      rw [rps_bool_inv h2] at h1
      exact ⟨_, is, rfl, SqL.of (R.sub _ _ h1), k _ G H (Same.refl G) R (Rp.bl _)⟩
    · cases h
  · cases h
def dListOf : List D → Option WRt
  | [.list ds] => some (.own ds)
  | [.tuple ds] => some (.own ds)
  | _ => none
theorem cb_listOf : CbOk F (fun xs H Q => ∃ p ys, xs = [.ref p] ∧ (SqL F.K H p ys ∨ SqT F.K H p ys) ∧ ∀ l, H l = none → Q (.ref l) (upd H l (.lst ys))) dListOf := fun S σ H G xs ds Q z R rs h k => by
  unfold dListOf at h
  split at h
  · cases h
    cases rs with | cons r1 r2 =>
    cases r2
    cases r1 with | lst h1 h2 =>
    refine ⟨_, _, rfl, .inl (SqL.of (R.sub _ _ h1)), fun p hp => ?_⟩
    obtain ⟨R2, O⟩ := R.fresh hp h2
    exact k _ G _ (Same.refl G) R2 ⟨p, rfl, O⟩
  · cases h
    cases rs with | cons r1 r2 =>
    cases r2
    cases r1 with | tup h1 h2 =>
    refine ⟨_, _, rfl, .inr (same_tup R.sub h1), fun p hp => ?_⟩
    obtain ⟨R2, O⟩ := R.fresh hp h2
    exact k _ G _ (Same.refl G) R2 ⟨p, rfl, O⟩
  · cases h
def dDivmod : List D → Option WRt
  | [.int i, .int j] => if 0 < j ∧ j < 1073741824 then some (.val (.tuple [.int (i / j), .int (i % j)])) else none
  | _ => none
theorem cb_divmod : CbOk F (fun xs H Q => ∃ i j, xs = [.int i, .int j] ∧ CDiv i j ∧ ∀ p, H p = none → Q (.ref p) (upd H p (.tup [.int (i / j), .int (i % j)]))) dDivmod := fun S σ H G xs ds Q z R rs h k => by
  unfold dDivmod at h
  split at h
  · split at h
    · rename_i hz
      cases h
      cases rs with | cons r1 r2 =>
      cases r2 with | cons r2 r3 =>
      cases r3; cases r1; cases r2
      refine ⟨_, _, rfl, hz, fun p hp => ?_⟩
      exact k _ _ _ (same_upd (R.gfree hp)) (R.alloc hp) (Rp.tup (SqT.of upd_same) (.cons (.int _) (.cons (.int _) .nil)))
    · cases h
  · cases h
/-! ### isinstance of a built-in type -/
def isT (T : String) : D → Option Bool
  | .none => kitB "NoneType" T
  | .bool _ => kitB "bool" T
  | .int _ => kitB "int" T
  | .str _ => kitB "str" T
  | .list _ => kitB "list" T
  | .tuple _ => kitB "tuple" T
  | .dict [(_, .list _)] => kitB "list" T
  | _ => none
def gIsi (T : String) (da : WMo D) : WMo WRt := fun S => match da S with
  | some (d, S1) => match isT T d with
    | some b => some (.val (.bool b), S1)
    | none => none
  | none => none
theorem tyX_list {K : PySem.W.Frag} {H : Hp} {a : Addr} {xs : List V} (h : SqL K H a xs) : TyX K H (.ref a) (.type "list") := by
  rcases h with (h | ⟨o, h⟩) | ⟨o, its, n, h1, h2, _⟩
  · exact .base (.lst h)
  · exact .base (.frz h)
  · exact .kList h1 h2
theorem tyX_tup {K : PySem.W.Frag} {H : Hp} {a : Addr} {xs : List V} (h : SqT K H a xs) : TyX K H (.ref a) (.type "tuple") := by
  rcases h with (h | ⟨o, h⟩) | ⟨o, its, n, h1, h2, _⟩
  · exact .base (.tup h)
  · exact .fTuple h
  · exact .kTuple h1 h2
theorem ok_isi {T : String} {ta : TE} {da : WMo D} (ha : TDok F ta da) : TEok F (tCB (rIsi F.K) (tCons ta (tCons (tC (.ty T)) tNil))) (gIsi T da) := fun S σ H G Q z S' R e k => by
  unfold gIsi at e
  split at e
  · rename_i d S1 e1
    split at e
    · rename_i b e2
      cases e
      refine ha S σ H G _ d _ R e1 fun x G1 H1 s1 R1 r1 => ?_
      show rIsi F.K [x, .ty T] H1 Q
      have fin := k _ G1 H1 s1 R1 (Rp.bl b)
      unfold isT at e2
      split at e2
      · cases r1; exact ⟨_, _, _, _, b, rfl, .ty T, .base .non, kit_ty e2, fin⟩
      · cases r1; exact ⟨_, _, _, _, b, rfl, .ty T, .base (.bl _), kit_ty e2, fin⟩
      · cases r1; exact ⟨_, _, _, _, b, rfl, .ty T, .base (.int _), kit_ty e2, fin⟩
      · cases r1; exact ⟨_, _, _, _, b, rfl, .ty T, .base (.str _), kit_ty e2, fin⟩
      · cases r1 with | lst h1 h2 => exact ⟨_, _, _, _, b, rfl, .ty T, tyX_list (SqL.of (R1.sub _ _ h1)), kit_ty e2, fin⟩
      · cases r1 with | tup h1 h2 => exact ⟨_, _, _, _, b, rfl, .ty T, tyX_tup (same_tup R1.sub h1), kit_ty e2, fin⟩
      · obtain ⟨a, ns, rfl, hs, _⟩ := scr_of r1
        exact ⟨_, _, _, _, b, rfl, .ty T, tyX_list (R1.sub.seq hs), kit_ty e2, fin⟩
      · cases e2
    · cases e
  · cases e
end
end Wk

namespace Wk
open PySem PySem.Spec PyProof.Rows L2
/-! ### while all lists of one's own are held still -/
mutual
def lfD : D → Bool
  | .none => true
  | .bool _ => true
  | .int _ => true
  | .str _ => true
  | .tuple ds => lfDs ds
  | _ => false
def lfDs : List D → Bool
  | [] => true
  | d :: ds => lfD d && lfDs ds
end
def lfR : WRt → Bool
  | .val d => lfD d
  | .own ds => lfDs ds
section
variable {K : PySem.W.Frag} {G G' : Hp}
mutual
theorem Rp.lf (e : ∀ a xs, SqT K G a xs → SqT K G' a xs) : ∀ (d : D) (v : V), lfD d = true → Rp K G v d → Rp K G' v d
  | .none, _, _, h => by cases h; exact .non
  | .bool b, _, _, h => by cases h; exact .bl b
  | .int i, _, _, h => by cases h; exact .int i
  | .str x, _, _, h => by cases h; exact .str x
  | .list ds, _, n, h => by cases n
  | .tuple ds, _, n, h => by cases h with | tup h1 h2 => exact .tup (e _ _ h1) (Rps.lf e ds _ n h2)
  | .dict kvs, _, n, h => by cases n
theorem Rps.lf (e : ∀ a xs, SqT K G a xs → SqT K G' a xs) : ∀ (ds : List D) (vs : List V), lfDs ds = true → Rps K G vs ds → Rps K G' vs ds
  | [], _, _, h => by cases h; exact .nil
  | d :: ds, _, n, h => by
    simp only [lfDs, Bool.and_eq_true] at n
    cases h with | cons h1 h2 => exact .cons (Rp.lf e d _ n.1 h1) (Rps.lf e ds _ n.2 h2)
end
end
def frzSl : WSl → WSl
  | .own ds => .val (.list ds)
  | s => s
def gFz (g : WMo WRt) : WMo WRt := fun S => match g ⟨S.env.map frzSl, S.pot⟩ with
  | some (r, S') => if lfR r && lfDs S'.pot then some (r, ⟨S.env, S'.pot⟩) else none
  | none => none
def gFzT (g : WMo Bool) : WMo Bool := fun S => match g ⟨S.env.map frzSl, S.pot⟩ with
  | some (b, S') => if lfDs S'.pot then some (b, ⟨S.env, S'.pot⟩) else none
  | none => none
section
variable {F : Fm} {G : Hp} {S : WSt} {σ : L2.St} {H : Hp}
open Classical in
noncomputable def frzG (S : WSt) (σ : L2.St) (H G : Hp) : Hp := fun b => if ∃ (i : Nat) (ds : List D), S.env[i]? = some (WSl.own ds) ∧ σ[i]? = some (some (V.ref b)) then H b else G b
theorem frz_map {i : Nat} {s : WSl} (h : (S.env.map frzSl)[i]? = some s) : ∃ s0, S.env[i]? = some s0 ∧ frzSl s0 = s := by
  rw [List.getElem?_map] at h
  cases q : S.env[i]? with
  | none => rw [q] at h; cases h
  | some s0 => rw [q] at h; cases h; exact ⟨s0, rfl, rfl⟩
theorem Rl.frz (R : Rl F G S σ H) : Same G (frzG S σ H G) ∧ Rl F (frzG S σ H G) ⟨S.env.map frzSl, S.pot⟩ σ H := by
  have s1 : Same G (frzG S σ H G) := fun b o e => by
    unfold frzG
    split
    · exact R.sub b o e
    · exact e
  have own : ∀ {i : Nat} {ds : List D} {a : Addr}, S.env[i]? = some (WSl.own ds) → σ[i]? = some (some (V.ref a)) → frzG S σ H G a = H a := fun {i ds a} e1 e2 => by
    unfold frzG
    rw [if_pos ⟨i, ds, e1, e2⟩]
  have isown : ∀ b, frzG S σ H G b ≠ G b → ∃ (i : Nat) (ds : List D), S.env[i]? = some (WSl.own ds) ∧ σ[i]? = some (some (V.ref b)) := fun b n => by
    unfold frzG at n
    split at n
    · assumption
    · exact absurd rfl n
  have h0 : ∀ b, frzG S σ H G b ≠ G b → F.H0 b = none := fun b n => by
    obtain ⟨i, ds, e1, e2⟩ := isown b n
    obtain ⟨a, vs, q1, q2, q3, q4, q5⟩ := R.owns i ds e1
    rw [q1] at e2
    have : a = b := by injection e2 with z; injection z with z; injection z
    rw [← this]; exact q4
  refine ⟨s1, ?_⟩
  exact
  { sub := fun b o e => by
      by_cases n : frzG S σ H G b = G b
      · rw [n] at e; exact R.sub b o e
      · obtain ⟨i, ds, e1, e2⟩ := isown b n
        rw [own e1 e2] at e; exact e
    g0 := R.g0.trans s1
    new := fun b e => by
      by_cases n : frzG S σ H G b = G b
      · rw [n] at e; exact R.new b e
      · exact .inr (h0 b n)
    keep := R.keep
    pa := R.pa
    len := by rw [List.length_map]; exact R.len
    vals := fun i d e => by
      obtain ⟨s0, e1, e2⟩ := frz_map e
      cases s0 with
      | un => cases e2
      | bor => cases e2
      | pin => cases e2
      | val d' =>
        cases e2
        obtain ⟨v, h1, h2⟩ := R.vals i _ e1
        exact ⟨v, h1, h2.up s1⟩
      | own ds =>
        cases e2
        obtain ⟨a, vs, q1, q2, q3, q4, q5⟩ := R.owns i ds e1
        exact ⟨.ref a, q1, .lst ((own e1 q1).trans q2) (q5.up s1)⟩
    owns := fun i ds e => by
      obtain ⟨s0, e1, e2⟩ := frz_map e
      cases s0 <;> cases e2
    bors := fun i e => by
      obtain ⟨s0, e1, e2⟩ := frz_map e
      cases s0 <;> cases e2
      exact R.bors i e1
    pins := fun i e => by
      obtain ⟨s0, e1, e2⟩ := frz_map e
      cases s0 <;> cases e2
      exact R.pins i e1
    apart := fun i j ds es a ne e => by
      obtain ⟨s0, e1, e2⟩ := frz_map e
      cases s0 <;> cases e2
    pot := fun a e => by
      obtain ⟨vs, h1, h2, h3⟩ := R.pot a e
      refine ⟨vs, h1, ?_, h3.up s1⟩
      by_cases n : frzG S σ H G a = G a
      · rw [n]; exact h2
      · exact absurd (h0 a n) (R.pa a e) }
/-- data that is new since, but for lists -/
def thwG (G G2 : Hp) : Hp := fun b => match G b with
  | some o => some o
  | none => match G2 b with
    | some (.lst _) => none
    | x => x
theorem Rl.thaw (R : Rl F G S σ H) {G2 H2 : Hp} {S2 : WSt} (s : Same (frzG S σ H G) G2) (R2 : Rl F G2 S2 σ H2) (hp : lfDs S2.pot = true) :
    Same G (thwG G G2) ∧ Rl F (thwG G G2) ⟨S.env, S2.pot⟩ σ H2 ∧ (∀ a xs, SqT F.K G2 a xs → SqT F.K (thwG G G2) a xs) := by
  obtain ⟨s0, R1⟩ := R.frz
  have sg : Same G G2 := s0.trans s
  have s1 : Same G (thwG G G2) := fun b o e => by unfold thwG; rw [e]
  have s2 : Same (thwG G G2) G2 := fun b o e => by
    unfold thwG at e
    cases q : G b with
    | some o' => rw [q] at e; cases e; exact sg b _ q
    | none =>
      rw [q] at e
      cases q2 : G2 b with
      | none => rw [q2] at e; cases e
      | some o2 => rw [q2] at e; cases o2 <;> first | exact e | cases e
  have tp : ∀ a xs, SqT F.K G2 a xs → SqT F.K (thwG G G2) a xs := fun a xs h => by
    have key : ∀ o, G2 a = some o → (∀ ys, o ≠ .lst ys) → thwG G G2 a = some o := fun o e n => by
      unfold thwG
      cases q : G a with
      | some o' =>
        have e2 := sg a _ q
        rw [e] at e2; cases e2; rfl
      | none =>
        rw [e]
        cases o <;> first | rfl | exact absurd rfl (n _)
    rcases h with (h | ⟨o, h⟩) | h
    · exact .inl (.inl (key _ h (fun ys z => nomatch z)))
    · exact .inl (.inr ⟨o, key _ h (fun ys z => nomatch z)⟩)
    · exact .inr h
  have nl : ∀ a vs, G2 a = some (.lst vs) → G a = none → thwG G G2 a = none := fun a vs e g => by
    unfold thwG
    rw [g, e]
  refine ⟨s1, ?_, tp⟩
  exact
  { sub := s2.trans R2.sub
    g0 := R.g0.trans s1
    new := fun b e => by
      refine R2.new b fun q => e ?_
      cases z : thwG G G2 b with
      | none => rfl
      | some o => rw [s2 b o z] at q; cases q
    keep := R2.keep
    pa := R.pa
    len := R.len
    vals := fun i d e => by
      obtain ⟨v, h1, h2⟩ := R.vals i d e
      exact ⟨v, h1, h2.up s1⟩
    owns := fun i ds e => by
      obtain ⟨a, vs, q1, q2, q3, q4, q5⟩ := R.owns i ds e
      have e1 : frzG S σ H G a = some (.lst vs) := by
        unfold frzG
        rw [if_pos ⟨i, ds, e, q1⟩]
        exact q2
      have e2 := s a _ e1
      exact ⟨a, vs, q1, R2.sub a _ e2, nl a vs e2 q3, q4, q5.up s1⟩
    bors := R.bors
    pins := R.pins
    apart := R.apart
    pot := fun a e => by
      obtain ⟨vs, h1, h2, h3⟩ := R2.pot a e
      obtain ⟨_, _, h5, _⟩ := R.pot a e
      refine ⟨vs, h1, ?_, Rps.lf tp _ _ hp h3⟩
      unfold thwG
      rw [h5, h2] }
theorem ok_fz {t : TE} {g : WMo WRt} (h : TEok F t g) : TEok F t (gFz g) := fun S σ H G Q r S' R e k => by
  unfold gFz at e
  split at e
  · rename_i r' S2 e1
    split at e
    · rename_i c
      rw [Bool.and_eq_true] at c
      cases e
      obtain ⟨s0, R1⟩ := R.frz
      refine h _ σ H _ Q r S2 R1 e1 fun v G2 H2 s2 R2 rv => ?_
      obtain ⟨s3, R3, tp⟩ := R.thaw s2 R2 c.2
      refine k v _ H2 s3 R3 ?_
      cases r with
      | val d => exact Rp.lf tp d v c.1 rv
      | own ds =>
        obtain ⟨a, rfl, O⟩ := rv
        obtain ⟨vs, o1, o2⟩ := O.at_
        have ga : thwG G G2 a = none := by
          unfold thwG
          rw [(s0.trans s2).free O.gn, O.gn]
        refine ⟨a, rfl, ⟨vs, o1, Rps.lf tp ds vs c.1 o2⟩, ga, O.hn, fun i es e q => ?_⟩
        obtain ⟨b, ws, q1, q2, q3, q4, q5⟩ := R.owns i es e
        have e1 : frzG S σ H G b = some (.lst ws) := by
          unfold frzG
          rw [if_pos ⟨i, es, e, q1⟩]
          exact q2
        have e2 := s2 b _ e1
        rw [q1] at q
        have : b = a := by injection q with z; injection z with z; injection z
        rw [this, O.gn] at e2; cases e2
    · cases e
  · cases e
theorem ok_fzT {t : TT} {g : WMo Bool} (h : TTok F t g) : TTok F t (gFzT g) := fun S σ H G Q r S' R e k => by
  unfold gFzT at e
  split at e
  · rename_i r' S2 e1
    split at e
    · rename_i c
      cases e
      obtain ⟨s0, R1⟩ := R.frz
      refine h _ σ H _ Q r S2 R1 e1 fun G2 H2 s2 R2 => ?_
      obtain ⟨s3, R3, tp⟩ := R.thaw s2 R2 c
      exact k _ H2 s3 R3
    · cases e
  · cases e
end
/-! ### what a name holds, where it is -/
def slotL (S : WSt) (i : Nat) : Option (List D) := match S.env[i]? with
  | some (.own ds) => some ds
  | some .bor => some S.pot
  | some (.val (.list ds)) => some ds
  | some (.val (.dict [(_, .list ds)])) => some ds
  | _ => none
section
variable {F : Fm} {G : Hp} {S : WSt} {σ : L2.St} {H : Hp}
theorem Rl.slotL (R : Rl F G S σ H) {i : Nat} {ds : List D} (h : slotL S i = some ds) : ∃ a vs, σ[i]? = some (some (V.ref a)) ∧ SqL F.K H a vs ∧ Rps F.K G vs ds := by
  unfold Wk.slotL at h
  split at h
  · rename_i e
    cases h
    obtain ⟨a, vs, q1, q2, q3, q4, q5⟩ := R.owns i _ e
    exact ⟨a, vs, q1, SqL.of q2, q5⟩
  · rename_i e
    cases h
    obtain ⟨a, e1, e2⟩ := R.bors i e
    obtain ⟨vs, h1, h2, h3⟩ := R.pot a e1
    exact ⟨a, vs, e2, SqL.of h1, h3⟩
  · rename_i ds' e
    cases h
    obtain ⟨v, e1, e2⟩ := R.vals i _ e
    cases e2 with | lst h1 h2 =>
    exact ⟨_, _, e1, SqL.of (R.sub _ _ h1), h2⟩
  · rename_i q ds' e
    cases h
    obtain ⟨v, e1, e2⟩ := R.vals i _ e
    obtain ⟨a, ns, rfl, hs, rfl⟩ := scr_of e2
    exact ⟨_, _, e1, R.sub.seq hs, rps_ints ns⟩
  · cases h
def gIxV (i : Nat) (db : WMo D) : WMo D := fun S => match slotL S i with
  | none => none
  | some _ => match db S with
    | some (.int k, S1) => match slotL S1 i with
      | some ds => match atI ds k with
        | some d => some (d, S1)
        | none => none
      | none => none
    | _ => none
theorem slot_same {i : Nat} {a b : Addr} (h : σ[i]? = some (some (V.ref a))) (h' : σ[i]? = some (some (V.ref b))) : a = b := by
  rw [h] at h'
  injection h' with z; injection z with z; injection z
theorem ok_ixV {i : Nat} {tb : TE} {db : WMo D} (hb : TDok F tb db) : TDok F (tOp (rIx F.K) (tVar i) tb) (gIxV i db) := fun S σ H G Q d S' R e k => by
  unfold gIxV at e
  split at e
  · cases e
  · rename_i ds0 e0
    split at e
    · rename_i j S1 e1
      split at e
      · rename_i ds e2
        split at e
        · rename_i c e3
          cases e
          obtain ⟨a, _, h1, _⟩ := R.slotL e0
          refine ⟨.ref a, h1, hb S σ H G _ _ _ R e1 fun y G1 H1 s1 R1 r1 => ?_⟩
          obtain ⟨b, vs, h2, h3, h4⟩ := R1.slotL e2
          obtain rfl := slot_same h1 h2
          cases r1
          obtain ⟨v, g1, g2⟩ := rps_get h4 e3
          exact .inl ⟨_, _, _, v, rfl, rfl, h3, g1, k v G1 H1 s1 R1 g2⟩
        · cases e
      · cases e
    · cases e
def gLenV (i : Nat) : WMo D := fun S => match slotL S i with
  | some ds => some (.int ds.length, S)
  | none => none
theorem ok_lenV {i : Nat} : TDok F (tCB (fun xs H Q => ∃ x n, xs = [x] ∧ LenV F.K x H n ∧ Q (.int n) H) (tCons (tVar i) tNil)) (gLenV i) := fun S σ H G Q d S' R e k => by
  unfold gLenV at e
  split at e
  · rename_i ds e1
    cases e
    obtain ⟨a, vs, h1, h2, h3⟩ := R.slotL e1
    exact ⟨_, h1, _, _, rfl, .inl ⟨vs, h2, rfl⟩, by rw [h3.length]; exact k _ G H (Same.refl G) R (Rp.int _)⟩
  · cases e
def gListV (i : Nat) : WMo WRt := fun S => match slotL S i with
  | some ds => some (.own ds, S)
  | none => none
theorem ok_listV {i : Nat} : TEok F (tCB (fun xs H Q => ∃ p ys, xs = [.ref p] ∧ (SqL F.K H p ys ∨ SqT F.K H p ys) ∧ ∀ l, H l = none → Q (.ref l) (upd H l (.lst ys))) (tCons (tVar i) tNil)) (gListV i) := fun S σ H G Q d S' R e k => by
  unfold gListV at e
  split at e
  · rename_i ds e1
    cases e
    obtain ⟨a, vs, h1, h2, h3⟩ := R.slotL e1
    refine ⟨_, h1, _, _, rfl, .inl h2, fun p hp => ?_⟩
    obtain ⟨R2, O⟩ := R.fresh hp h3
    exact k _ G _ (Same.refl G) R2 ⟨p, rfl, O⟩
  · cases e
/-! ### slices -/
def TOok (F : Fm) (t : TO) (g : WMo (Option Int)) : Prop := ∀ (S : WSt) (σ : L2.St) (H G : Hp) (Q : Option Int → Hp → Prop) (o : Option Int) (S' : WSt), Rl F G S σ H → g S = some (o, S') →
  (∀ G' H', Same G G' → Rl F G' S' σ H' → Q o H') → t σ H Q
def gPart (g : WMo D) : WMo (Option Int) := fun S => match g S with
  | some (.int i, S1) => some (some i, S1)
  | _ => none
def gNoPart : WMo (Option Int) := fun S => some (none, S)
theorem ok_part {t : TE} {g : WMo D} (h : TDok F t g) : TOok F (tPart t) (gPart g) := fun S σ H G Q o S' R e k => by
  unfold gPart at e
  split at e
  · rename_i i S1 e1
    cases e
    refine h S σ H G _ _ _ R e1 fun v G1 H1 s1 R1 r1 => ?_
    cases r1
    exact ⟨_, rfl, k G1 H1 s1 R1⟩
  · cases e
theorem ok_noPart : TOok F tNoPart gNoPart := fun S σ H G Q o S' R e k => by
  cases e
  exact k G H (Same.refl G) R
theorem cut_rps {K : PySem.W.Frag} {G : Hp} {vs : List V} {ds : List D} (h : Rps K G vs ds) (lo hi : Option Int) : Rps K G (cutV vs lo hi) (cutA ds lo hi) := by
  unfold cutV cutA
  rw [h.length]
  exact (h.drop _).take _
def gSl (ga : WMo D) (gl gh : WMo (Option Int)) : WMo WRt := fun S => match ga S with
  | some (.list ds, S1) => match gl S1 with
    | some (lo, S2) => match gh S2 with
      | some (hi, S3) => some (.own (cutA ds lo hi), S3)
      | none => none
    | none => none
  | _ => none
theorem ok_sl {ta : TE} {tl th : TO} {da : WMo D} {gl gh : WMo (Option Int)} (ha : TDok F ta da) (hl : TOok F tl gl) (hh : TOok F th gh) : TEok F (tSl (rSlL F.K) ta tl th) (gSl da gl gh) := fun S σ H G Q z S' R e k => by
  unfold gSl at e
  split at e
  · rename_i ds S1 e1
    split at e
    · rename_i lo S2 e2
      split at e
      · rename_i hi S3 e3
        cases e
        refine ha S σ H G _ _ _ R e1 fun x G1 H1 s1 R1 r1 => ?_
        refine hl S1 σ H1 G1 _ _ _ R1 e2 fun G2 H2 s2 R2 => ?_
        refine hh S2 σ H2 G2 _ _ _ R2 e3 fun G3 H3 s3 R3 => ?_
        cases r1 with | lst h1 h2 =>
        refine ⟨_, _, rfl, SqL.of (R3.sub _ _ (s3 _ _ (s2 _ _ h1))), fun p hp => ?_⟩
        obtain ⟨R4, O⟩ := R3.fresh hp (cut_rps ((h2.up s2).up s3) lo hi)
        exact k _ G3 _ ((s1.trans s2).trans s3) R4 ⟨p, rfl, O⟩
      · cases e
    · cases e
  · cases e
def gSlV (i : Nat) (gl gh : WMo (Option Int)) : WMo WRt := fun S => match slotL S i with
  | none => none
  | some _ => match gl S with
    | some (lo, S2) => match gh S2 with
      | some (hi, S3) => match slotL S3 i with
        | some ds => some (.own (cutA ds lo hi), S3)
        | none => none
      | none => none
    | none => none
theorem ok_slV {i : Nat} {tl th : TO} {gl gh : WMo (Option Int)} (hl : TOok F tl gl) (hh : TOok F th gh) : TEok F (tSl (rSlL F.K) (tVar i) tl th) (gSlV i gl gh) := fun S σ H G Q z S' R e k => by
  unfold gSlV at e
  split at e
  · cases e
  · rename_i ds0 e0
    split at e
    · rename_i lo S2 e2
      split at e
      · rename_i hi S3 e3
        split at e
        · rename_i ds e4
          cases e
          obtain ⟨a, _, h1, _⟩ := R.slotL e0
          refine ⟨.ref a, h1, hl S σ H G _ _ _ R e2 fun G2 H2 s2 R2 => ?_⟩
          refine hh S2 σ H2 G2 _ _ _ R2 e3 fun G3 H3 s3 R3 => ?_
          obtain ⟨b, vs, h2, h3, h4⟩ := R3.slotL e4
          obtain rfl := slot_same h1 h2
          refine ⟨_, _, rfl, h3, fun p hp => ?_⟩
          obtain ⟨R4, O⟩ := R3.fresh hp (cut_rps h4 lo hi)
          exact k _ G3 _ (s2.trans s3) R4 ⟨p, rfl, O⟩
        · cases e
      · cases e
    · cases e
def gRev (ga : WMo D) : WMo WRt := fun S => match ga S with
  | some (.list ds, S1) => some (.own ds.reverse, S1)
  | _ => none
theorem ok_rev {ta : TE} {da : WMo D} (ha : TDok F ta da) : TEok F (tRevL F.K ta) (gRev da) := fun S σ H G Q z S' R e k => by
  unfold gRev at e
  split at e
  · rename_i ds S1 e1
    cases e
    refine ha S σ H G _ _ _ R e1 fun x G1 H1 s1 R1 r1 => ?_
    cases r1 with | lst h1 h2 =>
    refine ⟨_, _, rfl, SqL.of (R1.sub _ _ h1), fun p hp => ?_⟩
    obtain ⟨R4, O⟩ := R1.fresh hp h2.reverse
    exact k _ G1 _ s1 R4 ⟨p, rfl, O⟩
  · cases e
/-! ### methods of a list of one's own -/
theorem ty_list {K : PySem.W.Frag} {H : Hp} {a : Addr} {xs : List V} (h : SqL K H a xs) : tyV K "list" (.ref a) H := .inl ⟨rfl, _, h⟩
def gApp (i : Nat) (da : WMo D) : WMo D := fun S => match S.env[i]? with
  | some (.own _) => match da S with
    | some (d, S1) => match S1.env[i]? with
      | some (.own ds) => if ds.length < sizeLine then some (.none, { S1 with env := S1.env.set i (.own (ds ++ [d])) }) else none
      | _ => none
    | none => none
  | _ => none
theorem Rl.ownL (R : Rl F G S σ H) {i : Nat} {ds : List D} (h : S.env[i]? = some (WSl.own ds)) : ∃ a vs, σ[i]? = some (some (V.ref a)) ∧ H a = some (.lst vs) ∧ Rps F.K G vs ds := by
  obtain ⟨a, vs, q1, q2, q3, q4, q5⟩ := R.owns i ds h
  exact ⟨a, vs, q1, q2, q5⟩
theorem ok_app {i : Nat} {ta : TE} {da : WMo D} (ha : TDok F ta da) : TDok F (tBM F.K "list" rAppend (tVar i) (tCons ta tNil)) (gApp i da) := fun S σ H G Q z S' R e k => by
  unfold gApp at e
  split at e
  · rename_i ds0 e0
    split at e
    · rename_i d S1 e1
      split at e
      · rename_i ds e2
        split at e
        · rename_i hz
          cases e
          obtain ⟨a, vs0, h1, h2, _⟩ := R.ownL e0
          refine ⟨.ref a, h1, ty_list (SqL.of h2), ?_⟩
          refine ha S σ H G _ _ _ R e1 fun x G1 H1 s1 R1 r1 => ?_
          obtain ⟨b, vs, g1, g2, g3⟩ := R1.ownL e2
          obtain rfl := slot_same h1 g1
          exact ⟨_, _, _, rfl, rfl, g2, by rw [g3.length]; exact hz, k _ G1 _ s1 (R1.write e2 g1 (g3.append (.cons r1 .nil))) .non⟩
        · cases e
      · cases e
    · cases e
  · cases e
def gPop (i : Nat) : WMo D := fun S => match S.env[i]? with
  | some (.own ds) => match ds[ds.length - 1]? with
    | some d => some (d, { S with env := S.env.set i (.own ds.dropLast) })
    | none => none
  | _ => none
theorem ok_pop {i : Nat} : TDok F (tBM0 F.K "list" rPop (tVar i)) (gPop i) := fun S σ H G Q z S' R e k => by
  unfold gPop at e
  split at e
  · rename_i ds e0
    split at e
    · rename_i d e1
      cases e
      obtain ⟨a, vs, h1, h2, h3⟩ := R.ownL e0
      obtain ⟨v, g1, g2⟩ := h3.get e1
      exact ⟨.ref a, h1, ty_list (SqL.of h2), _, _, v, rfl, rfl, h2, by rw [h3.length]; exact g1, k _ G _ (Same.refl G) (R.write e0 h1 h3.dropLast) g2⟩
    · cases e
  · cases e
def gExt (i : Nat) (da : WMo D) : WMo D := fun S => match S.env[i]? with
  | some (.own _) => match da S with
    | some (.list es, S1) => match S1.env[i]? with
      | some (.own ds) => if ds.length + es.length ≤ sizeLine then some (.none, { S1 with env := S1.env.set i (.own (ds ++ es)) }) else none
      | _ => none
    | _ => none
  | _ => none
theorem ok_ext {i : Nat} {ta : TE} {da : WMo D} (ha : TDok F ta da) : TDok F (tBM F.K "list" rExtend (tVar i) (tCons ta tNil)) (gExt i da) := fun S σ H G Q z S' R e k => by
  unfold gExt at e
  split at e
  · rename_i ds0 e0
    split at e
    · rename_i es S1 e1
      split at e
      · rename_i ds e2
        split at e
        · rename_i hz
          cases e
          obtain ⟨a, vs0, h1, h2, _⟩ := R.ownL e0
          refine ⟨.ref a, h1, ty_list (SqL.of h2), ?_⟩
          refine ha S σ H G _ _ _ R e1 fun x G1 H1 s1 R1 r1 => ?_
          obtain ⟨b, vs, g1, g2, g3⟩ := R1.ownL e2
          obtain rfl := slot_same h1 g1
          cases r1 with | lst q1 q2 =>
          exact ⟨_, _, _, _, rfl, rfl, g2, R1.sub _ _ q1, by rw [g3.length, q2.length]; exact hz, k _ G1 _ s1 (R1.write e2 g1 (g3.append q2)) .non⟩
        · cases e
      · cases e
    · cases e
  · cases e
end
end Wk

namespace Wk
open PySem PySem.Spec PyProof.Rows L2
/-! ### targets -/
def TGok (F : Fm) (t : TG) (g : WRt → WSt → Option WSt) : Prop := ∀ (S : WSt) (σ : L2.St) (H G : Hp) (v : V) (r : WRt) (S' : WSt) (Q : L2.St → Hp → Prop), Rl F G S σ H → RV F G S σ H v r → g r S = some S' →
  (∀ σ' G' H', Same G G' → Rl F G' S' σ' H' → Q σ' H') → t v σ H Q
def TGsok (F : Fm) (t : TGs) (g : List D → WSt → Option WSt) : Prop := ∀ (S : WSt) (σ : L2.St) (H G : Hp) (vs : List V) (ds : List D) (S' : WSt) (Q : L2.St → Hp → Prop), Rl F G S σ H → Rps F.K G vs ds → g ds S = some S' →
  (∀ σ' G' H', Same G G' → Rl F G' S' σ' H' → Q σ' H') → t vs σ H Q
def gtName (i : Nat) : WRt → WSt → Option WSt := fun r S => if i < S.env.length then some { S with env := S.env.set i r.slot } else none
def gtNil : List D → WSt → Option WSt := fun ds S => match ds with
  | [] => some S
  | _ => none
def gtCons (g : WRt → WSt → Option WSt) (gr : List D → WSt → Option WSt) : List D → WSt → Option WSt := fun ds S => match ds with
  | d :: ds => match g (.val d) S with
    | some S1 => gr ds S1
    | none => none
  | _ => none
def gtTup (n : Nat) (gr : List D → WSt → Option WSt) : WRt → WSt → Option WSt := fun r S => match r with
  | .val (.tuple ds) => if ds.length = n then gr ds S else none
  | _ => none
/-- x[k] = v, x a name that holds a list of one's own, or the one that is lent -/
def gtSetV (i : Nat) (dk : WMo D) : WRt → WSt → Option WSt := fun r S => match S.env[i]? with
  | some (.own _) => match dk S with
    | some (.int k, S1) => match S1.env[i]? with
      | some (.own ds) => match ixN ds.length k with
        | some j => some { S1 with env := S1.env.set i (.own (ds.set j r.data)) }
        | none => none
      | _ => none
    | _ => none
  | some .bor => match dk S with
    | some (.int k, S1) => match S1.env[i]? with
      | some .bor => match ixN S1.pot.length k with
        | some j => some { S1 with pot := S1.pot.set j r.data }
        | none => none
      | _ => none
    | _ => none
  | _ => none
section
variable {F : Fm}
theorem ok_gname (i : Nat) : TGok F (gName i) (gtName i) := fun S σ H G v r S' Q R rv e k => by
  unfold gtName at e
  split at e
  · rename_i hi
    cases e
    exact k _ G H (Same.refl G) (R.store rv (by rw [← R.len]; exact hi))
  · cases e
theorem ok_gnil : TGsok F L2.gNil gtNil := fun S σ H G vs ds S' Q R rs e k => by
  unfold gtNil at e
  split at e
  · cases e
    cases rs
    exact ⟨rfl, k _ G H (Same.refl G) R⟩
  · cases e
theorem ok_gcons {t : TG} {u : TGs} {g : WRt → WSt → Option WSt} {gr : List D → WSt → Option WSt} (h1 : TGok F t g) (h2 : TGsok F u gr) : TGsok F (L2.gCons t u) (gtCons g gr) := fun S σ H G vs ds S' Q R rs e k => by
  unfold gtCons at e
  split at e
  · rename_i d ds'
    split at e
    · rename_i S1 e1
      cases rs with | cons r1 r2 =>
      exact ⟨_, _, rfl, h1 S σ H G _ (.val d) S1 _ R r1 e1 fun σ1 G1 H1 s1 R1 => h2 S1 σ1 H1 G1 _ _ S' Q R1 (r2.up s1) e fun σ2 G2 H2 s2 R2 => k σ2 G2 H2 (s1.trans s2) R2⟩
    · cases e
  · cases e
theorem ok_gtup {n : Nat} {u : TGs} {gr : List D → WSt → Option WSt} (h : TGsok F u gr) : TGok F (L2.gTup F.K n u) (gtTup n gr) := fun S σ H G v r S' Q R rv e k => by
  unfold gtTup at e
  split at e
  · rename_i ds
    split at e
    · rename_i hn
      have rv' : Rp F.K G v (.tuple ds) := rv
      cases rv' with | tup h1 h2 =>
      exact ⟨_, _, rfl, same_tup R.sub h1, by rw [h2.length]; exact hn, h S σ H G _ ds S' Q R h2 e k⟩
    · cases e
  · cases e
theorem ok_gsetV {i : Nat} {tk : TE} {dk : WMo D} (hk : TDok F tk dk) : TGok F (gSub (tVar i) tk rSetL) (gtSetV i dk) := fun S σ H G v r S' Q R rv e k => by
  obtain ⟨G0, s0, R0, rp⟩ := R.freeze rv
  unfold gtSetV at e
  split at e
  · rename_i ds0 e0
    split at e
    · rename_i j S1 e1
      split at e
      · rename_i ds e2
        split at e
        · rename_i m e3
          cases e
          obtain ⟨a, vs0, h1, h2, _⟩ := R0.ownL e0
          refine ⟨.ref a, h1, hk S σ H G0 _ _ _ R0 e1 fun x G1 H1 s1 R1 r1 => ?_⟩
          obtain ⟨b, vs, g1, g2, g3⟩ := R1.ownL e2
          obtain rfl := slot_same h1 g1
          cases r1
          exact ⟨_, _, _, m, rfl, rfl, g2, by rw [g3.length]; exact e3, k _ G1 _ (s0.trans s1) (R1.write e2 g1 (Rps.set (rp.up s1) m g3))⟩
        · cases e
      · cases e
    · cases e
  · rename_i e0
    split at e
    · rename_i j S1 e1
      split at e
      · rename_i e2
        split at e
        · rename_i m e3
          cases e
          obtain ⟨a, p1, h1⟩ := R0.bors i e0
          refine ⟨.ref a, h1, hk S σ H G0 _ _ _ R0 e1 fun x G1 H1 s1 R1 r1 => ?_⟩
          obtain ⟨vs, g2, _, g3⟩ := R1.pot a p1
          cases r1
          exact ⟨_, _, _, m, rfl, rfl, g2, by rw [g3.length]; exact e3, k _ G1 _ (s0.trans s1) (R1.lend p1 (Rps.set (rp.up s1) m g3))⟩
        · cases e
      · cases e
    · cases e
  · cases e
end
/-! ### statements -/
inductive Fl where
  | nx | bk | ct
  | ret (r : WRt)
abbrev WMs := WSt → Option (Fl × WSt)
def FlOk (F : Fm) (G : Hp) (S' : WSt) (De : Ends) : Fl → Prop
  | .nx => ∀ σ' G' H', Same G G' → Rl F G' S' σ' H' → De.nx σ' H'
  | .bk => ∀ σ' G' H', Same G G' → Rl F G' S' σ' H' → De.bk σ' H'
  | .ct => ∀ σ' G' H', Same G G' → Rl F G' S' σ' H' → De.ct σ' H'
  | .ret r => ∀ v σ' G' H', Same G G' → Rl F G' S' σ' H' → RV F G' S' σ' H' v r → De.rt v H'
theorem FlOk.up {F : Fm} {G G' : Hp} {S' : WSt} {De : Ends} {f : Fl} (h : FlOk F G S' De f) (s : Same G G') : FlOk F G' S' De f := by
  cases f with
  | nx => exact fun σ' G2 H' s2 R => h σ' G2 H' (s.trans s2) R
  | bk => exact fun σ' G2 H' s2 R => h σ' G2 H' (s.trans s2) R
  | ct => exact fun σ' G2 H' s2 R => h σ' G2 H' (s.trans s2) R
  | ret r => exact fun v σ' G2 H' s2 R rv => h v σ' G2 H' (s.trans s2) R rv
def TSok (F : Fm) (t : TS) (g : WMs) : Prop := ∀ (S : WSt) (σ : L2.St) (H G : Hp) (De : Ends) (f : Fl) (S' : WSt), Rl F G S σ H → g S = some (f, S') → FlOk F G S' De f → t De σ H
def sNext : WMs := fun S => some (.nx, S)
def sSeq (a b : WMs) : WMs := fun S => match a S with
  | some (.nx, S1) => b S1
  | some (f, S1) => some (f, S1)
  | none => none
def sAsg (ge : WMo WRt) (gt : WRt → WSt → Option WSt) : WMs := fun S => match ge S with
  | some (r, S1) => match gt r S1 with
    | some S2 => some (.nx, S2)
    | none => none
  | none => none
def sPar (i j : Nat) (ga : WMo (List D)) : WMs := fun S => match ga S with
  | some ([d, e], S1) => if i < S1.env.length ∧ j < S1.env.length then some (.nx, { S1 with env := (S1.env.set i (.val d)).set j (.val e) }) else none
  | _ => none
def sIf (gc : WMo Bool) (a b : WMs) : WMs := fun S => match gc S with
  | some (true, S1) => a S1
  | some (false, S1) => b S1
  | none => none
def sRet (ge : WMo WRt) : WMs := fun S => match ge S with
  | some (r, S1) => some (.ret r, S1)
  | none => none
def sRetN : WMs := fun S => some (.ret (.val .none), S)
def sDrop (ge : WMo WRt) : WMs := fun S => match ge S with
  | some (_, S1) => some (.nx, S1)
  | none => none
def sNever : WMs := fun _ => none
def sBreak : WMs := fun S => some (.bk, S)
def sCont : WMs := fun S => some (.ct, S)
section
variable {F : Fm}
theorem ok_next : TSok F tNext sNext := fun S σ H G De f S' R e k => by
  cases e
  exact k σ G H (Same.refl G) R
theorem ok_break : TSok F tBreak sBreak := fun S σ H G De f S' R e k => by
  cases e
  exact k σ G H (Same.refl G) R
theorem ok_cont : TSok F tCont sCont := fun S σ H G De f S' R e k => by
  cases e
  exact k σ G H (Same.refl G) R
theorem ok_never : TSok F tNever sNever := fun S σ H G De f S' R e k => by cases e
theorem ok_seq {t u : TS} {a b : WMs} (h1 : TSok F t a) (h2 : TSok F u b) : TSok F (tSeq t u) (sSeq a b) := fun S σ H G De f S' R e k => by
  unfold sSeq at e
  split at e
  · rename_i S1 e1
    exact h1 S σ H G _ _ S1 R e1 fun σ1 G1 H1 s1 R1 => h2 S1 σ1 H1 G1 De f S' R1 e (k.up s1)
  · rename_i f1 S1 n e1
    cases e
    refine h1 S σ H G _ f _ R e1 ?_
    cases f with
    | nx => exact (n rfl).elim
    | bk => exact k
    | ct => exact k
    | ret r => exact k
  · cases e
theorem ok_asg {te : TE} {tg : TG} {ge : WMo WRt} {gt : WRt → WSt → Option WSt} (h1 : TEok F te ge) (h2 : TGok F tg gt) : TSok F (tAsg te tg) (sAsg ge gt) := fun S σ H G De f S' R e k => by
  unfold sAsg at e
  split at e
  · rename_i r S1 e1
    split at e
    · rename_i S2 e2
      cases e
      exact h1 S σ H G _ r S1 R e1 fun v G1 H1 s1 R1 rv => h2 S1 σ H1 G1 v r _ _ R1 rv e2 fun σ2 G2 H2 s2 R2 => k σ2 G2 H2 (s1.trans s2) R2
    · cases e
  · cases e
theorem ok_par {i j : Nat} {ta : TA} {ga : WMo (List D)} (h : TAok F ta ga) : TSok F (tPar i j ta) (sPar i j ga) := fun S σ H G De f S' R e k => by
  unfold sPar at e
  split at e
  · rename_i d d2 S1 e1
    split at e
    · rename_i hz
      cases e
      refine h S σ H G _ _ S1 R e1 fun vs G1 H1 s1 R1 rs => ?_
      cases rs with | cons r1 r2 =>
      cases r2 with | cons r2 r3 =>
      cases r3
      have l1 := R1.len
      have R2 := R1.store (r := .val d) r1 (i := i) (by omega)
      have R3 := R2.store (r := .val d2) r2 (i := j) (by rw [List.length_set]; omega)
      exact ⟨_, _, rfl, k _ G1 H1 s1 R3⟩
    · cases e
  · cases e
theorem ok_ifS {c : TT} {gc : WMo Bool} {t u : TS} {a b : WMs} (hc : TTok F c gc) (h1 : TSok F t a) (h2 : TSok F u b) : TSok F (tIfS c t u) (sIf gc a b) := fun S σ H G De f S' R e k => by
  unfold sIf at e
  split at e
  · rename_i S1 e1
    exact hc S σ H G _ _ S1 R e1 fun G1 H1 s1 R1 => iteT (h1 S1 σ H1 G1 De f S' R1 e (k.up s1))
  · rename_i S1 e1
    exact hc S σ H G _ _ S1 R e1 fun G1 H1 s1 R1 => iteF (h2 S1 σ H1 G1 De f S' R1 e (k.up s1))
  · cases e
theorem ok_ret {te : TE} {ge : WMo WRt} (h : TEok F te ge) : TSok F (tRet te) (sRet ge) := fun S σ H G De f S' R e k => by
  unfold sRet at e
  split at e
  · rename_i r S1 e1
    cases e
    exact h S σ H G _ r _ R e1 fun v G1 H1 s1 R1 rv => k v σ G1 H1 s1 R1 rv
  · cases e
theorem ok_retN : TSok F tRetN sRetN := fun S σ H G De f S' R e k => by
  cases e
  exact k .non σ G H (Same.refl G) R Rp.non
theorem ok_drop {te : TE} {ge : WMo WRt} (h : TEok F te ge) : TSok F (tDrop te) (sDrop ge) := fun S σ H G De f S' R e k => by
  unfold sDrop at e
  split at e
  · rename_i r S1 e1
    cases e
    exact h S σ H G _ r _ R e1 fun v G1 H1 s1 R1 rv => k σ G1 H1 s1 R1
  · cases e
end
/-! ### what is walked -/
structure ItOk (F : Fm) (J : It) (Gb : Hp) (ds : List D) : Prop where
  go : ∀ (i : Nat) (S : WSt) (σ : L2.St) (H G : Hp), i < ds.length → Same Gb G → Rl F G S σ H → J.go i H
  yld : ∀ (i : Nat) (d : D) (S : WSt) (σ : L2.St) (H G : Hp) (x : V) (H' : Hp), ds[i]? = some d → Same Gb G → Rl F G S σ H → J.yld i H x H' → ∃ G' o, Same G G' ∧ Rl F G' S σ H' ∧ Rp F.K G' x d ∧ (H' = H ∨ ∃ T, H T = none ∧ H' = upd H T o)
  stop : ∀ (i : Nat) (S : WSt) (σ : L2.St) (H G : Hp), ds.length ≤ i → Same Gb G → Rl F G S σ H → J.stop i H
/-- the iterator serves whatever frame -/
def TIok (F : Fm) (t : TI) (g : WMo (List D)) : Prop := ∀ (S : WSt) (σ : L2.St) (H G : Hp) (R : It → Hp → Prop) (ds : List D) (S' : WSt), Rl F G S σ H → g S = some (ds, S') →
  (∀ J G' H', Same G G' → Rl F G' S' σ H' → (∀ F2 : Fm, F2.K = F.K → ItOk F2 J G' ds) → R J H') → t σ H R
def gItL (da : WMo D) : WMo (List D) := fun S => match da S with
  | some (.list ds, S1) => some (ds, S1)
  | _ => none
def gItT (da : WMo D) : WMo (List D) := fun S => match da S with
  | some (.tuple ds, S1) => some (ds, S1)
  | _ => none
def rngD (lo : Int) (n : Nat) : List D := (List.range n).map fun i => .int (lo + (i : Nat))
def gRng1 (ga : WMo (List D)) : WMo (List D) := fun S => match ga S with
  | some ([.int j], S1) => if -(2 ^ 62) ≤ j ∧ j < 2 ^ 62 then some (rngD 0 j.toNat, S1) else none
  | _ => none
def gRng2 (ga : WMo (List D)) : WMo (List D) := fun S => match ga S with
  | some ([.int i, .int j], S1) => if -(2 ^ 62) ≤ i ∧ i < 2 ^ 62 ∧ -(2 ^ 62) ≤ j ∧ j < 2 ^ 62 then some (rngD i (j - i).toNat, S1) else none
  | _ => none
def enumD (k : Nat) : List D → List D
  | [] => []
  | d :: ds => .tuple [.int (k : Nat), d] :: enumD (k + 1) ds
def gEnum (ga : WMo (List D)) : WMo (List D) := fun S => match ga S with
  | some ([.list ds], S1) => some (enumD 0 ds, S1)
  | _ => none
def zipD : List D → List D → List D
  | d :: ds, e :: es => .tuple [d, e] :: zipD ds es
  | _, _ => []
def gZip (ga : WMo (List D)) : WMo (List D) := fun S => match ga S with
  | some ([.list ds, .list es], S1) => some (zipD ds es, S1)
  | _ => none
theorem rngD_len (lo : Int) (n : Nat) : (rngD lo n).length = n := by unfold rngD; rw [List.length_map, List.length_range]
theorem rngD_get {lo : Int} {n i : Nat} {d : D} (h : (rngD lo n)[i]? = some d) : d = .int (lo + (i : Nat)) := by
  unfold rngD at h
  rw [List.getElem?_map] at h
  cases q : (List.range n)[i]? with
  | none => rw [q] at h; cases h
  | some j =>
    rw [q] at h
    have : j = i := by
      rw [List.getElem?_eq_some_iff] at q
      obtain ⟨h1, h2⟩ := q
      rw [List.getElem_range] at h2
      exact h2.symm
    subst this
    cases h; rfl
theorem enumD_len : ∀ (ds : List D) (k : Nat), (enumD k ds).length = ds.length
  | [], _ => rfl
  | d :: ds, k => congrArg Nat.succ (enumD_len ds (k + 1))
theorem enumD_get : ∀ {ds : List D} {k i : Nat} {d : D}, (enumD k ds)[i]? = some d → ∃ e, ds[i]? = some e ∧ d = .tuple [.int ((k + i : Nat) : Int), e]
  | [], _, _, _, h => by simp [enumD] at h
  | d0 :: ds, k, 0, d, h => by
    have : PyData.tuple [.int (k : Nat), d0] = d := by simpa [enumD] using h
    exact ⟨d0, rfl, this.symm⟩
  | d0 :: ds, k, i + 1, d, h => by
    have h' : (enumD (k + 1) ds)[i]? = some d := by simpa [enumD] using h
    obtain ⟨e, h1, h2⟩ := enumD_get h'
    exact ⟨e, by simpa using h1, by rw [h2]; congr 3; omega⟩
theorem zipD_len : ∀ (ds es : List D), (zipD ds es).length = min ds.length es.length
  | [], es => by simp [zipD]
  | d :: ds, [] => by simp [zipD]
  | d :: ds, e :: es => by simp only [zipD, List.length_cons, zipD_len ds es]; omega
theorem zipD_get : ∀ {ds es : List D} {i : Nat} {d : D}, (zipD ds es)[i]? = some d → ∃ a b, ds[i]? = some a ∧ es[i]? = some b ∧ d = .tuple [a, b]
  | [], _, _, _, h => by simp [zipD] at h
  | _ :: _, [], _, _, h => by simp [zipD] at h
  | a :: ds, b :: es, 0, d, h => by
    have : PyData.tuple [a, b] = d := by simpa [zipD] using h
    exact ⟨a, b, rfl, rfl, this.symm⟩
  | a :: ds, b :: es, i + 1, d, h => by
    have h' : (zipD ds es)[i]? = some d := by simpa [zipD] using h
    obtain ⟨x, y, h1, h2, h3⟩ := zipD_get h'
    exact ⟨x, y, by simpa using h1, by simpa using h2, h3⟩
section
variable {F : Fm}
theorem it_list {K : PySem.W.Frag} {Gb : Hp} {a : Addr} {xs : List V} {ds : List D} (h : Gb a = some (.lst xs)) (r : Rps K Gb xs ds) (F2 : Fm) (hk : F2.K = K) : ItOk F2 (Itl K a) Gb ds := by
  subst hk
  have l := r.length
  have sq : ∀ {S σ H G}, Same Gb G → Rl F2 G S σ H → SqL F2.K H a xs := fun s R => SqL.of (R.sub _ _ (s _ _ h))
  refine ⟨fun i S σ H G hi s R => ?_, fun i d S σ H G x H' hd s R y => ?_, fun i S σ H G hi s R => ⟨xs, sq s R, by omega⟩⟩
  · have hi' : i < xs.length := by omega
    exact ⟨xs, _, sq s R, List.getElem?_eq_getElem hi'⟩
  · obtain ⟨rfl, y⟩ := y
    obtain ⟨v, h1, h2⟩ := r.get hd
    have e := y xs (sq s R)
    rw [h1] at e; cases e
    exact ⟨G, .lst [], Same.refl G, R, h2.up s, .inl rfl⟩
theorem it_tup {K : PySem.W.Frag} {Gb : Hp} {a : Addr} {xs : List V} {ds : List D} (h : SqT K Gb a xs) (r : Rps K Gb xs ds) (F2 : Fm) (hk : F2.K = K) : ItOk F2 (Itt K a) Gb ds := by
  subst hk
  have l := r.length
  have sq : ∀ {S σ H G}, Same Gb G → Rl F2 G S σ H → SqT F2.K H a xs := fun s R => same_tup (s.trans R.sub) h
  refine ⟨fun i S σ H G hi s R => ?_, fun i d S σ H G x H' hd s R y => ?_, fun i S σ H G hi s R => ⟨xs, sq s R, by omega⟩⟩
  · have hi' : i < xs.length := by omega
    exact ⟨xs, _, sq s R, List.getElem?_eq_getElem hi'⟩
  · obtain ⟨rfl, y⟩ := y
    obtain ⟨v, h1, h2⟩ := r.get hd
    have e := y xs (sq s R)
    rw [h1] at e; cases e
    exact ⟨G, .lst [], Same.refl G, R, h2.up s, .inl rfl⟩
theorem it_rng {Gb : Hp} (lo : Int) (n : Nat) (F2 : Fm) : ItOk F2 (Itr lo n) Gb (rngD lo n) := by
  refine ⟨fun i S σ H G hi s R => by rw [rngD_len] at hi; exact hi, fun i d S σ H G x H' hd s R y => ?_, fun i S σ H G hi s R => by rw [rngD_len] at hi; exact hi⟩
  obtain ⟨rfl, rfl⟩ := y
  rw [rngD_get hd]
  exact ⟨G, .lst [], Same.refl G, R, .int _, .inl rfl⟩
theorem it_enum {K : PySem.W.Frag} {Gb : Hp} {a : Addr} {xs : List V} {ds : List D} (h : Gb a = some (.lst xs)) (r : Rps K Gb xs ds) (F2 : Fm) (hk : F2.K = K) : ItOk F2 (Ite K a) Gb (enumD 0 ds) := by
  subst hk
  have l := r.length
  have sq : ∀ {S σ H G}, Same Gb G → Rl F2 G S σ H → SqL F2.K H a xs := fun s R => SqL.of (R.sub _ _ (s _ _ h))
  refine ⟨fun i S σ H G hi s R => ?_, fun i d S σ H G x H' hd s R y => ?_, fun i S σ H G hi s R => ⟨xs, sq s R, by rw [enumD_len] at hi; omega⟩⟩
  · rw [enumD_len] at hi
    have hi' : i < xs.length := by omega
    exact ⟨xs, _, sq s R, List.getElem?_eq_getElem hi'⟩
  · obtain ⟨T, z, rfl, hT, rfl, y⟩ := y
    obtain ⟨e, h1, rfl⟩ := enumD_get hd
    obtain ⟨v, h2, h3⟩ := r.get h1
    have e2 := y xs (sq s R)
    rw [h2] at e2
    obtain rfl := Option.some.inj e2
    have gT := R.gfree hT
    refine ⟨_, .tup [.int (i : Nat), v], same_upd gT, R.alloc hT, .tup (SqT.of upd_same) (.cons ?_ (.cons ((h3.up s).up (same_upd gT)) .nil)), .inr ⟨T, hT, rfl⟩⟩
    rw [Nat.zero_add]
    exact .int _
theorem it_zip {K : PySem.W.Frag} {Gb : Hp} {a b : Addr} {xs ys : List V} {ds es : List D} (h : Gb a = some (.lst xs)) (r : Rps K Gb xs ds) (h' : Gb b = some (.lst ys)) (r' : Rps K Gb ys es) (F2 : Fm) (hk : F2.K = K) : ItOk F2 (Itz K a b) Gb (zipD ds es) := by
  subst hk
  have l := r.length
  have l' := r'.length
  have sq : ∀ {S σ H G}, Same Gb G → Rl F2 G S σ H → SqL F2.K H a xs := fun s R => SqL.of (R.sub _ _ (s _ _ h))
  have sq' : ∀ {S σ H G}, Same Gb G → Rl F2 G S σ H → SqL F2.K H b ys := fun s R => SqL.of (R.sub _ _ (s _ _ h'))
  refine ⟨fun i S σ H G hi s R => ?_, fun i d S σ H G x H' hd s R y => ?_, fun i S σ H G hi s R => ⟨xs, ys, sq s R, sq' s R, by rw [zipD_len] at hi; omega⟩⟩
  · rw [zipD_len] at hi
    have h1 : i < xs.length := by omega
    have h2 : i < ys.length := by omega
    exact ⟨xs, ys, _, _, sq s R, sq' s R, List.getElem?_eq_getElem h1, List.getElem?_eq_getElem h2⟩
  · obtain ⟨T, z, z', rfl, hT, rfl, y, y'⟩ := y
    obtain ⟨e, e', h1, h1', rfl⟩ := zipD_get hd
    obtain ⟨v, h2, h3⟩ := r.get h1
    obtain ⟨v', h2', h3'⟩ := r'.get h1'
    have e2 := y xs (sq s R)
    rw [h2] at e2
    obtain rfl := Option.some.inj e2
    have e2' := y' ys (sq' s R)
    rw [h2'] at e2'
    obtain rfl := Option.some.inj e2'
    have gT := R.gfree hT
    exact ⟨_, .tup [v, v'], same_upd gT, R.alloc hT, .tup (SqT.of upd_same) (.cons ((h3.up s).up (same_upd gT)) (.cons ((h3'.up s).up (same_upd gT)) .nil)), .inr ⟨T, hT, rfl⟩⟩
theorem ok_iList {t : TE} {da : WMo D} (h : TDok F t da) : TIok F (iList F.K t) (gItL da) := fun S σ H G R ds S' R0 e k => by
  unfold gItL at e
  split at e
  · rename_i ds' S1 e1
    cases e
    refine h S σ H G _ _ _ R0 e1 fun x G1 H1 s1 R1 r1 => ?_
    cases r1 with | lst h1 h2 =>
    exact ⟨_, rfl, ⟨_, SqL.of (R1.sub _ _ h1)⟩, k _ G1 H1 s1 R1 fun F2 hk => it_list h1 h2 F2 hk⟩
  · cases e
theorem ok_iTup {t : TE} {da : WMo D} (h : TDok F t da) : TIok F (iTup F.K t) (gItT da) := fun S σ H G R ds S' R0 e k => by
  unfold gItT at e
  split at e
  · rename_i ds' S1 e1
    cases e
    refine h S σ H G _ _ _ R0 e1 fun x G1 H1 s1 R1 r1 => ?_
    cases r1 with | tup h1 h2 =>
    exact ⟨_, rfl, ⟨_, same_tup R1.sub h1⟩, k _ G1 H1 s1 R1 fun F2 hk => it_tup h1 h2 F2 hk⟩
  · cases e
theorem ok_iRng1 {t : TA} {ga : WMo (List D)} (h : TAok F t ga) : TIok F (iRng1 t) (gRng1 ga) := fun S σ H G R ds S' R0 e k => by
  unfold gRng1 at e
  split at e
  · rename_i j S1 e1
    split at e
    · rename_i hz
      cases e
      refine h S σ H G _ _ _ R0 e1 fun x G1 H1 s1 R1 r1 => ?_
      cases r1 with | cons r1 r2 =>
      cases r2; cases r1
      exact ⟨_, rfl, hz.1, hz.2, k _ G1 H1 s1 R1 fun F2 _ => it_rng 0 _ F2⟩
    · cases e
  · cases e
theorem ok_iRng2 {t : TA} {ga : WMo (List D)} (h : TAok F t ga) : TIok F (iRng2 t) (gRng2 ga) := fun S σ H G R ds S' R0 e k => by
  unfold gRng2 at e
  split at e
  · rename_i i j S1 e1
    split at e
    · rename_i hz
      cases e
      refine h S σ H G _ _ _ R0 e1 fun x G1 H1 s1 R1 r1 => ?_
      cases r1 with | cons r1 r2 =>
      cases r2 with | cons r2 r3 =>
      cases r3; cases r1; cases r2
      exact ⟨_, _, rfl, hz, k _ G1 H1 s1 R1 fun F2 _ => it_rng i _ F2⟩
    · cases e
  · cases e
theorem ok_iEnum {t : TA} {ga : WMo (List D)} (h : TAok F t ga) : TIok F (iEnum F.K t) (gEnum ga) := fun S σ H G R ds S' R0 e k => by
  unfold gEnum at e
  split at e
  · rename_i ds' S1 e1
    cases e
    refine h S σ H G _ _ _ R0 e1 fun x G1 H1 s1 R1 r1 => ?_
    cases r1 with | cons r1 r2 =>
    cases r2
    cases r1 with | lst h1 h2 =>
    exact ⟨_, _, rfl, SqL.of (R1.sub _ _ h1), k _ G1 H1 s1 R1 fun F2 hk => it_enum h1 h2 F2 hk⟩
  · cases e
theorem ok_iZip {t : TA} {ga : WMo (List D)} (h : TAok F t ga) : TIok F (iZip F.K t) (gZip ga) := fun S σ H G R ds S' R0 e k => by
  unfold gZip at e
  split at e
  · rename_i ds' es' S1 e1
    cases e
    refine h S σ H G _ _ _ R0 e1 fun x G1 H1 s1 R1 r1 => ?_
    cases r1 with | cons r1 r2 =>
    cases r2 with | cons r2 r3 =>
    cases r3
    cases r1 with | lst h1 h2 =>
    cases r2 with | lst h3 h4 =>
    exact ⟨_, _, _, _, rfl, SqL.of (R1.sub _ _ h1), SqL.of (R1.sub _ _ h3), k _ G1 H1 s1 R1 fun F2 hk => it_zip h1 h2 h3 h4 F2 hk⟩
  · cases e
end
end Wk

namespace Wk
open PySem PySem.Spec PyProof.Rows L2
/-! ### for -/
def sForL (gt : WRt → WSt → Option WSt) (gb : WMs) : List D → WMs
  | [], S => some (.nx, S)
  | d :: ds, S => match gt (.val d) S with
    | none => none
    | some S1 => match gb S1 with
      | some (.nx, S2) => sForL gt gb ds S2
      | some (.ct, S2) => sForL gt gb ds S2
      | some (.bk, S2) => some (.nx, S2)
      | some (.ret r, S2) => some (.ret r, S2)
      | none => none
def sFor (gi : WMo (List D)) (gt : WRt → WSt → Option WSt) (gb : WMs) : WMs := fun S => match gi S with
  | some (ds, S1) => sForL gt gb ds S1
  | none => none
def sWhL (gc : WMo Bool) (gb : WMs) : Nat → WMs
  | 0, _ => none
  | n + 1, S => match gc S with
    | none => none
    | some (false, S1) => some (.nx, S1)
    | some (true, S1) => match gb S1 with
      | some (.nx, S2) => sWhL gc gb n S2
      | some (.ct, S2) => sWhL gc gb n S2
      | some (.bk, S2) => some (.nx, S2)
      | some (.ret r, S2) => some (.ret r, S2)
      | none => none
def sWhile (fuel : WSt → Nat) (gc : WMo Bool) (gb : WMs) : WMs := fun S => sWhL gc gb (fuel S) S
section
variable {F : Fm}
theorem ok_for {wi : TI} {g : TG} {tb : TS} {gi : WMo (List D)} {gt : WRt → WSt → Option WSt} {gb : WMs} (hi : TIok F wi gi) (hg : TGok F g gt) (hb : TSok F tb gb) : TSok F (tFor wi g tb) (sFor gi gt gb) := fun S σ H G De f S' R e k => by
  unfold sFor at e
  split at e
  · rename_i ds S1 e1
    refine hi S σ H G _ ds S1 R e1 fun J G1 H1 s1 R1 ok => ?_
    have it := ok F rfl
    refine ⟨fun i m σ2 H2 => ∃ G2 S2, Same G1 G2 ∧ Rl F G2 S2 σ2 H2 ∧ i ≤ ds.length ∧ m = ds.length - i ∧ sForL gt gb (ds.drop i) S2 = some (f, S'), ⟨ds.length, G1, S1, Same.refl _, R1, Nat.zero_le _, rfl, e⟩, fun i m σ2 H2 w => ?_⟩
    obtain ⟨G2, S2, s2, R2, hle, rfl, e2⟩ := w
    by_cases hlt : i < ds.length
    · refine .inr ⟨it.go i S2 σ2 H2 G2 hlt s2 R2, ?_⟩
      rw [List.drop_eq_getElem_cons hlt] at e2
      unfold sForL at e2
      split at e2
      · cases e2
      · rename_i S3 e3
        split at e2
        · rename_i S4 e4
          refine ⟨fun σ' H' => ∃ G4, Same G1 G4 ∧ Rl F G4 S4 σ' H', fun σ' H' ⟨G4, s4, R4⟩ => ⟨ds.length - (i + 1), by omega, G4, S4, s4, R4, hlt, rfl, e2⟩, fun x H' y => ?_⟩
          obtain ⟨G3, o, s3, R3, r3, _⟩ := it.yld i _ S2 σ2 H2 G2 x H' (List.getElem?_eq_getElem hlt) s2 R2 y
          exact hg S2 σ2 H' G3 x (.val ds[i]) S3 _ R3 r3 e3 fun σ5 G5 H5 s5 R5 => hb S3 σ5 H5 G5 _ _ _ R5 e4 fun σ6 G6 H6 s6 R6 => ⟨G6, (((s2.trans s3).trans s5).trans s6), R6⟩
        · rename_i S4 e4
          refine ⟨fun σ' H' => ∃ G4, Same G1 G4 ∧ Rl F G4 S4 σ' H', fun σ' H' ⟨G4, s4, R4⟩ => ⟨ds.length - (i + 1), by omega, G4, S4, s4, R4, hlt, rfl, e2⟩, fun x H' y => ?_⟩
          obtain ⟨G3, o, s3, R3, r3, _⟩ := it.yld i _ S2 σ2 H2 G2 x H' (List.getElem?_eq_getElem hlt) s2 R2 y
          exact hg S2 σ2 H' G3 x (.val ds[i]) S3 _ R3 r3 e3 fun σ5 G5 H5 s5 R5 => hb S3 σ5 H5 G5 _ _ _ R5 e4 fun σ6 G6 H6 s6 R6 => ⟨G6, (((s2.trans s3).trans s5).trans s6), R6⟩
        · rename_i S4 e4
          cases e2
          refine ⟨fun _ _ => False, fun _ _ z => z.elim, fun x H' y => ?_⟩
          obtain ⟨G3, o, s3, R3, r3, _⟩ := it.yld i _ S2 σ2 H2 G2 x H' (List.getElem?_eq_getElem hlt) s2 R2 y
          exact hg S2 σ2 H' G3 x (.val ds[i]) S3 _ R3 r3 e3 fun σ5 G5 H5 s5 R5 => hb S3 σ5 H5 G5 _ _ _ R5 e4 fun σ6 G6 H6 s6 R6 => k σ6 G6 H6 ((((s1.trans s2).trans s3).trans s5).trans s6) R6
        · rename_i r S4 e4
          cases e2
          refine ⟨fun _ _ => False, fun _ _ z => z.elim, fun x H' y => ?_⟩
          obtain ⟨G3, o, s3, R3, r3, _⟩ := it.yld i _ S2 σ2 H2 G2 x H' (List.getElem?_eq_getElem hlt) s2 R2 y
          exact hg S2 σ2 H' G3 x (.val ds[i]) S3 _ R3 r3 e3 fun σ5 G5 H5 s5 R5 => hb S3 σ5 H5 G5 _ _ _ R5 e4 fun v σ6 G6 H6 s6 R6 rv => k v σ6 G6 H6 ((((s1.trans s2).trans s3).trans s5).trans s6) R6 rv
        · cases e2
    · refine .inl ⟨it.stop i S2 σ2 H2 G2 (by omega) s2 R2, ?_⟩
      rw [List.drop_eq_nil_of_le (by omega)] at e2
      unfold sForL at e2
      cases e2
      exact k σ2 G2 H2 (s1.trans s2) R2
  · cases e
theorem ok_while {fuel : WSt → Nat} {c : TT} {tb : TS} {gc : WMo Bool} {gb : WMs} (hc : TTok F c gc) (hb : TSok F tb gb) : TSok F (tWhile c tb) (sWhile fuel gc gb) := fun S σ H G De f S' R e k => by
  unfold sWhile at e
  refine ⟨fun m σ2 H2 => ∃ G2 S2, Same G G2 ∧ Rl F G2 S2 σ2 H2 ∧ sWhL gc gb m S2 = some (f, S'), ⟨_, G, S, Same.refl _, R, e⟩, fun m σ2 H2 w => ?_⟩
  obtain ⟨G2, S2, s2, R2, e2⟩ := w
  cases m with
  | zero => cases e2
  | succ n =>
    unfold sWhL at e2
    split at e2
    · cases e2
    · rename_i S3 e3
      cases e2
      exact hc S2 σ2 H2 G2 _ _ _ R2 e3 fun G3 H3 s3 R3 => iteF (k σ2 G3 H3 (s2.trans s3) R3)
    · rename_i S3 e3
      refine hc S2 σ2 H2 G2 _ _ _ R2 e3 fun G3 H3 s3 R3 => iteT ?_
      split at e2
      · rename_i S4 e4
        refine ⟨fun σ' H' => ∃ G4, Same G G4 ∧ Rl F G4 S4 σ' H', fun σ' H' ⟨G4, s4, R4⟩ => ⟨n, Nat.lt_succ_self _, G4, S4, s4, R4, e2⟩, ?_⟩
        exact hb S3 σ2 H3 G3 _ _ _ R3 e4 fun σ6 G6 H6 s6 R6 => ⟨G6, ((s2.trans s3).trans s6), R6⟩
      · rename_i S4 e4
        refine ⟨fun σ' H' => ∃ G4, Same G G4 ∧ Rl F G4 S4 σ' H', fun σ' H' ⟨G4, s4, R4⟩ => ⟨n, Nat.lt_succ_self _, G4, S4, s4, R4, e2⟩, ?_⟩
        exact hb S3 σ2 H3 G3 _ _ _ R3 e4 fun σ6 G6 H6 s6 R6 => ⟨G6, ((s2.trans s3).trans s6), R6⟩
      · rename_i S4 e4
        cases e2
        refine ⟨fun _ _ => False, fun _ _ z => z.elim, ?_⟩
        exact hb S3 σ2 H3 G3 _ _ _ R3 e4 fun σ6 G6 H6 s6 R6 => k σ6 G6 H6 ((s2.trans s3).trans s6) R6
      · rename_i r S4 e4
        cases e2
        refine ⟨fun _ _ => False, fun _ _ z => z.elim, ?_⟩
        exact hb S3 σ2 H3 G3 _ _ _ R3 e4 fun v σ6 G6 H6 s6 R6 rv => k v σ6 G6 H6 ((s2.trans s3).trans s6) R6 rv
      · cases e2
end
/-! ### comprehensions -/
def wipeE (l : List WSl) : List Nat → List WSl
  | [] => l
  | v :: vs => (wipeE l vs).set v .un
def WSt.wipe (S : WSt) (vs : List Nat) : WSt := { S with env := wipeE S.env vs }
theorem wipeE_len (l : List WSl) : ∀ vs : List Nat, (wipeE l vs).length = l.length
  | [] => rfl
  | v :: vs => by
    show ((wipeE l vs).set v .un).length = l.length
    rw [List.length_set, wipeE_len l vs]
theorem wipeE_get {l : List WSl} {i : Nat} {s : WSl} : ∀ {vs : List Nat}, (wipeE l vs)[i]? = some s → s ≠ .un → l[i]? = some s ∧ i ∉ vs
  | [], h, _ => ⟨h, by simp⟩
  | v :: vs, h, n => by
    have h' : ((wipeE l vs).set v .un)[i]? = some s := h
    rcases getElem?_set_some h' with ⟨rfl, e⟩ | ⟨ne, e⟩
    · exact absurd e.symm n
    · obtain ⟨h1, h2⟩ := wipeE_get (vs := vs) e n
      exact ⟨h1, by simp only [List.mem_cons, not_or]; exact ⟨fun z => ne z.symm, h2⟩⟩
theorem wipe_keep {σ : L2.St} {i : Nat} : ∀ {vs : List Nat}, i ∉ vs → (wipe σ vs)[i]? = σ[i]?
  | [], _ => rfl
  | v :: vs, h => by
    simp only [List.mem_cons, not_or] at h
    show ((wipe σ vs).set v none)[i]? = σ[i]?
    rw [List.getElem?_set_ne (fun z => h.1 z.symm), wipe_keep h.2]
theorem wipe_at {j : Nat} : ∀ (σ : L2.St) (vs : List Nat), j ∈ vs → (wipe σ vs)[j]? = if j < σ.length then some none else none := by
  intro σ vs
  induction vs with
  | nil => intro h; cases h
  | cons v vs ih =>
    intro h
    show ((wipe σ vs).set v none)[j]? = _
    by_cases e : v = j
    · subst e
      rw [List.getElem?_set_self']
      by_cases hl : v < σ.length
      · rw [if_pos hl, List.getElem?_eq_getElem (by rw [wipe_length]; exact hl)]; rfl
      · rw [if_neg hl, List.getElem?_eq_none (by rw [wipe_length]; omega)]; rfl
    · rw [List.getElem?_set_ne e]
      exact ih ((List.mem_cons.mp h).resolve_left fun z => e z.symm)
theorem wipe_wipe (σ : L2.St) (l : List Nat) : wipe (wipe σ l) l = wipe σ l := by
  apply List.ext_getElem?
  intro j
  by_cases hj : j ∈ l
  · rw [wipe_at _ _ hj, wipe_at _ _ hj, wipe_length]
  · rw [wipe_keep hj]
theorem wipe_set {σ : L2.St} {i : Nat} {x : Option V} : ∀ {vs : List Nat}, i ∈ vs → wipe (σ.set i x) vs = wipe σ vs := by
  intro vs hm
  apply List.ext_getElem?
  intro j
  by_cases hj : j ∈ vs
  · rw [wipe_at _ _ hj, wipe_at _ _ hj, List.length_set]
  · rw [wipe_keep hj, wipe_keep hj]
    exact List.getElem?_set_ne fun z => hj (by rw [← z]; exact hm)
section
variable {F : Fm} {G : Hp} {S : WSt} {σ : L2.St} {H : Hp}
theorem Rl.wipe (R : Rl F G S σ H) (vs : List Nat) : Rl F G (S.wipe vs) (L2.wipe σ vs) H where
  sub := R.sub
  g0 := R.g0
  new := R.new
  keep := R.keep
  pa := R.pa
  len := by
    show (wipeE S.env vs).length = _
    rw [wipeE_len, wipe_length]; exact R.len
  vals := fun i d e => by
    obtain ⟨h1, h2⟩ := wipeE_get e (fun z => nomatch z)
    rw [wipe_keep h2]; exact R.vals i d h1
  owns := fun i d e => by
    obtain ⟨h1, h2⟩ := wipeE_get e (fun z => nomatch z)
    rw [wipe_keep h2]; exact R.owns i d h1
  bors := fun i e => by
    obtain ⟨h1, h2⟩ := wipeE_get e (fun z => nomatch z)
    rw [wipe_keep h2]; exact R.bors i h1
  pins := fun i e => by
    obtain ⟨h1, h2⟩ := wipeE_get e (fun z => nomatch z)
    rw [wipe_keep h2]; exact R.pins i h1
  apart := fun i j ds es a ne e1 e2 => by
    obtain ⟨h1, h2⟩ := wipeE_get e1 (fun z => nomatch z)
    obtain ⟨h3, h4⟩ := wipeE_get e2 (fun z => nomatch z)
    rw [wipe_keep h2, wipe_keep h4]; exact R.apart i j ds es a ne h1 h3
  pot := R.pot
/-- from any slots that agree where the state knows something -/
theorem Rl.slots (R : Rl F G S σ H) {σ' : L2.St} (hl : σ'.length = σ.length) (h : ∀ (i : Nat) (s : WSl), S.env[i]? = some s → s ≠ .un → σ'[i]? = σ[i]?) : Rl F G S σ' H where
  sub := R.sub
  g0 := R.g0
  new := R.new
  keep := R.keep
  pa := R.pa
  len := by rw [hl]; exact R.len
  vals := fun i d e => by rw [h i _ e (fun z => nomatch z)]; exact R.vals i d e
  owns := fun i d e => by rw [h i _ e (fun z => nomatch z)]; exact R.owns i d e
  bors := fun i e => by rw [h i _ e (fun z => nomatch z)]; exact R.bors i e
  pins := fun i e => by rw [h i _ e (fun z => nomatch z)]; exact R.pins i e
  apart := fun i j ds es a ne e1 e2 => by rw [h i _ e1 (fun z => nomatch z), h j _ e2 (fun z => nomatch z)]; exact R.apart i j ds es a ne e1 e2
  pot := R.pot
/-- a list at D that no name holds, no data tells of -/
structure Apt (F : Fm) (G : Hp) (S : WSt) (σ : L2.St) (a : Addr) : Prop where
  gn : G a = none
  hn : F.H0 a = none
  ap : ∀ (i : Nat) (es : List D), S.env[i]? = some (WSl.own es) → σ[i]? ≠ some (some (V.ref a))
theorem Rl.poke (R : Rl F G S σ H) {a : Addr} (h : Apt F G S σ a) (o : HO) : Rl F G S σ (upd H a o) where
  sub := fun b x e => by
    have : b ≠ a := fun z => by rw [z, h.gn] at e; cases e
    rw [upd_ne this]; exact R.sub b x e
  g0 := R.g0
  new := R.new
  keep := fun b x e n => by
    have : b ≠ a := fun z => by rw [z, h.hn] at e; cases e
    rw [upd_ne this]; exact R.keep b x e n
  pa := R.pa
  len := R.len
  vals := R.vals
  owns := fun i ds e => by
    obtain ⟨b, vs, q1, q2, q3, q4, q5⟩ := R.owns i ds e
    have : b ≠ a := fun z => h.ap i ds e (z ▸ q1)
    exact ⟨b, vs, q1, by rw [upd_ne this]; exact q2, q3, q4, q5⟩
  bors := R.bors
  pins := R.pins
  apart := R.apart
  pot := fun b e => by
    obtain ⟨vs, h1, h2⟩ := R.pot b e
    have : b ≠ a := fun z => R.pa b e (z ▸ h.hn)
    exact ⟨vs, by rw [upd_ne this]; exact h1, h2⟩
/-- the frame that keeps D too -/
def Fm.hold (F : Fm) (a : Addr) (o : HO) : Fm := { F with H0 := upd F.H0 a o }
theorem Rl.hold (R : Rl F G S σ H) {a : Addr} {o : HO} (h : Apt F G S σ a) (ha : H a = some o) : Rl (F.hold a o) G S σ H where
  sub := R.sub
  g0 := R.g0
  new := fun b e => by
    have : b ≠ a := fun z => e (z ▸ h.gn)
    rcases R.new b e with z | z
    · exact .inl z
    · exact .inr (by show upd F.H0 a o b = none; rw [upd_ne this]; exact z)
  keep := fun b x e n => by
    have e' : upd F.H0 a o b = some x := e
    by_cases z : b = a
    · subst z; rw [upd_same] at e'; cases e'; exact ha
    · rw [upd_ne z] at e'; exact R.keep b x e' n
  pa := fun b e => by
    show upd F.H0 a o b ≠ none
    by_cases z : b = a
    · subst z; rw [upd_same]; simp
    · rw [upd_ne z]; exact R.pa b e
  len := R.len
  vals := R.vals
  owns := fun i ds e => by
    obtain ⟨b, vs, q1, q2, q3, q4, q5⟩ := R.owns i ds e
    have : b ≠ a := fun z => h.ap i ds e (z ▸ q1)
    exact ⟨b, vs, q1, q2, q3, by show upd F.H0 a o b = none; rw [upd_ne this]; exact q4, q5⟩
  bors := R.bors
  pins := R.pins
  apart := R.apart
  pot := R.pot
/-- back: what was held is as it was -/
theorem Rl.unhold {F : Fm} {G : Hp} {S : WSt} {σ : L2.St} {H : Hp} {a : Addr} {o : HO} (R : Rl (F.hold a o) G S σ H) (hn : F.H0 a = none) (hg : F.G0 a = none) (np : F.PA ≠ some a) : Rl F G S σ H ∧ Apt F G S σ a ∧ H a = some o := by
  have h0 : ∀ b, b ≠ a → upd F.H0 a o b = F.H0 b := fun b z => upd_ne z
  have ga : G a = none := by
    cases q : G a with
    | none => rfl
    | some x =>
      rcases R.new a (by rw [q]; simp) with z | z
      · exact absurd hg z
      · have z' : upd F.H0 a o a = none := z
        rw [upd_same] at z'; cases z'
  refine ⟨?_, ⟨ga, hn, fun i es e q => ?_⟩, R.keep a o (by show upd F.H0 a o a = some o; exact upd_same) np⟩
  · exact
    { sub := R.sub
      g0 := R.g0
      new := fun b e => by
        have nb : b ≠ a := fun z => e (z ▸ ga)
        rcases R.new b e with z | z
        · exact .inl z
        · exact .inr ((h0 b nb).symm.trans z)
      keep := fun b x e n => by
        have nb : b ≠ a := fun z => by rw [z, hn] at e; cases e
        exact R.keep b x ((h0 b nb).trans e) n
      pa := fun b e => by
        have nb : b ≠ a := fun z => np (z ▸ e)
        have := R.pa b e
        exact fun z => this ((h0 b nb).trans z)
      len := R.len
      vals := R.vals
      owns := fun i ds e => by
        obtain ⟨b, vs, q1, q2, q3, q4, q5⟩ := R.owns i ds e
        have nb : b ≠ a := fun z => by
          have q4' : upd F.H0 a o b = none := q4
          rw [z, upd_same] at q4'; cases q4'
        exact ⟨b, vs, q1, q2, q3, (h0 b nb).symm.trans q4, q5⟩
      bors := R.bors
      pins := R.pins
      apart := R.apart
      pot := R.pot }
  · obtain ⟨b, vs, q1, q2, q3, q4, q5⟩ := R.owns i es e
    have : b = a := slot_same q1 q
    subst this
    have q4' : upd F.H0 b o b = none := q4
    rw [upd_same] at q4'; cases q4'
end
/-- a comprehension's target: names of its own -/
def TCok (F : Fm) (vs : List Nat) (t : TG) (g : WRt → WSt → Option WSt) : Prop := ∀ (S : WSt) (σ : L2.St) (H G : Hp) (v : V) (d : D) (S' : WSt) (Q : L2.St → Hp → Prop), Rl F G S σ H → Rp F.K G v d → g (.val d) S = some S' →
  (∀ σ', L2.wipe σ' vs = L2.wipe σ vs → Rl F G S' σ' H → Q σ' H) → t v σ H Q
def TCsok (F : Fm) (vs : List Nat) (t : TGs) (g : List D → WSt → Option WSt) : Prop := ∀ (S : WSt) (σ : L2.St) (H G : Hp) (xs : List V) (ds : List D) (S' : WSt) (Q : L2.St → Hp → Prop), Rl F G S σ H → Rps F.K G xs ds → g ds S = some S' →
  (∀ σ', L2.wipe σ' vs = L2.wipe σ vs → Rl F G S' σ' H → Q σ' H) → t xs σ H Q
section
variable {F : Fm} {vs : List Nat}
theorem ok_cname {i : Nat} (hi : i ∈ vs) : TCok F vs (gName i) (gtName i) := fun S σ H G v d S' Q R rv e k => by
  unfold gtName at e
  split at e
  · rename_i hl
    cases e
    exact k _ (wipe_set hi) (R.store (r := .val d) rv (by rw [← R.len]; exact hl))
  · cases e
theorem ok_cnil : TCsok F vs L2.gNil gtNil := fun S σ H G xs ds S' Q R rs e k => by
  unfold gtNil at e
  split at e
  · cases e
    cases rs
    exact ⟨rfl, k _ rfl R⟩
  · cases e
theorem ok_ccons {t : TG} {u : TGs} {g : WRt → WSt → Option WSt} {gr : List D → WSt → Option WSt} (h1 : TCok F vs t g) (h2 : TCsok F vs u gr) : TCsok F vs (L2.gCons t u) (gtCons g gr) := fun S σ H G xs ds S' Q R rs e k => by
  unfold gtCons at e
  split at e
  · rename_i d ds'
    split at e
    · rename_i S1 e1
      cases rs with | cons r1 r2 =>
      exact ⟨_, _, rfl, h1 S σ H G _ d S1 _ R r1 e1 fun σ1 w1 R1 => h2 S1 σ1 H G _ _ S' Q R1 r2 e fun σ2 w2 R2 => k σ2 (w2.trans w1) R2⟩
    · cases e
  · cases e
theorem ok_ctup {n : Nat} {u : TGs} {gr : List D → WSt → Option WSt} (h : TCsok F vs u gr) : TCok F vs (L2.gTup F.K n u) (gtTup n gr) := fun S σ H G v d S' Q R rv e k => by
  unfold gtTup at e
  split at e
  · rename_i r ds q
    cases q
    split at e
    · rename_i hn
      cases rv with | tup h1 h2 =>
      exact ⟨_, _, rfl, same_tup R.sub h1, by rw [h2.length]; exact hn, h S σ H G _ ds S' Q R h2 e k⟩
    · cases e
  · cases e
end
def gYes : WMo Bool := fun S => some (true, S)
theorem ok_yes {F : Fm} : TTok F tYes gYes := fun S σ H G Q b S' R e k => by
  cases e
  exact k G H (Same.refl G) R
def gLcL (vs : List Nat) (gt : WRt → WSt → Option WSt) (gc : WMo Bool) (ge : WMo D) : List D → WSt → Option (List D × WSt)
  | [], S => some ([], S)
  | d :: ds, S => match gt (.val d) S with
    | none => none
    | some S1 => match gc S1 with
      | none => none
      | some (false, S2) => gLcL vs gt gc ge ds (S2.wipe vs)
      | some (true, S2) => match ge S2 with
        | none => none
        | some (e, S3) => match gLcL vs gt gc ge ds (S3.wipe vs) with
          | some (es, S4) => some (e :: es, S4)
          | none => none
def gLc (vs : List Nat) (gi : WMo (List D)) (gt : WRt → WSt → Option WSt) (gc : WMo Bool) (ge : WMo D) : WMo WRt := fun S => match gi S with
  | none => none
  | some (ds, S1) => if ds.length ≤ sizeLine then match gLcL vs gt gc ge ds (S1.wipe vs) with
    | some (es, S2) => some (.own es, S2.wipe vs)
    | none => none
    else none
theorem ok_lc {F : Fm} {vs : List Nat} {wi : TI} {g : TG} {tt : TT} {te : TE} {gi : WMo (List D)} {gt : WRt → WSt → Option WSt} {gc : WMo Bool} {ge : WMo D} (hi : TIok F wi gi)
    (hg : ∀ H0, TCok { F with H0 := H0 } vs g gt) (ht : ∀ H0, TTok { F with H0 := H0 } tt gc) (he : ∀ H0, TDok { F with H0 := H0 } te ge) : TEok F (tLc wi g tt te vs) (gLc vs gi gt gc ge) := fun S σ H G Q r S' R e k => by
  unfold gLc at e
  split at e
  · cases e
  · rename_i ds S1 e1
    split at e
    · rename_i hz
      split at e
      · rename_i es S2 e2
        cases e
        refine hi S σ H G _ ds S1 R e1 fun J G1 H1 s1 R1 ok => fun Da hDa => ?_
        have g1 : G1 Da = none := R1.gfree hDa
        have h0 : F.H0 Da = none := R1.free hDa
        have g0 : F.G0 Da = none := R1.g0.free g1
        have npa : F.PA ≠ some Da := R1.pane h0
        have ap1 : Apt F G1 S1 σ Da := ⟨g1, h0, R1.ownNe hDa⟩
        have wap : ∀ {G : Hp} {S : WSt} {σ : L2.St}, Apt F G S σ Da → Apt F G (S.wipe vs) (L2.wipe σ vs) Da := fun A => ⟨A.gn, A.hn, fun i es e q => by
          obtain ⟨q1, q2⟩ := wipeE_get e (fun z => nomatch z)
          rw [wipe_keep q2] at q
          exact A.ap i es q1 q⟩
        refine ⟨fun i m H2 => ∃ G2 S3 acc va, Same G1 G2 ∧ Rl F G2 S3 (L2.wipe σ vs) H2 ∧ H2 Da = some (.lst va) ∧ Rps F.K G2 va acc ∧ Apt F G2 S3 (L2.wipe σ vs) Da ∧ acc.length ≤ i ∧ i ≤ ds.length ∧ m = ds.length - i ∧
            ∃ es', gLcL vs gt gc ge (ds.drop i) S3 = some (es', S2) ∧ acc ++ es' = es, ⟨ds.length, G1, S1.wipe vs, [], [], Same.refl _, (R1.wipe vs).poke (wap ap1) _, upd_same, .nil, wap ap1, Nat.zero_le _, Nat.zero_le _, rfl, es, e2, rfl⟩, fun i m H2 w => ?_⟩
        obtain ⟨G2, S3, acc, va, s2, R2, hD, ra, A2, ha, hle, rfl, es', e3, e4⟩ := w
        have la := ra.length
        by_cases hlt : i < ds.length
        · have R2h := R2.hold A2 hD
          have it := ok F rfl
          have ith := ok (F.hold Da (.lst va)) rfl
          refine .inr ⟨it.go i S3 _ H2 G2 hlt s2 R2, ?_⟩
          rw [List.drop_eq_getElem_cons hlt] at e3
          unfold gLcL at e3
          split at e3
          · cases e3
          · rename_i S4 e5
            split at e3
            · cases e3
            · rename_i S5 e6
              -- left out
              refine ⟨fun H' => ∃ G4, Same G1 G4 ∧ Rl F G4 (S5.wipe vs) (L2.wipe σ vs) H' ∧ H' Da = some (.lst va) ∧ Rps F.K G4 va acc ∧ Apt F G4 (S5.wipe vs) (L2.wipe σ vs) Da,
                fun H' ⟨G4, s4, R4, d4, r4, a4⟩ => ⟨ds.length - (i + 1), by omega, G4, S5.wipe vs, acc, va, s4, R4, d4, r4, a4, by omega, hlt, rfl, es', e3, e4⟩, fun x H' y => ?_⟩
              obtain ⟨G3, o, s3, R3, r3, _⟩ := ith.yld i _ S3 _ H2 G2 x H' (List.getElem?_eq_getElem hlt) s2 R2h y
              refine hg _ S3 _ H' G3 x _ S4 _ R3 r3 e5 fun σ6 w6 R6 => ?_
              rw [wipe_wipe] at w6
              refine ⟨w6, ht _ S4 σ6 H' G3 _ _ _ R6 e6 fun G7 H7 s7 R7 => iteF ?_⟩
              obtain ⟨R8, A8, d8⟩ := R7.unhold h0 g0 npa
              have R9 := R8.wipe vs
              have A9 := wap A8
              rw [w6] at R9 A9
              exact ⟨G7, (s2.trans s3).trans s7, R9, d8, (ra.up s3).up s7, A9⟩
            · rename_i S5 e6
              split at e3
              · cases e3
              · rename_i d S6 e7
                split at e3
                · rename_i es2 S7 e8
                  cases e3
                  refine ⟨fun H' => ∃ G4 vd, Same G1 G4 ∧ Rl F G4 (S6.wipe vs) (L2.wipe σ vs) H' ∧ H' Da = some (.lst (va ++ [vd])) ∧ Rps F.K G4 (va ++ [vd]) (acc ++ [d]) ∧ Apt F G4 (S6.wipe vs) (L2.wipe σ vs) Da,
                    fun H' ⟨G4, vd, s4, R4, d4, r4, a4⟩ => ⟨ds.length - (i + 1), by omega, G4, S6.wipe vs, acc ++ [d], va ++ [vd], s4, R4, d4, r4, a4, by rw [List.length_append]; show acc.length + 1 ≤ i + 1; omega, hlt, rfl, es2, e8, by rw [← e4]; simp⟩, fun x H' y => ?_⟩
                  obtain ⟨G3, o, s3, R3, r3, _⟩ := ith.yld i _ S3 _ H2 G2 x H' (List.getElem?_eq_getElem hlt) s2 R2h y
                  refine hg _ S3 _ H' G3 x _ S4 _ R3 r3 e5 fun σ6 w6 R6 => ?_
                  rw [wipe_wipe] at w6
                  refine ⟨w6, ht _ S4 σ6 H' G3 _ _ _ R6 e6 fun G7 H7 s7 R7 => iteT ?_⟩
                  refine he _ S5 σ6 H7 G7 _ _ _ R7 e7 fun vd G8 H8 s8 R8 r8 => ?_
                  obtain ⟨R9, A9, d9⟩ := R8.unhold h0 g0 npa
                  refine ⟨va, d9, by omega, ?_⟩
                  have R10 := (R9.poke A9 (.lst (va ++ [vd]))).wipe vs
                  have A10 := wap A9
                  rw [w6] at R10 A10
                  exact ⟨G8, vd, ((s2.trans s3).trans s7).trans s8, R10, upd_same, (((ra.up s3).up s7).up s8).append (.cons r8 .nil), A10⟩
                · cases e3
        · have it := ok F rfl
          refine .inl ⟨it.stop i S3 _ H2 G2 (by omega) s2 R2, ?_⟩
          rw [List.drop_eq_nil_of_le (by omega)] at e3
          unfold gLcL at e3
          cases e3
          rw [List.append_nil] at e4
          subst e4
          have un : ∀ (i : Nat) (s : WSl), (S2.wipe vs).env[i]? = some s → s ≠ .un → σ[i]? = (L2.wipe σ vs)[i]? := fun i s e n => by
            obtain ⟨_, q2⟩ := wipeE_get e n
            rw [wipe_keep q2]
          have R3 : Rl F G2 (S2.wipe vs) σ H2 := by
            have z := R2.wipe vs
            refine z.slots (by rw [wipe_length, wipe_length]) fun i s e n => ?_
            obtain ⟨_, q2⟩ := wipeE_get e n
            rw [wipe_keep q2, wipe_keep q2]
          refine k (.ref Da) G2 H2 (s1.trans s2) R3 ⟨Da, rfl, ⟨va, hD, ra⟩, A2.gn, A2.hn, fun i es e q => ?_⟩
          obtain ⟨q1, q2⟩ := wipeE_get e (fun z => nomatch z)
          rw [← wipe_keep (vs := vs) q2] at q
          exact A2.ap i es q1 q
      · cases e
    · cases e
/-! ### a, b = e1, e2, where lists of one's own stay so -/
def sPar2 (i j : Nat) (ga gb : WMo WRt) : WMs := fun S => match ga S with
  | some (r1, S1) => match gb S1 with
    | some (r2, S2) => if i < S2.env.length ∧ j < S2.env.length ∧ i ≠ j then some (.nx, { S2 with env := (S2.env.set i r1.slot).set j r2.slot }) else none
    | none => none
  | none => none
theorem ok_par2 {F : Fm} {i j : Nat} {ta tb : TE} {ga gb : WMo WRt} (ha : TEok F ta ga) (hb : ∀ H0, TEok { F with H0 := H0 } tb gb) : TSok F (tPar i j (tCons ta (tCons tb tNil))) (sPar2 i j ga gb) := fun S σ H G De f S' R e k => by
  unfold sPar2 at e
  split at e
  · rename_i r1 S1 e1
    split at e
    · rename_i r2 S2 e2
      split at e
      · rename_i hz
        cases e
        refine ha S σ H G _ _ _ R e1 fun x G1 H1 s1 R1 rv1 => ?_
        cases r1 with
        | val d1 =>
          refine hb F.H0 S1 σ H1 G1 _ _ _ R1 e2 fun y G2 H2 s2 R2 rv2 => ?_
          have l2 := R2.len
          have rv1' : RV F G2 S2 σ H2 x (.val d1) := Rp.up rv1 s2
          have R3 := R2.store rv1' (i := i) (by omega)
          have rv2' : RV F G2 { S2 with env := S2.env.set i (WSl.val d1) } (σ.set i (some x)) H2 y r2 := by
            cases r2 with
            | val d2 => exact rv2
            | own ds =>
              obtain ⟨b, rfl, O⟩ := rv2
              refine ⟨b, rfl, O.at_, O.gn, O.hn, fun m es em q => ?_⟩
              rcases getElem?_set_some em with ⟨rfl, eN⟩ | ⟨ne, eN⟩
              · cases eN
              · rw [List.getElem?_set_ne ne] at q
                exact O.ap m es eN q
          have R4 := R3.store rv2' (i := j) (by rw [List.length_set]; omega)
          exact ⟨_, _, rfl, k _ G2 H2 (s1.trans s2) R4⟩
        | own ds1 =>
          obtain ⟨a, rfl, O⟩ := rv1
          obtain ⟨vs, o1, o2⟩ := O.at_
          have A1 : Apt F G1 S1 σ a := ⟨O.gn, O.hn, O.ap⟩
          have Rh := R1.hold A1 o1
          refine hb (upd F.H0 a (.lst vs)) S1 σ H1 G1 _ _ _ Rh e2 fun y G2 H2 s2 R2h rv2 => ?_
          obtain ⟨R2, A2, h2⟩ := Rl.unhold (F := F) R2h O.hn (R1.g0.free O.gn) (R1.pane O.hn)
          have l2 := R2.len
          have rv1' : RV F G2 S2 σ H2 (.ref a) (.own ds1) := ⟨a, rfl, ⟨vs, h2, o2.up s2⟩, A2.gn, A2.hn, A2.ap⟩
          have R3 := R2.store rv1' (i := i) (by omega)
          have rv2' : RV F G2 { S2 with env := S2.env.set i (WSl.own ds1) } (σ.set i (some (V.ref a))) H2 y r2 := by
            cases r2 with
            | val d2 => exact rv2
            | own ds =>
              obtain ⟨b, rfl, O2⟩ := rv2
              have hb0 : upd F.H0 a (.lst vs) b = none := O2.hn
              have nb : b ≠ a := fun z => by rw [z, upd_same] at hb0; cases hb0
              rw [upd_ne nb] at hb0
              refine ⟨b, rfl, O2.at_, O2.gn, hb0, fun m es em q => ?_⟩
              rcases getElem?_set_some em with ⟨rfl, eN⟩ | ⟨ne, eN⟩
              · rw [List.getElem?_set_self (by omega)] at q
                injection q with q; injection q with q; injection q with q
                exact nb q.symm
              · rw [List.getElem?_set_ne ne] at q
                exact O2.ap m es eN q
          have R4 := R3.store rv2' (i := j) (by rw [List.length_set]; omega)
          exact ⟨_, _, rfl, k _ G2 H2 (s1.trans s2) R4⟩
      · cases e
    · cases e
  · cases e
end Wk

namespace Wk
open PySem PySem.Spec PyProof.Rows L2
/-! ### what a def promises -/
/-- a def's plain function: the lent list (if there is one), the arguments; the value, the lent list behind it -/
abbrev Fn := List D → List D → Option (WRt × List D)
def RVf (K : PySem.W.Frag) (H G' H' : Hp) (v : V) : WRt → Prop
  | .val d => Rp K G' v d
  | .own ds => ∃ a ws, v = .ref a ∧ H' a = some (.lst ws) ∧ G' a = none ∧ H a = none ∧ Rps K G' ws ds
def PotOk (K : PySem.W.Frag) (PA : Option Addr) (G H : Hp) (pd : List D) : Prop := ∀ a, PA = some a → ∃ ws, H a = some (.lst ws) ∧ G a = none ∧ Rps K G ws pd
def HeadIs (pp : Bool) (PA : Option Addr) (vs vs' : List V) : Prop := match pp with
  | true => ∃ a, PA = some a ∧ vs = .ref a :: vs'
  | false => PA = none ∧ vs = vs'
structure Back (K : PySem.W.Frag) (PA : Option Addr) (G H G' H' : Hp) (pd' : List D) : Prop where
  gg : Same G G'
  sub : Same G' H'
  keep : ∀ b o, H b = some o → PA ≠ some b → H' b = some o
  new : ∀ b, G' b ≠ none → G b ≠ none ∨ H b = none
  pot : PotOk K PA G' H' pd'
def spM (K : PySem.W.Frag) (pp : Bool) (np : Nat) (m : Fn) : Sp := fun vs H Q _ => vs.length = np ∧ ∃ (G : Hp) (PA : Option Addr) (pd ds : List D) (vs' : List V) (r : WRt) (pd' : List D),
  Same G H ∧ HeadIs pp PA vs vs' ∧ PotOk K PA G H pd ∧ Rps K G vs' ds ∧ m pd ds = some (r, pd') ∧ ∀ v G' H', Back K PA G H G' H' pd' → RVf K H G' H' v r → Q v H'
theorem spM_len {K : PySem.W.Frag} {pp : Bool} {np : Nat} {m : Fn} {vs : List V} {H : Hp} {Q : VK} {E : XK} (h : spM K pp np m vs H Q E) : vs.length = np := h.1
section
variable {F : Fm} {G : Hp} {S : WSt} {σ : L2.St} {H : Hp}
/-- behind a call that was lent nothing -/
theorem Rl.back (R : Rl F G S σ H) {G' H' : Hp} {pd' : List D} (B : Back F.K none G H G' H' pd') : Rl F G' S σ H' where
  sub := B.sub
  g0 := R.g0.trans B.gg
  new := fun b e => by
    rcases B.new b e with z | z
    · exact R.new b z
    · exact .inr (R.free z)
  keep := fun b o e n => B.keep b o (R.keep b o e n) (fun z => nomatch z)
  pa := R.pa
  len := R.len
  vals := fun i d e => by
    obtain ⟨v, h1, h2⟩ := R.vals i d e
    exact ⟨v, h1, h2.up B.gg⟩
  owns := fun i ds e => by
    obtain ⟨a, vs, q1, q2, q3, q4, q5⟩ := R.owns i ds e
    refine ⟨a, vs, q1, B.keep a _ q2 (fun z => nomatch z), ?_, q4, q5.up B.gg⟩
    cases q : G' a with
    | none => rfl
    | some o =>
      rcases B.new a (by rw [q]; simp) with z | z
      · exact absurd q3 z
      · rw [q2] at z; cases z
  bors := R.bors
  pins := R.pins
  apart := R.apart
  pot := fun a e => by
    obtain ⟨vs, h1, h2, h3⟩ := R.pot a e
    refine ⟨vs, B.keep a _ h1 (fun z => nomatch z), ?_, h3.up B.gg⟩
    cases q : G' a with
    | none => rfl
    | some o =>
      rcases B.new a (by rw [q]; simp) with z | z
      · exact absurd h2 z
      · rw [h1] at z; cases z
theorem rv_of {F : Fm} {G : Hp} {S : WSt} {σ : L2.St} {H : Hp} (R : Rl F G S σ H) {G' H' : Hp} {v : V} {r : WRt} (h : RVf F.K H G' H' v r) : RV F G' S σ H' v r := by
  cases r with
  | val d => exact h
  | own ds =>
    obtain ⟨a, ws, rfl, h1, h2, h3, h4⟩ := h
    exact ⟨a, rfl, ⟨ws, h1, h4⟩, h2, R.free h3, R.ownNe h3⟩
/-- behind a call that was lent the list of the slot i -/
theorem Rl.backOwn (R : Rl F G S σ H) {i : Nat} {a : Addr} {ds : List D} (hi : S.env[i]? = some (WSl.own ds)) (ha : σ[i]? = some (some (V.ref a))) {G' H' : Hp} {pd' : List D} (B : Back F.K (some a) G H G' H' pd') :
    Rl F G' { S with env := S.env.set i (.own pd') } σ H' := by
  obtain ⟨a', vs, q1, q2, q3, q4, q5⟩ := R.owns i ds hi
  obtain rfl := slot_same ha q1
  obtain ⟨ws, w1, w2, w3⟩ := B.pot a rfl
  have ga : ∀ b, H b ≠ none → G b = none → G' b = none := fun b h1 h2 => by
    cases q : G' b with
    | none => rfl
    | some o =>
      rcases B.new b (by rw [q]; simp) with z | z
      · exact absurd h2 z
      · exact absurd z h1
  exact
  { sub := B.sub
    g0 := R.g0.trans B.gg
    new := fun b e => by
      rcases B.new b e with z | z
      · exact R.new b z
      · exact .inr (R.free z)
    keep := fun b o e n => by
      have : b ≠ a := fun z => by rw [z, q4] at e; cases e
      exact B.keep b o (R.keep b o e n) (fun z => this (Option.some.inj z).symm)
    pa := R.pa
    len := by simpa using R.len
    vals := fun j d e => by
      rcases getElem?_set_some e with ⟨rfl, eN⟩ | ⟨ne, eN⟩
      · cases eN
      · obtain ⟨v, h1, h2⟩ := R.vals j d eN
        exact ⟨v, h1, h2.up B.gg⟩
    owns := fun j es e => by
      rcases getElem?_set_some e with ⟨rfl, eN⟩ | ⟨ne, eN⟩
      · cases eN
        exact ⟨a, ws, ha, w1, w2, q4, w3⟩
      · obtain ⟨b, us, p1, p2, p3, p4, p5⟩ := R.owns j es eN
        have : b ≠ a := fun z => R.apart i j ds es a ne hi eN ha (z ▸ p1)
        exact ⟨b, us, p1, B.keep b _ p2 (fun z => this (Option.some.inj z).symm), ga b (by rw [p2]; simp) p3, p4, p5.up B.gg⟩
    bors := fun j e => by
      rcases getElem?_set_some e with ⟨rfl, eN⟩ | ⟨ne, eN⟩
      · cases eN
      · exact R.bors j eN
    pins := fun j e => by
      rcases getElem?_set_some e with ⟨rfl, eN⟩ | ⟨ne, eN⟩
      · cases eN
      · exact R.pins j eN
    apart := fun j k ds1 es1 b ne e1 e2 s1 => by
      have f : ∀ (j : Nat) (es1 : List D), (S.env.set i (.own pd'))[j]? = some (WSl.own es1) → ∃ es2, S.env[j]? = some (WSl.own es2) := fun j es1 e => by
        rcases getElem?_set_some e with ⟨rfl, eN⟩ | ⟨ne, eN⟩
        · exact ⟨ds, hi⟩
        · exact ⟨_, eN⟩
      obtain ⟨_, f1⟩ := f j _ e1
      obtain ⟨_, f2⟩ := f k _ e2
      exact R.apart j k _ _ b ne f1 f2 s1
    pot := fun b e => by
      obtain ⟨us, p1, p2, p3⟩ := R.pot b e
      have : b ≠ a := fun z => R.pa b e (z ▸ q4)
      exact ⟨us, B.keep b _ p1 (fun z => this (Option.some.inj z).symm), ga b (by rw [p1]; simp) p2, p3.up B.gg⟩ }
/-- behind a call that was lent what was lent here -/
theorem Rl.backBor (R : Rl F G S σ H) {a : Addr} (ha : F.PA = some a) {G' H' : Hp} {pd' : List D} (B : Back F.K (some a) G H G' H' pd') : Rl F G' { S with pot := pd' } σ H' := by
  obtain ⟨ws, w1, w2, w3⟩ := B.pot a rfl
  have ga : ∀ b, H b ≠ none → G b = none → G' b = none := fun b h1 h2 => by
    cases q : G' b with
    | none => rfl
    | some o =>
      rcases B.new b (by rw [q]; simp) with z | z
      · exact absurd h2 z
      · exact absurd z h1
  exact
  { sub := B.sub
    g0 := R.g0.trans B.gg
    new := fun b e => by
      rcases B.new b e with z | z
      · exact R.new b z
      · exact .inr (R.free z)
    keep := fun b o e n => by
      have : b ≠ a := fun z => n (z ▸ ha)
      exact B.keep b o (R.keep b o e n) (fun z => this (Option.some.inj z).symm)
    pa := R.pa
    len := R.len
    vals := fun j d e => by
      obtain ⟨v, h1, h2⟩ := R.vals j d e
      exact ⟨v, h1, h2.up B.gg⟩
    owns := fun j es e => by
      obtain ⟨b, us, p1, p2, p3, p4, p5⟩ := R.owns j es e
      have : b ≠ a := fun z => R.pa a ha (z ▸ p4)
      exact ⟨b, us, p1, B.keep b _ p2 (fun z => this (Option.some.inj z).symm), ga b (by rw [p2]; simp) p3, p4, p5.up B.gg⟩
    bors := R.bors
    pins := R.pins
    apart := R.apart
    pot := fun b e => by
      have : b = a := by rw [ha] at e; exact (Option.some.inj e).symm
      subst this
      exact ⟨ws, w1, w2, w3⟩ }
end
/-! ### calls -/
def gCall (m : Fn) (ga : WMo (List D)) : WMo WRt := fun S => match ga S with
  | some (ds, S1) => match m [] ds with
    | some (r, _) => some (r, S1)
    | none => none
  | none => none
/-- f(x, ..), x a name that holds a list of one's own, or the one that is lent -/
def gCallP (m : Fn) (i : Nat) (ga : WMo (List D)) : WMo WRt := fun S => match S.env[i]? with
  | some (.own _) => match ga S with
    | some (ds, S1) => match S1.env[i]? with
      | some (.own pd) => match m pd ds with
        | some (r, pd') => some (r, { S1 with env := S1.env.set i (.own pd') })
        | none => none
      | _ => none
    | none => none
  | some .bor => match ga S with
    | some (ds, S1) => match S1.env[i]? with
      | some .bor => match m S1.pot ds with
        | some (r, pd') => some (r, { S1 with pot := pd' })
        | none => none
      | _ => none
    | none => none
  | _ => none
/-- f(g(..), ..), a fresh list lent -/
def gCallT (m : Fn) (g1 : WMo WRt) : WMo WRt := fun S => match g1 S with
  | some (.own pd, S1) => match m pd [] with
    | some (.val d, _) => some (.val d, S1)
    | _ => none
  | _ => none
def pick {α : Type} (idx : List Nat) (l : List α) : List α := idx.filterMap (l[·]?)
def gCallK (m : Fn) (idx : List Nat) (ga gk : WMo (List D)) : WMo WRt := fun S => match ga S with
  | some (ds, S1) => match gk S1 with
    | some (es, S2) => match m [] (pick idx (ds ++ es)) with
      | some (r, _) => some (r, S2)
      | none => none
    | none => none
  | none => none
theorem pick_rps {K : PySem.W.Frag} {G : Hp} {vs : List V} {ds : List D} (h : Rps K G vs ds) : ∀ idx : List Nat, Rps K G (pick idx vs) (pick idx ds)
  | [] => .nil
  | i :: idx => by
    unfold pick
    rw [List.filterMap_cons, List.filterMap_cons]
    cases q : ds[i]? with
    | none =>
      have : vs[i]? = none := by
        rw [List.getElem?_eq_none_iff] at q ⊢
        rw [h.length]; exact q
      rw [this]
      exact pick_rps h idx
    | some d =>
      obtain ⟨v, h1, h2⟩ := h.get q
      rw [h1]
      exact .cons h2 (pick_rps h idx)
/-- every index tells something: then as many are picked -/
theorem pick_len {α : Type} {l : List α} : ∀ {idx : List Nat}, (∀ i ∈ idx, i < l.length) → (pick idx l).length = idx.length
  | [], _ => rfl
  | i :: idx, h => by
    unfold pick
    rw [List.filterMap_cons, List.getElem?_eq_getElem (h i (List.mem_cons_self ..))]
    show (pick idx l).length + 1 = idx.length + 1
    rw [pick_len fun j hj => h j (List.mem_cons_of_mem _ hj)]
section
variable {F : Fm}
theorem ok_call {np : Nat} {m : Fn} {E : XK} {ta : TA} {ga : WMo (List D)} (hm : ∀ pd ds r, m pd ds = some r → ds.length = np) (h : TAok F ta ga) : TEok F (tCall (spM F.K false np m) [] E ta) (gCall m ga) := fun S σ H G Q r S' R e k => by
  unfold gCall at e
  split at e
  · rename_i ds S1 e1
    split at e
    · rename_i r' pd' e2
      cases e
      refine h S σ H G _ ds _ R e1 fun vs G1 H1 s1 R1 rs => ?_
      show spM F.K false np m (vs ++ []) H1 Q E
      rw [List.append_nil]
      refine ⟨by rw [rs.length]; exact hm _ _ _ e2, G1, none, [], ds, vs, r, pd', R1.sub, (show HeadIs false none vs vs from ⟨rfl, rfl⟩), (fun a z => by cases z), rs, e2, fun v G' H' B rv => ?_⟩
      exact k v G' H' (s1.trans B.gg) (R1.back B) (rv_of R1 rv)
    · cases e
  · cases e
theorem ok_callP {np : Nat} {m : Fn} {E : XK} {i : Nat} {ta : TA} {ga : WMo (List D)} (hm : ∀ pd ds r, m pd ds = some r → ds.length + 1 = np) (h : TAok F ta ga) : TEok F (tCall (spM F.K true np m) [] E (tCons (tVar i) ta)) (gCallP m i ga) := fun S σ H G Q r S' R e k => by
  unfold gCallP at e
  split at e
  · rename_i ds0 e0
    split at e
    · rename_i ds S1 e1
      split at e
      · rename_i pd e2
        split at e
        · rename_i r' pd' e3
          cases e
          obtain ⟨a, vs0, h1, h2, _⟩ := R.ownL e0
          refine ⟨.ref a, h1, h S σ H G _ ds _ R e1 fun vs G1 H1 s1 R1 rs => ?_⟩
          show spM F.K true np m ((V.ref a :: vs) ++ []) H1 Q E
          rw [List.append_nil]
          obtain ⟨b, ws, q1, q2, q3, q4, q5⟩ := R1.owns i pd e2
          obtain rfl := slot_same h1 q1
          refine ⟨by rw [List.length_cons, rs.length]; exact hm _ _ _ e3, G1, some a, pd, ds, vs, r, pd', R1.sub, ⟨a, rfl, rfl⟩, fun b z => ?_, rs, e3, fun v G' H' B rv => ?_⟩
          · cases z; exact ⟨ws, q2, q3, q5⟩
          · have R2 := R1.backOwn e2 h1 B
            refine k v G' H' (s1.trans B.gg) R2 ?_
            cases r with
            | val d => exact rv
            | own es =>
              obtain ⟨c, us, rfl, c1, c2, c3, c4⟩ := rv
              refine ⟨c, rfl, ⟨us, c1, c4⟩, c2, R1.free c3, fun j fs ej q => ?_⟩
              rcases getElem?_set_some ej with ⟨rfl, eN⟩ | ⟨ne, eN⟩
              · obtain rfl := slot_same h1 q
                rw [q2] at c3; cases c3
              · exact R1.ownNe c3 j fs eN q
        · cases e
      · cases e
    · cases e
  · rename_i e0
    split at e
    · rename_i ds S1 e1
      split at e
      · rename_i e2
        split at e
        · rename_i r' pd' e3
          cases e
          obtain ⟨a, p1, h1⟩ := R.bors i e0
          refine ⟨.ref a, h1, h S σ H G _ ds _ R e1 fun vs G1 H1 s1 R1 rs => ?_⟩
          show spM F.K true np m ((V.ref a :: vs) ++ []) H1 Q E
          rw [List.append_nil]
          refine ⟨by rw [List.length_cons, rs.length]; exact hm _ _ _ e3, G1, some a, S1.pot, ds, vs, r, pd', R1.sub, ⟨a, rfl, rfl⟩, fun b z => ?_, rs, e3, fun v G' H' B rv => ?_⟩
          · cases z; exact R1.pot a p1
          · have R2 := R1.backBor p1 B
            refine k v G' H' (s1.trans B.gg) R2 ?_
            cases r with
            | val d => exact rv
            | own es =>
              obtain ⟨c, us, rfl, c1, c2, c3, c4⟩ := rv
              exact ⟨c, rfl, ⟨us, c1, c4⟩, c2, R1.free c3, R1.ownNe c3⟩
        · cases e
      · cases e
    · cases e
  · cases e
theorem ok_callT {m : Fn} {E : XK} {t1 : TE} {g1 : WMo WRt} (hm : ∀ pd ds r, m pd ds = some r → ds.length + 1 = 1) (h : TEok F t1 g1) : TEok F (tCall (spM F.K true 1 m) [] E (tCons t1 tNil)) (gCallT m g1) := fun S σ H G Q r S' R e k => by
  unfold gCallT at e
  split at e
  · rename_i pd S1 e1
    split at e
    · rename_i d pd' e2
      cases e
      refine h S σ H G _ _ _ R e1 fun v G1 H1 s1 R1 rv => ?_
      show spM F.K true 1 m [v] H1 Q E
      obtain ⟨a, rfl, O⟩ := rv
      obtain ⟨ws, o1, o2⟩ := O.at_
      refine ⟨rfl, G1, some a, pd, [], [], .val d, pd', R1.sub, ⟨a, rfl, rfl⟩, fun b z => ?_, .nil, e2, fun v G' H' B rv => ?_⟩
      · cases z; exact ⟨ws, o1, O.gn, o2⟩
      · have npa : ∀ b, F.PA = some b → b ≠ a := fun b e z => R1.pa b e (z ▸ O.hn)
        have ga : ∀ b, H1 b ≠ none → G1 b = none → G' b = none := fun b h1 h2 => by
          cases q : G' b with
          | none => rfl
          | some o =>
            rcases B.new b (by rw [q]; simp) with z | z
            · exact absurd h2 z
            · exact absurd z h1
        refine k v G' H' (s1.trans B.gg) ?_ rv
        exact
        { sub := B.sub
          g0 := R1.g0.trans B.gg
          new := fun b e => by
            rcases B.new b e with z | z
            · exact R1.new b z
            · exact .inr (R1.free z)
          keep := fun b o e n => by
            have : b ≠ a := fun z => by rw [z, O.hn] at e; cases e
            exact B.keep b o (R1.keep b o e n) (fun z => this (Option.some.inj z).symm)
          pa := R1.pa
          len := R1.len
          vals := fun j d e => by
            obtain ⟨v, h1, h2⟩ := R1.vals j d e
            exact ⟨v, h1, h2.up B.gg⟩
          owns := fun j es e => by
            obtain ⟨b, us, p1, p2, p3, p4, p5⟩ := R1.owns j es e
            have : b ≠ a := fun z => O.ap j es e (z ▸ p1)
            exact ⟨b, us, p1, B.keep b _ p2 (fun z => this (Option.some.inj z).symm), ga b (by rw [p2]; simp) p3, p4, p5.up B.gg⟩
          bors := R1.bors
          pins := R1.pins
          apart := R1.apart
          pot := fun b e => by
            obtain ⟨us, p1, p2, p3⟩ := R1.pot b e
            exact ⟨us, B.keep b _ p1 (fun z => npa b e (Option.some.inj z).symm), ga b (by rw [p1]; simp) p2, p3.up B.gg⟩ }
    · cases e
  · cases e
theorem ok_callK {np : Nat} {m : Fn} {E : XK} {idx : List Nat} {gV : List V → List V → List V} {ta tk : TA} {ga gk : WMo (List D)} (hg : ∀ vs zs : List V, gV vs zs = pick idx (vs ++ zs)) (hm : ∀ pd ds r, m pd ds = some r → ds.length = np)
    (h : TAok F ta ga) (hk : TAok F tk gk) : TEok F (tCallK (spM F.K false np m) gV E ta tk) (gCallK m idx ga gk) := fun S σ H G Q r S' R e k => by
  unfold gCallK at e
  split at e
  · rename_i ds S1 e1
    split at e
    · rename_i es S2 e2
      split at e
      · rename_i r' pd' e3
        cases e
        refine h S σ H G _ ds _ R e1 fun vs G1 H1 s1 R1 rs => ?_
        refine hk S1 σ H1 G1 _ es _ R1 e2 fun zs G2 H2 s2 R2 rz => ?_
        rw [hg]
        have rr := pick_rps ((rs.up s2).append rz) idx
        refine ⟨by rw [rr.length]; exact hm _ _ _ e3, G2, none, [], _, _, r, pd', R2.sub, (show HeadIs false none _ _ from ⟨rfl, rfl⟩), (fun a z => by cases z), rr, e3, fun v G' H' B rv => ?_⟩
        exact k v G' H' ((s1.trans s2).trans B.gg) (R2.back B) (rv_of R2 rv)
      · cases e
    · cases e
  · cases e
end
/-! ### a def -/
/-- np: how many data parameters; nl: how many other names; pp: whether the first parameter is a list that the caller lends -/
def mkFn (pp : Bool) (np nl : Nat) (g : WMs) : Fn := fun pd ds => if ds.length = np then match g ⟨(if pp then [WSl.bor] else []) ++ ds.map WSl.val ++ List.replicate nl WSl.un, pd⟩ with
    | some (.ret r, S) => some (r, S.pot)
    | some (.nx, S) => some (.val .none, S.pot)
    | _ => none
  else none
theorem mkFn_len {pp : Bool} {np nl : Nat} {g : WMs} (pd ds : List D) (r : WRt × List D) (h : mkFn pp np nl g pd ds = some r) : ds.length = np := by
  unfold mkFn at h
  split at h
  · assumption
  · cases h
theorem mkFn_lenP {pp : Bool} {np nl : Nat} {g : WMs} (pd ds : List D) (r : WRt × List D) (h : mkFn pp np nl g pd ds = some r) : ds.length + 1 = np + 1 := by rw [mkFn_len pd ds r h]
/-- from a body's reading to the promise -/
theorem body_ok {K : PySem.W.Frag} {pp : Bool} {np nl : Nat} {g : WMs} {t : TS} {N : List Str} {vs : List V} {H : Hp} {Q : VK} {E : XK} (hN : N.length = (if pp then 1 else 0) + np + nl)
    (h : ∀ F : Fm, F.K = K → TSok F t g) (hs : spM K pp ((if pp then 1 else 0) + np) (mkFn pp np nl g) vs H Q E) : t { nx := fun _ H' => Q .non H', rt := Q } (L2.start N vs) H := by
  obtain ⟨hl, G, PA, pd, ds, vs', r, pd', sub, hd, hpot, rs, e, k⟩ := hs
  unfold mkFn at e
  split at e
  · rename_i hn
    have lv := rs.length
    have R : Rl ⟨K, H, G, PA, none⟩ G ⟨(if pp then [WSl.bor] else []) ++ ds.map WSl.val ++ List.replicate nl WSl.un, pd⟩ (L2.start N vs) H := by
      -- the slots
      have slot : ∀ (i : Nat) (s : WSl), ((if pp then [WSl.bor] else []) ++ ds.map WSl.val ++ List.replicate nl WSl.un)[i]? = some s → s ≠ .un →
          (s = .bor ∧ ∃ a, PA = some a ∧ (L2.start N vs)[i]? = some (some (V.ref a))) ∨ ∃ d v, s = .val d ∧ (L2.start N vs)[i]? = some (some v) ∧ Rp K G v d := fun i s hi n => by
        have st : ∀ (j : Nat) (v : V), vs[j]? = some v → (L2.start N vs)[j]? = some (some v) := fun j v hj => by
          unfold L2.start
          have hlt : j < (vs.map some).length := by
            rw [List.length_map]
            exact (List.getElem?_eq_some_iff.mp hj).1
          rw [List.getElem?_append_left hlt, List.getElem?_map, hj]
          rfl
        have val : ∀ (j : Nat), (ds.map WSl.val ++ List.replicate nl WSl.un)[j]? = some s → ∃ d v, s = .val d ∧ vs'[j]? = some v ∧ Rp K G v d := fun j hj => by
          by_cases hlt : j < ds.length
          · rw [List.getElem?_append_left (by rw [List.length_map]; exact hlt), List.getElem?_map, List.getElem?_eq_getElem hlt] at hj
            cases hj
            obtain ⟨v, h1, h2⟩ := rs.get (List.getElem?_eq_getElem hlt)
            exact ⟨_, v, rfl, h1, h2⟩
          · rw [List.getElem?_append_right (by rw [List.length_map]; omega)] at hj
            have := List.mem_of_getElem? hj
            rw [List.mem_replicate] at this
            exact absurd this.2 n
        cases pp with
        | false =>
          obtain ⟨_, rfl⟩ := hd
          obtain ⟨d, v, h1, h2, h3⟩ := val i (by simpa using hi)
          exact .inr ⟨d, v, h1, st i v h2, h3⟩
        | true =>
          obtain ⟨a, ha, rfl⟩ := hd
          cases i with
          | zero =>
            have : WSl.bor = s := by simpa using hi
            exact .inl ⟨this.symm, a, ha, st 0 _ rfl⟩
          | succ i =>
            obtain ⟨d, v, h1, h2, h3⟩ := val i (by simpa using hi)
            exact .inr ⟨d, v, h1, st (i + 1) v (by simpa using h2), h3⟩
      exact
      { sub := sub
        g0 := Same.refl G
        new := fun b e => .inl e
        keep := fun b o e _ => e
        pa := fun a e => by
          obtain ⟨ws, w1, _⟩ := hpot a e
          show H a ≠ none
          rw [w1]; simp
        len := by
          unfold L2.start
          rw [List.length_append, List.length_append, List.length_map, List.length_replicate, List.length_append, List.length_map, List.length_replicate]
          cases pp with
          | false =>
            obtain ⟨_, rfl⟩ := hd
            simp only [Bool.false_eq_true, if_false, List.length_nil] at hN ⊢
            omega
          | true =>
            obtain ⟨a, ha, rfl⟩ := hd
            simp only [if_true, List.length_cons, List.length_nil] at hN ⊢
            omega
        vals := fun i d e => by
          rcases slot i _ e (fun z => nomatch z) with ⟨z, _⟩ | ⟨d', v, z, h1, h2⟩
          · cases z
          · cases z; exact ⟨v, h1, h2⟩
        owns := fun i ds e => by
          rcases slot i _ e (fun z => nomatch z) with ⟨z, _⟩ | ⟨d', v, z, h1, h2⟩ <;> cases z
        bors := fun i e => by
          rcases slot i _ e (fun z => nomatch z) with ⟨_, a, h1, h2⟩ | ⟨d', v, z, h1, h2⟩
          · exact ⟨a, h1, h2⟩
          · cases z
        pins := fun i e => by
          rcases slot i _ e (fun z => nomatch z) with ⟨z, _⟩ | ⟨d', v, z, h1, h2⟩ <;> cases z
        apart := fun i j ds es a ne e => by
          rcases slot i _ e (fun z => nomatch z) with ⟨z, _⟩ | ⟨d', v, z, h1, h2⟩ <;> cases z
        pot := hpot }
    have fin : ∀ {v : V} {σ' : L2.St} {G' H' : Hp} {S' : WSt} {r : WRt}, Same G G' → Rl ⟨K, H, G, PA, none⟩ G' S' σ' H' → RV ⟨K, H, G, PA, none⟩ G' S' σ' H' v r → S'.pot = pd' → (∀ v G' H', Back K PA G H G' H' pd' → RVf K H G' H' v r → Q v H') → Q v H' :=
      fun {v σ' G' H' S' r} s R' rv hp k => by
        subst hp
        refine k v G' H' ⟨s, R'.sub, R'.keep, R'.new, R'.pot⟩ ?_
        cases r with
        | val d => exact rv
        | own es =>
          obtain ⟨a, rfl, O⟩ := rv
          obtain ⟨ws, o1, o2⟩ := O.at_
          exact ⟨a, ws, rfl, o1, O.gn, O.hn, o2⟩
    split at e
    · rename_i r' S' e1
      cases e
      exact h ⟨K, H, G, PA, none⟩ rfl _ _ H G _ _ _ R e1 fun v σ' G' H' s R' rv => fin s R' rv rfl k
    · rename_i S' e1
      cases e
      exact h ⟨K, H, G, PA, none⟩ rfl _ _ H G _ _ _ R e1 fun σ' G' H' s R' => fin (v := .non) (r := .val .none) s R' (Rp.non) rfl k
    · cases e
  · cases e
end Wk

namespace Wk
open PySem PySem.Spec PyProof.Rows L2
/-! ### a def, called where no text of a thing is being told -/
structure FnG (P : Program) (w : World) (K : PySem.W.Frag) (mg : Str → Option Value) (base : Heap) (k : Nat) (f : Addr) (fd : FuncData) (ps : List Str) (sp : Sp) : Prop where
  size : ∀ vs H Q E, sp vs H Q E → vs.length = ps.length
  go : ∀ (A : Around) (outer : List Env) (s : Shared) (H : Hp) (args : Args) (us : List Value) (vs : List V) (Q : VK) (E : XK), Room k A → A.guards = some [] → Env0 P w K mg base A outer s H →
    BindsTo s fd args (ps.zip us) → Vals vs us → sp vs H Q E → codeAny (model P w) A (.call (.ref f) args) (CR CX0 outer P w H s Q E) s
section
variable {P : Program} {w : World} {K : PySem.W.Frag} {mg : Str → Option Value} {base : Heap} {k : Nat} {f : Addr} {fd : FuncData} {ps : List Str} {sp : Sp}
theorem FnG.up {j : Nat} (F : FnG P w K mg base j f fd ps sp) (h : j ≤ k) : FnG P w K mg base k f fd ps sp :=
  ⟨F.size, fun A outer s H args us vs Q E hr => F.go A outer s H args us vs Q E (hr.mono h)⟩
/-- the rule for a def of the text -/
theorem fnG_def {x qual : Str} {st : Stmt} {N : List Str} (F : Fun K x qual st f fd) (S : FnScope N ps (defScope st)) (hsz : ∀ vs H Q E, sp vs H Q E → vs.length = ps.length)
    (hb : ∀ (cdv : Value) (A : Around) (outer : List Env) (s : Shared) (H : Hp) (vs : List V) (Q : VK) (E : XK), Room k (A.deeper (envOfC qual (defScope st) s.heap.objs.size f cdv)) → A.guards = some [] → sp vs H Q E →
      ∃ t, PSs (cxOf CX0 P w K mg base N qual (defScope st) f cdv A outer s H E).nox (defBody st) t ∧ t { nx := fun _ H' => Q .non H', rt := Q } (L2.start N vs) H) : FnG P w K mg base (k + 1) f fd ps sp := by
  obtain ⟨oc, od, kV, doc, pm, an, cdv, ct, osl, rfl, look, code⟩ := F.ex
  constructor
  · exact hsz
  · intro A outer s H args us vs Q E room guard env binds vals want
    have n := hsz _ _ _ _ want
    have inK : K.In s.heap := env.mod.kin.keeps (fun b o q => And.left (env.bs b o q))
    have free : s.heap.NoLimit := env.mod.nolimit.keeps (fun b o q => And.left (env.bs b o q))
    have kinds : ∀ y ∈ ps.zip us, (defScope st).names.lookup y.1 = some .local ∨
        ((defScope st).names.lookup y.1 = some .cell ∧ ((cellsFrom (s.heap.objs.size + 1) (defScope st).names []).lookup y.1).isSome = true) := by
      rintro ⟨nm, v⟩ hy
      cases S.par nm (List.of_mem_zip hy).1 with
      | inl q => exact Or.inl q
      | inr q => exact Or.inr ⟨q, PySem.W.cellsFrom_some _ _ _ (Or.inl q)⟩
    refine codeAny_call_function room.depth (inK _ _ look) rfl S.co S.gen rfl (PySem.W.codeRec_of inK code) (binds _ _ _ _ ?_)
    refine wpAny_newFunctionEnv_cells S.kind kinds ?_
    intro env1 same s1 laid
    cases same
    refine ⟨free.keeps laid.toInCall.keep, codeAny_func ?_⟩
    obtain ⟨t, rule, read⟩ := hb cdv A outer s H vs Q E (room.deeper _) guard want
    have start : Inv (cxOf CX0 P w K mg base N qual (defScope st) f cdv A outer s H E) [] (L2.start N vs) H s1 := inv_start S room.hd env n vals laid
    refine wpAny_mono (rule.nox.run [] s1 _ H _ start read) ?_ (fun e s' z => z)
    intro fl s' z
    cases fl with
    | brk => exact (z.choose_spec.choose_spec.2).elim
    | cont => exact (z.choose_spec.choose_spec.2).elim
    | ret u =>
      obtain ⟨v, σ', H', J, rv, q⟩ := z
      exact ⟨v, H', J.os, J.bare, J.base, J.hok, rv, q⟩
    | next =>
      obtain ⟨σ', H', J, q⟩ := z
      exact ⟨V.non, H', J.os, J.bare, J.base, J.hok, rfl, q⟩
end
/-- what the top has left of a def -/
structure DefAt (K : PySem.W.Frag) (mg : Str → Option Value) (x : Str) (st : Stmt) (f : Addr) (fd : FuncData) : Prop where
  fn : Fun K x x st f fd
  at_ : mg x = some (.ref f)
/-- a def of that name stands in the module, and does what m says -/
structure FnAt (P : Program) (w : World) (K : PySem.W.Frag) (mg : Str → Option Value) (base : Heap) (k : Nat) (x : Str) (st : Stmt) (ps : List Str) (pp : Bool) (np : Nat) (m : Fn) : Prop where
  ex : ∃ (f : Addr) (fd : FuncData), DefAt K mg x st f fd ∧ FnG P w K mg base k f fd ps (spM K pp np m)
/-- how the arguments of a def bind -/
def BindsD (x : Str) (st : Stmt) (ps : List Str) : Prop := ∀ (kV doc pm : Value) (an : Option Addr) (cdv ct : Value) (us : List Value), us.length = ps.length →
  bindArgs (PySem.W.fnOf x x (defArgs st) (defBody st) (defScope st) .none kV doc pm an cdv ct) ⟨us, []⟩ = pure (ps.zip us)
/-- with keywords: n of them by place, the others (ks) by name -/
def BindsK (x : Str) (st : Stmt) (ps ks : List Str) (n : Nat) (idx : List Nat) : Prop := ∀ (kV doc pm : Value) (an : Option Addr) (cdv ct : Value) (us ws : List Value), us.length = n → ws.length = ks.length →
  bindArgs (PySem.W.fnOf x x (defArgs st) (defBody st) (defScope st) .none kV doc pm an cdv ct) ⟨us, ks.zip ws⟩ = pure (ps.zip (pick idx (us ++ ws)))
section
variable {K : PySem.W.Frag} {mg : Str → Option Value} {x : Str} {st : Stmt} {f : Addr} {fd : FuncData} {ps ks : List Str} {n : Nat} {idx : List Nat}
theorem DefAt.bind (D : DefAt K mg x st f fd) (B : BindsD x st ps) (us : List Value) (h : us.length = ps.length) : bindArgs fd ⟨us, []⟩ = pure (ps.zip us) := by
  obtain ⟨oc, od, kV, doc, pm, an, cdv, ct, osl, e, look, code⟩ := D.fn.ex
  rw [e]
  exact B kV doc pm an cdv ct us h
theorem DefAt.bindK (D : DefAt K mg x st f fd) (B : BindsK x st ps ks n idx) (us ws : List Value) (h : us.length = n) (h2 : ws.length = ks.length) : bindArgs fd ⟨us, ks.zip ws⟩ = pure (ps.zip (pick idx (us ++ ws))) := by
  obtain ⟨oc, od, kV, doc, pm, an, cdv, ct, osl, e, look, code⟩ := D.fn.ex
  rw [e]
  exact B kV doc pm an cdv ct us ws h h2
end
theorem pick_vals {vs : List V} {us : List Value} (h : Vals vs us) : ∀ idx : List Nat, Vals (pick idx vs) (pick idx us)
  | [] => .nil
  | i :: idx => by
    unfold pick
    rw [List.filterMap_cons, List.filterMap_cons]
    cases q : vs[i]? with
    | none =>
      rw [h.none_of q]
      exact pick_vals h idx
    | some v =>
      obtain ⟨u, h1, h2⟩ := h.get q
      rw [h1]
      exact .cons h2 (pick_vals h idx)
section
variable {X : Cx} {k : Nat} {x : Str} {st : Stmt} {ps ks : List Str} {pp : Bool} {np n : Nat} {idx : List Nat} {m : Fn} {p pos : Pos} {e : Expr} {es : List Expr} {t tk : TA} {kws : List Keyword}
theorem run_G {f : Addr} {fd : FuncData} {sp : Sp} {pins : List (Addr × Obj)} {σ : L2.St} {H : Hp} {s : Shared} {Q : VK} {us : List Value} {kw : List (Str × Value)} {vs : List V} {bs : List Value} (F : FnG X.prog X.w X.K X.mg X.base k f fd ps sp) (hr : Room k X.A) (hg : X.A.guards = some [])
    (I : Inv X pins σ H s) (hb : BindsTo s fd ⟨us, kw⟩ (ps.zip bs)) (r : Vals vs bs) (h : sp vs H Q E0) : wpAny (model X.prog X.w) X.A (call (.ref f) us kw) (EP X pins σ Q) X.xe s := by
  refine wpAny_call (codeAny_mono (F.go X.A X.stack s H ⟨us, kw⟩ bs vs Q E0 hr hg I.env0 hb r h) ?_)
  intro res s' z
  cases res with
  | error err => exact False.elim z
  | ok fl => cases fl with
    | ret u => exact I.after z
    | next => exact False.elim z
    | brk => exact False.elim z
    | cont => exact False.elim z
/-- f(e, ..) -/
theorem pe_fn (F : FnAt X.prog X.w X.K X.mg X.base k x st ps pp np m) (B : BindsD x st ps) (hr : Room k X.A) (hg : X.A.guards = some []) (gl : Gl X x) (ha : PA X (e :: es) t) (hdb : (x == ("__debug__" : Str)) = false := by decide)
    (hs : starEach (e :: es) X.env = (false, eval e X.env) :: starEach es X.env := by rfl) (hp : (backTo pos (starEach es X.env)).any (·.1) = false := by rfl) :
    PE X (.Call (.Name x p) (e :: es) [] pos) (tCall (spM X.K pp np m) [] E0 t) := by
  obtain ⟨f, fd, De, G⟩ := F.ex
  constructor
  intro pins s σ H Q I h
  refine wpAny_Call_Name_kw (ld_glob I gl De.at_ ?_ hdb)
  refine PySem.W.callWith_K (h₀ := X.base) I.ok.mod.kin De.fn.kp ?_ hs hp
  refine thn (ha.run pos pins s σ H _ I h) ?_
  rintro us s1 ⟨vs, H1, I1, r, q⟩
  refine ⟨I1.kIn, ?_⟩
  have q' : spM X.K pp np m vs H1 Q E0 := by
    have z := q
    rw [List.append_nil] at z
    exact z
  exact run_G G hr hg I1 (BindsTo.of_eq (De.bind B us (by rw [← r.length]; exact G.size _ _ _ _ q'))) r q'
/-- f(e, .., k = v, ..): the reading, by the numbers of values -/
def tKw (sp : Sp) (n l : Nat) (idx : List Nat) (E : XK) (t tk : TA) : TE := fun σ H Q => t σ H fun vs H1 => tk σ H1 fun zs H2 => vs.length = n ∧ zs.length = l ∧ sp (pick idx (vs ++ zs)) H2 Q E
theorem pe_fnK (F : FnAt X.prog X.w X.K X.mg X.base k x st ps pp np m) (B : BindsK x st ps ks n idx) (hr : Room k X.A) (hg : X.A.guards = some []) (gl : Gl X x) (ha : PA X (e :: es) t) (hk : PK X kws tk)
    (hall : (backToKw pos (keywordEach kws X.env)).all (·.1.isSome) = true := by rfl) (hks : (backToKw pos (keywordEach kws X.env)).filterMap (·.1) = ks := by rfl) (hdb : (x == ("__debug__" : Str)) = false := by decide)
    (hs : starEach (e :: es) X.env = (false, eval e X.env) :: starEach es X.env := by rfl) (hp : ((backTo pos (starEach (e :: es) X.env)).any (·.1) || (backToKw pos (keywordEach kws X.env)).any (·.1.isNone)) = false := by rfl) :
    PE X (.Call (.Name x p) (e :: es) kws pos) (tKw (spM X.K pp np m) n ks.length idx E0 t tk) := by
  obtain ⟨f, fd, De, G⟩ := F.ex
  constructor
  intro pins s σ H Q I h
  refine wpAny_Call_Name_kw (ld_glob I gl De.at_ ?_ hdb)
  refine PySem.W.callWith_KW (h₀ := X.base) I.ok.mod.kin De.fn.kp hall ?_ hp hs
  refine thn (ha.run pos pins s σ H _ I h) ?_
  rintro us s1 ⟨vs, H1, I1, r, q⟩
  refine thn (hk.run pos pins s1 σ H1 _ I1 q) ?_
  rintro ws s2 ⟨zs, H2, I2, rz, l1, l2, q2⟩
  refine ⟨I2.kIn, ?_⟩
  rw [hks]
  have e1 : us.length = n := by rw [← r.length]; exact l1
  have e2 : ws.length = ks.length := by rw [← rz.length]; exact l2
  exact run_G G hr hg I2 (BindsTo.of_eq (De.bindK B us ws e1 e2)) (pick_vals (r.append rz) idx) q2
/-- f(k = v, ..) -/
theorem pe_fnK0 (F : FnAt X.prog X.w X.K X.mg X.base k x st ps pp np m) (B : BindsK x st ps ks 0 idx) (hr : Room k X.A) (hg : X.A.guards = some []) (gl : Gl X x) (hk : PK X kws tk)
    (hall : (backToKw pos (keywordEach kws X.env)).all (·.1.isSome) = true := by rfl) (hks : (backToKw pos (keywordEach kws X.env)).filterMap (·.1) = ks := by rfl) (hdb : (x == ("__debug__" : Str)) = false := by decide)
    (hp : ((backTo pos (starEach [] X.env)).any (·.1) || (backToKw pos (keywordEach kws X.env)).any (·.1.isNone)) = false := by rfl) :
    PE X (.Call (.Name x p) [] kws pos) (tKw (spM X.K pp np m) 0 ks.length idx E0 tNil tk) := by
  obtain ⟨f, fd, De, G⟩ := F.ex
  constructor
  intro pins s σ H Q I h
  refine wpAny_Call_Name_kw (ld_glob I gl De.at_ ?_ hdb)
  refine PySem.W.callWith_KW0 (h₀ := X.base) I.ok.mod.kin De.fn.kp hall ?_ hp
  have h' : tk σ H fun zs H2 => ([] : List V).length = 0 ∧ zs.length = ks.length ∧ spM X.K pp np m (pick idx ([] ++ zs)) H2 Q E0 := h
  refine thn (hk.run pos pins s σ H _ I h') ?_
  rintro ws s2 ⟨zs, H2, I2, rz, l1, l2, q2⟩
  refine ⟨I2.kIn, ?_⟩
  rw [hks]
  have e2 : ws.length = ks.length := by rw [← rz.length]; exact l2
  exact run_G G hr hg I2 (BindsTo.of_eq (De.bindK B [] ws rfl e2)) (pick_vals rz idx) q2
def gKw (m : Fn) (n l : Nat) (idx : List Nat) (ga gk : WMo (List D)) : WMo WRt := fun S => match ga S with
  | some (ds, S1) => match gk S1 with
    | some (es, S2) => if ds.length = n ∧ es.length = l then (match m [] (pick idx (ds ++ es)) with
      | some (r, _) => some (r, S2)
      | none => none) else none
    | none => none
  | none => none
theorem ok_kw {F : Fm} {np n l : Nat} {m : Fn} {E : XK} {idx : List Nat} {ta tk : TA} {ga gk : WMo (List D)} (hm : ∀ pd ds r, m pd ds = some r → ds.length = np)
    (h : TAok F ta ga) (hk : TAok F tk gk) : TEok F (tKw (spM F.K false np m) n l idx E ta tk) (gKw m n l idx ga gk) := fun S σ H G Q r S' R e k => by
  unfold gKw at e
  split at e
  · rename_i ds S1 e1
    split at e
    · rename_i es S2 e2
      split at e
      · rename_i hl
        split at e
        · rename_i r' pd' e3
          cases e
          refine h S σ H G _ ds _ R e1 fun vs G1 H1 s1 R1 rs => ?_
          refine hk S1 σ H1 G1 _ es _ R1 e2 fun zs G2 H2 s2 R2 rz => ⟨by rw [rs.length]; exact hl.1, by rw [rz.length]; exact hl.2, ?_⟩
          have rr := pick_rps ((rs.up s2).append rz) idx
          refine ⟨by rw [rr.length]; exact hm _ _ _ e3, G2, none, [], _, _, r, pd', R2.sub, (show HeadIs false none _ _ from ⟨rfl, rfl⟩), (fun a z => by cases z), rr, e3, fun v G' H' B rv => ?_⟩
          exact k v G' H' ((s1.trans s2).trans B.gg) (R2.back B) (rv_of R2 rv)
        · cases e
      · cases e
    · cases e
  · cases e
end
/-! ### a def of the text keeps its promise -/
section
variable {P : Program} {w : World} {K : PySem.W.Frag} {mg : Str → Option Value} {base : Heap} {k : Nat} {x : Str} {st : Stmt} {f : Addr} {fd : FuncData} {N ps : List Str} {pp : Bool} {np nl : Nat} {g : WMs}
theorem fn_at (De : DefAt K mg x st f fd) (S : FnScope N ps (defScope st)) (hps : ps.length = (if pp then 1 else 0) + np) (hN : N.length = (if pp then 1 else 0) + np + nl)
    (hb : ∀ (cdv : Value) (A : Around) (outer : List Env) (s : Shared) (H : Hp) (E : XK), Room k (A.deeper (envOfC x (defScope st) s.heap.objs.size f cdv)) → (A.deeper (envOfC x (defScope st) s.heap.objs.size f cdv)).guards = some [] →
      ∃ t, PSs (cxOf CX0 P w K mg base N x (defScope st) f cdv A outer s H E).nox (defBody st) t ∧ ∀ F : Fm, F.K = K → TSok F t g) :
    FnAt P w K mg base (k + 1) x st ps pp ((if pp then 1 else 0) + np) (mkFn pp np nl g) := by
  refine ⟨f, fd, De, fnG_def De.fn S (fun vs H Q E h => (spM_len h).trans hps.symm) fun cdv A outer s H vs Q E hr hg hs => ?_⟩
  obtain ⟨t, h1, h2⟩ := hb cdv A outer s H E hr hg
  exact ⟨t, h1, body_ok hN h2 hs⟩
end
/-! ### the law's own call -/
/-- the law is called with the script alone -/
theorem law_run {P : Program} {w : World} {K : PySem.W.Frag} {mg mb : Str → Option Value} {k : Nat} {fa a : Addr} {x : Str} {fd : FuncData} {m : Fn} {s : Shared} {vs : List Value} {ns : List Int}
    (inK : K.In s.heap) (glob : s.heap.Ns mainGlobals mg) (blt : s.heap.Ns builtinsNs mb) (std : ∀ x : Str, x ≠ "__name__" → mb x = bootBuiltins x) (free : s.heap.NoLimit) (gens : s.gens = #[])
    (obj : s.heap.get? a = some { cls := .type "list", data := .seq vs.toArray }) (nums : IntsAre vs ns) (long : ns.length ≤ sizeLine) (room : Room k callerA)
    (F : ∀ base : Heap, K.In base → base.Ns mainGlobals mg → FnG P w K mg base k fa fd [x] (spM K false 1 m)) (bind : ∀ v : Value, BindsTo s fd ⟨[v], []⟩ [(x, v)])
    (true_ : ∃ pd, m [] [scrD ns] = some (.val (.bool true), pd)) :
    codeAny (model P w) callerA (.call (.ref fa) ⟨[.ref a], []⟩) (fun r s' => r = .ok (.ret (.bool true)) ∧ OldK s.heap s'.heap ∧ s'.os = s.os ∧ AllBare s'.gens) s := by
  have lv := nums.length
  have vals := vals_ints nums
  obtain ⟨pd, tr⟩ := true_
  -- whatever is told of the script
  have main : ∀ H : Hp, (∀ b, H b ≠ none → b = a) → (∀ o, H a = some o → K.lookup a = none ∧ o = .frz { cls := .type "list", data := .seq vs.toArray } (.lst (ns.map V.int))) → SqL K H a (ns.map V.int) → HOk P w H s.heap →
      codeAny (model P w) callerA (.call (.ref fa) ⟨[.ref a], []⟩) (fun r s' => r = .ok (.ret (.bool true)) ∧ OldK s.heap s'.heap ∧ s'.os = s.os ∧ AllBare s'.gens) s := by
    intro H only what sq hok
    have hid : ∀ {b : Addr} {o : Obj}, s.heap.get? b = some o → b ≠ a → (hidT s.heap H).get? b = some o := by
      intro b o q ne
      refine hidT_get q ?_
      cases z : H b with
      | none => rfl
      | some u => exact absurd (only b (by rw [z]; simp)) ne
    have inB : K.In (hidT s.heap H) := by
      intro b o q
      refine hidT_get (inK b o q) ?_
      cases z : H b with
      | none => rfl
      | some u =>
        obtain rfl := only b (by rw [z]; simp)
        rw [(what u z).1] at q; cases q
    have ns' : ∀ {b : Addr} {mm : Str → Option Value}, s.heap.Ns b mm → (hidT s.heap H).Ns b mm := by
      rintro b mm ⟨o, es, ep, q, d, r⟩
      refine ⟨o, es, ep, hid q ?_, d, r⟩
      rintro rfl
      rw [obj] at q; cases q; cases d
    have modl : Mod K mg (hidT s.heap H) := ⟨inB, ns' glob, ⟨mb, ns' blt, std⟩, by obtain ⟨mc, h1, h2⟩ := free; exact ⟨mc, ns' h1, h2⟩⟩
    have env : Env0 P w K mg (hidT s.heap H) callerA [] s H :=
      { frames := rfl, mod := modl, bs := fun b o q => of_hidT q, bsz := Nat.le_of_eq (hidT_size _ _), funs := trivial, frf := fun b hb => (by cases hb), hok := hok, bare := .of_eq gens }
    have want : spM K false 1 m [.ref a] H (fun v _ => v = .bl true) E0 := by
      refine ⟨rfl, H, none, [], [scrD ns], [.ref a], _, pd, Same.refl H, (show HeadIs false none _ _ from ⟨rfl, rfl⟩), (fun b z => by cases z), .cons (.scr sq) .nil, tr, fun v G' H' B rv => ?_⟩
      have rv' : Rp K G' v (.bool true) := rv
      cases rv'; rfl
    refine codeAny_mono ((F _ inB (ns' glob)).go callerA [] s H ⟨[.ref a], []⟩ [.ref a] [.ref a] _ _ room rfl env (bind (.ref a)) (.cons rfl .nil) want) ?_
    intro r s' z
    cases r with
    | error e => exact False.elim z
    | ok fl => cases fl with
      | next => exact False.elim z
      | brk => exact False.elim z
      | cont => exact False.elim z
      | ret u =>
        obtain ⟨v, H', os, bare, un, hok', rel, q⟩ := z
        obtain rfl : v = .bl true := q
        obtain rfl : u = Value.bool true := rel
        refine ⟨rfl, OldK.of_keep ?_, os, bare⟩
        intro b o q
        cases z : H b with
        | none => exact un.keep b o q z (fun h => by cases h) (fun h => by cases h)
        | some u =>
          obtain rfl := only b (by rw [z]; simp)
          obtain ⟨_, rfl⟩ := what u z
          obtain ⟨e1, _⟩ := hok b _ z
          obtain ⟨e2, _⟩ := hok' b _ (un.frzs b _ _ z)
          rw [q] at e1; cases e1
          exact e2
  cases look : K.lookup a with
  | some o =>
    have q := inK a o look
    rw [obj] at q
    cases q
    refine main (fun _ => none) (fun b z => absurd rfl z) (fun o z => by cases z) (.inr ⟨_, vs.toArray, _, look, rfl, rfl, rfl, by rw [List.size_toArray, lv]; exact long, by simpa using vals⟩) ?_
    intro b u z
    cases z
  | none =>
    refine main (fun b => if b = a then some (.frz { cls := .type "list", data := .seq vs.toArray } (.lst (ns.map V.int))) else none) ?_ ?_ (.inl (.inr ⟨_, if_pos rfl⟩)) ?_
    · intro b z
      by_cases h : b = a
      · exact h
      · exact absurd (if_neg h) z
    · intro o z
      have z' := (if_pos rfl).symm.trans z
      cases z'
      exact ⟨look, rfl⟩
    · intro b u z
      by_cases h : b = a
      · have z' := (if_pos h).symm.trans z
        cases z'
        subst h
        exact ⟨obj, by rw [List.length_map]; exact long, vs, _, vals, obj⟩
      · have z' := (if_neg h).symm.trans z
        cases z'
/-- the row's claim, from the law's def -/
theorem law_end {l : PySem.W.OpenLaw} {n k : Nat} {q : Program} {loose : List Str} {XP : (Str → Option Value) → Heap → Prop} {YP : World → Heap → Prop} {d : DefRec} {K : Params → PySem.W.Frag} {x : Str} {st : Stmt} {m : Fn}
    (hn : l.most = some n) (hn2 : n ≤ sizeLine) (hdf : d.params.defaults = []) (hr : Room k callerA) (hY : ∀ (w : World) (h : Heap), YP w h → (K w.params).In h) (hB : BindsD d.name st [x])
    (F : ∀ (w : World) (mg : Str → Option Value) (h : Heap), (K w.params).In h → h.Ns mainGlobals mg → ∀ base : Heap, (K w.params).In base → base.Ns mainGlobals mg → FnAt l.prog w (K w.params) mg base k d.name st [x] false 1 m)
    (hm : ∀ ns : List Int, ns.length ≤ n → ∃ pd, m [] [scrD ns] = some (.val (.bool true), pd)) :
    PySem.W.WalkO q loose XP YP l.row.toRowW d [] (fun f vs => PySem.call f vs) := by
  refine Att.attach_call hn hdf ?_
  intro w s₀ s₁ mg mb fa o pm cd doc a vs ns G Y ho hd hcd hmg hobj hints hlen hg
  have inK := hY w _ Y
  have Fw := F w mg _ inK G.T.g
  -- the def's object is the written part's: one for every base
  obtain ⟨f0, fd0, D0, _⟩ := (Fw s₁.heap inK G.T.g).ex
  have same : f0 = fa := by
    have z := D0.at_.symm.trans hmg
    cases z; rfl
  subst same
  refine law_run (fd := fd0) (x := x) (m := m) (k := k) inK G.T.g G.T.b G.T.builtins G.T.nolimit hg hobj hints (Nat.le_trans hlen hn2) hr (fun base h1 h2 => ?_) (fun v => BindsTo.of_eq (D0.bind hB [v] rfl)) (hm ns hlen)
  obtain ⟨f1, fd1, D1, G1⟩ := (Fw base h1 h2).ex
  have e1 : f1 = f0 := by
    have z := D1.at_.symm.trans D0.at_
    cases z; rfl
  subst e1
  obtain ⟨oc, od, kV, doc, pm, an, cdv, ct, osl, e, look, code⟩ := D0.fn.ex
  obtain ⟨oc', od', kV', doc', pm', an', cdv', ct', osl', e', look', code'⟩ := D1.fn.ex
  have : fd1 = fd0 := by
    rw [look] at look'
    cases look'; rfl
  rw [← this]
  exact G1
end Wk

namespace Wk
open PySem PySem.Spec PyProof.Rows L2
/-! ### the text of a thing -/
def rRepr (K : PySem.W.Frag) : List V → Hp → VK → Prop := fun xs H Q => ∃ a d, xs = [.ref a] ∧ Dp K H (.ref a) d ∧ d.showable = true ∧ d.hasDict = false ∧ d.depth ≤ 60 ∧ d.shown.length ≤ sizeLine ∧ Q (.str d.shown) H
theorem call_reprD {X : Cx} (hg : X.A.guards = some []) (hu : X.A.units + 64 < cLine) : CallR X (.builtin "repr") (rRepr X.K) := by
  intro pins s σ H xs us Q I r h
  obtain ⟨a, d, rfl, hd, h1, h2, h3, h4, q⟩ := h
  obtain ⟨u, rfl, ru⟩ := vals1 r
  obtain ⟨as, rd⟩ := Dp.reads I d _ u hd ru
  cases ru
  refine repr_of_reads' rd h1 (fun z => by rw [h2] at z; cases z) hg (by omega) (fun _ _ z => z) (fun h' t tk kp => ?_) h4
  exact ⟨.str d.shown, H, I.kept kp, ⟨t, rfl⟩, q⟩
def isSeq : D → Bool
  | .list _ => true
  | .tuple _ => true
  | _ => false
def dRepr : List D → Option WRt
  | [d] => if isSeq d && noScr d && d.showable && !d.hasDict && decide (d.depth ≤ 60) && decide (d.shown.length ≤ sizeLine) then some (.val (.str d.shown)) else none
  | _ => none
theorem cb_repr {F : Fm} : CbOk F (rRepr F.K) dRepr := fun S σ H G xs ds Q z R rs h k => by
  unfold dRepr at h
  split at h
  · rename_i d
    split at h
    · rename_i c
      cases h
      simp only [Bool.and_eq_true, Bool.not_eq_true', decide_eq_true_eq] at c
      obtain ⟨⟨⟨⟨⟨c1, c2⟩, c3⟩, c4⟩, c5⟩, c6⟩ := c
      cases rs with | cons r1 r2 =>
      cases r2
      have dp := (r1.up R.sub).dp _ _ c2
      cases r1 with
      | lst h1 h2 => exact ⟨_, _, rfl, dp, c3, c4, c5, c6, k _ G H (Same.refl G) R (Rp.str _)⟩
      | tup h1 h2 => exact ⟨_, _, rfl, dp, c3, c4, c5, c6, k _ G H (Same.refl G) R (Rp.str _)⟩
      | scr h1 => cases c2
      | non => cases c1
      | bl _ => cases c1
      | int _ => cases c1
      | str _ => cases c1
    · cases h
  · cases h
/-! ### loops that end: as many turns as all sizes together -/
def szD : D → Nat
  | .int i => i.natAbs + 1
  | .list ds => ds.length + 1
  | _ => 1
def szSl : WSl → Nat
  | .val d => szD d
  | .own ds => ds.length + 1
  | _ => 0
def szE : List WSl → Nat
  | [] => 2
  | s :: l => szSl s + szE l
def fuelA (S : WSt) : Nat := szE S.env
theorem room65 {k : Nat} {A : Around} (r : Room k A) : A.units + 65 < cLine := by have := r.un; omega
/-! ### built-in names -/
theorem bt_len : bootBuiltins "len" = some (.builtin "len") := by decide +kernel
theorem bt_abs : bootBuiltins "abs" = some (.builtin "abs") := by decide +kernel
theorem bt_max : bootBuiltins "max" = some (.builtin "max") := by decide +kernel
theorem bt_min : bootBuiltins "min" = some (.builtin "min") := by decide +kernel
theorem bt_sum : bootBuiltins "sum" = some (.builtin "sum") := by decide +kernel
theorem bt_all : bootBuiltins "all" = some (.builtin "all") := by decide +kernel
theorem bt_repr : bootBuiltins "repr" = some (.builtin "repr") := by decide +kernel
theorem bt_divmod : bootBuiltins "divmod" = some (.builtin "divmod") := by decide +kernel
theorem bt_isinstance : bootBuiltins "isinstance" = some (.builtin "isinstance") := by decide +kernel
theorem bt_int : bootBuiltins "int" = some (.type "int") := by decide +kernel
theorem bt_bool : bootBuiltins "bool" = some (.type "bool") := by decide +kernel
theorem bt_list : bootBuiltins "list" = some (.type "list") := by decide +kernel
theorem bt_tuple : bootBuiltins "tuple" = some (.type "tuple") := by decide +kernel
theorem bt_str : bootBuiltins "str" = some (.type "str") := by decide +kernel
end Wk

namespace Wk
open PySem PySem.Spec PyProof.Rows L2
/-! ### reckoning with bounds -/
theorem log2_lt64 {n : Nat} (h : n < 18446744073709551616) : n.log2 < 64 := by
  by_cases e : n = 0
  · subst e; decide
  · exact (Nat.log2_lt e).mpr (by omega)
theorem dMul64 {i j : Int} (hi : i.natAbs < 18446744073709551616) (hj : j.natAbs < 18446744073709551616) : dMul (.int i) (.int j) = some (.val (.int (i * j))) := by
  have a := log2_lt64 hi
  have b := log2_lt64 hj
  show (if i.natAbs.log2 + j.natAbs.log2 < 1000000 then some (WRt.val (PyData.int (i * j))) else none) = _
  rw [if_pos (show i.natAbs.log2 + j.natAbs.log2 < 1000000 by omega)]
theorem dDivP {i j : Int} (h0 : 0 < j) (hj : j.natAbs < 18446744073709551616) : dDiv (.int i) (.int j) = some (.val (.int (i / j))) := by
  have b := log2_lt64 hj
  show (if j ≠ 0 ∧ j.natAbs.log2 < 9000 then some (WRt.val (PyData.int (i.fdiv j))) else none) = _
  rw [if_pos ⟨by omega, by omega⟩, Int.fdiv_eq_ediv_of_nonneg i (by omega)]
theorem dModP {i j : Int} (h0 : 0 < j) : dMod (.int i) (.int j) = some (.val (.int (i % j))) := by
  show (if j ≠ 0 then some (WRt.val (PyData.int (i.fmod j))) else none) = _
  rw [if_pos (show j ≠ 0 by omega), Int.fmod_eq_emod_of_nonneg i (by omega)]
/-- what a pot of draws is -/
structure Pot (p q : Int) : Prop where
  p0 : 0 ≤ p
  q0 : 0 ≤ q
  q1 : q < 2147483648
/-- a law's own draws: m is its drawing def -/
def Draws (m : Fn) : Prop := ∀ p q many : Int, Pot p q → 0 < many → many < 1073741824 → ∃ d p' q', m [.int p, .int q] [.int many] = some (.val (.int d), [.int p', .int q']) ∧ 0 ≤ d ∧ d < many ∧ Pot p' q'
def Pots (m : Fn) : Prop := ∀ (ns : List Int) (k : Int), 0 ≤ k → k < 64 → ∃ p q, m [] [scrD ns, .int k] = some (.own [.int p, .int q], []) ∧ Pot p q
/-! ### a plain function's run, part by part -/
section
variable {S S1 S2 S3 : WSt} {d e c : D} {z : WRt} {ds es : List D}
theorem run_F {g : WMo WRt} (h : g S = some (z, S1)) : gF g S = some (z.data, S1) := by unfold gF; rw [h]
theorem run_V {g : WMo D} (h : g S = some (d, S1)) : gV g S = some (.val d, S1) := by unfold gV; rw [h]
theorem run_nil : Wk.gNil S = some ([], S) := rfl
theorem run_cons {ga : WMo D} {gr : WMo (List D)} (h : ga S = some (d, S1)) (h2 : gr S1 = some (ds, S2)) : Wk.gCons ga gr S = some (d :: ds, S2) := by unfold Wk.gCons; simp only [h, h2]
theorem run_op {f : D → D → Option WRt} {ga gb : WMo D} (h : ga S = some (d, S1)) (h2 : gb S1 = some (e, S2)) (h3 : f d e = some z) : gOp f ga gb S = some (z, S2) := by unfold gOp; simp only [h, h2, h3]
theorem run_un {f : D → Option WRt} {ga : WMo D} (h : ga S = some (d, S1)) (h3 : f d = some z) : gUn f ga S = some (z, S1) := by unfold gUn; simp only [h, h3]
theorem run_cb {f : List D → Option WRt} {ga : WMo (List D)} (h : ga S = some (ds, S1)) (h3 : f ds = some z) : gCb f ga S = some (z, S1) := by unfold gCb; simp only [h, h3]
theorem run_call {m : Fn} {ga : WMo (List D)} {pd : List D} (h : ga S = some (ds, S1)) (h3 : m [] ds = some (z, pd)) : gCall m ga S = some (z, S1) := by unfold gCall; simp only [h, h3]
theorem run_ret {g : WMo WRt} (h : g S = some (z, S1)) : sRet g S = some (.ret z, S1) := by unfold sRet; rw [h]
theorem run_asg {g : WMo WRt} {gt : WRt → WSt → Option WSt} (h : g S = some (z, S1)) (h2 : gt z S1 = some S2) : sAsg g gt S = some (.nx, S2) := by unfold sAsg; simp only [h, h2]
theorem run_seq {a b : WMs} {r : Option (Fl × WSt)} (h : a S = some (.nx, S1)) (h2 : b S1 = r) : sSeq a b S = r := by unfold sSeq; rw [h]; exact h2
theorem run_ifT {g : WMo Bool} {a b : WMs} {r : Option (Fl × WSt)} (h : g S = some (true, S1)) (h2 : a S1 = r) : sIf g a b S = r := by unfold sIf; rw [h]; exact h2
theorem run_ifF {g : WMo Bool} {a b : WMs} {r : Option (Fl × WSt)} (h : g S = some (false, S1)) (h2 : b S1 = r) : sIf g a b S = r := by unfold sIf; rw [h]; exact h2
theorem run_test {g : WMo WRt} {b : Bool} (h : g S = some (.val (.bool b), S1)) : gTest g S = some (b, S1) := by unfold gTest; rw [h]
theorem run_fn {pp : Bool} {np nl : Nat} {g : WMs} {pd : List D} (hl : ds.length = np) (h : g ⟨(if pp then [WSl.bor] else []) ++ ds.map WSl.val ++ List.replicate nl WSl.un, pd⟩ = some (.ret z, S)) : mkFn pp np nl g pd ds = some (z, S.pot) := by
  unfold mkFn
  rw [if_pos hl, h]
theorem run_Fo {g : WMo WRt} (h : g S = some (.own ds, S1)) : gF g S = some (.list ds, S1) := by unfold gF; rw [h]; rfl
theorem run_Fv {g : WMo WRt} (h : g S = some (.val d, S1)) : gF g S = some (d, S1) := by unfold gF; rw [h]; rfl
theorem run_itL {da : WMo D} (h : da S = some (.list ds, S1)) : gItL da S = some (ds, S1) := by unfold gItL; rw [h]
theorem run_lc {vs : List Nat} {gi : WMo (List D)} {gt : WRt → WSt → Option WSt} {gc : WMo Bool} {ge : WMo D} (h : gi S = some (ds, S1)) (hl : ds.length ≤ sizeLine) (h2 : gLcL vs gt gc ge ds (S1.wipe vs) = some (es, S2)) : gLc vs gi gt gc ge S = some (.own es, S2.wipe vs) := by
  unfold gLc
  rw [h]
  show (if ds.length ≤ sizeLine then _ else _) = _
  rw [if_pos hl, h2]
end
end Wk

namespace Wk
open PySem PySem.Spec PyProof.Rows L2
/-! ### a list of lists that is kept out of sight while another one's list changes -/
def Fm.holdZ (F : Fm) (Z : Hp) : Fm := { F with H0 := fun b => match Z b with
  | some o => some o
  | none => F.H0 b }
structure AptZ (F : Fm) (G : Hp) (S : WSt) (σ : L2.St) (Z H : Hp) : Prop where
  at_ : Same Z H
  gn : ∀ b o, Z b = some o → G b = none
  hn : ∀ b o, Z b = some o → F.H0 b = none
  ap : ∀ b o, Z b = some o → ∀ (i : Nat) (es : List D), S.env[i]? = some (WSl.own es) → σ[i]? ≠ some (some (V.ref b))
section
variable {F : Fm} {G : Hp} {S : WSt} {σ : L2.St} {Z H : Hp}
theorem holdZ_some {b : Addr} {o : HO} (h : Z b = some o) : (F.holdZ Z).H0 b = some o := by
  show (match Z b with | some o => some o | none => F.H0 b) = some o
  rw [h]
theorem holdZ_none {b : Addr} (h : Z b = none) : (F.holdZ Z).H0 b = F.H0 b := by
  show (match Z b with | some o => some o | none => F.H0 b) = F.H0 b
  rw [h]
theorem Rl.holdZ (R : Rl F G S σ H) (A : AptZ F G S σ Z H) : Rl (F.holdZ Z) G S σ H where
  sub := R.sub
  g0 := R.g0
  new := fun b e => by
    cases q : Z b with
    | some o => exact absurd (A.gn b o q) e
    | none =>
      rw [holdZ_none q]
      exact R.new b e
  keep := fun b o e n => by
    cases q : Z b with
    | some o' =>
      rw [holdZ_some q] at e; cases e
      exact A.at_ b _ q
    | none =>
      rw [holdZ_none q] at e
      exact R.keep b o e n
  pa := fun b e => by
    cases q : Z b with
    | some o => rw [holdZ_some q]; simp
    | none => rw [holdZ_none q]; exact R.pa b e
  len := R.len
  vals := R.vals
  owns := fun i ds e => by
    obtain ⟨a, vs, q1, q2, q3, q4, q5⟩ := R.owns i ds e
    refine ⟨a, vs, q1, q2, q3, ?_, q5⟩
    cases q : Z a with
    | some o => exact absurd q1 (A.ap a o q i ds e)
    | none => rw [holdZ_none q]; exact q4
  bors := R.bors
  pins := R.pins
  apart := R.apart
  pot := R.pot
theorem Rl.unholdZ (R : Rl (F.holdZ Z) G S σ H) (hn : ∀ b o, Z b = some o → F.H0 b = none) (g0 : ∀ b o, Z b = some o → F.G0 b = none) (np : ∀ b o, Z b = some o → F.PA ≠ some b) : Rl F G S σ H ∧ AptZ F G S σ Z H := by
  have ga : ∀ b o, Z b = some o → G b = none := fun b o q => by
    cases z : G b with
    | none => rfl
    | some x =>
      rcases R.new b (by rw [z]; simp) with w | w
      · exact absurd (g0 b o q) w
      · rw [holdZ_some q] at w; cases w
  refine ⟨?_, ⟨fun b o q => R.keep b o (holdZ_some q) (np b o q), ga, hn, fun b o q i es e z => ?_⟩⟩
  · exact
    { sub := R.sub
      g0 := R.g0
      new := fun b e => by
        rcases R.new b e with z | z
        · exact .inl z
        · cases q : Z b with
          | some o => exact absurd (ga b o q) e
          | none => rw [holdZ_none q] at z; exact .inr z
      keep := fun b o e n => by
        cases q : Z b with
        | some o' => rw [hn b o' q] at e; cases e
        | none => exact R.keep b o (by rw [holdZ_none q]; exact e) n
      pa := fun b e => by
        cases q : Z b with
        | some o => exact absurd e (np b o q)
        | none =>
          have z := R.pa b e
          rw [holdZ_none q] at z; exact z
      len := R.len
      vals := R.vals
      owns := fun i ds e => by
        obtain ⟨a, vs, q1, q2, q3, q4, q5⟩ := R.owns i ds e
        refine ⟨a, vs, q1, q2, q3, ?_, q5⟩
        cases q : Z a with
        | some o => rw [holdZ_some q] at q4; cases q4
        | none => rw [holdZ_none q] at q4; exact q4
      bors := R.bors
      pins := R.pins
      apart := R.apart
      pot := R.pot }
  · obtain ⟨a, vs, q1, q2, q3, q4, q5⟩ := R.owns i es e
    obtain rfl := slot_same z q1
    rw [holdZ_some q] at q4; cases q4
theorem AptZ.one (A : AptZ F G S σ Z H) {a : Addr} {o : HO} (h : Z a = some o) : Apt F G S σ a := ⟨A.gn a o h, A.hn a o h, A.ap a o h⟩
theorem AptZ.wipe (A : AptZ F G S σ Z H) (vs : List Nat) : AptZ F G (S.wipe vs) (L2.wipe σ vs) Z H := ⟨A.at_, A.gn, A.hn, fun b o h i es e q => by
  obtain ⟨q1, q2⟩ := wipeE_get e (fun z => nomatch z)
  rw [wipe_keep q2] at q
  exact A.ap b o h i es q1 q⟩
/-- the lists, each at its own place in Z -/
inductive Hids (K : PySem.W.Frag) (Z G : Hp) : List V → List (List D) → Prop
  | nil : Hids K Z G [] []
  | cons {a : Addr} {vs ws : List V} {es : List D} {ess : List (List D)} : Z a = some (.lst ws) → Rps K G ws es → Hids K Z G vs ess → Hids K Z G (.ref a :: vs) (es :: ess)
theorem Hids.up {K : PySem.W.Frag} {Z Z' G G' : Hp} (s : Same Z Z') (t : Same G G') : ∀ {vs : List V} {ess : List (List D)}, Hids K Z G vs ess → Hids K Z' G' vs ess
  | _, _, .nil => .nil
  | _, _, .cons h r q => .cons (s _ _ h) (r.up t) (q.up s t)
theorem Hids.snoc {K : PySem.W.Frag} {Z G : Hp} {a : Addr} {ws : List V} {es : List D} (h : Z a = some (.lst ws)) (r : Rps K G ws es) : ∀ {vs : List V} {ess : List (List D)}, Hids K Z G vs ess → Hids K Z G (vs ++ [.ref a]) (ess ++ [es])
  | _, _, .nil => .cons h r .nil
  | _, _, .cons h' r' q => .cons h' r' (Hids.snoc h r q)
theorem Hids.len {K : PySem.W.Frag} {Z G : Hp} : ∀ {vs : List V} {ess : List (List D)}, Hids K Z G vs ess → vs.length = ess.length
  | _, _, .nil => rfl
  | _, _, .cons _ _ q => congrArg Nat.succ q.len
theorem Hids.rps {K : PySem.W.Frag} {Z G G' : Hp} (s : Same Z G') (t : ∀ a xs, SqT K G a xs → SqT K G' a xs) : ∀ {vs : List V} {ess : List (List D)}, Hids K Z G vs ess → ess.all lfDs = true → Rps K G' vs (ess.map PyData.list)
  | _, _, .nil, _ => .nil
  | _, _, .cons h r q, l => by
    simp only [List.all_cons, Bool.and_eq_true] at l
    exact .cons (.lst (s _ _ h) (Rps.lf t _ _ l.1 r)) (q.rps s t l.2)
end
def gLcLO (vs : List Nat) (gt : WRt → WSt → Option WSt) (ge : WMo WRt) : List D → WSt → Option (List (List D) × WSt)
  | [], S => some ([], S)
  | d :: ds, S => match gt (.val d) S with
    | none => none
    | some S1 => match ge S1 with
      | some (.own e, S3) => (match gLcLO vs gt ge ds (S3.wipe vs) with
        | some (es, S4) => some (e :: es, S4)
        | none => none)
      | _ => none
def isPin : WSl → Bool
  | .pin => true
  | _ => false
def smSl : WSl → WSl
  | .val d => if lfD d then .val d else .un
  | .own ds => if lfDs ds then .own ds else .un
  | .pin => .un
  | s => s
def smash (i iy ia : Nat) (ess : List (List D)) (S : WSt) : Option WSt := match S.env[i]?, S.env[iy]?, S.env[ia]? with
  | some .pin, some (.val (.list ls)), some (.val (.int k)) => match atI ls k with
    | some (.list es) => if lfDs S.pot && ess.all lfDs && decide (es.length < sizeLine) then some ⟨(S.env.map smSl).set i (.val (.list (ess.map PyData.list))), S.pot⟩ else none
    | _ => none
  | _, _, _ => none
/-- x = [own list for ..], hidden; what is done meanwhile; y[a].append(None); what is done with x behind it -/
def sHide (vs : List Nat) (gi : WMo (List D)) (gt : WRt → WSt → Option WSt) (ge : WMo WRt) (i : Nat) (gm : WMs) (iy ia : Nat) (gl : WMs) : WMs := fun S => match gi S with
  | none => none
  | some (ds, S1) => if ds.length ≤ sizeLine then match gLcLO vs gt ge ds (S1.wipe vs) with
    | none => none
    | some (ess, S2) => if i < (S2.wipe vs).env.length ∧ (S2.wipe vs).env.all (fun s => !isPin s) = true then match gm ⟨(S2.wipe vs).env.set i .pin, S2.pot⟩ with
      | some (.nx, S3) => match smash i iy ia ess S3 with
        | some S4 => gl S4
        | none => none
      | _ => none
      else none
    else none
theorem upd_some {H : Hp} {a b : Addr} {o o' : HO} (h : upd H a o b = some o') : (b = a ∧ o = o') ∨ (b ≠ a ∧ H b = some o') := by
  by_cases e : b = a
  · subst e; rw [upd_same] at h; cases h; exact .inl ⟨rfl, rfl⟩
  · rw [upd_ne e] at h; exact .inr ⟨e, h⟩
/-- a body whose end asks nothing of what was data ahead -/
def TSok0 (F : Fm) (t : TS) (g : WMs) : Prop := ∀ (S : WSt) (σ : L2.St) (H G : Hp) (De : Ends) (f : Fl) (S' : WSt), Rl F G S σ H → g S = some (f, S') → FlOk F F.G0 S' De f → t De σ H
theorem ok_seq0 {F : Fm} {t u : TS} {a b : WMs} (h1 : TSok F t a) (h2 : TSok0 F u b) : TSok0 F (tSeq t u) (sSeq a b) := fun S σ H G De f S' R e k => by
  unfold sSeq at e
  split at e
  · rename_i S1 e1
    exact h1 S σ H G _ _ S1 R e1 fun σ1 G1 H1 s1 R1 => h2 S1 σ1 H1 G1 De f S' R1 e k
  · rename_i f1 S1 n e1
    cases e
    refine h1 S σ H G _ f _ R e1 ?_
    cases f with
    | nx => exact (n rfl).elim
    | bk => exact k.up R.g0
    | ct => exact k.up R.g0
    | ret r => exact k.up R.g0
  · cases e
theorem ok_hide {F : Fm} {vs : List Nat} {wi : TI} {g : TG} {te : TE} {tm tl : TS} {gi : WMo (List D)} {gt : WRt → WSt → Option WSt} {ge : WMo WRt} {gm gl : WMs} {i iy ia : Nat}
    (flat : ∀ b xs, F.H0 b ≠ some (.lst xs)) (flat2 : Same F.G0 F.H0) (hi : TIok F wi gi) (hg : ∀ H0, TCok { F with H0 := H0 } vs g gt) (he : ∀ H0, TEok { F with H0 := H0 } te ge) (hm : ∀ H0 p, TSok { F with H0 := H0, pin := p } tm gm) (hl : TSok F tl gl) :
    TSok0 F (tSeq (tAsg (tLc wi g tYes te vs) (gName i)) (tSeq tm (tSeq (tDrop (tBM F.K "list" rAppend (tOp (rIx F.K) (tVar iy) (tVar ia)) (tCons (tC .non) tNil))) tl))) (sHide vs gi gt ge i gm iy ia gl) := fun S σ H G De f S' R e k => by
  unfold sHide at e
  split at e
  · cases e
  · rename_i ds S1 e1
    split at e
    · rename_i hz
      split at e
      · cases e
      · rename_i ess S2 e2
        split at e
        · rename_i hc
          split at e
          · rename_i S3 e3
            split at e
            · rename_i S4 e4
              refine hi S σ H G _ ds S1 R e1 fun J G1 H1 s1 R1 ok => fun Da hDa => ?_
              have g1 : G1 Da = none := R1.gfree hDa
              have h0 : F.H0 Da = none := R1.free hDa
              have ap1 : Apt F G1 S1 σ Da := ⟨g1, h0, R1.ownNe hDa⟩
              have A1 : AptZ F G1 S1 σ (upd (fun _ => none) Da (.lst [])) (upd H1 Da (.lst [])) := by
                have key : ∀ b o, upd (fun _ => none) Da (HO.lst []) b = some o → b = Da := fun b o q => by
                  rcases upd_some q with ⟨z, _⟩ | ⟨_, z⟩
                  · exact z
                  · cases z
                refine ⟨fun b o q => ?_, fun b o q => ?_, fun b o q => ?_, fun b o q => ?_⟩
                · obtain rfl := key b o q
                  rw [upd_same] at q; cases q; exact upd_same
                · obtain rfl := key b o q; exact g1
                · obtain rfl := key b o q; exact h0
                · obtain rfl := key b o q; exact ap1.ap
              refine ⟨fun j m H2 => ∃ G2 S5 acc va Z, Same G1 G2 ∧ Rl F G2 S5 (L2.wipe σ vs) H2 ∧ Z Da = none ∧ Hids F.K Z G2 va acc ∧ AptZ F G2 S5 (L2.wipe σ vs) (upd Z Da (.lst va)) H2 ∧ acc.length ≤ j ∧ j ≤ ds.length ∧ m = ds.length - j ∧
                  ∃ es', gLcLO vs gt ge (ds.drop j) S5 = some (es', S2) ∧ acc ++ es' = ess, ⟨ds.length, G1, S1.wipe vs, [], [], fun _ => none, Same.refl _, (R1.wipe vs).poke ⟨ap1.gn, ap1.hn, (A1.wipe vs).ap Da _ upd_same⟩ _, rfl, .nil, A1.wipe vs, Nat.zero_le _, Nat.zero_le _, rfl, ess, e2, rfl⟩, fun j m H2 w => ?_⟩
              obtain ⟨G2, S5, acc, va, Z, s2, R2, zD, hid, A2, ha, hle, rfl, es', e5, e6⟩ := w
              have la := hid.len
              have g0 : ∀ b o, upd Z Da (.lst va) b = some o → F.G0 b = none := fun b o q => R2.g0.free (A2.gn b o q)
              have np : ∀ b o, upd Z Da (.lst va) b = some o → F.PA ≠ some b := fun b o q => R2.pane (A2.hn b o q)
              by_cases hlt : j < ds.length
              · have R2h := R2.holdZ A2
                have it := ok F rfl
                have ith := ok (F.holdZ (upd Z Da (.lst va))) rfl
                refine .inr ⟨it.go j S5 _ H2 G2 hlt s2 R2, ?_⟩
                rw [List.drop_eq_getElem_cons hlt] at e5
                unfold gLcLO at e5
                split at e5
                · cases e5
                · rename_i S6 e7
                  split at e5
                  · rename_i d S7 e8
                    split at e5
                    · rename_i es2 S8 e9
                      cases e5
                      refine ⟨fun H' => ∃ G4 a ws, Same G1 G4 ∧ Rl F G4 (S7.wipe vs) (L2.wipe σ vs) H' ∧ upd Z a (.lst ws) Da = none ∧ Hids F.K (upd Z a (.lst ws)) G4 (va ++ [.ref a]) (acc ++ [d]) ∧ AptZ F G4 (S7.wipe vs) (L2.wipe σ vs) (upd (upd Z a (.lst ws)) Da (.lst (va ++ [.ref a]))) H',
                        fun H' ⟨G4, a, ws, s4, R4, d4, r4, a4⟩ => ⟨ds.length - (j + 1), by omega, G4, S7.wipe vs, acc ++ [d], va ++ [.ref a], _, s4, R4, d4, r4, a4, by rw [List.length_append]; show acc.length + 1 ≤ j + 1; omega, hlt, rfl, es2, e9, by rw [← e6]; simp⟩, fun x H' y => ?_⟩
                      obtain ⟨G3, o, s3, R3, r3, _⟩ := ith.yld j _ S5 _ H2 G2 x H' (List.getElem?_eq_getElem hlt) s2 R2h y
                      refine hg _ S5 _ H' G3 x _ S6 _ R3 r3 e7 fun σ6 w6 R6 => ?_
                      rw [wipe_wipe] at w6
                      refine ⟨w6, ok_yes (F := F.holdZ (upd Z Da (.lst va))) S6 σ6 H' G3 _ true S6 R6 rfl fun G7 H7 s7 R7 => iteT ?_⟩
                      refine he _ S6 σ6 H7 G7 _ _ _ R7 e8 fun v G8 H8 s8 R8 rv => ?_
                      obtain ⟨a, rfl, O⟩ := rv
                      obtain ⟨ws, o1, o2⟩ := O.at_
                      obtain ⟨R9, A9⟩ := Rl.unholdZ (F := F) R8 A2.hn g0 np
                      have za' : upd Z Da (.lst va) a = none := by
                        cases q : upd Z Da (.lst va) a with
                        | none => rfl
                        | some o' =>
                          have z : (F.holdZ (upd Z Da (.lst va))).H0 a = none := O.hn
                          rw [holdZ_some q] at z; cases z
                      have ha0 : F.H0 a = none := by
                        have z : (F.holdZ (upd Z Da (.lst va))).H0 a = none := O.hn
                        rw [holdZ_none za'] at z; exact z
                      have aD : a ≠ Da := fun z => by rw [z, upd_same] at za'; cases za'
                      have zA : Z a = none := by rw [upd_ne aD] at za'; exact za'
                      have dd : H8 Da = some (.lst va) := A9.at_ Da _ upd_same
                      refine ⟨va, dd, by omega, G8, a, ws, ((s2.trans s3).trans s7).trans s8, ?_, by rw [upd_ne (Ne.symm aD)]; exact zD, ?_, ?_⟩
                      · have R10 := (R9.poke (A9.one upd_same) (.lst (va ++ [.ref a]))).wipe vs
                        rw [w6] at R10
                        exact R10
                      · exact Hids.snoc upd_same o2 (hid.up (same_upd zA) ((s3.trans s7).trans s8))
                      · have key : ∀ b o, upd (upd Z a (.lst ws)) Da (.lst (va ++ [.ref a])) b = some o → (b = Da ∧ o = .lst (va ++ [.ref a])) ∨ (b ≠ Da ∧ b = a ∧ o = .lst ws) ∨ (b ≠ Da ∧ b ≠ a ∧ upd Z Da (.lst va) b = some o) := fun b o q => by
                          rcases upd_some q with ⟨z, z2⟩ | ⟨z, z2⟩
                          · exact .inl ⟨z, z2.symm⟩
                          · rcases upd_some z2 with ⟨y, y2⟩ | ⟨y, y2⟩
                            · exact .inr (.inl ⟨z, y, y2.symm⟩)
                            · exact .inr (.inr ⟨z, y, by rw [upd_ne z]; exact y2⟩)
                        have A10 : AptZ F G8 S7 σ6 (upd (upd Z a (.lst ws)) Da (.lst (va ++ [.ref a]))) (upd H8 Da (.lst (va ++ [.ref a]))) := by
                          refine ⟨fun b o q => ?_, fun b o q => ?_, fun b o q => ?_, fun b o q => ?_⟩
                          · rcases key b o q with ⟨rfl, rfl⟩ | ⟨z, rfl, rfl⟩ | ⟨z, _, y⟩
                            · exact upd_same
                            · rw [upd_ne z]; exact o1
                            · rw [upd_ne z]; exact A9.at_ b o y
                          · rcases key b o q with ⟨rfl, rfl⟩ | ⟨z, rfl, rfl⟩ | ⟨z, _, y⟩
                            · exact A9.gn _ _ upd_same
                            · exact O.gn
                            · exact A9.gn b o y
                          · rcases key b o q with ⟨rfl, rfl⟩ | ⟨z, rfl, rfl⟩ | ⟨z, _, y⟩
                            · exact A9.hn _ _ upd_same
                            · exact ha0
                            · exact A9.hn b o y
                          · rcases key b o q with ⟨rfl, rfl⟩ | ⟨z, rfl, rfl⟩ | ⟨z, _, y⟩
                            · exact A9.ap _ _ upd_same
                            · exact O.ap
                            · exact A9.ap b o y
                        have A11 := A10.wipe vs
                        rw [w6] at A11
                        exact A11
                    · cases e5
                  · cases e5
              · have it := ok F rfl
                refine .inl ⟨it.stop j S5 _ H2 G2 (by omega) s2 R2, ?_⟩
                rw [List.drop_eq_nil_of_le (by omega)] at e5
                unfold gLcLO at e5
                cases e5
                rw [List.append_nil] at e6
                subst e6
                -- out of the comprehension
                have R3 : Rl F G2 (S2.wipe vs) σ H2 := by
                  refine (R2.wipe vs).slots (by rw [wipe_length, wipe_length]) fun i s e n => ?_
                  obtain ⟨_, q2⟩ := wipeE_get e n
                  rw [wipe_keep q2, wipe_keep q2]
                have A3 : AptZ F G2 (S2.wipe vs) σ (upd Z Da (.lst va)) H2 := ⟨A2.at_, A2.gn, A2.hn, fun b o h i es e q => by
                  obtain ⟨q1, q2⟩ := wipeE_get e (fun z => nomatch z)
                  rw [← wipe_keep (vs := vs) q2] at q
                  exact A2.ap b o h i es q1 q⟩
                have R4 := R3.holdZ A3
                have hlen : i < σ.length := by rw [← R3.len]; exact hc.1
                have nopin : ∀ j, (S2.wipe vs).env[j]? ≠ some WSl.pin := fun j q => by
                  have z := List.all_eq_true.mp hc.2 _ (List.mem_of_getElem? q)
                  cases z
                have R5 : Rl { (F.holdZ (upd Z Da (.lst va))) with pin := some (.ref Da) } G2 ⟨(S2.wipe vs).env.set i .pin, S2.pot⟩ (σ.set i (some (.ref Da))) H2 :=
                  { sub := R4.sub
                    g0 := R4.g0
                    new := R4.new
                    keep := R4.keep
                    pa := R4.pa
                    len := by rw [List.length_set, List.length_set]; exact R4.len
                    vals := fun j d e => by
                      rcases getElem?_set_some e with ⟨rfl, eN⟩ | ⟨ne, eN⟩
                      · cases eN
                      · rw [List.getElem?_set_ne ne]; exact R4.vals j d eN
                    owns := fun j d e => by
                      rcases getElem?_set_some e with ⟨rfl, eN⟩ | ⟨ne, eN⟩
                      · cases eN
                      · rw [List.getElem?_set_ne ne]; exact R4.owns j d eN
                    bors := fun j e => by
                      rcases getElem?_set_some e with ⟨rfl, eN⟩ | ⟨ne, eN⟩
                      · cases eN
                      · rw [List.getElem?_set_ne ne]; exact R4.bors j eN
                    pins := fun j e => by
                      rcases getElem?_set_some e with ⟨rfl, eN⟩ | ⟨ne, eN⟩
                      · exact ⟨_, rfl, by rw [List.getElem?_set_self hlen]⟩
                      · exact absurd eN (nopin j)
                    apart := fun j k ds1 es1 b ne e1 e2 s1 => by
                      rcases getElem?_set_some e1 with ⟨rfl, eN⟩ | ⟨n1, eN⟩
                      · cases eN
                      · rcases getElem?_set_some e2 with ⟨rfl, eM⟩ | ⟨n2, eM⟩
                        · cases eM
                        · rw [List.getElem?_set_ne n1] at s1
                          rw [List.getElem?_set_ne n2]
                          exact R4.apart j k _ _ b ne eN eM s1
                    pot := R4.pot }
                refine hm _ _ _ _ H2 G2 _ _ _ R5 e3 fun σ6 G6 H6 s6 R6 => ?_
                -- the other list changes
                unfold smash at e4
                split at e4
                · rename_i ls kk p1 p2 p3
                  split at e4
                  · rename_i es q1
                    split at e4
                    · rename_i q2
                      cases e4
                      simp only [Bool.and_eq_true, decide_eq_true_eq] at q2
                      obtain ⟨⟨lp, le⟩, lz⟩ := q2
                      obtain ⟨vy, y1, y2⟩ := R6.vals iy _ p2
                      obtain ⟨vk, k1, k2⟩ := R6.vals ia _ p3
                      obtain ⟨vp, v1, v2⟩ := R6.pins i p1
                      cases v1
                      cases k2
                      cases y2 with | lst h1 h2 =>
                      obtain ⟨u, u1, u2⟩ := rps_get h2 q1
                      cases u2 with | lst h3 h4 =>
                      rename_i a3 x3 a4 x4
                      refine ⟨_, y1, _, k1, .inl ⟨_, _, _, _, rfl, rfl, SqL.of (R6.sub _ _ h1), u1, ty_list (SqL.of (R6.sub _ _ h3)), _, _, .non, rfl, rfl, R6.sub _ _ h3, by rw [h4.length]; exact lz, ?_⟩⟩
                      -- behind it
                      obtain ⟨R7, A7⟩ := Rl.unholdZ (F := { F with pin := some (.ref Da) }) (Z := upd Z Da (.lst va)) R6 A2.hn g0 np
                      have zz : ∀ b o, upd Z Da (.lst va) b = some o → b ≠ a4 := fun b o q z => by rw [z] at q; rw [A7.gn a4 o q] at h3; cases h3
                      have g4 : F.G0 a4 = none := by
                        cases q : F.G0 a4 with
                        | none => rfl
                        | some o =>
                          have z := R7.g0 a4 o q
                          rw [h3] at z; cases z
                          exact absurd (flat2 a4 _ q) (flat a4 _)
                      have h4' : F.H0 a4 = none := by
                        rcases R7.new a4 (by rw [h3]; simp) with z | z
                        · exact absurd g4 z
                        · exact z
                      let G9 : Hp := fun b => match upd Z Da (.lst va) b with
                        | some o => some o
                        | none => match G6 b with
                          | some (.lst _) => none
                          | x => x
                      have gz : ∀ b o, upd Z Da (.lst va) b = some o → G9 b = some o := fun b o q => by
                        show (match upd Z Da (.lst va) b with | some o => some o | none => _) = some o
                        rw [q]
                      have gk : ∀ b o, G6 b = some o → (∀ ys, o ≠ .lst ys) → G9 b = some o := fun b o q n => by
                        have z : upd Z Da (.lst va) b = none := by
                          cases z : upd Z Da (.lst va) b with
                          | none => rfl
                          | some o' => rw [A7.gn b o' z] at q; cases q
                        show (match upd Z Da (.lst va) b with | some o => some o | none => (match G6 b with | some (.lst _) => none | x => x)) = some o
                        rw [z, q]
                        cases o <;> first | rfl | exact absurd rfl (n _)
                      have gi : ∀ b o, G9 b = some o → upd Z Da (.lst va) b = some o ∨ (G6 b = some o ∧ ∀ ys, o ≠ .lst ys) := fun b o q => by
                        have q' : (match upd Z Da (.lst va) b with | some o => some o | none => (match G6 b with | some (.lst _) => none | x => x)) = some o := q
                        cases z : upd Z Da (.lst va) b with
                        | some o' => rw [z] at q'; exact .inl q'
                        | none =>
                          rw [z] at q'
                          cases y : G6 b with
                          | none => rw [y] at q'; cases q'
                          | some o2 =>
                            rw [y] at q'
                            cases o2 <;> first | (cases q'; done) | (cases q'; exact .inr ⟨rfl, fun ys z => nomatch z⟩)
                      have tp : ∀ a xs, SqT F.K G6 a xs → SqT F.K G9 a xs := fun a xs h => by
                        rcases h with (h | ⟨o, h⟩) | h
                        · exact .inl (.inl (gk _ _ h fun ys z => nomatch z))
                        · exact .inl (.inr ⟨o, gk _ _ h fun ys z => nomatch z⟩)
                        · exact .inr h
                      have g9n : ∀ b, G6 b = none → upd Z Da (.lst va) b = none → G9 b = none := fun b q z => by
                        show (match upd Z Da (.lst va) b with | some o => some o | none => (match G6 b with | some (.lst _) => none | x => x)) = none
                        rw [z, q]
                      have sm : ∀ {j : Nat} {s : WSl}, (S3.env.map smSl)[j]? = some s → ∃ s0, S3.env[j]? = some s0 ∧ smSl s0 = s := fun {j s} h => by
                        rw [List.getElem?_map] at h
                        cases q : S3.env[j]? with
                        | none => rw [q] at h; cases h
                        | some s0 => rw [q] at h; cases h; exact ⟨s0, rfl, rfl⟩
                      have smO : ∀ {j : Nat} {es : List D}, (S3.env.map smSl)[j]? = some (WSl.own es) → S3.env[j]? = some (WSl.own es) ∧ lfDs es = true := fun {j es} h => by
                        obtain ⟨s0, z1, z2⟩ := sm h
                        cases s0 with
                        | own ds' =>
                          by_cases l : lfDs ds' = true
                          · have : smSl (.own ds') = .own ds' := by show (if lfDs ds' then _ else _) = _; rw [if_pos l]
                            rw [this] at z2; cases z2; exact ⟨z1, l⟩
                          · have : smSl (.own ds') = .un := by show (if lfDs ds' then _ else _) = _; rw [if_neg l]
                            rw [this] at z2; cases z2
                        | val d =>
                          by_cases l : lfD d = true
                          · have : smSl (.val d) = .val d := by show (if lfD d then _ else _) = _; rw [if_pos l]
                            rw [this] at z2; cases z2
                          · have : smSl (.val d) = .un := by show (if lfD d then _ else _) = _; rw [if_neg l]
                            rw [this] at z2; cases z2
                        | un => cases z2
                        | bor => cases z2
                        | pin => cases z2
                      have smV : ∀ {j : Nat} {d : D}, (S3.env.map smSl)[j]? = some (WSl.val d) → S3.env[j]? = some (WSl.val d) ∧ lfD d = true := fun {j d} h => by
                        obtain ⟨s0, z1, z2⟩ := sm h
                        cases s0 with
                        | own ds' =>
                          by_cases l : lfDs ds' = true
                          · have : smSl (.own ds') = .own ds' := by show (if lfDs ds' then _ else _) = _; rw [if_pos l]
                            rw [this] at z2; cases z2
                          · have : smSl (.own ds') = .un := by show (if lfDs ds' then _ else _) = _; rw [if_neg l]
                            rw [this] at z2; cases z2
                        | val d' =>
                          by_cases l : lfD d' = true
                          · have : smSl (.val d') = .val d' := by show (if lfD d' then _ else _) = _; rw [if_pos l]
                            rw [this] at z2; cases z2; exact ⟨z1, l⟩
                          · have : smSl (.val d') = .un := by show (if lfD d' then _ else _) = _; rw [if_neg l]
                            rw [this] at z2; cases z2
                        | un => cases z2
                        | bor => cases z2
                        | pin => cases z2
                      have smB : ∀ {j : Nat}, (S3.env.map smSl)[j]? = some WSl.bor → S3.env[j]? = some WSl.bor := fun {j} h => by
                        obtain ⟨s0, z1, z2⟩ := sm h
                        cases s0 with
                        | own ds' =>
                          by_cases l : lfDs ds' = true
                          · have : smSl (.own ds') = .own ds' := by show (if lfDs ds' then _ else _) = _; rw [if_pos l]
                            rw [this] at z2; cases z2
                          · have : smSl (.own ds') = .un := by show (if lfDs ds' then _ else _) = _; rw [if_neg l]
                            rw [this] at z2; cases z2
                        | val d' =>
                          by_cases l : lfD d' = true
                          · have : smSl (.val d') = .val d' := by show (if lfD d' then _ else _) = _; rw [if_pos l]
                            rw [this] at z2; cases z2
                          · have : smSl (.val d') = .un := by show (if lfD d' then _ else _) = _; rw [if_neg l]
                            rw [this] at z2; cases z2
                        | un => cases z2
                        | bor => exact z1
                        | pin => cases z2
                      have smP : ∀ {j : Nat}, (S3.env.map smSl)[j]? ≠ some WSl.pin := fun {j} h => by
                        obtain ⟨s0, z1, z2⟩ := sm h
                        cases s0 with
                        | own ds' =>
                          by_cases l : lfDs ds' = true
                          · have : smSl (.own ds') = .own ds' := by show (if lfDs ds' then _ else _) = _; rw [if_pos l]
                            rw [this] at z2; cases z2
                          · have : smSl (.own ds') = .un := by show (if lfDs ds' then _ else _) = _; rw [if_neg l]
                            rw [this] at z2; cases z2
                        | val d' =>
                          by_cases l : lfD d' = true
                          · have : smSl (.val d') = .val d' := by show (if lfD d' then _ else _) = _; rw [if_pos l]
                            rw [this] at z2; cases z2
                          · have : smSl (.val d') = .un := by show (if lfD d' then _ else _) = _; rw [if_neg l]
                            rw [this] at z2; cases z2
                        | un => cases z2
                        | bor => cases z2
                        | pin => cases z2
                      have s9 : Same G9 (upd H6 a4 (.lst (x4 ++ [.non]))) := fun b o q => by
                        rcases gi b o q with z | ⟨z, n⟩
                        · rw [upd_ne (zz b o z)]; exact A7.at_ b o z
                        · have : b ≠ a4 := fun y => by rw [y, h3] at z; cases z; exact n _ rfl
                          rw [upd_ne this]; exact R7.sub b o z
                      have R9 : Rl F G9 ⟨S3.env.map smSl, S3.pot⟩ σ6 (upd H6 a4 (.lst (x4 ++ [.non]))) :=
                        { sub := s9
                          g0 := fun b o q => by
                            have z := R7.g0 b o q
                            exact gk b o z fun ys w => flat b ys (w ▸ flat2 b o q)
                          new := fun b q => by
                            cases z : G9 b with
                            | none => exact absurd z q
                            | some o =>
                              rcases gi b o z with y | ⟨y, _⟩
                              · exact .inr (A7.hn b o y)
                              · exact R7.new b (by rw [y]; simp)
                          keep := fun b o q n => by
                            have : b ≠ a4 := fun z => by rw [z, h4'] at q; cases q
                            rw [upd_ne this]; exact R7.keep b o q n
                          pa := R7.pa
                          len := by rw [List.length_map]; exact R7.len
                          vals := fun j d q => by
                            obtain ⟨z1, l⟩ := smV q
                            obtain ⟨v, w1, w2⟩ := R7.vals j d z1
                            exact ⟨v, w1, Rp.lf tp d v l w2⟩
                          owns := fun j es q => by
                            obtain ⟨z1, l⟩ := smO q
                            obtain ⟨b, us, w1, w2, w3, w4, w5⟩ := R7.owns j es z1
                            have nb : b ≠ a4 := fun y => by rw [y, h3] at w3; cases w3
                            have zb : upd Z Da (.lst va) b = none := by
                              cases y : upd Z Da (.lst va) b with
                              | none => rfl
                              | some o => exact absurd w1 (A7.ap b o y j es z1)
                            exact ⟨b, us, w1, by rw [upd_ne nb]; exact w2, g9n b w3 zb, w4, Rps.lf tp es us l w5⟩
                          bors := fun j q => R7.bors j (smB q)
                          pins := fun j q => absurd q smP
                          apart := fun j k ds1 es1 b ne q1 q2 s1 => R7.apart j k ds1 es1 b ne (smO q1).1 (smO q2).1 s1
                          pot := fun b q => by
                            obtain ⟨us, w1, w2, w3⟩ := R7.pot b q
                            have nb : b ≠ a4 := fun y => R7.pa b q (y ▸ h4')
                            have zb : upd Z Da (.lst va) b = none := by
                              cases y : upd Z Da (.lst va) b with
                              | none => rfl
                              | some o => exact absurd (A7.hn b o y) (R7.pa b q)
                            exact ⟨us, by rw [upd_ne nb]; exact w1, g9n b w2 zb, Rps.lf tp _ us lp w3⟩ }
                      have kept : RV F G9 ⟨S3.env.map smSl, S3.pot⟩ σ6 (upd H6 a4 (.lst (x4 ++ [.non]))) (.ref Da) (.val (.list (acc.map PyData.list))) := by
                        refine Rp.lst (gz Da _ upd_same) (hid.rps (fun b o q => gz b o ?_) (fun b xs q => tp b xs (same_tup s6 q)) le)
                        have : b ≠ Da := fun y => by rw [y, zD] at q; cases q
                        rw [upd_ne this]; exact q
                      have hl6 : i < σ6.length := by
                        rcases Nat.lt_or_ge i σ6.length with z | z
                        · exact z
                        · rw [List.getElem?_eq_none z] at v2; cases v2
                      have R10 := R9.store kept (i := i) hl6
                      have es6 : σ6.set i (some (.ref Da)) = σ6 := by
                        apply List.ext_getElem?
                        intro j
                        by_cases q : i = j
                        · subst q; rw [List.getElem?_set_self hl6, v2]
                        · rw [List.getElem?_set_ne q]
                      rw [es6] at R10
                      exact hl _ σ6 _ G9 De f S' R10 e (k.up R10.g0)
                    · cases e4
                  · cases e4
                · cases e4
            · cases e
          · cases e
        · cases e
    · cases e
end Wk

namespace Wk
open PySem PySem.Spec PyProof.Rows L2
/-- from a body's reading to the promise -/
theorem body_ok0 {K : PySem.W.Frag} {pp : Bool} {np nl : Nat} {g : WMs} {t : TS} {N : List Str} {vs : List V} {H : Hp} {Q : VK} {E : XK} (hN : N.length = (if pp then 1 else 0) + np + nl)
    (flat : ∀ b xs, H b ≠ some (.lst xs)) (h : ∀ F : Fm, F.K = K → (∀ b xs, F.H0 b ≠ some (.lst xs)) → Same F.G0 F.H0 → TSok0 F t g) (hs : spM K pp ((if pp then 1 else 0) + np) (mkFn pp np nl g) vs H Q E) : t { nx := fun _ H' => Q .non H', rt := Q } (L2.start N vs) H := by
  obtain ⟨hl, G, PA, pd, ds, vs', r, pd', sub, hd, hpot, rs, e, k⟩ := hs
  unfold mkFn at e
  split at e
  · rename_i hn
    have lv := rs.length
    have R : Rl ⟨K, H, G, PA, none⟩ G ⟨(if pp then [WSl.bor] else []) ++ ds.map WSl.val ++ List.replicate nl WSl.un, pd⟩ (L2.start N vs) H := by
      -- the slots
      have slot : ∀ (i : Nat) (s : WSl), ((if pp then [WSl.bor] else []) ++ ds.map WSl.val ++ List.replicate nl WSl.un)[i]? = some s → s ≠ .un →
          (s = .bor ∧ ∃ a, PA = some a ∧ (L2.start N vs)[i]? = some (some (V.ref a))) ∨ ∃ d v, s = .val d ∧ (L2.start N vs)[i]? = some (some v) ∧ Rp K G v d := fun i s hi n => by
        have st : ∀ (j : Nat) (v : V), vs[j]? = some v → (L2.start N vs)[j]? = some (some v) := fun j v hj => by
          unfold L2.start
          have hlt : j < (vs.map some).length := by
            rw [List.length_map]
            exact (List.getElem?_eq_some_iff.mp hj).1
          rw [List.getElem?_append_left hlt, List.getElem?_map, hj]
          rfl
        have val : ∀ (j : Nat), (ds.map WSl.val ++ List.replicate nl WSl.un)[j]? = some s → ∃ d v, s = .val d ∧ vs'[j]? = some v ∧ Rp K G v d := fun j hj => by
          by_cases hlt : j < ds.length
          · rw [List.getElem?_append_left (by rw [List.length_map]; exact hlt), List.getElem?_map, List.getElem?_eq_getElem hlt] at hj
            cases hj
            obtain ⟨v, h1, h2⟩ := rs.get (List.getElem?_eq_getElem hlt)
            exact ⟨_, v, rfl, h1, h2⟩
          · rw [List.getElem?_append_right (by rw [List.length_map]; omega)] at hj
            have := List.mem_of_getElem? hj
            rw [List.mem_replicate] at this
            exact absurd this.2 n
        cases pp with
        | false =>
          obtain ⟨_, rfl⟩ := hd
          obtain ⟨d, v, h1, h2, h3⟩ := val i (by simpa using hi)
          exact .inr ⟨d, v, h1, st i v h2, h3⟩
        | true =>
          obtain ⟨a, ha, rfl⟩ := hd
          cases i with
          | zero =>
            have : WSl.bor = s := by simpa using hi
            exact .inl ⟨this.symm, a, ha, st 0 _ rfl⟩
          | succ i =>
            obtain ⟨d, v, h1, h2, h3⟩ := val i (by simpa using hi)
            exact .inr ⟨d, v, h1, st (i + 1) v (by simpa using h2), h3⟩
      exact
      { sub := sub
        g0 := Same.refl G
        new := fun b e => .inl e
        keep := fun b o e _ => e
        pa := fun a e => by
          obtain ⟨ws, w1, _⟩ := hpot a e
          show H a ≠ none
          rw [w1]; simp
        len := by
          unfold L2.start
          rw [List.length_append, List.length_append, List.length_map, List.length_replicate, List.length_append, List.length_map, List.length_replicate]
          cases pp with
          | false =>
            obtain ⟨_, rfl⟩ := hd
            simp only [Bool.false_eq_true, if_false, List.length_nil] at hN ⊢
            omega
          | true =>
            obtain ⟨a, ha, rfl⟩ := hd
            simp only [if_true, List.length_cons, List.length_nil] at hN ⊢
            omega
        vals := fun i d e => by
          rcases slot i _ e (fun z => nomatch z) with ⟨z, _⟩ | ⟨d', v, z, h1, h2⟩
          · cases z
          · cases z; exact ⟨v, h1, h2⟩
        owns := fun i ds e => by
          rcases slot i _ e (fun z => nomatch z) with ⟨z, _⟩ | ⟨d', v, z, h1, h2⟩ <;> cases z
        bors := fun i e => by
          rcases slot i _ e (fun z => nomatch z) with ⟨_, a, h1, h2⟩ | ⟨d', v, z, h1, h2⟩
          · exact ⟨a, h1, h2⟩
          · cases z
        pins := fun i e => by
          rcases slot i _ e (fun z => nomatch z) with ⟨z, _⟩ | ⟨d', v, z, h1, h2⟩ <;> cases z
        apart := fun i j ds es a ne e => by
          rcases slot i _ e (fun z => nomatch z) with ⟨z, _⟩ | ⟨d', v, z, h1, h2⟩ <;> cases z
        pot := hpot }
    have fin : ∀ {v : V} {σ' : L2.St} {G' H' : Hp} {S' : WSt} {r : WRt}, Same G G' → Rl ⟨K, H, G, PA, none⟩ G' S' σ' H' → RV ⟨K, H, G, PA, none⟩ G' S' σ' H' v r → S'.pot = pd' → (∀ v G' H', Back K PA G H G' H' pd' → RVf K H G' H' v r → Q v H') → Q v H' :=
      fun {v σ' G' H' S' r} s R' rv hp k => by
        subst hp
        refine k v G' H' ⟨s, R'.sub, R'.keep, R'.new, R'.pot⟩ ?_
        cases r with
        | val d => exact rv
        | own es =>
          obtain ⟨a, rfl, O⟩ := rv
          obtain ⟨ws, o1, o2⟩ := O.at_
          exact ⟨a, ws, rfl, o1, O.gn, O.hn, o2⟩
    split at e
    · rename_i r' S' e1
      cases e
      exact h ⟨K, H, G, PA, none⟩ rfl flat sub _ _ H G _ _ _ R e1 fun v σ' G' H' s R' rv => fin s R' rv rfl k
    · rename_i S' e1
      cases e
      exact h ⟨K, H, G, PA, none⟩ rfl flat sub _ _ H G _ _ _ R e1 fun σ' G' H' s R' => fin (v := .non) (r := .val .none) s R' (Rp.non) rfl k
    · cases e
  · cases e
theorem tSeq_assoc (a b c : TS) : tSeq (tSeq a b) c = tSeq a (tSeq b c) := rfl
/-- the promise of the law's own def: called where no list is one's own -/
def spL (K : PySem.W.Frag) (np : Nat) (m : Fn) : Sp := fun vs H Q E => (∀ b xs, H b ≠ some (.lst xs)) ∧ spM K false np m vs H Q E
structure FnAt0 (P : Program) (w : World) (K : PySem.W.Frag) (mg : Str → Option Value) (base : Heap) (k : Nat) (x : Str) (st : Stmt) (ps : List Str) (np : Nat) (m : Fn) : Prop where
  ex : ∃ (f : Addr) (fd : FuncData), DefAt K mg x st f fd ∧ FnG P w K mg base k f fd ps (spL K np m)
section
variable {P : Program} {w : World} {K : PySem.W.Frag} {mg : Str → Option Value} {base : Heap} {k : Nat} {x : Str} {st : Stmt} {f : Addr} {fd : FuncData} {N ps : List Str} {np nl : Nat} {g : WMs}
theorem fn_at0 (De : DefAt K mg x st f fd) (S : FnScope N ps (defScope st)) (hps : ps.length = 0 + np) (hN : N.length = 0 + np + nl)
    (hb : ∀ (cdv : Value) (A : Around) (outer : List Env) (s : Shared) (H : Hp) (E : XK), Room k (A.deeper (envOfC x (defScope st) s.heap.objs.size f cdv)) → (A.deeper (envOfC x (defScope st) s.heap.objs.size f cdv)).guards = some [] →
      ∃ t, PSs (cxOf CX0 P w K mg base N x (defScope st) f cdv A outer s H E).nox (defBody st) t ∧ ∀ F : Fm, F.K = K → (∀ b xs, F.H0 b ≠ some (.lst xs)) → Same F.G0 F.H0 → TSok0 F t g) :
    FnAt0 P w K mg base (k + 1) x st ps (0 + np) (mkFn false np nl g) := by
  refine ⟨f, fd, De, fnG_def De.fn S (fun vs H Q E h => (spM_len h.2).trans hps.symm) fun cdv A outer s H vs Q E hr hg hs => ?_⟩
  obtain ⟨t, h1, h2⟩ := hb cdv A outer s H E hr hg
  exact ⟨t, h1, body_ok0 (pp := false) hN hs.1 h2 hs.2⟩
end
/-! ### the law's own call -/
/-- the law is called with the script alone -/
theorem law_run0 {P : Program} {w : World} {K : PySem.W.Frag} {mg mb : Str → Option Value} {k : Nat} {fa a : Addr} {x : Str} {fd : FuncData} {m : Fn} {s : Shared} {vs : List Value} {ns : List Int}
    (inK : K.In s.heap) (glob : s.heap.Ns mainGlobals mg) (blt : s.heap.Ns builtinsNs mb) (std : ∀ x : Str, x ≠ "__name__" → mb x = bootBuiltins x) (free : s.heap.NoLimit) (gens : s.gens = #[])
    (obj : s.heap.get? a = some { cls := .type "list", data := .seq vs.toArray }) (nums : IntsAre vs ns) (long : ns.length ≤ sizeLine) (room : Room k callerA)
    (F : ∀ base : Heap, K.In base → base.Ns mainGlobals mg → FnG P w K mg base k fa fd [x] (spL K 1 m)) (bind : ∀ v : Value, BindsTo s fd ⟨[v], []⟩ [(x, v)])
    (true_ : ∃ pd, m [] [scrD ns] = some (.val (.bool true), pd)) :
    codeAny (model P w) callerA (.call (.ref fa) ⟨[.ref a], []⟩) (fun r s' => r = .ok (.ret (.bool true)) ∧ OldK s.heap s'.heap ∧ s'.os = s.os ∧ AllBare s'.gens) s := by
  have lv := nums.length
  have vals := vals_ints nums
  obtain ⟨pd, tr⟩ := true_
  -- whatever is told of the script
  have main : ∀ H : Hp, (∀ b, H b ≠ none → b = a) → (∀ o, H a = some o → K.lookup a = none ∧ o = .frz { cls := .type "list", data := .seq vs.toArray } (.lst (ns.map V.int))) → SqL K H a (ns.map V.int) → HOk P w H s.heap →
      codeAny (model P w) callerA (.call (.ref fa) ⟨[.ref a], []⟩) (fun r s' => r = .ok (.ret (.bool true)) ∧ OldK s.heap s'.heap ∧ s'.os = s.os ∧ AllBare s'.gens) s := by
    intro H only what sq hok
    have hid : ∀ {b : Addr} {o : Obj}, s.heap.get? b = some o → b ≠ a → (hidT s.heap H).get? b = some o := by
      intro b o q ne
      refine hidT_get q ?_
      cases z : H b with
      | none => rfl
      | some u => exact absurd (only b (by rw [z]; simp)) ne
    have inB : K.In (hidT s.heap H) := by
      intro b o q
      refine hidT_get (inK b o q) ?_
      cases z : H b with
      | none => rfl
      | some u =>
        obtain rfl := only b (by rw [z]; simp)
        rw [(what u z).1] at q; cases q
    have ns' : ∀ {b : Addr} {mm : Str → Option Value}, s.heap.Ns b mm → (hidT s.heap H).Ns b mm := by
      rintro b mm ⟨o, es, ep, q, d, r⟩
      refine ⟨o, es, ep, hid q ?_, d, r⟩
      rintro rfl
      rw [obj] at q; cases q; cases d
    have modl : Mod K mg (hidT s.heap H) := ⟨inB, ns' glob, ⟨mb, ns' blt, std⟩, by obtain ⟨mc, h1, h2⟩ := free; exact ⟨mc, ns' h1, h2⟩⟩
    have env : Env0 P w K mg (hidT s.heap H) callerA [] s H :=
      { frames := rfl, mod := modl, bs := fun b o q => of_hidT q, bsz := Nat.le_of_eq (hidT_size _ _), funs := trivial, frf := fun b hb => (by cases hb), hok := hok, bare := .of_eq gens }
    have want : spL K 1 m [.ref a] H (fun v _ => v = .bl true) E0 := by
      have nl : ∀ b xs, H b ≠ some (.lst xs) := by
        intro b xs z
        obtain rfl := only b (by rw [z]; simp)
        have y := (what _ z).2
        cases y
      refine ⟨nl, ?_⟩
      refine ⟨rfl, H, none, [], [scrD ns], [.ref a], _, pd, Same.refl H, (show HeadIs false none _ _ from ⟨rfl, rfl⟩), (fun b z => by cases z), .cons (.scr sq) .nil, tr, fun v G' H' B rv => ?_⟩
      have rv' : Rp K G' v (.bool true) := rv
      cases rv'; rfl
    refine codeAny_mono ((F _ inB (ns' glob)).go callerA [] s H ⟨[.ref a], []⟩ [.ref a] [.ref a] _ _ room rfl env (bind (.ref a)) (.cons rfl .nil) want) ?_
    intro r s' z
    cases r with
    | error e => exact False.elim z
    | ok fl => cases fl with
      | next => exact False.elim z
      | brk => exact False.elim z
      | cont => exact False.elim z
      | ret u =>
        obtain ⟨v, H', os, bare, un, hok', rel, q⟩ := z
        obtain rfl : v = .bl true := q
        obtain rfl : u = Value.bool true := rel
        refine ⟨rfl, OldK.of_keep ?_, os, bare⟩
        intro b o q
        cases z : H b with
        | none => exact un.keep b o q z (fun h => by cases h) (fun h => by cases h)
        | some u =>
          obtain rfl := only b (by rw [z]; simp)
          obtain ⟨_, rfl⟩ := what u z
          obtain ⟨e1, _⟩ := hok b _ z
          obtain ⟨e2, _⟩ := hok' b _ (un.frzs b _ _ z)
          rw [q] at e1; cases e1
          exact e2
  cases look : K.lookup a with
  | some o =>
    have q := inK a o look
    rw [obj] at q
    cases q
    refine main (fun _ => none) (fun b z => absurd rfl z) (fun o z => by cases z) (.inr ⟨_, vs.toArray, _, look, rfl, rfl, rfl, by rw [List.size_toArray, lv]; exact long, by simpa using vals⟩) ?_
    intro b u z
    cases z
  | none =>
    refine main (fun b => if b = a then some (.frz { cls := .type "list", data := .seq vs.toArray } (.lst (ns.map V.int))) else none) ?_ ?_ (.inl (.inr ⟨_, if_pos rfl⟩)) ?_
    · intro b z
      by_cases h : b = a
      · exact h
      · exact absurd (if_neg h) z
    · intro o z
      have z' := (if_pos rfl).symm.trans z
      cases z'
      exact ⟨look, rfl⟩
    · intro b u z
      by_cases h : b = a
      · have z' := (if_pos h).symm.trans z
        cases z'
        subst h
        exact ⟨obj, by rw [List.length_map]; exact long, vs, _, vals, obj⟩
      · have z' := (if_neg h).symm.trans z
        cases z'
/-- the row's claim, from the law's def -/
theorem law_end0 {l : PySem.W.OpenLaw} {n k : Nat} {q : Program} {loose : List Str} {XP : (Str → Option Value) → Heap → Prop} {YP : World → Heap → Prop} {d : DefRec} {K : Params → PySem.W.Frag} {x : Str} {st : Stmt} {m : Fn}
    (hn : l.most = some n) (hn2 : n ≤ sizeLine) (hdf : d.params.defaults = []) (hr : Room k callerA) (hY : ∀ (w : World) (h : Heap), YP w h → (K w.params).In h) (hB : BindsD d.name st [x])
    (F : ∀ (w : World) (mg : Str → Option Value) (h : Heap), (K w.params).In h → h.Ns mainGlobals mg → ∀ base : Heap, (K w.params).In base → base.Ns mainGlobals mg → FnAt0 l.prog w (K w.params) mg base k d.name st [x] 1 m)
    (hm : ∀ ns : List Int, ns.length ≤ n → ∃ pd, m [] [scrD ns] = some (.val (.bool true), pd)) :
    PySem.W.WalkO q loose XP YP l.row.toRowW d [] (fun f vs => PySem.call f vs) := by
  refine Att.attach_call hn hdf ?_
  intro w s₀ s₁ mg mb fa o pm cd doc a vs ns G Y ho hd hcd hmg hobj hints hlen hg
  have inK := hY w _ Y
  have Fw := F w mg _ inK G.T.g
  -- the def's object is the written part's: one for every base
  obtain ⟨f0, fd0, D0, _⟩ := (Fw s₁.heap inK G.T.g).ex
  have same : f0 = fa := by
    have z := D0.at_.symm.trans hmg
    cases z; rfl
  subst same
  refine law_run0 (fd := fd0) (x := x) (m := m) (k := k) inK G.T.g G.T.b G.T.builtins G.T.nolimit hg hobj hints (Nat.le_trans hlen hn2) hr (fun base h1 h2 => ?_) (fun v => BindsTo.of_eq (D0.bind hB [v] rfl)) (hm ns hlen)
  obtain ⟨f1, fd1, D1, G1⟩ := (Fw base h1 h2).ex
  have e1 : f1 = f0 := by
    have z := D1.at_.symm.trans D0.at_
    cases z; rfl
  subst e1
  obtain ⟨oc, od, kV, doc, pm, an, cdv, ct, osl, e, look, code⟩ := D0.fn.ex
  obtain ⟨oc', od', kV', doc', pm', an', cdv', ct', osl', e', look', code'⟩ := D1.fn.ex
  have : fd1 = fd0 := by
    rw [look] at look'
    cases look'; rfl
  rw [← this]
  exact G1
end Wk

namespace LawX
open PySem PySem.Spec PyProof.Rows L2 Wk
def topS (i : Nat) : Stmt := PySem.Challenge.pw_sumworkshop_k18_whole_power_sums_by_tele.main.body.getD i (.Pass ⟨0, 0, 0, 0⟩)
/-- what the top has left -/
structure Tx (K : PySem.W.Frag) (mg : Str → Option Value) : Prop where
  d_is_integer : ∃ f fd, DefAt K mg "is_integer" (topS 4) f fd
  d_is_within : ∃ f fd, DefAt K mg "is_within" (topS 5) f fd
  d_check_number : ∃ f fd, DefAt K mg "check_number" (topS 6) f fd
  d_divisor : ∃ f fd, DefAt K mg "divisor" (topS 7) f fd
  d_reduced : ∃ f fd, DefAt K mg "reduced" (topS 11) f fd
  d_add : ∃ f fd, DefAt K mg "add" (topS 12) f fd
  d_multiply : ∃ f fd, DefAt K mg "multiply" (topS 13) f fd
  d_divide : ∃ f fd, DefAt K mg "divide" (topS 14) f fd
  d_turned : ∃ f fd, DefAt K mg "turned" (topS 15) f fd
  d_total : ∃ f fd, DefAt K mg "total" (topS 16) f fd
  d_told_of : ∃ f fd, DefAt K mg "told_of" (topS 18) f fd
  d_picks : ∃ f fd, DefAt K mg "picks" (topS 21) f fd
  d_bernoulli_of : ∃ f fd, DefAt K mg "bernoulli_of" (topS 22) f fd
  d_bernoulli : ∃ f fd, DefAt K mg "bernoulli" (topS 23) f fd
  d_power_sum : ∃ f fd, DefAt K mg "power_sum" (topS 24) f fd
  d__law_pot : ∃ f fd, DefAt K mg "_law_pot" (topS 26) f fd
  d__law_draw : ∃ f fd, DefAt K mg "_law_draw" (topS 27) f fd
  d__law_divisor : ∃ f fd, DefAt K mg "_law_divisor" (topS 28) f fd
  d__law_cut : ∃ f fd, DefAt K mg "_law_cut" (topS 29) f fd
  d__law_add : ∃ f fd, DefAt K mg "_law_add" (topS 30) f fd
  d__law_mul : ∃ f fd, DefAt K mg "_law_mul" (topS 31) f fd
  d__law_trim : ∃ f fd, DefAt K mg "_law_trim" (topS 32) f fd
  d__law_sum : ∃ f fd, DefAt K mg "_law_sum" (topS 33) f fd
  d__law_times_number : ∃ f fd, DefAt K mg "_law_times_number" (topS 34) f fd
  d__law_value : ∃ f fd, DefAt K mg "_law_value" (topS 35) f fd
  d__law_picks : ∃ f fd, DefAt K mg "_law_picks" (topS 36) f fd
  d__law_power : ∃ f fd, DefAt K mg "_law_power" (topS 37) f fd
  d_law : ∃ f fd, DefAt K mg "law" (topS 38) f fd
  z_abs : mg "abs" = none
  z_bool : mg "bool" = none
  z_divmod : mg "divmod" = none
  z_enumerate : mg "enumerate" = none
  z_int : mg "int" = none
  z_isinstance : mg "isinstance" = none
  z_len : mg "len" = none
  z_list : mg "list" = none
  z_max : mg "max" = none
  z_range : mg "range" = none
  z_sum : mg "sum" = none
  z_zip : mg "zip" = none
  c_MOST_POWER : ∃ t, mg "MOST_POWER" = some (.int 8 t)
  c_NOUGHT : ∃ a, mg "NOUGHT" = some (.ref a) ∧ ∀ G, Rp K G (.ref a) (.tuple [.int 0, .int 1])
  c_ONE : ∃ a, mg "ONE" = some (.ref a) ∧ ∀ G, Rp K G (.ref a) (.tuple [.int 1, .int 1])
section
variable {P : Program} {w : World} {K : PySem.W.Frag} {mg : Str → Option Value} {base : Heap}
/-! ### is_integer -/
abbrev s_is_integer : Stmt := topS 4
abbrev N_is_integer : List Str := ["value"]
theorem sc_is_integer : FnScope N_is_integer ["value"] (defScope s_is_integer) := ⟨rfl, rfl, rfl, by decide +kernel, rfl, by decide +kernel, by decide +kernel⟩
theorem bd_is_integer : BindsD "is_integer" s_is_integer ["value"] := fun _ _ _ _ _ _ us hl => match us, hl with | [_], _ => rfl
--
def g_is_integer : WMs :=
  (sRet (gAndV (gIsi "int" (gVar 0)) (gNotV (gIsi "bool" (gVar 0)))))
def m_is_integer : Fn := mkFn false 1 0 g_is_integer
theorem ln_is_integer : ∀ pd ds r, m_is_integer pd ds = some r → ds.length = 0 + 1 := fun pd ds r h => by have := mkFn_len pd ds r h; omega
theorem fn_is_integer (T : Tx K mg) : FnAt P w K mg base 1 "is_integer" s_is_integer ["value"] false (0 + 1) m_is_integer := by
  obtain ⟨f, fd, De⟩ := T.d_is_integer
  have nd := sc_is_integer.nd
  refine fn_at (pp := false) (np := 1) (nl := 0) De sc_is_integer rfl rfl fun cdv A outer s H E hr hg => ⟨_, (pss_one (ps_ret (pe_and (pe_callB call_isi (by rfl) T.z_isinstance bt_isinstance (pa_cons (pv 0) (pa_cons (pe_bltn (v := .ty "int") (by rfl) T.z_int bt_int rfl) pa_nil))) (pe_one (pe_not (pe_callB call_isi (by rfl) T.z_isinstance bt_isinstance (pa_cons (pv 0) (pa_cons (pe_bltn (v := .ty "bool") (by rfl) T.z_bool bt_bool rfl) pa_nil)))))))), fun F hk => ?_⟩
  subst hk
  exact (ok_ret (ok_andV (ok_isi (ok_var 0)) (ok_notV (ok_isi (ok_var 0)))))
/-! ### is_within -/
abbrev s_is_within : Stmt := topS 5
abbrev N_is_within : List Str := ["value", "least", "most"]
theorem sc_is_within : FnScope N_is_within ["value", "least", "most"] (defScope s_is_within) := ⟨rfl, rfl, rfl, by decide +kernel, rfl, by decide +kernel, by decide +kernel⟩
theorem bd_is_within : BindsD "is_within" s_is_within ["value", "least", "most"] := fun _ _ _ _ _ _ us hl => match us, hl with | [_, _, _], _ => rfl
--
def g_is_within : WMs :=
  (sRet (gAndV (gCall m_is_integer (Wk.gCons (gVar 0) Wk.gNil)) (gChain dLe dLe (gVar 1) (gVar 0) (gVar 2))))
def m_is_within : Fn := mkFn false 3 0 g_is_within
theorem ln_is_within : ∀ pd ds r, m_is_within pd ds = some r → ds.length = 0 + 3 := fun pd ds r h => by have := mkFn_len pd ds r h; omega
theorem fn_is_within (T : Tx K mg) : FnAt P w K mg base 2 "is_within" s_is_within ["value", "least", "most"] false (0 + 3) m_is_within := by
  obtain ⟨f, fd, De⟩ := T.d_is_within
  have F_is_integer := fn_is_integer (P := P) (w := w) (base := base) T
  have nd := sc_is_within.nd
  refine fn_at (pp := false) (np := 3) (nl := 0) De sc_is_within rfl rfl fun cdv A outer s H E hr hg => ⟨_, (pss_one (ps_ret (pe_and (pe_fn F_is_integer bd_is_integer (hr.mono (by decide)) hg (by rfl) (pa_cons (pv 0) pa_nil)) (pe_one (pe_chain op_le op_le (pv 1) (pv 0) (pv 2)))))), fun F hk => ?_⟩
  subst hk
  exact (ok_ret (ok_andV (ok_call ln_is_integer (ok_cons (ok_var 0) ok_nil)) (ok_chain oo_le oo_le (ok_var 1) (ok_var 0) (ok_var 2))))
/-! ### check_number -/
abbrev s_check_number : Stmt := topS 6
abbrev N_check_number : List Str := ["value", "least", "most"]
theorem sc_check_number : FnScope N_check_number ["value", "least", "most"] (defScope s_check_number) := ⟨rfl, rfl, rfl, by decide +kernel, rfl, by decide +kernel, by decide +kernel⟩
theorem bd_check_number : BindsD "check_number" s_check_number ["value", "least", "most"] := fun _ _ _ _ _ _ us hl => match us, hl with | [_, _, _], _ => rfl
--
def g_check_number : WMs :=
  (sIf (gNot (gTest (gCall m_is_within (Wk.gCons (gVar 0) (Wk.gCons (gVar 1) (Wk.gCons (gVar 2) Wk.gNil)))))) sNever sNext)
def m_check_number : Fn := mkFn false 3 0 g_check_number
theorem ln_check_number : ∀ pd ds r, m_check_number pd ds = some r → ds.length = 0 + 3 := fun pd ds r h => by have := mkFn_len pd ds r h; omega
theorem fn_check_number (T : Tx K mg) : FnAt P w K mg base 3 "check_number" s_check_number ["value", "least", "most"] false (0 + 3) m_check_number := by
  obtain ⟨f, fd, De⟩ := T.d_check_number
  have F_is_within := fn_is_within (P := P) (w := w) (base := base) T
  have nd := sc_check_number.nd
  refine fn_at (pp := false) (np := 3) (nl := 0) De sc_check_number rfl rfl fun cdv A outer s H E hr hg => ⟨_, (pss_one (ps_if (pt_not (pt_val (pe_fn F_is_within bd_is_within (hr.mono (by decide)) hg (by rfl) (pa_cons (pv 0) (pa_cons (pv 1) (pa_cons (pv 2) pa_nil)))))) (pss_one ps_never) pss_nil)), fun F hk => ?_⟩
  subst hk
  exact (ok_ifS (ok_not (ok_tB (ok_call ln_is_within (ok_cons (ok_var 0) (ok_cons (ok_var 1) (ok_cons (ok_var 2) ok_nil)))))) ok_never ok_next)
/-! ### divisor -/
abbrev s_divisor : Stmt := topS 7
abbrev N_divisor : List Str := ["one", "late"]
theorem sc_divisor : FnScope N_divisor ["one", "late"] (defScope s_divisor) := ⟨rfl, rfl, rfl, by decide +kernel, rfl, by decide +kernel, by decide +kernel⟩
theorem bd_divisor : BindsD "divisor" s_divisor ["one", "late"] := fun _ _ _ _ _ _ us hl => match us, hl with | [_, _], _ => rfl
--
def g_divisor : WMs :=
  (sSeq (sWhile fuelA (gTest (gOp dGt (gVar 1) (gC (.int 0)))) (sPar 0 1 (Wk.gCons (gVar 1) (Wk.gCons (gF (gOp dMod (gF (gCb dInt1 (Wk.gCons (gVar 0) Wk.gNil))) (gVar 1))) Wk.gNil))))
  (sRet (gMove 0)))
def m_divisor : Fn := mkFn false 2 0 g_divisor
theorem ln_divisor : ∀ pd ds r, m_divisor pd ds = some r → ds.length = 0 + 2 := fun pd ds r h => by have := mkFn_len pd ds r h; omega
theorem fn_divisor (T : Tx K mg) : FnAt P w K mg base 1 "divisor" s_divisor ["one", "late"] false (0 + 2) m_divisor := by
  obtain ⟨f, fd, De⟩ := T.d_divisor
  have nd := sc_divisor.nd
  refine fn_at (pp := false) (np := 2) (nl := 0) De sc_divisor rfl rfl fun cdv A outer s H E hr hg => ⟨_, (pss_cons (ps_while PassesOwn.never (pt_cmpR op_gt (pv 1) pe_int (nomark _)) (pss_one (ps_par (i := 0) (j := 1) rfl nd rfl rfl (by decide) rfl rfl (pa_cons (pv 1) (pa_cons (pe_op op_modN (pe_callTy call_int1 (by rfl) T.z_int bt_int (pa_cons (pv 0) pa_nil)) (pv 1)) pa_nil)) (by rfl))))
    (pss_one (ps_ret (pv 0)))), fun F hk => ?_⟩
  subst hk
  exact (ok_seq (ok_while (ok_test (ok_op oo_gt (ok_var 1) (ok_int 0))) (ok_par (ok_cons (ok_var 1) (ok_cons (TEok.f (ok_op oo_mod (TEok.f (ok_cb cb_int1 (ok_cons (ok_var 0) ok_nil))) (ok_var 1))) ok_nil))))
    (ok_ret (ok_move 0)))
/-! ### reduced -/
abbrev s_reduced : Stmt := topS 11
abbrev N_reduced : List Str := ["top", "bottom", "common"]
theorem sc_reduced : FnScope N_reduced ["top", "bottom"] (defScope s_reduced) := ⟨rfl, rfl, rfl, by decide +kernel, rfl, by decide +kernel, by decide +kernel⟩
theorem bd_reduced : BindsD "reduced" s_reduced ["top", "bottom"] := fun _ _ _ _ _ _ us hl => match us, hl with | [_, _], _ => rfl
--
def g_reduced : WMs :=
  (sSeq (sIf (gTest (gOp dLt (gVar 1) (gC (.int 0)))) (sPar 0 1 (Wk.gCons (gF (gOp dSub (gC (.int 0)) (gVar 0))) (Wk.gCons (gF (gOp dSub (gC (.int 0)) (gVar 1))) Wk.gNil))) sNext)
  (sSeq (sAsg (gCall m_divisor (Wk.gCons (gF (gCb dAbs (Wk.gCons (gVar 0) Wk.gNil))) (Wk.gCons (gVar 1) Wk.gNil))) (gtName 2))
  (sRet (gV (Wk.gTup (Wk.gCons (gF (gOp dDiv (gVar 0) (gVar 2))) (Wk.gCons (gF (gOp dDiv (gVar 1) (gVar 2))) Wk.gNil)))))))
def m_reduced : Fn := mkFn false 2 1 g_reduced
theorem ln_reduced : ∀ pd ds r, m_reduced pd ds = some r → ds.length = 0 + 2 := fun pd ds r h => by have := mkFn_len pd ds r h; omega
theorem fn_reduced (T : Tx K mg) : FnAt P w K mg base 2 "reduced" s_reduced ["top", "bottom"] false (0 + 2) m_reduced := by
  obtain ⟨f, fd, De⟩ := T.d_reduced
  have F_divisor := fn_divisor (P := P) (w := w) (base := base) T
  have nd := sc_reduced.nd
  refine fn_at (pp := false) (np := 2) (nl := 1) De sc_reduced rfl rfl fun cdv A outer s H E hr hg => ⟨_, (pss_cons (ps_if (pt_cmpR op_lt (pv 1) pe_int (nomark _)) (pss_one (ps_par (i := 0) (j := 1) rfl nd rfl rfl (by decide) rfl rfl (pa_cons (pe_op op_sub pe_int (pv 0)) (pa_cons (pe_op op_sub pe_int (pv 1)) pa_nil)) (by rfl))) pss_nil)
    (pss_cons (ps_set (i := 2) nd rfl (by first | exact .inl rfl | exact .inr rfl) (pe_fn F_divisor bd_divisor (hr.mono (by decide)) hg (by rfl) (pa_cons (pe_callB call_abs (by rfl) T.z_abs bt_abs (pa_cons (pv 0) pa_nil)) (pa_cons (pv 1) pa_nil))))
    (pss_one (ps_ret (pe_tup (pa_cons (pe_op op_divA (pv 0) (pv 2)) (pa_cons (pe_op op_divA (pv 1) (pv 2)) pa_nil))))))), fun F hk => ?_⟩
  subst hk
  exact (ok_seq (ok_ifS (ok_test (ok_op oo_lt (ok_var 1) (ok_int 0))) (ok_par (ok_cons (TEok.f (ok_op oo_sub (ok_int 0) (ok_var 0))) (ok_cons (TEok.f (ok_op oo_sub (ok_int 0) (ok_var 1))) ok_nil))) ok_next)
    (ok_seq (ok_asg (ok_call ln_divisor (ok_cons (TEok.f (ok_cb cb_abs (ok_cons (ok_var 0) ok_nil))) (ok_cons (ok_var 1) ok_nil))) (ok_gname 2))
    (ok_ret (TDok.v (ok_tup (ok_cons (TEok.f (ok_op oo_div (ok_var 0) (ok_var 2))) (ok_cons (TEok.f (ok_op oo_div (ok_var 1) (ok_var 2))) ok_nil)))))))
/-! ### add -/
abbrev s_add : Stmt := topS 12
abbrev N_add : List Str := ["one", "late"]
theorem sc_add : FnScope N_add ["one", "late"] (defScope s_add) := ⟨rfl, rfl, rfl, by decide +kernel, rfl, by decide +kernel, by decide +kernel⟩
theorem bd_add : BindsD "add" s_add ["one", "late"] := fun _ _ _ _ _ _ us hl => match us, hl with | [_, _], _ => rfl
--
def g_add : WMs :=
  (sRet (gCall m_reduced (Wk.gCons (gF (gOp dAdd (gF (gOp dMul (gF (gOp dIx (gVar 0) (gC (.int 0)))) (gF (gOp dIx (gVar 1) (gC (.int 1)))))) (gF (gOp dMul (gF (gOp dIx (gVar 1) (gC (.int 0)))) (gF (gOp dIx (gVar 0) (gC (.int 1)))))))) (Wk.gCons (gF (gOp dMul (gF (gOp dIx (gVar 0) (gC (.int 1)))) (gF (gOp dIx (gVar 1) (gC (.int 1)))))) Wk.gNil))))
def m_add : Fn := mkFn false 2 0 g_add
theorem ln_add : ∀ pd ds r, m_add pd ds = some r → ds.length = 0 + 2 := fun pd ds r h => by have := mkFn_len pd ds r h; omega
theorem fn_add (T : Tx K mg) : FnAt P w K mg base 3 "add" s_add ["one", "late"] false (0 + 2) m_add := by
  obtain ⟨f, fd, De⟩ := T.d_add
  have F_reduced := fn_reduced (P := P) (w := w) (base := base) T
  have nd := sc_add.nd
  refine fn_at (pp := false) (np := 2) (nl := 0) De sc_add rfl rfl fun cdv A outer s H E hr hg => ⟨_, (pss_one (ps_ret (pe_fn F_reduced bd_reduced (hr.mono (by decide)) hg (by rfl) (pa_cons (pe_op op_addA (pe_op op_mulA (pe_ix ix_seq (pv 0) pe_int (fun _ _ => rfl)) (pe_ix ix_seq (pv 1) pe_int (fun _ _ => rfl))) (pe_op op_mulA (pe_ix ix_seq (pv 1) pe_int (fun _ _ => rfl)) (pe_ix ix_seq (pv 0) pe_int (fun _ _ => rfl)))) (pa_cons (pe_op op_mulA (pe_ix ix_seq (pv 0) pe_int (fun _ _ => rfl)) (pe_ix ix_seq (pv 1) pe_int (fun _ _ => rfl))) pa_nil))))), fun F hk => ?_⟩
  subst hk
  exact (ok_ret (ok_call ln_reduced (ok_cons (TEok.f (ok_op oo_add (TEok.f (ok_op oo_mul (TEok.f (ok_op oo_ix (ok_var 0) (ok_int 0))) (TEok.f (ok_op oo_ix (ok_var 1) (ok_int 1))))) (TEok.f (ok_op oo_mul (TEok.f (ok_op oo_ix (ok_var 1) (ok_int 0))) (TEok.f (ok_op oo_ix (ok_var 0) (ok_int 1))))))) (ok_cons (TEok.f (ok_op oo_mul (TEok.f (ok_op oo_ix (ok_var 0) (ok_int 1))) (TEok.f (ok_op oo_ix (ok_var 1) (ok_int 1))))) ok_nil))))
/-! ### multiply -/
abbrev s_multiply : Stmt := topS 13
abbrev N_multiply : List Str := ["one", "late"]
theorem sc_multiply : FnScope N_multiply ["one", "late"] (defScope s_multiply) := ⟨rfl, rfl, rfl, by decide +kernel, rfl, by decide +kernel, by decide +kernel⟩
theorem bd_multiply : BindsD "multiply" s_multiply ["one", "late"] := fun _ _ _ _ _ _ us hl => match us, hl with | [_, _], _ => rfl
--
def g_multiply : WMs :=
  (sRet (gCall m_reduced (Wk.gCons (gF (gOp dMul (gF (gOp dIx (gVar 0) (gC (.int 0)))) (gF (gOp dIx (gVar 1) (gC (.int 0)))))) (Wk.gCons (gF (gOp dMul (gF (gOp dIx (gVar 0) (gC (.int 1)))) (gF (gOp dIx (gVar 1) (gC (.int 1)))))) Wk.gNil))))
def m_multiply : Fn := mkFn false 2 0 g_multiply
theorem ln_multiply : ∀ pd ds r, m_multiply pd ds = some r → ds.length = 0 + 2 := fun pd ds r h => by have := mkFn_len pd ds r h; omega
theorem fn_multiply (T : Tx K mg) : FnAt P w K mg base 3 "multiply" s_multiply ["one", "late"] false (0 + 2) m_multiply := by
  obtain ⟨f, fd, De⟩ := T.d_multiply
  have F_reduced := fn_reduced (P := P) (w := w) (base := base) T
  have nd := sc_multiply.nd
  refine fn_at (pp := false) (np := 2) (nl := 0) De sc_multiply rfl rfl fun cdv A outer s H E hr hg => ⟨_, (pss_one (ps_ret (pe_fn F_reduced bd_reduced (hr.mono (by decide)) hg (by rfl) (pa_cons (pe_op op_mulA (pe_ix ix_seq (pv 0) pe_int (fun _ _ => rfl)) (pe_ix ix_seq (pv 1) pe_int (fun _ _ => rfl))) (pa_cons (pe_op op_mulA (pe_ix ix_seq (pv 0) pe_int (fun _ _ => rfl)) (pe_ix ix_seq (pv 1) pe_int (fun _ _ => rfl))) pa_nil))))), fun F hk => ?_⟩
  subst hk
  exact (ok_ret (ok_call ln_reduced (ok_cons (TEok.f (ok_op oo_mul (TEok.f (ok_op oo_ix (ok_var 0) (ok_int 0))) (TEok.f (ok_op oo_ix (ok_var 1) (ok_int 0))))) (ok_cons (TEok.f (ok_op oo_mul (TEok.f (ok_op oo_ix (ok_var 0) (ok_int 1))) (TEok.f (ok_op oo_ix (ok_var 1) (ok_int 1))))) ok_nil))))
/-! ### divide -/
abbrev s_divide : Stmt := topS 14
abbrev N_divide : List Str := ["one", "late"]
theorem sc_divide : FnScope N_divide ["one", "late"] (defScope s_divide) := ⟨rfl, rfl, rfl, by decide +kernel, rfl, by decide +kernel, by decide +kernel⟩
theorem bd_divide : BindsD "divide" s_divide ["one", "late"] := fun _ _ _ _ _ _ us hl => match us, hl with | [_, _], _ => rfl
--
def g_divide : WMs :=
  (sRet (gCall m_reduced (Wk.gCons (gF (gOp dMul (gF (gOp dIx (gVar 0) (gC (.int 0)))) (gF (gOp dIx (gVar 1) (gC (.int 1)))))) (Wk.gCons (gF (gOp dMul (gF (gOp dIx (gVar 0) (gC (.int 1)))) (gF (gOp dIx (gVar 1) (gC (.int 0)))))) Wk.gNil))))
def m_divide : Fn := mkFn false 2 0 g_divide
theorem ln_divide : ∀ pd ds r, m_divide pd ds = some r → ds.length = 0 + 2 := fun pd ds r h => by have := mkFn_len pd ds r h; omega
theorem fn_divide (T : Tx K mg) : FnAt P w K mg base 3 "divide" s_divide ["one", "late"] false (0 + 2) m_divide := by
  obtain ⟨f, fd, De⟩ := T.d_divide
  have F_reduced := fn_reduced (P := P) (w := w) (base := base) T
  have nd := sc_divide.nd
  refine fn_at (pp := false) (np := 2) (nl := 0) De sc_divide rfl rfl fun cdv A outer s H E hr hg => ⟨_, (pss_one (ps_ret (pe_fn F_reduced bd_reduced (hr.mono (by decide)) hg (by rfl) (pa_cons (pe_op op_mulA (pe_ix ix_seq (pv 0) pe_int (fun _ _ => rfl)) (pe_ix ix_seq (pv 1) pe_int (fun _ _ => rfl))) (pa_cons (pe_op op_mulA (pe_ix ix_seq (pv 0) pe_int (fun _ _ => rfl)) (pe_ix ix_seq (pv 1) pe_int (fun _ _ => rfl))) pa_nil))))), fun F hk => ?_⟩
  subst hk
  exact (ok_ret (ok_call ln_reduced (ok_cons (TEok.f (ok_op oo_mul (TEok.f (ok_op oo_ix (ok_var 0) (ok_int 0))) (TEok.f (ok_op oo_ix (ok_var 1) (ok_int 1))))) (ok_cons (TEok.f (ok_op oo_mul (TEok.f (ok_op oo_ix (ok_var 0) (ok_int 1))) (TEok.f (ok_op oo_ix (ok_var 1) (ok_int 0))))) ok_nil))))
/-! ### turned -/
abbrev s_turned : Stmt := topS 15
abbrev N_turned : List Str := ["one"]
theorem sc_turned : FnScope N_turned ["one"] (defScope s_turned) := ⟨rfl, rfl, rfl, by decide +kernel, rfl, by decide +kernel, by decide +kernel⟩
theorem bd_turned : BindsD "turned" s_turned ["one"] := fun _ _ _ _ _ _ us hl => match us, hl with | [_], _ => rfl
--
def g_turned : WMs :=
  (sRet (gV (Wk.gTup (Wk.gCons (gF (gOp dSub (gC (.int 0)) (gF (gOp dIx (gVar 0) (gC (.int 0)))))) (Wk.gCons (gF (gOp dIx (gVar 0) (gC (.int 1)))) Wk.gNil)))))
def m_turned : Fn := mkFn false 1 0 g_turned
theorem ln_turned : ∀ pd ds r, m_turned pd ds = some r → ds.length = 0 + 1 := fun pd ds r h => by have := mkFn_len pd ds r h; omega
theorem fn_turned (T : Tx K mg) : FnAt P w K mg base 1 "turned" s_turned ["one"] false (0 + 1) m_turned := by
  obtain ⟨f, fd, De⟩ := T.d_turned
  have nd := sc_turned.nd
  refine fn_at (pp := false) (np := 1) (nl := 0) De sc_turned rfl rfl fun cdv A outer s H E hr hg => ⟨_, (pss_one (ps_ret (pe_tup (pa_cons (pe_op op_sub pe_int (pe_ix ix_seq (pv 0) pe_int (fun _ _ => rfl))) (pa_cons (pe_ix ix_seq (pv 0) pe_int (fun _ _ => rfl)) pa_nil))))), fun F hk => ?_⟩
  subst hk
  exact (ok_ret (TDok.v (ok_tup (ok_cons (TEok.f (ok_op oo_sub (ok_int 0) (TEok.f (ok_op oo_ix (ok_var 0) (ok_int 0))))) (ok_cons (TEok.f (ok_op oo_ix (ok_var 0) (ok_int 1))) ok_nil)))))
/-! ### total -/
abbrev s_total : Stmt := topS 16
abbrev N_total : List Str := ["some", "found", "one"]
theorem sc_total : FnScope N_total ["some"] (defScope s_total) := ⟨rfl, rfl, rfl, by decide +kernel, rfl, by decide +kernel, by decide +kernel⟩
theorem bd_total : BindsD "total" s_total ["some"] := fun _ _ _ _ _ _ us hl => match us, hl with | [_], _ => rfl
--
def g_total : WMs :=
  (sSeq (sAsg (gV (gC (.tuple [.int 0, .int 1]))) (gtName 1))
  (sSeq (sFor (gItL (gVar 0)) (gtName 2) (sAsg (gCall m_add (Wk.gCons (gVar 1) (Wk.gCons (gVar 2) Wk.gNil))) (gtName 1)))
  (sRet (gMove 1))))
def m_total : Fn := mkFn false 1 2 g_total
theorem ln_total : ∀ pd ds r, m_total pd ds = some r → ds.length = 0 + 1 := fun pd ds r h => by have := mkFn_len pd ds r h; omega
theorem fn_total (T : Tx K mg) : FnAt P w K mg base 4 "total" s_total ["some"] false (0 + 1) m_total := by
  obtain ⟨f, fd, De⟩ := T.d_total
  have F_add := fn_add (P := P) (w := w) (base := base) T
  obtain ⟨a_NOUGHT, mg_NOUGHT, r_NOUGHT⟩ := T.c_NOUGHT
  have nd := sc_total.nd
  refine fn_at (pp := false) (np := 1) (nl := 2) De sc_total rfl rfl fun cdv A outer s H E hr hg => ⟨_, (pss_cons (ps_set (i := 1) nd rfl (by first | exact .inl rfl | exact .inr rfl) (pe_glob (v := .ref a_NOUGHT) (by rfl) mg_NOUGHT rfl))
    (pss_cons (ps_for PassesOwn.never rfl (pi_list (pv 0)) (pg_name (i := 2) nd rfl (by first | exact .inl rfl | exact .inr rfl)) (pss_one (ps_set (i := 1) nd rfl (by first | exact .inl rfl | exact .inr rfl) (pe_fn F_add bd_add (hr.mono (by decide)) hg (by rfl) (pa_cons (pv 1) (pa_cons (pv 2) pa_nil))))))
    (pss_one (ps_ret (pv 1))))), fun F hk => ?_⟩
  subst hk
  exact (ok_seq (ok_asg (TDok.v (ok_c r_NOUGHT)) (ok_gname 1))
    (ok_seq (ok_for (ok_iList (ok_var 0)) (ok_gname 2) (ok_asg (ok_call ln_add (ok_cons (ok_var 1) (ok_cons (ok_var 2) ok_nil))) (ok_gname 1)))
    (ok_ret (ok_move 1))))
/-! ### told_of -/
abbrev s_told_of : Stmt := topS 18
abbrev N_told_of : List Str := ["poly", "found"]
theorem sc_told_of : FnScope N_told_of ["poly"] (defScope s_told_of) := ⟨rfl, rfl, rfl, by decide +kernel, rfl, by decide +kernel, by decide +kernel⟩
theorem bd_told_of : BindsD "told_of" s_told_of ["poly"] := fun _ _ _ _ _ _ us hl => match us, hl with | [_], _ => rfl
--
def g_told_of : WMs :=
  (sSeq (sAsg (gCb dListOf (Wk.gCons (gVar 0) Wk.gNil)) (gtName 1))
  (sSeq (sWhile fuelA (gFzT (gAnd (gTest (gOp dNe (gVar 1) (gF (gLst Wk.gNil)))) (gTest (gOp dEq (gIxV 1 (gF (gUn dNeg (gC (.int 1))))) (gC (.tuple [.int 0, .int 1])))))) (sDrop (gV (gPop 1))))
  (sRet (gMove 1))))
def m_told_of : Fn := mkFn false 1 1 g_told_of
theorem ln_told_of : ∀ pd ds r, m_told_of pd ds = some r → ds.length = 0 + 1 := fun pd ds r h => by have := mkFn_len pd ds r h; omega
theorem fn_told_of (T : Tx K mg) : FnAt P w K mg base 1 "told_of" s_told_of ["poly"] false (0 + 1) m_told_of := by
  obtain ⟨f, fd, De⟩ := T.d_told_of
  obtain ⟨a_NOUGHT, mg_NOUGHT, r_NOUGHT⟩ := T.c_NOUGHT
  have nd := sc_told_of.nd
  refine fn_at (pp := false) (np := 1) (nl := 1) De sc_told_of rfl rfl fun cdv A outer s H E hr hg => ⟨_, (pss_cons (ps_set (i := 1) nd rfl (by first | exact .inl rfl | exact .inr rfl) (pe_callTy call_list_of (by rfl) T.z_list bt_list (pa_cons (pv 0) pa_nil)))
    (pss_cons (ps_while PassesOwn.never (PW.pt (pw_and (pt_cmpR (op_neD hr.units) (pv 1) (pe_lst pa_nil) (nomark _)) (pw_and1 (pt_cmpR (op_eqD hr.units) (pe_ix ix_seq (pv 1) (pe_un un_neg pe_int) (fun _ _ => rfl)) (pe_glob (v := .ref a_NOUGHT) (by rfl) mg_NOUGHT rfl) (nomark _))))) (pss_one (ps_expr (pe_bm0 PySem.F.plainAttrs_list PySem.F.slot_list_pop PySem.F.type_list_pop mt_pop (pv 1)))))
    (pss_one (ps_ret (pv 1))))), fun F hk => ?_⟩
  subst hk
  exact (ok_seq (ok_asg (ok_cb cb_listOf (ok_cons (ok_var 0) ok_nil)) (ok_gname 1))
    (ok_seq (ok_while (ok_fzT (ok_and (ok_test (ok_op oo_ne (ok_var 1) (TEok.f (ok_lst ok_nil)))) (ok_test (ok_op oo_eq (ok_ixV (TEok.f (ok_un uo_neg (ok_int 1)))) (ok_c r_NOUGHT))))) (ok_drop (TDok.v ok_pop)))
    (ok_ret (ok_move 1))))
/-! ### picks -/
abbrev s_picks : Stmt := topS 21
abbrev N_picks : List Str := ["many", "some", "found", "at"]
theorem sc_picks : FnScope N_picks ["many", "some"] (defScope s_picks) := ⟨rfl, rfl, rfl, by decide +kernel, rfl, by decide +kernel, by decide +kernel⟩
theorem bd_picks : BindsD "picks" s_picks ["many", "some"] := fun _ _ _ _ _ _ us hl => match us, hl with | [_, _], _ => rfl
--
def g_picks : WMs :=
  (sSeq (sAsg (gV (gC (.int 1))) (gtName 2))
  (sSeq (sFor (gRng1 (Wk.gCons (gVar 1) Wk.gNil)) (gtName 3) (sAsg (gOp dDiv (gF (gOp dMul (gVar 2) (gF (gOp dSub (gVar 0) (gVar 3))))) (gF (gOp dAdd (gVar 3) (gC (.int 1))))) (gtName 2)))
  (sRet (gMove 2))))
def m_picks : Fn := mkFn false 2 2 g_picks
theorem ln_picks : ∀ pd ds r, m_picks pd ds = some r → ds.length = 0 + 2 := fun pd ds r h => by have := mkFn_len pd ds r h; omega
theorem fn_picks (T : Tx K mg) : FnAt P w K mg base 1 "picks" s_picks ["many", "some"] false (0 + 2) m_picks := by
  obtain ⟨f, fd, De⟩ := T.d_picks
  have nd := sc_picks.nd
  refine fn_at (pp := false) (np := 2) (nl := 2) De sc_picks rfl rfl fun cdv A outer s H E hr hg => ⟨_, (pss_cons (ps_set (i := 2) nd rfl (by first | exact .inl rfl | exact .inr rfl) pe_int)
    (pss_cons (ps_for PassesOwn.never rfl (pi_range1 (by rfl) T.z_range (pa_cons (pv 1) pa_nil)) (pg_name (i := 3) nd rfl (by first | exact .inl rfl | exact .inr rfl)) (pss_one (ps_set (i := 2) nd rfl (by first | exact .inl rfl | exact .inr rfl) (pe_op op_divA (pe_op op_mulA (pv 2) (pe_op op_sub (pv 0) (pv 3))) (pe_op op_addA (pv 3) pe_int)))))
    (pss_one (ps_ret (pv 2))))), fun F hk => ?_⟩
  subst hk
  exact (ok_seq (ok_asg (TDok.v (ok_int 1)) (ok_gname 2))
    (ok_seq (ok_for (ok_iRng1 (ok_cons (ok_var 1) ok_nil)) (ok_gname 3) (ok_asg (ok_op oo_div (TEok.f (ok_op oo_mul (ok_var 2) (TEok.f (ok_op oo_sub (ok_var 0) (ok_var 3))))) (TEok.f (ok_op oo_add (ok_var 3) (ok_int 1)))) (ok_gname 2)))
    (ok_ret (ok_move 2))))
/-! ### bernoulli_of -/
abbrev s_bernoulli_of : Stmt := topS 22
abbrev N_bernoulli_of : List Str := ["most", "found", "number", "own", "at", "one"]
theorem sc_bernoulli_of : FnScope N_bernoulli_of ["most"] (defScope s_bernoulli_of) := ⟨rfl, rfl, rfl, by decide +kernel, rfl, by decide +kernel, by decide +kernel⟩
theorem bd_bernoulli_of : BindsD "bernoulli_of" s_bernoulli_of ["most"] := fun _ _ _ _ _ _ us hl => match us, hl with | [_], _ => rfl
--
def g_bernoulli_of : WMs :=
  (sSeq (sAsg (gLst (Wk.gCons (gC (.tuple [.int 1, .int 1])) Wk.gNil)) (gtName 1))
  (sSeq (sFor (gRng2 (Wk.gCons (gC (.int 1)) (Wk.gCons (gF (gOp dAdd (gVar 0) (gC (.int 1)))) Wk.gNil))) (gtName 2) (sSeq (sAsg (gCall m_total (Wk.gCons (gF (gFz (gLc [4, 5] (gEnum (Wk.gCons (gVar 1) Wk.gNil)) (gtTup 2 (gtCons (gtName 4) (gtCons (gtName 5) gtNil))) gYes (gF (gCall m_multiply (Wk.gCons (Wk.gTup (Wk.gCons (gF (gCall m_picks (Wk.gCons (gF (gOp dAdd (gVar 2) (gC (.int 1)))) (Wk.gCons (gVar 4) Wk.gNil)))) (Wk.gCons (gC (.int 1)) Wk.gNil))) (Wk.gCons (gVar 5) Wk.gNil))))))) Wk.gNil)) (gtName 3))
  (sDrop (gV (gApp 1 (gF (gCall m_divide (Wk.gCons (gF (gCall m_turned (Wk.gCons (gVar 3) Wk.gNil))) (Wk.gCons (Wk.gTup (Wk.gCons (gF (gOp dAdd (gVar 2) (gC (.int 1)))) (Wk.gCons (gC (.int 1)) Wk.gNil))) Wk.gNil)))))))))
  (sRet (gMove 1))))
def m_bernoulli_of : Fn := mkFn false 1 5 g_bernoulli_of
theorem ln_bernoulli_of : ∀ pd ds r, m_bernoulli_of pd ds = some r → ds.length = 0 + 1 := fun pd ds r h => by have := mkFn_len pd ds r h; omega
theorem fn_bernoulli_of (T : Tx K mg) : FnAt P w K mg base 5 "bernoulli_of" s_bernoulli_of ["most"] false (0 + 1) m_bernoulli_of := by
  obtain ⟨f, fd, De⟩ := T.d_bernoulli_of
  have F_total := fn_total (P := P) (w := w) (base := base) T
  have F_multiply := fn_multiply (P := P) (w := w) (base := base) T
  have F_picks := fn_picks (P := P) (w := w) (base := base) T
  have F_divide := fn_divide (P := P) (w := w) (base := base) T
  have F_turned := fn_turned (P := P) (w := w) (base := base) T
  obtain ⟨a_ONE, mg_ONE, r_ONE⟩ := T.c_ONE
  have nd := sc_bernoulli_of.nd
  refine fn_at (pp := false) (np := 1) (nl := 5) De sc_bernoulli_of rfl rfl fun cdv A outer s H E hr hg => ⟨_, (pss_cons (ps_set (i := 1) nd rfl (by first | exact .inl rfl | exact .inr rfl) (pe_lst (pa_cons (pe_glob (v := .ref a_ONE) (by rfl) mg_ONE rfl) pa_nil)))
    (pss_cons (ps_for PassesOwn.never rfl (pi_range2 (by rfl) T.z_range (pa_cons pe_int (pa_cons (pe_op op_addA (pv 0) pe_int) pa_nil))) (pg_name (i := 2) nd rfl (by first | exact .inl rfl | exact .inr rfl)) (pss_cons (ps_set (i := 3) nd rfl (by first | exact .inl rfl | exact .inr rfl) (pe_fn F_total bd_total (hr.mono (by decide)) hg (by rfl) (pa_cons (pe_lc (own := [("at", 4), ("one", 5)]) (wi := (iEnum K (tCons (tVar 1) tNil))) (g := (L2.gTup K 2 (L2.gCons (gName 4) (L2.gCons (gName 5) L2.gNil)))) (tt := tYes) (te := (tCall (spM K false (0 + 2) m_multiply) [] E0 (tCons (tTup (tCons (tCall (spM K false (0 + 2) m_picks) [] E0 (tCons (tOp rAddA (tVar 2) (tC (.int 1))) (tCons (tVar 4) tNil))) (tCons (tC (.int 1)) tNil))) (tCons (tVar 5) tNil)))) rfl nd (pi_enum (by rfl) T.z_enumerate (pa_cons (pv 1) pa_nil)) (blkOk_by (own := [("at", 4), ("one", 5)]) (N := N_bernoulli_of) (sc := defScope s_bernoulli_of) (by decide +kernel)) (fun _ _ _ _ _ => (pg_tup rfl (pgs_cons (pg_name (i := 4) nd rfl (by first | exact .inl rfl | exact .inr rfl)) (pgs_cons (pg_name (i := 5) nd rfl (by first | exact .inl rfl | exact .inr rfl)) pgs_nil)))) (fun _ _ _ _ _ => pts_nil) (fun _ _ _ _ _ => (pe_fn F_multiply bd_multiply (hr.mono (by decide)) hg (by rfl) (pa_cons (pe_tup (pa_cons (pe_fn F_picks bd_picks (hr.mono (by decide)) hg (by rfl) (pa_cons (pe_op op_addA (pv 2) pe_int) (pa_cons (pv 4) pa_nil))) (pa_cons pe_int pa_nil))) (pa_cons (pv 5) pa_nil))))) pa_nil)))
    (pss_one (ps_expr (pe_bm PySem.F.plainAttrs_list PySem.F.slot_list_append PySem.F.type_list_append mt_append (pv 1) (pa_cons (pe_fn F_divide bd_divide (hr.mono (by decide)) hg (by rfl) (pa_cons (pe_fn F_turned bd_turned (hr.mono (by decide)) hg (by rfl) (pa_cons (pv 3) pa_nil)) (pa_cons (pe_tup (pa_cons (pe_op op_addA (pv 2) pe_int) (pa_cons pe_int pa_nil))) pa_nil))) pa_nil))))))
    (pss_one (ps_ret (pv 1))))), fun F hk => ?_⟩
  subst hk
  exact (ok_seq (ok_asg (ok_lst (ok_cons (ok_c r_ONE) ok_nil)) (ok_gname 1))
    (ok_seq (ok_for (ok_iRng2 (ok_cons (ok_int 1) (ok_cons (TEok.f (ok_op oo_add (ok_var 0) (ok_int 1))) ok_nil))) (ok_gname 2) (ok_seq (ok_asg (ok_call ln_total (ok_cons (TEok.f (ok_fz (ok_lc (ok_iEnum (ok_cons (ok_var 1) ok_nil)) (fun H0 => (ok_ctup (ok_ccons (ok_cname (by decide)) (ok_ccons (ok_cname (by decide)) ok_cnil)))) (fun H0 => ok_yes) (fun H0 => (TEok.f (ok_call ln_multiply (ok_cons (ok_tup (ok_cons (TEok.f (ok_call ln_picks (ok_cons (TEok.f (ok_op oo_add (ok_var 2) (ok_int 1))) (ok_cons (ok_var 4) ok_nil)))) (ok_cons (ok_int 1) ok_nil))) (ok_cons (ok_var 5) ok_nil)))))))) ok_nil)) (ok_gname 3))
    (ok_drop (TDok.v (ok_app (TEok.f (ok_call ln_divide (ok_cons (TEok.f (ok_call ln_turned (ok_cons (ok_var 3) ok_nil))) (ok_cons (ok_tup (ok_cons (TEok.f (ok_op oo_add (ok_var 2) (ok_int 1))) (ok_cons (ok_int 1) ok_nil))) ok_nil)))))))))
    (ok_ret (ok_move 1))))
/-! ### bernoulli -/
abbrev s_bernoulli : Stmt := topS 23
abbrev N_bernoulli : List Str := ["number"]
theorem sc_bernoulli : FnScope N_bernoulli ["number"] (defScope s_bernoulli) := ⟨rfl, rfl, rfl, by decide +kernel, rfl, by decide +kernel, by decide +kernel⟩
theorem bd_bernoulli : BindsD "bernoulli" s_bernoulli ["number"] := fun _ _ _ _ _ _ us hl => match us, hl with | [_], _ => rfl
theorem bk_bernoulli_0_number : BindsK "bernoulli" s_bernoulli ["number"] ["number"] 0 [0] := fun _ _ _ _ _ _ us ws h1 h2 => match us, ws, h1, h2 with | [], [_], _, _ => rfl
def g_bernoulli : WMs :=
  (sSeq (sDrop (gCall m_check_number (Wk.gCons (gVar 0) (Wk.gCons (gC (.int 0)) (Wk.gCons (gC (.int 8)) Wk.gNil)))))
  (sRet (gOp dIx (gF (gCall m_bernoulli_of (Wk.gCons (gVar 0) Wk.gNil))) (gVar 0))))
def m_bernoulli : Fn := mkFn false 1 0 g_bernoulli
theorem ln_bernoulli : ∀ pd ds r, m_bernoulli pd ds = some r → ds.length = 0 + 1 := fun pd ds r h => by have := mkFn_len pd ds r h; omega
theorem fn_bernoulli (T : Tx K mg) : FnAt P w K mg base 6 "bernoulli" s_bernoulli ["number"] false (0 + 1) m_bernoulli := by
  obtain ⟨f, fd, De⟩ := T.d_bernoulli
  have F_check_number := fn_check_number (P := P) (w := w) (base := base) T
  have F_bernoulli_of := fn_bernoulli_of (P := P) (w := w) (base := base) T
  obtain ⟨t_MOST_POWER, mg_MOST_POWER⟩ := T.c_MOST_POWER
  have nd := sc_bernoulli.nd
  refine fn_at (pp := false) (np := 1) (nl := 0) De sc_bernoulli rfl rfl fun cdv A outer s H E hr hg => ⟨_, (pss_cons (ps_expr (pe_fn F_check_number bd_check_number (hr.mono (by decide)) hg (by rfl) (pa_cons (pv 0) (pa_cons pe_int (pa_cons (pe_glob (v := .int 8) (by rfl) mg_MOST_POWER ⟨_, rfl⟩) pa_nil)))))
    (pss_one (ps_ret (pe_ix ix_seq (pe_fn F_bernoulli_of bd_bernoulli_of (hr.mono (by decide)) hg (by rfl) (pa_cons (pv 0) pa_nil)) (pv 0) (fun _ _ => rfl))))), fun F hk => ?_⟩
  subst hk
  exact (ok_seq (ok_drop (ok_call ln_check_number (ok_cons (ok_var 0) (ok_cons (ok_int 0) (ok_cons (ok_int 8) ok_nil)))))
    (ok_ret (ok_op oo_ix (TEok.f (ok_call ln_bernoulli_of (ok_cons (ok_var 0) ok_nil))) (ok_var 0))))
/-! ### power_sum -/
abbrev s_power_sum : Stmt := topS 24
abbrev N_power_sum : List Str := ["number", "found", "at", "one"]
theorem sc_power_sum : FnScope N_power_sum ["number"] (defScope s_power_sum) := ⟨rfl, rfl, rfl, by decide +kernel, rfl, by decide +kernel, by decide +kernel⟩
theorem bd_power_sum : BindsD "power_sum" s_power_sum ["number"] := fun _ _ _ _ _ _ us hl => match us, hl with | [_], _ => rfl
theorem bk_power_sum_0_number : BindsK "power_sum" s_power_sum ["number"] ["number"] 0 [0] := fun _ _ _ _ _ _ us ws h1 h2 => match us, ws, h1, h2 with | [], [_], _, _ => rfl
def g_power_sum : WMs :=
  (sSeq (sDrop (gCall m_check_number (Wk.gCons (gVar 0) (Wk.gCons (gC (.int 0)) (Wk.gCons (gC (.int 8)) Wk.gNil)))))
  (sSeq (sAsg (gOp dMul (gF (gLst (Wk.gCons (gC (.tuple [.int 0, .int 1])) Wk.gNil))) (gF (gOp dAdd (gVar 0) (gC (.int 2))))) (gtName 1))
  (sSeq (sFor (gEnum (Wk.gCons (gF (gCall m_bernoulli_of (Wk.gCons (gVar 0) Wk.gNil))) Wk.gNil)) (gtTup 2 (gtCons (gtName 2) (gtCons (gtName 3) gtNil))) (sAsg (gCall m_divide (Wk.gCons (gF (gCall m_multiply (Wk.gCons (Wk.gTup (Wk.gCons (gF (gCall m_picks (Wk.gCons (gF (gOp dAdd (gVar 0) (gC (.int 1)))) (Wk.gCons (gVar 2) Wk.gNil)))) (Wk.gCons (gC (.int 1)) Wk.gNil))) (Wk.gCons (gVar 3) Wk.gNil)))) (Wk.gCons (Wk.gTup (Wk.gCons (gF (gOp dAdd (gVar 0) (gC (.int 1)))) (Wk.gCons (gC (.int 1)) Wk.gNil))) Wk.gNil))) (gtSetV 1 (gF (gOp dSub (gF (gOp dAdd (gVar 0) (gC (.int 1)))) (gVar 2))))))
  (sRet (gCall m_told_of (Wk.gCons (gVar 1) Wk.gNil))))))
def m_power_sum : Fn := mkFn false 1 3 g_power_sum
theorem ln_power_sum : ∀ pd ds r, m_power_sum pd ds = some r → ds.length = 0 + 1 := fun pd ds r h => by have := mkFn_len pd ds r h; omega
theorem fn_power_sum (T : Tx K mg) : FnAt P w K mg base 6 "power_sum" s_power_sum ["number"] false (0 + 1) m_power_sum := by
  obtain ⟨f, fd, De⟩ := T.d_power_sum
  have F_check_number := fn_check_number (P := P) (w := w) (base := base) T
  have F_bernoulli_of := fn_bernoulli_of (P := P) (w := w) (base := base) T
  have F_divide := fn_divide (P := P) (w := w) (base := base) T
  have F_multiply := fn_multiply (P := P) (w := w) (base := base) T
  have F_picks := fn_picks (P := P) (w := w) (base := base) T
  have F_told_of := fn_told_of (P := P) (w := w) (base := base) T
  obtain ⟨t_MOST_POWER, mg_MOST_POWER⟩ := T.c_MOST_POWER
  obtain ⟨a_NOUGHT, mg_NOUGHT, r_NOUGHT⟩ := T.c_NOUGHT
  have nd := sc_power_sum.nd
  refine fn_at (pp := false) (np := 1) (nl := 3) De sc_power_sum rfl rfl fun cdv A outer s H E hr hg => ⟨_, (pss_cons (ps_expr (pe_fn F_check_number bd_check_number (hr.mono (by decide)) hg (by rfl) (pa_cons (pv 0) (pa_cons pe_int (pa_cons (pe_glob (v := .int 8) (by rfl) mg_MOST_POWER ⟨_, rfl⟩) pa_nil)))))
    (pss_cons (ps_set (i := 1) nd rfl (by first | exact .inl rfl | exact .inr rfl) (pe_op op_mulA (pe_lst (pa_cons (pe_glob (v := .ref a_NOUGHT) (by rfl) mg_NOUGHT rfl) pa_nil)) (pe_op op_addA (pv 0) pe_int)))
    (pss_cons (ps_for PassesOwn.never rfl (pi_enum (by rfl) T.z_enumerate (pa_cons (pe_fn F_bernoulli_of bd_bernoulli_of (hr.mono (by decide)) hg (by rfl) (pa_cons (pv 0) pa_nil)) pa_nil)) (pg_tup rfl (pgs_cons (pg_name (i := 2) nd rfl (by first | exact .inl rfl | exact .inr rfl)) (pgs_cons (pg_name (i := 3) nd rfl (by first | exact .inl rfl | exact .inr rfl)) pgs_nil))) (pss_one (ps_asg (pe_fn F_divide bd_divide (hr.mono (by decide)) hg (by rfl) (pa_cons (pe_fn F_multiply bd_multiply (hr.mono (by decide)) hg (by rfl) (pa_cons (pe_tup (pa_cons (pe_fn F_picks bd_picks (hr.mono (by decide)) hg (by rfl) (pa_cons (pe_op op_addA (pv 0) pe_int) (pa_cons (pv 2) pa_nil))) (pa_cons pe_int pa_nil))) (pa_cons (pv 3) pa_nil))) (pa_cons (pe_tup (pa_cons (pe_op op_addA (pv 0) pe_int) (pa_cons pe_int pa_nil))) pa_nil))) (pg_sub (pv 1) (pe_op op_sub (pe_op op_addA (pv 0) pe_int) (pv 2)) set_list))))
    (pss_one (ps_ret (pe_fn F_told_of bd_told_of (hr.mono (by decide)) hg (by rfl) (pa_cons (pv 1) pa_nil))))))), fun F hk => ?_⟩
  subst hk
  exact (ok_seq (ok_drop (ok_call ln_check_number (ok_cons (ok_var 0) (ok_cons (ok_int 0) (ok_cons (ok_int 8) ok_nil)))))
    (ok_seq (ok_asg (ok_op oo_mul (TEok.f (ok_lst (ok_cons (ok_c r_NOUGHT) ok_nil))) (TEok.f (ok_op oo_add (ok_var 0) (ok_int 2)))) (ok_gname 1))
    (ok_seq (ok_for (ok_iEnum (ok_cons (TEok.f (ok_call ln_bernoulli_of (ok_cons (ok_var 0) ok_nil))) ok_nil)) (ok_gtup (ok_gcons (ok_gname 2) (ok_gcons (ok_gname 3) ok_gnil))) (ok_asg (ok_call ln_divide (ok_cons (TEok.f (ok_call ln_multiply (ok_cons (ok_tup (ok_cons (TEok.f (ok_call ln_picks (ok_cons (TEok.f (ok_op oo_add (ok_var 0) (ok_int 1))) (ok_cons (ok_var 2) ok_nil)))) (ok_cons (ok_int 1) ok_nil))) (ok_cons (ok_var 3) ok_nil)))) (ok_cons (ok_tup (ok_cons (TEok.f (ok_op oo_add (ok_var 0) (ok_int 1))) (ok_cons (ok_int 1) ok_nil))) ok_nil))) (ok_gsetV (TEok.f (ok_op oo_sub (TEok.f (ok_op oo_add (ok_var 0) (ok_int 1))) (ok_var 2))))))
    (ok_ret (ok_call ln_told_of (ok_cons (ok_var 1) ok_nil))))))
/-! ### _law_pot -/
abbrev s__law_pot : Stmt := topS 26
abbrev N__law_pot : List Str := ["script", "k", "cell"]
theorem sc__law_pot : FnScope N__law_pot ["script", "k"] (defScope s__law_pot) := ⟨rfl, rfl, rfl, by decide +kernel, rfl, by decide +kernel, by decide +kernel⟩
theorem bd__law_pot : BindsD "_law_pot" s__law_pot ["script", "k"] := fun _ _ _ _ _ _ us hl => match us, hl with | [_, _], _ => rfl
--
def g__law_pot : WMs :=
  (sSeq (sAsg (gIf (gTest (gOp dLt (gVar 1) (gF (gCb dLen (Wk.gCons (gVar 0) Wk.gNil))))) (gCb dAbs (Wk.gCons (gF (gOp dIx (gVar 0) (gVar 1))) Wk.gNil)) (gOp dAdd (gF (gOp dMul (gC (.int 7685)) (gVar 1))) (gC (.int 5471)))) (gtName 2))
  (sRet (gLst (Wk.gCons (gF (gCb dMax2 (Wk.gCons (gC (.int 0)) (Wk.gCons (gF (gOp dSub (gVar 2) (gF (gOp dPow (gC (.int 10)) (gC (.int 18)))))) Wk.gNil)))) (Wk.gCons (gF (gOp dAdd (gF (gOp dMod (gF (gCb dInt1 (Wk.gCons (gF (gOp dAdd (gF (gOp dAdd (gF (gOp dMul (gF (gOp dMod (gF (gCb dInt1 (Wk.gCons (gVar 2) Wk.gNil))) (gC (.int 2147483549)))) (gC (.int 46057)))) (gF (gOp dMul (gC (.int 1081)) (gVar 1))))) (gC (.int 30119)))) Wk.gNil))) (gC (.int 2147483563)))) (gC (.int 1)))) Wk.gNil)))))
def m__law_pot : Fn := mkFn false 2 1 g__law_pot
theorem ln__law_pot : ∀ pd ds r, m__law_pot pd ds = some r → ds.length = 0 + 2 := fun pd ds r h => by have := mkFn_len pd ds r h; omega
theorem fn__law_pot (T : Tx K mg) : FnAt P w K mg base 1 "_law_pot" s__law_pot ["script", "k"] false (0 + 2) m__law_pot := by
  obtain ⟨f, fd, De⟩ := T.d__law_pot
  have nd := sc__law_pot.nd
  refine fn_at (pp := false) (np := 2) (nl := 1) De sc__law_pot rfl rfl fun cdv A outer s H E hr hg => ⟨_, (pss_cons (ps_set (i := 2) nd rfl (by first | exact .inl rfl | exact .inr rfl) (pe_ifExp (pt_cmpR op_lt (pv 1) (pe_callB call_len (by rfl) T.z_len bt_len (pa_cons (pv 0) pa_nil)) (nomark _)) (pe_callB call_abs (by rfl) T.z_abs bt_abs (pa_cons (pe_ix ix_seq (pv 0) (pv 1) (fun _ _ => rfl)) pa_nil)) (pe_op op_addA (pe_op op_mulA pe_int (pv 1)) pe_int)))
    (pss_one (ps_ret (pe_lst (pa_cons (pe_callB (call_max2 rfl) (by rfl) T.z_max bt_max (pa_cons pe_int (pa_cons (pe_op op_sub (pv 2) (pe_op op_pow pe_int pe_int)) pa_nil))) (pa_cons (pe_op op_addA (pe_op op_modN (pe_callTy call_int1 (by rfl) T.z_int bt_int (pa_cons (pe_op op_addA (pe_op op_addA (pe_op op_mulA (pe_op op_modN (pe_callTy call_int1 (by rfl) T.z_int bt_int (pa_cons (pv 2) pa_nil)) pe_int) pe_int) (pe_op op_mulA pe_int (pv 1))) pe_int) pa_nil)) pe_int) pe_int) pa_nil)))))), fun F hk => ?_⟩
  subst hk
  exact (ok_seq (ok_asg (ok_if (ok_test (ok_op oo_lt (ok_var 1) (TEok.f (ok_cb cb_len (ok_cons (ok_var 0) ok_nil))))) (ok_cb cb_abs (ok_cons (TEok.f (ok_op oo_ix (ok_var 0) (ok_var 1))) ok_nil)) (ok_op oo_add (TEok.f (ok_op oo_mul (ok_int 7685) (ok_var 1))) (ok_int 5471))) (ok_gname 2))
    (ok_ret (ok_lst (ok_cons (TEok.f (ok_cb cb_max2 (ok_cons (ok_int 0) (ok_cons (TEok.f (ok_op oo_sub (ok_var 2) (TEok.f (ok_op oo_pow (ok_int 10) (ok_int 18))))) ok_nil)))) (ok_cons (TEok.f (ok_op oo_add (TEok.f (ok_op oo_mod (TEok.f (ok_cb cb_int1 (ok_cons (TEok.f (ok_op oo_add (TEok.f (ok_op oo_add (TEok.f (ok_op oo_mul (TEok.f (ok_op oo_mod (TEok.f (ok_cb cb_int1 (ok_cons (ok_var 2) ok_nil))) (ok_int 2147483549))) (ok_int 46057))) (TEok.f (ok_op oo_mul (ok_int 1081) (ok_var 1))))) (ok_int 30119))) ok_nil))) (ok_int 2147483563))) (ok_int 1))) ok_nil)))))
/-! ### _law_draw -/
abbrev s__law_draw : Stmt := topS 27
abbrev N__law_draw : List Str := ["pot", "many", "digit"]
theorem sc__law_draw : FnScope N__law_draw ["pot", "many"] (defScope s__law_draw) := ⟨rfl, rfl, rfl, by decide +kernel, rfl, by decide +kernel, by decide +kernel⟩
theorem bd__law_draw : BindsD "_law_draw" s__law_draw ["pot", "many"] := fun _ _ _ _ _ _ us hl => match us, hl with | [_, _], _ => rfl
--
def g__law_draw : WMs :=
  (sSeq (sIf (gTest (gOp dGt (gIxV 0 (gC (.int 0))) (gC (.int 0)))) (sSeq (sAsg (gCb dDivmod (Wk.gCons (gIxV 0 (gC (.int 0))) (Wk.gCons (gVar 1) Wk.gNil))) (gtTup 2 (gtCons (gtSetV 0 (gC (.int 0))) (gtCons (gtName 2) gtNil))))
  (sRet (gMove 2))) sNext)
  (sSeq (sAsg (gOp dMod (gF (gCb dInt1 (Wk.gCons (gF (gOp dAdd (gF (gOp dMul (gIxV 0 (gC (.int 1))) (gC (.int 48271)))) (gC (.int 20191)))) Wk.gNil))) (gC (.int 2147483587))) (gtSetV 0 (gC (.int 1))))
  (sRet (gOp dMod (gF (gCb dInt1 (Wk.gCons (gF (gOp dDiv (gF (gOp dMod (gF (gCb dInt1 (Wk.gCons (gF (gOp dMul (gIxV 0 (gC (.int 1))) (gIxV 0 (gC (.int 1))))) Wk.gNil))) (gC (.int 2147483549)))) (gC (.int 19)))) Wk.gNil))) (gVar 1)))))
def m__law_draw : Fn := mkFn true 1 1 g__law_draw
theorem ln__law_draw : ∀ pd ds r, m__law_draw pd ds = some r → ds.length + 1 = 1 + 1 := fun pd ds r h => by have := mkFn_len pd ds r h; omega
theorem fn__law_draw (T : Tx K mg) : FnAt P w K mg base 1 "_law_draw" s__law_draw ["pot", "many"] true (1 + 1) m__law_draw := by
  obtain ⟨f, fd, De⟩ := T.d__law_draw
  have nd := sc__law_draw.nd
  refine fn_at (pp := true) (np := 1) (nl := 1) De sc__law_draw rfl rfl fun cdv A outer s H E hr hg => ⟨_, (pss_cons (ps_if (pt_cmpR op_gt (pe_ix ix_seq (pv 0) pe_int (fun _ _ => rfl)) pe_int (nomark _)) (pss_cons (ps_asg (pe_callB call_divmod (by rfl) T.z_divmod bt_divmod (pa_cons (pe_ix ix_seq (pv 0) pe_int (fun _ _ => rfl)) (pa_cons (pv 1) pa_nil))) (pg_tup rfl (pgs_cons (pg_sub (pv 0) pe_int set_list) (pgs_cons (pg_name (i := 2) nd rfl (by first | exact .inl rfl | exact .inr rfl)) pgs_nil))))
    (pss_one (ps_ret (pv 2)))) pss_nil)
    (pss_cons (ps_asg (pe_op op_modN (pe_callTy call_int1 (by rfl) T.z_int bt_int (pa_cons (pe_op op_addA (pe_op op_mulA (pe_ix ix_seq (pv 0) pe_int (fun _ _ => rfl)) pe_int) pe_int) pa_nil)) pe_int) (pg_sub (pv 0) pe_int set_list))
    (pss_one (ps_ret (pe_op op_modN (pe_callTy call_int1 (by rfl) T.z_int bt_int (pa_cons (pe_op op_divA (pe_op op_modN (pe_callTy call_int1 (by rfl) T.z_int bt_int (pa_cons (pe_op op_mulA (pe_ix ix_seq (pv 0) pe_int (fun _ _ => rfl)) (pe_ix ix_seq (pv 0) pe_int (fun _ _ => rfl))) pa_nil)) pe_int) pe_int) pa_nil)) (pv 1)))))), fun F hk => ?_⟩
  subst hk
  exact (ok_seq (ok_ifS (ok_test (ok_op oo_gt (ok_ixV (ok_int 0)) (ok_int 0))) (ok_seq (ok_asg (ok_cb cb_divmod (ok_cons (ok_ixV (ok_int 0)) (ok_cons (ok_var 1) ok_nil))) (ok_gtup (ok_gcons (ok_gsetV (ok_int 0)) (ok_gcons (ok_gname 2) ok_gnil))))
    (ok_ret (ok_move 2))) ok_next)
    (ok_seq (ok_asg (ok_op oo_mod (TEok.f (ok_cb cb_int1 (ok_cons (TEok.f (ok_op oo_add (TEok.f (ok_op oo_mul (ok_ixV (ok_int 1)) (ok_int 48271))) (ok_int 20191))) ok_nil))) (ok_int 2147483587)) (ok_gsetV (ok_int 1)))
    (ok_ret (ok_op oo_mod (TEok.f (ok_cb cb_int1 (ok_cons (TEok.f (ok_op oo_div (TEok.f (ok_op oo_mod (TEok.f (ok_cb cb_int1 (ok_cons (TEok.f (ok_op oo_mul (ok_ixV (ok_int 1)) (ok_ixV (ok_int 1)))) ok_nil))) (ok_int 2147483549))) (ok_int 19))) ok_nil))) (ok_var 1)))))
/-! ### _law_divisor -/
abbrev s__law_divisor : Stmt := topS 28
abbrev N__law_divisor : List Str := ["one", "late"]
theorem sc__law_divisor : FnScope N__law_divisor ["one", "late"] (defScope s__law_divisor) := ⟨rfl, rfl, rfl, by decide +kernel, rfl, by decide +kernel, by decide +kernel⟩
theorem bd__law_divisor : BindsD "_law_divisor" s__law_divisor ["one", "late"] := fun _ _ _ _ _ _ us hl => match us, hl with | [_, _], _ => rfl
--
def g__law_divisor : WMs :=
  (sSeq (sWhile fuelA (gTest (gOp dGt (gVar 1) (gC (.int 0)))) (sPar 0 1 (Wk.gCons (gVar 1) (Wk.gCons (gF (gOp dMod (gF (gCb dInt1 (Wk.gCons (gVar 0) Wk.gNil))) (gVar 1))) Wk.gNil))))
  (sRet (gMove 0)))
def m__law_divisor : Fn := mkFn false 2 0 g__law_divisor
theorem ln__law_divisor : ∀ pd ds r, m__law_divisor pd ds = some r → ds.length = 0 + 2 := fun pd ds r h => by have := mkFn_len pd ds r h; omega
theorem fn__law_divisor (T : Tx K mg) : FnAt P w K mg base 1 "_law_divisor" s__law_divisor ["one", "late"] false (0 + 2) m__law_divisor := by
  obtain ⟨f, fd, De⟩ := T.d__law_divisor
  have nd := sc__law_divisor.nd
  refine fn_at (pp := false) (np := 2) (nl := 0) De sc__law_divisor rfl rfl fun cdv A outer s H E hr hg => ⟨_, (pss_cons (ps_while PassesOwn.never (pt_cmpR op_gt (pv 1) pe_int (nomark _)) (pss_one (ps_par (i := 0) (j := 1) rfl nd rfl rfl (by decide) rfl rfl (pa_cons (pv 1) (pa_cons (pe_op op_modN (pe_callTy call_int1 (by rfl) T.z_int bt_int (pa_cons (pv 0) pa_nil)) (pv 1)) pa_nil)) (by rfl))))
    (pss_one (ps_ret (pv 0)))), fun F hk => ?_⟩
  subst hk
  exact (ok_seq (ok_while (ok_test (ok_op oo_gt (ok_var 1) (ok_int 0))) (ok_par (ok_cons (ok_var 1) (ok_cons (TEok.f (ok_op oo_mod (TEok.f (ok_cb cb_int1 (ok_cons (ok_var 0) ok_nil))) (ok_var 1))) ok_nil))))
    (ok_ret (ok_move 0)))
/-! ### _law_cut -/
abbrev s__law_cut : Stmt := topS 29
abbrev N__law_cut : List Str := ["top", "bottom", "whole"]
theorem sc__law_cut : FnScope N__law_cut ["top", "bottom"] (defScope s__law_cut) := ⟨rfl, rfl, rfl, by decide +kernel, rfl, by decide +kernel, by decide +kernel⟩
theorem bd__law_cut : BindsD "_law_cut" s__law_cut ["top", "bottom"] := fun _ _ _ _ _ _ us hl => match us, hl with | [_, _], _ => rfl
--
def g__law_cut : WMs :=
  (sSeq (sIf (gTest (gOp dLt (gVar 1) (gC (.int 0)))) (sPar 0 1 (Wk.gCons (gF (gOp dSub (gC (.int 0)) (gVar 0))) (Wk.gCons (gF (gOp dSub (gC (.int 0)) (gVar 1))) Wk.gNil))) sNext)
  (sSeq (sAsg (gCall m__law_divisor (Wk.gCons (gF (gCb dAbs (Wk.gCons (gVar 0) Wk.gNil))) (Wk.gCons (gVar 1) Wk.gNil))) (gtName 2))
  (sRet (gV (Wk.gTup (Wk.gCons (gF (gOp dDiv (gVar 0) (gVar 2))) (Wk.gCons (gF (gOp dDiv (gVar 1) (gVar 2))) Wk.gNil)))))))
def m__law_cut : Fn := mkFn false 2 1 g__law_cut
theorem ln__law_cut : ∀ pd ds r, m__law_cut pd ds = some r → ds.length = 0 + 2 := fun pd ds r h => by have := mkFn_len pd ds r h; omega
theorem fn__law_cut (T : Tx K mg) : FnAt P w K mg base 2 "_law_cut" s__law_cut ["top", "bottom"] false (0 + 2) m__law_cut := by
  obtain ⟨f, fd, De⟩ := T.d__law_cut
  have F__law_divisor := fn__law_divisor (P := P) (w := w) (base := base) T
  have nd := sc__law_cut.nd
  refine fn_at (pp := false) (np := 2) (nl := 1) De sc__law_cut rfl rfl fun cdv A outer s H E hr hg => ⟨_, (pss_cons (ps_if (pt_cmpR op_lt (pv 1) pe_int (nomark _)) (pss_one (ps_par (i := 0) (j := 1) rfl nd rfl rfl (by decide) rfl rfl (pa_cons (pe_op op_sub pe_int (pv 0)) (pa_cons (pe_op op_sub pe_int (pv 1)) pa_nil)) (by rfl))) pss_nil)
    (pss_cons (ps_set (i := 2) nd rfl (by first | exact .inl rfl | exact .inr rfl) (pe_fn F__law_divisor bd__law_divisor (hr.mono (by decide)) hg (by rfl) (pa_cons (pe_callB call_abs (by rfl) T.z_abs bt_abs (pa_cons (pv 0) pa_nil)) (pa_cons (pv 1) pa_nil))))
    (pss_one (ps_ret (pe_tup (pa_cons (pe_op op_divA (pv 0) (pv 2)) (pa_cons (pe_op op_divA (pv 1) (pv 2)) pa_nil))))))), fun F hk => ?_⟩
  subst hk
  exact (ok_seq (ok_ifS (ok_test (ok_op oo_lt (ok_var 1) (ok_int 0))) (ok_par (ok_cons (TEok.f (ok_op oo_sub (ok_int 0) (ok_var 0))) (ok_cons (TEok.f (ok_op oo_sub (ok_int 0) (ok_var 1))) ok_nil))) ok_next)
    (ok_seq (ok_asg (ok_call ln__law_divisor (ok_cons (TEok.f (ok_cb cb_abs (ok_cons (ok_var 0) ok_nil))) (ok_cons (ok_var 1) ok_nil))) (ok_gname 2))
    (ok_ret (TDok.v (ok_tup (ok_cons (TEok.f (ok_op oo_div (ok_var 0) (ok_var 2))) (ok_cons (TEok.f (ok_op oo_div (ok_var 1) (ok_var 2))) ok_nil)))))))
/-! ### _law_add -/
abbrev s__law_add : Stmt := topS 30
abbrev N__law_add : List Str := ["one", "late"]
theorem sc__law_add : FnScope N__law_add ["one", "late"] (defScope s__law_add) := ⟨rfl, rfl, rfl, by decide +kernel, rfl, by decide +kernel, by decide +kernel⟩
theorem bd__law_add : BindsD "_law_add" s__law_add ["one", "late"] := fun _ _ _ _ _ _ us hl => match us, hl with | [_, _], _ => rfl
--
def g__law_add : WMs :=
  (sRet (gCall m__law_cut (Wk.gCons (gF (gOp dAdd (gF (gOp dMul (gF (gOp dIx (gVar 0) (gC (.int 0)))) (gF (gOp dIx (gVar 1) (gC (.int 1)))))) (gF (gOp dMul (gF (gOp dIx (gVar 1) (gC (.int 0)))) (gF (gOp dIx (gVar 0) (gC (.int 1)))))))) (Wk.gCons (gF (gOp dMul (gF (gOp dIx (gVar 0) (gC (.int 1)))) (gF (gOp dIx (gVar 1) (gC (.int 1)))))) Wk.gNil))))
def m__law_add : Fn := mkFn false 2 0 g__law_add
theorem ln__law_add : ∀ pd ds r, m__law_add pd ds = some r → ds.length = 0 + 2 := fun pd ds r h => by have := mkFn_len pd ds r h; omega
theorem fn__law_add (T : Tx K mg) : FnAt P w K mg base 3 "_law_add" s__law_add ["one", "late"] false (0 + 2) m__law_add := by
  obtain ⟨f, fd, De⟩ := T.d__law_add
  have F__law_cut := fn__law_cut (P := P) (w := w) (base := base) T
  have nd := sc__law_add.nd
  refine fn_at (pp := false) (np := 2) (nl := 0) De sc__law_add rfl rfl fun cdv A outer s H E hr hg => ⟨_, (pss_one (ps_ret (pe_fn F__law_cut bd__law_cut (hr.mono (by decide)) hg (by rfl) (pa_cons (pe_op op_addA (pe_op op_mulA (pe_ix ix_seq (pv 0) pe_int (fun _ _ => rfl)) (pe_ix ix_seq (pv 1) pe_int (fun _ _ => rfl))) (pe_op op_mulA (pe_ix ix_seq (pv 1) pe_int (fun _ _ => rfl)) (pe_ix ix_seq (pv 0) pe_int (fun _ _ => rfl)))) (pa_cons (pe_op op_mulA (pe_ix ix_seq (pv 0) pe_int (fun _ _ => rfl)) (pe_ix ix_seq (pv 1) pe_int (fun _ _ => rfl))) pa_nil))))), fun F hk => ?_⟩
  subst hk
  exact (ok_ret (ok_call ln__law_cut (ok_cons (TEok.f (ok_op oo_add (TEok.f (ok_op oo_mul (TEok.f (ok_op oo_ix (ok_var 0) (ok_int 0))) (TEok.f (ok_op oo_ix (ok_var 1) (ok_int 1))))) (TEok.f (ok_op oo_mul (TEok.f (ok_op oo_ix (ok_var 1) (ok_int 0))) (TEok.f (ok_op oo_ix (ok_var 0) (ok_int 1))))))) (ok_cons (TEok.f (ok_op oo_mul (TEok.f (ok_op oo_ix (ok_var 0) (ok_int 1))) (TEok.f (ok_op oo_ix (ok_var 1) (ok_int 1))))) ok_nil))))
/-! ### _law_mul -/
abbrev s__law_mul : Stmt := topS 31
abbrev N__law_mul : List Str := ["one", "late"]
theorem sc__law_mul : FnScope N__law_mul ["one", "late"] (defScope s__law_mul) := ⟨rfl, rfl, rfl, by decide +kernel, rfl, by decide +kernel, by decide +kernel⟩
theorem bd__law_mul : BindsD "_law_mul" s__law_mul ["one", "late"] := fun _ _ _ _ _ _ us hl => match us, hl with | [_, _], _ => rfl
--
def g__law_mul : WMs :=
  (sRet (gCall m__law_cut (Wk.gCons (gF (gOp dMul (gF (gOp dIx (gVar 0) (gC (.int 0)))) (gF (gOp dIx (gVar 1) (gC (.int 0)))))) (Wk.gCons (gF (gOp dMul (gF (gOp dIx (gVar 0) (gC (.int 1)))) (gF (gOp dIx (gVar 1) (gC (.int 1)))))) Wk.gNil))))
def m__law_mul : Fn := mkFn false 2 0 g__law_mul
theorem ln__law_mul : ∀ pd ds r, m__law_mul pd ds = some r → ds.length = 0 + 2 := fun pd ds r h => by have := mkFn_len pd ds r h; omega
theorem fn__law_mul (T : Tx K mg) : FnAt P w K mg base 3 "_law_mul" s__law_mul ["one", "late"] false (0 + 2) m__law_mul := by
  obtain ⟨f, fd, De⟩ := T.d__law_mul
  have F__law_cut := fn__law_cut (P := P) (w := w) (base := base) T
  have nd := sc__law_mul.nd
  refine fn_at (pp := false) (np := 2) (nl := 0) De sc__law_mul rfl rfl fun cdv A outer s H E hr hg => ⟨_, (pss_one (ps_ret (pe_fn F__law_cut bd__law_cut (hr.mono (by decide)) hg (by rfl) (pa_cons (pe_op op_mulA (pe_ix ix_seq (pv 0) pe_int (fun _ _ => rfl)) (pe_ix ix_seq (pv 1) pe_int (fun _ _ => rfl))) (pa_cons (pe_op op_mulA (pe_ix ix_seq (pv 0) pe_int (fun _ _ => rfl)) (pe_ix ix_seq (pv 1) pe_int (fun _ _ => rfl))) pa_nil))))), fun F hk => ?_⟩
  subst hk
  exact (ok_ret (ok_call ln__law_cut (ok_cons (TEok.f (ok_op oo_mul (TEok.f (ok_op oo_ix (ok_var 0) (ok_int 0))) (TEok.f (ok_op oo_ix (ok_var 1) (ok_int 0))))) (ok_cons (TEok.f (ok_op oo_mul (TEok.f (ok_op oo_ix (ok_var 0) (ok_int 1))) (TEok.f (ok_op oo_ix (ok_var 1) (ok_int 1))))) ok_nil))))
/-! ### _law_trim -/
abbrev s__law_trim : Stmt := topS 32
abbrev N__law_trim : List Str := ["poly", "found"]
theorem sc__law_trim : FnScope N__law_trim ["poly"] (defScope s__law_trim) := ⟨rfl, rfl, rfl, by decide +kernel, rfl, by decide +kernel, by decide +kernel⟩
theorem bd__law_trim : BindsD "_law_trim" s__law_trim ["poly"] := fun _ _ _ _ _ _ us hl => match us, hl with | [_], _ => rfl
--
def g__law_trim : WMs :=
  (sSeq (sAsg (gCb dListOf (Wk.gCons (gVar 0) Wk.gNil)) (gtName 1))
  (sSeq (sWhile fuelA (gFzT (gAnd (gTest (gOp dNe (gVar 1) (gF (gLst Wk.gNil)))) (gTest (gOp dEq (gIxV 1 (gF (gUn dNeg (gC (.int 1))))) (Wk.gTup (Wk.gCons (gC (.int 0)) (Wk.gCons (gC (.int 1)) Wk.gNil))))))) (sDrop (gV (gPop 1))))
  (sRet (gMove 1))))
def m__law_trim : Fn := mkFn false 1 1 g__law_trim
theorem ln__law_trim : ∀ pd ds r, m__law_trim pd ds = some r → ds.length = 0 + 1 := fun pd ds r h => by have := mkFn_len pd ds r h; omega
theorem fn__law_trim (T : Tx K mg) : FnAt P w K mg base 1 "_law_trim" s__law_trim ["poly"] false (0 + 1) m__law_trim := by
  obtain ⟨f, fd, De⟩ := T.d__law_trim
  have nd := sc__law_trim.nd
  refine fn_at (pp := false) (np := 1) (nl := 1) De sc__law_trim rfl rfl fun cdv A outer s H E hr hg => ⟨_, (pss_cons (ps_set (i := 1) nd rfl (by first | exact .inl rfl | exact .inr rfl) (pe_callTy call_list_of (by rfl) T.z_list bt_list (pa_cons (pv 0) pa_nil)))
    (pss_cons (ps_while PassesOwn.never (PW.pt (pw_and (pt_cmpR (op_neD hr.units) (pv 1) (pe_lst pa_nil) (nomark _)) (pw_and1 (pt_cmpR (op_eqD hr.units) (pe_ix ix_seq (pv 1) (pe_un un_neg pe_int) (fun _ _ => rfl)) (pe_tup (pa_cons pe_int (pa_cons pe_int pa_nil))) (nomark _))))) (pss_one (ps_expr (pe_bm0 PySem.F.plainAttrs_list PySem.F.slot_list_pop PySem.F.type_list_pop mt_pop (pv 1)))))
    (pss_one (ps_ret (pv 1))))), fun F hk => ?_⟩
  subst hk
  exact (ok_seq (ok_asg (ok_cb cb_listOf (ok_cons (ok_var 0) ok_nil)) (ok_gname 1))
    (ok_seq (ok_while (ok_fzT (ok_and (ok_test (ok_op oo_ne (ok_var 1) (TEok.f (ok_lst ok_nil)))) (ok_test (ok_op oo_eq (ok_ixV (TEok.f (ok_un uo_neg (ok_int 1)))) (ok_tup (ok_cons (ok_int 0) (ok_cons (ok_int 1) ok_nil))))))) (ok_drop (TDok.v ok_pop)))
    (ok_ret (ok_move 1))))
/-! ### _law_sum -/
abbrev s__law_sum : Stmt := topS 33
abbrev N__law_sum : List Str := ["one", "late", "many", "near", "far", "x", "y"]
theorem sc__law_sum : FnScope N__law_sum ["one", "late"] (defScope s__law_sum) := ⟨rfl, rfl, rfl, by decide +kernel, rfl, by decide +kernel, by decide +kernel⟩
theorem bd__law_sum : BindsD "_law_sum" s__law_sum ["one", "late"] := fun _ _ _ _ _ _ us hl => match us, hl with | [_, _], _ => rfl
--
def g__law_sum : WMs :=
  (sSeq (sAsg (gCb dMax2 (Wk.gCons (gF (gCb dLen (Wk.gCons (gVar 0) Wk.gNil))) (Wk.gCons (gF (gCb dLen (Wk.gCons (gVar 1) Wk.gNil))) Wk.gNil))) (gtName 2))
  (sSeq (sPar 3 4 (Wk.gCons (gF (gOp dAdd (gF (gCb dListOf (Wk.gCons (gVar 0) Wk.gNil))) (gF (gOp dMul (gF (gLst (Wk.gCons (Wk.gTup (Wk.gCons (gC (.int 0)) (Wk.gCons (gC (.int 1)) Wk.gNil))) Wk.gNil))) (gF (gOp dSub (gVar 2) (gF (gCb dLen (Wk.gCons (gVar 0) Wk.gNil))))))))) (Wk.gCons (gF (gOp dAdd (gF (gCb dListOf (Wk.gCons (gVar 1) Wk.gNil))) (gF (gOp dMul (gF (gLst (Wk.gCons (Wk.gTup (Wk.gCons (gC (.int 0)) (Wk.gCons (gC (.int 1)) Wk.gNil))) Wk.gNil))) (gF (gOp dSub (gVar 2) (gF (gCb dLen (Wk.gCons (gVar 1) Wk.gNil))))))))) Wk.gNil)))
  (sRet (gCall m__law_trim (Wk.gCons (gF (gLc [5, 6] (gZip (Wk.gCons (gVar 3) (Wk.gCons (gVar 4) Wk.gNil))) (gtTup 2 (gtCons (gtName 5) (gtCons (gtName 6) gtNil))) gYes (gF (gCall m__law_add (Wk.gCons (gVar 5) (Wk.gCons (gVar 6) Wk.gNil)))))) Wk.gNil)))))
def m__law_sum : Fn := mkFn false 2 5 g__law_sum
theorem ln__law_sum : ∀ pd ds r, m__law_sum pd ds = some r → ds.length = 0 + 2 := fun pd ds r h => by have := mkFn_len pd ds r h; omega
theorem fn__law_sum (T : Tx K mg) : FnAt P w K mg base 4 "_law_sum" s__law_sum ["one", "late"] false (0 + 2) m__law_sum := by
  obtain ⟨f, fd, De⟩ := T.d__law_sum
  have F__law_trim := fn__law_trim (P := P) (w := w) (base := base) T
  have F__law_add := fn__law_add (P := P) (w := w) (base := base) T
  have nd := sc__law_sum.nd
  refine fn_at (pp := false) (np := 2) (nl := 5) De sc__law_sum rfl rfl fun cdv A outer s H E hr hg => ⟨_, (pss_cons (ps_set (i := 2) nd rfl (by first | exact .inl rfl | exact .inr rfl) (pe_callB (call_max2 rfl) (by rfl) T.z_max bt_max (pa_cons (pe_callB call_len (by rfl) T.z_len bt_len (pa_cons (pv 0) pa_nil)) (pa_cons (pe_callB call_len (by rfl) T.z_len bt_len (pa_cons (pv 1) pa_nil)) pa_nil))))
    (pss_cons (ps_par (i := 3) (j := 4) rfl nd rfl rfl (by decide) rfl rfl (pa_cons (pe_op op_addA (pe_callTy call_list_of (by rfl) T.z_list bt_list (pa_cons (pv 0) pa_nil)) (pe_op op_mulA (pe_lst (pa_cons (pe_tup (pa_cons pe_int (pa_cons pe_int pa_nil))) pa_nil)) (pe_op op_sub (pv 2) (pe_callB call_len (by rfl) T.z_len bt_len (pa_cons (pv 0) pa_nil))))) (pa_cons (pe_op op_addA (pe_callTy call_list_of (by rfl) T.z_list bt_list (pa_cons (pv 1) pa_nil)) (pe_op op_mulA (pe_lst (pa_cons (pe_tup (pa_cons pe_int (pa_cons pe_int pa_nil))) pa_nil)) (pe_op op_sub (pv 2) (pe_callB call_len (by rfl) T.z_len bt_len (pa_cons (pv 1) pa_nil))))) pa_nil)) (by rfl))
    (pss_one (ps_ret (pe_fn F__law_trim bd__law_trim (hr.mono (by decide)) hg (by rfl) (pa_cons (pe_lc (own := [("x", 5), ("y", 6)]) (wi := (iZip K (tCons (tVar 3) (tCons (tVar 4) tNil)))) (g := (L2.gTup K 2 (L2.gCons (gName 5) (L2.gCons (gName 6) L2.gNil)))) (tt := tYes) (te := (tCall (spM K false (0 + 2) m__law_add) [] E0 (tCons (tVar 5) (tCons (tVar 6) tNil)))) rfl nd (pi_zip (by rfl) T.z_zip (pa_cons (pv 3) (pa_cons (pv 4) pa_nil))) (blkOk_by (own := [("x", 5), ("y", 6)]) (N := N__law_sum) (sc := defScope s__law_sum) (by decide +kernel)) (fun _ _ _ _ _ => (pg_tup rfl (pgs_cons (pg_name (i := 5) nd rfl (by first | exact .inl rfl | exact .inr rfl)) (pgs_cons (pg_name (i := 6) nd rfl (by first | exact .inl rfl | exact .inr rfl)) pgs_nil)))) (fun _ _ _ _ _ => pts_nil) (fun _ _ _ _ _ => (pe_fn F__law_add bd__law_add (hr.mono (by decide)) hg (by rfl) (pa_cons (pv 5) (pa_cons (pv 6) pa_nil))))) pa_nil)))))), fun F hk => ?_⟩
  subst hk
  exact (ok_seq (ok_asg (ok_cb cb_max2 (ok_cons (TEok.f (ok_cb cb_len (ok_cons (ok_var 0) ok_nil))) (ok_cons (TEok.f (ok_cb cb_len (ok_cons (ok_var 1) ok_nil))) ok_nil))) (ok_gname 2))
    (ok_seq (ok_par (ok_cons (TEok.f (ok_op oo_add (TEok.f (ok_cb cb_listOf (ok_cons (ok_var 0) ok_nil))) (TEok.f (ok_op oo_mul (TEok.f (ok_lst (ok_cons (ok_tup (ok_cons (ok_int 0) (ok_cons (ok_int 1) ok_nil))) ok_nil))) (TEok.f (ok_op oo_sub (ok_var 2) (TEok.f (ok_cb cb_len (ok_cons (ok_var 0) ok_nil))))))))) (ok_cons (TEok.f (ok_op oo_add (TEok.f (ok_cb cb_listOf (ok_cons (ok_var 1) ok_nil))) (TEok.f (ok_op oo_mul (TEok.f (ok_lst (ok_cons (ok_tup (ok_cons (ok_int 0) (ok_cons (ok_int 1) ok_nil))) ok_nil))) (TEok.f (ok_op oo_sub (ok_var 2) (TEok.f (ok_cb cb_len (ok_cons (ok_var 1) ok_nil))))))))) ok_nil)))
    (ok_ret (ok_call ln__law_trim (ok_cons (TEok.f (ok_lc (ok_iZip (ok_cons (ok_var 3) (ok_cons (ok_var 4) ok_nil))) (fun H0 => (ok_ctup (ok_ccons (ok_cname (by decide)) (ok_ccons (ok_cname (by decide)) ok_cnil)))) (fun H0 => ok_yes) (fun H0 => (TEok.f (ok_call ln__law_add (ok_cons (ok_var 5) (ok_cons (ok_var 6) ok_nil))))))) ok_nil)))))
/-! ### _law_times_number -/
abbrev s__law_times_number : Stmt := topS 34
abbrev N__law_times_number : List Str := ["poly", "number", "one"]
theorem sc__law_times_number : FnScope N__law_times_number ["poly", "number"] (defScope s__law_times_number) := ⟨rfl, rfl, rfl, by decide +kernel, rfl, by decide +kernel, by decide +kernel⟩
theorem bd__law_times_number : BindsD "_law_times_number" s__law_times_number ["poly", "number"] := fun _ _ _ _ _ _ us hl => match us, hl with | [_, _], _ => rfl
--
def g__law_times_number : WMs :=
  (sRet (gCall m__law_trim (Wk.gCons (gF (gLc [2] (gItL (gVar 0)) (gtName 2) gYes (gF (gCall m__law_mul (Wk.gCons (gVar 2) (Wk.gCons (gVar 1) Wk.gNil)))))) Wk.gNil)))
def m__law_times_number : Fn := mkFn false 2 1 g__law_times_number
theorem ln__law_times_number : ∀ pd ds r, m__law_times_number pd ds = some r → ds.length = 0 + 2 := fun pd ds r h => by have := mkFn_len pd ds r h; omega
theorem fn__law_times_number (T : Tx K mg) : FnAt P w K mg base 4 "_law_times_number" s__law_times_number ["poly", "number"] false (0 + 2) m__law_times_number := by
  obtain ⟨f, fd, De⟩ := T.d__law_times_number
  have F__law_trim := fn__law_trim (P := P) (w := w) (base := base) T
  have F__law_mul := fn__law_mul (P := P) (w := w) (base := base) T
  have nd := sc__law_times_number.nd
  refine fn_at (pp := false) (np := 2) (nl := 1) De sc__law_times_number rfl rfl fun cdv A outer s H E hr hg => ⟨_, (pss_one (ps_ret (pe_fn F__law_trim bd__law_trim (hr.mono (by decide)) hg (by rfl) (pa_cons (pe_lc (own := [("one", 2)]) (wi := (iList K (tVar 0))) (g := (gName 2)) (tt := tYes) (te := (tCall (spM K false (0 + 2) m__law_mul) [] E0 (tCons (tVar 2) (tCons (tVar 1) tNil)))) rfl nd (pi_list (pv 0)) (blkOk_by (own := [("one", 2)]) (N := N__law_times_number) (sc := defScope s__law_times_number) (by decide +kernel)) (fun _ _ _ _ _ => (pg_name (i := 2) nd rfl (by first | exact .inl rfl | exact .inr rfl))) (fun _ _ _ _ _ => pts_nil) (fun _ _ _ _ _ => (pe_fn F__law_mul bd__law_mul (hr.mono (by decide)) hg (by rfl) (pa_cons (pv 2) (pa_cons (pv 1) pa_nil))))) pa_nil)))), fun F hk => ?_⟩
  subst hk
  exact (ok_ret (ok_call ln__law_trim (ok_cons (TEok.f (ok_lc (ok_iList (ok_var 0)) (fun H0 => (ok_cname (by decide))) (fun H0 => ok_yes) (fun H0 => (TEok.f (ok_call ln__law_mul (ok_cons (ok_var 2) (ok_cons (ok_var 1) ok_nil))))))) ok_nil)))
/-! ### _law_value -/
abbrev s__law_value : Stmt := topS 35
abbrev N__law_value : List Str := ["poly", "spot", "found", "one"]
theorem sc__law_value : FnScope N__law_value ["poly", "spot"] (defScope s__law_value) := ⟨rfl, rfl, rfl, by decide +kernel, rfl, by decide +kernel, by decide +kernel⟩
theorem bd__law_value : BindsD "_law_value" s__law_value ["poly", "spot"] := fun _ _ _ _ _ _ us hl => match us, hl with | [_, _], _ => rfl
--
def g__law_value : WMs :=
  (sSeq (sAsg (gV (Wk.gTup (Wk.gCons (gC (.int 0)) (Wk.gCons (gC (.int 1)) Wk.gNil)))) (gtName 2))
  (sSeq (sFor (gItL (gF (gRev (gF (gCb dListOf (Wk.gCons (gVar 0) Wk.gNil)))))) (gtName 3) (sAsg (gCall m__law_add (Wk.gCons (gF (gCall m__law_mul (Wk.gCons (gVar 2) (Wk.gCons (gVar 1) Wk.gNil)))) (Wk.gCons (gVar 3) Wk.gNil))) (gtName 2)))
  (sRet (gMove 2))))
def m__law_value : Fn := mkFn false 2 2 g__law_value
theorem ln__law_value : ∀ pd ds r, m__law_value pd ds = some r → ds.length = 0 + 2 := fun pd ds r h => by have := mkFn_len pd ds r h; omega
theorem fn__law_value (T : Tx K mg) : FnAt P w K mg base 4 "_law_value" s__law_value ["poly", "spot"] false (0 + 2) m__law_value := by
  obtain ⟨f, fd, De⟩ := T.d__law_value
  have F__law_add := fn__law_add (P := P) (w := w) (base := base) T
  have F__law_mul := fn__law_mul (P := P) (w := w) (base := base) T
  have nd := sc__law_value.nd
  refine fn_at (pp := false) (np := 2) (nl := 2) De sc__law_value rfl rfl fun cdv A outer s H E hr hg => ⟨_, (pss_cons (ps_set (i := 2) nd rfl (by first | exact .inl rfl | exact .inr rfl) (pe_tup (pa_cons pe_int (pa_cons pe_int pa_nil))))
    (pss_cons (ps_for PassesOwn.never rfl (pi_list (pe_revL (pe_callTy call_list_of (by rfl) T.z_list bt_list (pa_cons (pv 0) pa_nil)))) (pg_name (i := 3) nd rfl (by first | exact .inl rfl | exact .inr rfl)) (pss_one (ps_set (i := 2) nd rfl (by first | exact .inl rfl | exact .inr rfl) (pe_fn F__law_add bd__law_add (hr.mono (by decide)) hg (by rfl) (pa_cons (pe_fn F__law_mul bd__law_mul (hr.mono (by decide)) hg (by rfl) (pa_cons (pv 2) (pa_cons (pv 1) pa_nil))) (pa_cons (pv 3) pa_nil))))))
    (pss_one (ps_ret (pv 2))))), fun F hk => ?_⟩
  subst hk
  exact (ok_seq (ok_asg (TDok.v (ok_tup (ok_cons (ok_int 0) (ok_cons (ok_int 1) ok_nil)))) (ok_gname 2))
    (ok_seq (ok_for (ok_iList (TEok.f (ok_rev (TEok.f (ok_cb cb_listOf (ok_cons (ok_var 0) ok_nil)))))) (ok_gname 3) (ok_asg (ok_call ln__law_add (ok_cons (TEok.f (ok_call ln__law_mul (ok_cons (ok_var 2) (ok_cons (ok_var 1) ok_nil)))) (ok_cons (ok_var 3) ok_nil))) (ok_gname 2)))
    (ok_ret (ok_move 2))))
/-! ### _law_picks -/
abbrev s__law_picks : Stmt := topS 36
abbrev N__law_picks : List Str := ["many", "some", "found", "at"]
theorem sc__law_picks : FnScope N__law_picks ["many", "some"] (defScope s__law_picks) := ⟨rfl, rfl, rfl, by decide +kernel, rfl, by decide +kernel, by decide +kernel⟩
theorem bd__law_picks : BindsD "_law_picks" s__law_picks ["many", "some"] := fun _ _ _ _ _ _ us hl => match us, hl with | [_, _], _ => rfl
--
def g__law_picks : WMs :=
  (sSeq (sAsg (gV (gC (.int 1))) (gtName 2))
  (sSeq (sFor (gRng1 (Wk.gCons (gVar 1) Wk.gNil)) (gtName 3) (sAsg (gOp dDiv (gF (gOp dMul (gVar 2) (gF (gOp dSub (gVar 0) (gVar 3))))) (gF (gOp dAdd (gVar 3) (gC (.int 1))))) (gtName 2)))
  (sRet (gMove 2))))
def m__law_picks : Fn := mkFn false 2 2 g__law_picks
theorem ln__law_picks : ∀ pd ds r, m__law_picks pd ds = some r → ds.length = 0 + 2 := fun pd ds r h => by have := mkFn_len pd ds r h; omega
theorem fn__law_picks (T : Tx K mg) : FnAt P w K mg base 1 "_law_picks" s__law_picks ["many", "some"] false (0 + 2) m__law_picks := by
  obtain ⟨f, fd, De⟩ := T.d__law_picks
  have nd := sc__law_picks.nd
  refine fn_at (pp := false) (np := 2) (nl := 2) De sc__law_picks rfl rfl fun cdv A outer s H E hr hg => ⟨_, (pss_cons (ps_set (i := 2) nd rfl (by first | exact .inl rfl | exact .inr rfl) pe_int)
    (pss_cons (ps_for PassesOwn.never rfl (pi_range1 (by rfl) T.z_range (pa_cons (pv 1) pa_nil)) (pg_name (i := 3) nd rfl (by first | exact .inl rfl | exact .inr rfl)) (pss_one (ps_set (i := 2) nd rfl (by first | exact .inl rfl | exact .inr rfl) (pe_op op_divA (pe_op op_mulA (pv 2) (pe_op op_sub (pv 0) (pv 3))) (pe_op op_addA (pv 3) pe_int)))))
    (pss_one (ps_ret (pv 2))))), fun F hk => ?_⟩
  subst hk
  exact (ok_seq (ok_asg (TDok.v (ok_int 1)) (ok_gname 2))
    (ok_seq (ok_for (ok_iRng1 (ok_cons (ok_var 1) ok_nil)) (ok_gname 3) (ok_asg (ok_op oo_div (TEok.f (ok_op oo_mul (ok_var 2) (TEok.f (ok_op oo_sub (ok_var 0) (ok_var 3))))) (TEok.f (ok_op oo_add (ok_var 3) (ok_int 1)))) (ok_gname 2)))
    (ok_ret (ok_move 2))))
/-! ### _law_power -/
abbrev s__law_power : Stmt := topS 37
abbrev N__law_power : List Str := ["number", "many", "found", "turn"]
theorem sc__law_power : FnScope N__law_power ["number", "many"] (defScope s__law_power) := ⟨rfl, rfl, rfl, by decide +kernel, rfl, by decide +kernel, by decide +kernel⟩
theorem bd__law_power : BindsD "_law_power" s__law_power ["number", "many"] := fun _ _ _ _ _ _ us hl => match us, hl with | [_, _], _ => rfl
--
def g__law_power : WMs :=
  (sSeq (sAsg (gV (gC (.int 1))) (gtName 2))
  (sSeq (sFor (gRng1 (Wk.gCons (gVar 1) Wk.gNil)) (gtName 3) (sAsg (gOp dMul (gVar 2) (gVar 0)) (gtName 2)))
  (sRet (gMove 2))))
def m__law_power : Fn := mkFn false 2 2 g__law_power
theorem ln__law_power : ∀ pd ds r, m__law_power pd ds = some r → ds.length = 0 + 2 := fun pd ds r h => by have := mkFn_len pd ds r h; omega
theorem fn__law_power (T : Tx K mg) : FnAt P w K mg base 1 "_law_power" s__law_power ["number", "many"] false (0 + 2) m__law_power := by
  obtain ⟨f, fd, De⟩ := T.d__law_power
  have nd := sc__law_power.nd
  refine fn_at (pp := false) (np := 2) (nl := 2) De sc__law_power rfl rfl fun cdv A outer s H E hr hg => ⟨_, (pss_cons (ps_set (i := 2) nd rfl (by first | exact .inl rfl | exact .inr rfl) pe_int)
    (pss_cons (ps_for PassesOwn.never rfl (pi_range1 (by rfl) T.z_range (pa_cons (pv 1) pa_nil)) (pg_name (i := 3) nd rfl (by first | exact .inl rfl | exact .inr rfl)) (pss_one (ps_set (i := 2) nd rfl (by first | exact .inl rfl | exact .inr rfl) (pe_op op_mulA (pv 2) (pv 0)))))
    (pss_one (ps_ret (pv 2))))), fun F hk => ?_⟩
  subst hk
  exact (ok_seq (ok_asg (TDok.v (ok_int 1)) (ok_gname 2))
    (ok_seq (ok_for (ok_iRng1 (ok_cons (ok_var 1) ok_nil)) (ok_gname 3) (ok_asg (ok_op oo_mul (ok_var 2) (ok_var 0)) (ok_gname 2)))
    (ok_ret (ok_move 2))))
/-! ### law -/
abbrev s_law : Stmt := topS 38
abbrev N_law : List Str := ["script", "pot", "every", "kept", "number", "turn", "at", "whole", "power", "many", "due", "back", "one"]
theorem sc_law : FnScope N_law ["script"] (defScope s_law) := ⟨rfl, rfl, rfl, by decide +kernel, rfl, by decide +kernel, by decide +kernel⟩
theorem bd_law : BindsD "law" s_law ["script"] := fun _ _ _ _ _ _ us hl => match us, hl with | [_], _ => rfl
--
def g_law_0 : WMs :=
  (sAsg (gCall m__law_pot (Wk.gCons (gVar 0) (Wk.gCons (gC (.int 0)) Wk.gNil))) (gtName 1))
def g_law_1 : WMs :=
  (sAsg (gLc [4] (gRng1 (Wk.gCons (gC (.int 9)) Wk.gNil)) (gtName 4) gYes (gF (gCall m_power_sum (Wk.gCons (gVar 4) Wk.gNil)))) (gtName 2))
def g_law_2 : WMs :=
  (sIf (gOr (gTest (gOp dNe (gVar 2) (gF (gLc [4] (gRng1 (Wk.gCons (gC (.int 9)) Wk.gNil)) (gtName 4) gYes (gF (gKw m_power_sum 0 1 [0] Wk.gNil (Wk.gCons (gVar 4) Wk.gNil))))))) (gTest (gOp dNe (gF (gLc [12] (gItL (gVar 2)) (gtName 12) gYes (gF (gCb dLen (Wk.gCons (gVar 12) Wk.gNil))))) (gF (gLc [4] (gRng1 (Wk.gCons (gC (.int 9)) Wk.gNil)) (gtName 4) gYes (gF (gOp dAdd (gVar 4) (gC (.int 2))))))))) (sRet (gV (gC (.bool false)))) sNext)
def g_law_3 : WMs :=
  (sAsg (gLc [12] (gItL (gVar 2)) (gtName 12) gYes (gF (gCb dListOf (Wk.gCons (gVar 12) Wk.gNil)))) (gtName 3))
def g_law_4 : WMs :=
  (sFor (gRng1 (Wk.gCons (gC (.int 9)) Wk.gNil)) (gtName 4) (sSeq (sIf (gOr (gNot (gTest (gIsi "list" (gF (gOp dIx (gVar 2) (gVar 4)))))) (gOr (gTest (gOp dNe (gF (gOp dIx (gVar 2) (gVar 4))) (gF (gCall m__law_trim (Wk.gCons (gF (gOp dIx (gVar 2) (gVar 4))) Wk.gNil))))) (gTest (gOp dNe (gF (gOp dIx (gF (gOp dIx (gVar 2) (gVar 4))) (gC (.int 0)))) (Wk.gTup (Wk.gCons (gC (.int 0)) (Wk.gCons (gC (.int 1)) Wk.gNil))))))) (sRet (gV (gC (.bool false)))) sNext)
  (sSeq (sAsg (gLst Wk.gNil) (gtName 7))
  (sSeq (sFor (gRng1 (Wk.gCons (gF (gOp dAdd (gVar 4) (gC (.int 1)))) Wk.gNil)) (gtName 8) (sAsg (gCall m__law_sum (Wk.gCons (gVar 7) (Wk.gCons (gF (gCall m__law_times_number (Wk.gCons (gF (gOp dIx (gVar 2) (gVar 8))) (Wk.gCons (Wk.gTup (Wk.gCons (gF (gCall m__law_picks (Wk.gCons (gF (gOp dAdd (gVar 4) (gC (.int 1)))) (Wk.gCons (gVar 8) Wk.gNil)))) (Wk.gCons (gC (.int 1)) Wk.gNil))) Wk.gNil)))) Wk.gNil))) (gtName 7)))
  (sIf (gTest (gOp dNe (gVar 7) (gF (gOp dAdd (gF (gOp dMul (gF (gLst (Wk.gCons (Wk.gTup (Wk.gCons (gC (.int 0)) (Wk.gCons (gC (.int 1)) Wk.gNil))) Wk.gNil))) (gF (gOp dAdd (gVar 4) (gC (.int 1)))))) (gF (gLst (Wk.gCons (Wk.gTup (Wk.gCons (gC (.int 1)) (Wk.gCons (gC (.int 1)) Wk.gNil))) Wk.gNil))))))) (sRet (gV (gC (.bool false)))) sNext)))))
def g_law_5 : WMs :=
  (sIf (gOr (gTest (gOp dNe (gF (gLc [4] (gRng1 (Wk.gCons (gC (.int 9)) Wk.gNil)) (gtName 4) gYes (gF (gCall m_bernoulli (Wk.gCons (gVar 4) Wk.gNil))))) (gF (gLc [12] (gItL (gVar 2)) (gtName 12) gYes (gF (gOp dIx (gVar 12) (gC (.int 1)))))))) (gTest (gOp dNe (gF (gKw m_bernoulli 0 1 [0] Wk.gNil (Wk.gCons (gC (.int 6)) Wk.gNil))) (Wk.gTup (Wk.gCons (gC (.int 1)) (Wk.gCons (gC (.int 42)) Wk.gNil)))))) (sRet (gV (gC (.bool false)))) sNext)
def g_law_6 : WMs :=
  (sIf (gOr (gTest (gOp dNe (gF (gLc [4] (gItT (Wk.gTup (Wk.gCons (gC (.int 3)) (Wk.gCons (gC (.int 5)) (Wk.gCons (gC (.int 7)) Wk.gNil))))) (gtName 4) gYes (gF (gCall m_bernoulli (Wk.gCons (gVar 4) Wk.gNil))))) (gF (gOp dMul (gF (gLst (Wk.gCons (Wk.gTup (Wk.gCons (gC (.int 0)) (Wk.gCons (gC (.int 1)) Wk.gNil))) Wk.gNil))) (gC (.int 3)))))) (gOr (gTest (gOp dNe (gF (gCall m_bernoulli (Wk.gCons (gC (.int 0)) Wk.gNil))) (Wk.gTup (Wk.gCons (gC (.int 1)) (Wk.gCons (gC (.int 1)) Wk.gNil))))) (gTest (gOp dNe (gF (gCall m_bernoulli (Wk.gCons (gC (.int 1)) Wk.gNil))) (Wk.gTup (Wk.gCons (gF (gUn dNeg (gC (.int 1)))) (Wk.gCons (gC (.int 2)) Wk.gNil))))))) (sRet (gV (gC (.bool false)))) sNext)
def g_law_7 : WMs :=
  (sFor (gRng1 (Wk.gCons (gC (.int 4)) Wk.gNil)) (gtName 5) (sSeq (sAsg (gV (Wk.gTup (Wk.gCons (gF (gCallP m__law_draw 1 (Wk.gCons (gC (.int 9)) Wk.gNil))) (Wk.gCons (gF (gCallP m__law_draw 1 (Wk.gCons (gC (.int 40)) Wk.gNil))) Wk.gNil)))) (gtTup 2 (gtCons (gtName 8) (gtCons (gtName 9) gtNil))))
  (sSeq (sAsg (gCb dSum (Wk.gCons (gF (gLc [4] (gRng1 (Wk.gCons (gVar 9) Wk.gNil)) (gtName 4) gYes (gF (gCall m__law_power (Wk.gCons (gVar 4) (Wk.gCons (gVar 8) Wk.gNil)))))) Wk.gNil)) (gtName 10))
  (sSeq (sAsg (gOp dSub (gC (.int 0)) (gF (gCb dSum (Wk.gCons (gF (gLc [4] (gRng2 (Wk.gCons (gC (.int 1)) (Wk.gCons (gF (gOp dAdd (gVar 9) (gC (.int 1)))) Wk.gNil))) (gtName 4) gYes (gF (gCall m__law_power (Wk.gCons (gF (gOp dSub (gC (.int 0)) (gVar 4))) (Wk.gCons (gVar 8) Wk.gNil)))))) Wk.gNil)))) (gtName 11))
  (sIf (gTest (gOp dNe (gF (gLst (Wk.gCons (gF (gCall m__law_value (Wk.gCons (gF (gOp dIx (gVar 2) (gVar 8))) (Wk.gCons (Wk.gTup (Wk.gCons (gVar 9) (Wk.gCons (gC (.int 1)) Wk.gNil))) Wk.gNil)))) (Wk.gCons (gF (gCall m__law_value (Wk.gCons (gF (gOp dIx (gVar 2) (gVar 8))) (Wk.gCons (Wk.gTup (Wk.gCons (gF (gOp dSub (gC (.int 0)) (gVar 9))) (Wk.gCons (gC (.int 1)) Wk.gNil))) Wk.gNil)))) Wk.gNil)))) (gF (gLst (Wk.gCons (Wk.gTup (Wk.gCons (gVar 10) (Wk.gCons (gC (.int 1)) Wk.gNil))) (Wk.gCons (Wk.gTup (Wk.gCons (gVar 11) (Wk.gCons (gC (.int 1)) Wk.gNil))) Wk.gNil)))))) (sRet (gV (gC (.bool false)))) sNext)))))
def g_law_8 : WMs :=
  (sAsg (gCallP m__law_draw 1 (Wk.gCons (gC (.int 9)) Wk.gNil)) (gtName 6))
def g_law_9 : WMs :=
  (sNext)
def g_law_10 : WMs :=
  (sRet (gAndV (gOp dEq (gF (gCall m_power_sum (Wk.gCons (gVar 6) Wk.gNil))) (gF (gOp dIx (gVar 3) (gVar 6)))) (gOp dEq (gF (gLc [4] (gRng1 (Wk.gCons (gC (.int 9)) Wk.gNil)) (gtName 4) gYes (gF (gCall m_power_sum (Wk.gCons (gVar 4) Wk.gNil))))) (gVar 3))))
def g_law : WMs :=
  (sSeq g_law_0 (sSeq g_law_1 (sSeq g_law_2 (sHide [12] (gItL (gVar 2)) (gtName 12) (gCb dListOf (Wk.gCons (gVar 12) Wk.gNil)) 3 (sSeq g_law_4 (sSeq g_law_5 (sSeq g_law_6 (sSeq g_law_7 g_law_8)))) 2 6 g_law_10))))
def m_law : Fn := mkFn false 1 12 g_law
theorem ln_law : ∀ pd ds r, m_law pd ds = some r → ds.length = 0 + 1 := fun pd ds r h => by have := mkFn_len pd ds r h; omega
theorem fn_law (T : Tx K mg) : FnAt0 P w K mg base 7 "law" s_law ["script"] (0 + 1) m_law := by
  obtain ⟨f, fd, De⟩ := T.d_law
  have F__law_pot := fn__law_pot (P := P) (w := w) (base := base) T
  have F_power_sum := fn_power_sum (P := P) (w := w) (base := base) T
  have F__law_trim := fn__law_trim (P := P) (w := w) (base := base) T
  have F__law_sum := fn__law_sum (P := P) (w := w) (base := base) T
  have F__law_times_number := fn__law_times_number (P := P) (w := w) (base := base) T
  have F__law_picks := fn__law_picks (P := P) (w := w) (base := base) T
  have F_bernoulli := fn_bernoulli (P := P) (w := w) (base := base) T
  have F__law_draw := fn__law_draw (P := P) (w := w) (base := base) T
  have F__law_power := fn__law_power (P := P) (w := w) (base := base) T
  have F__law_value := fn__law_value (P := P) (w := w) (base := base) T
  have nd := sc_law.nd
  refine fn_at0 (np := 1) (nl := 12) De sc_law rfl rfl fun cdv A outer s H E hr hg => ⟨_, (pss_cons (ps_set (i := 1) nd rfl (by first | exact .inl rfl | exact .inr rfl) (pe_fn F__law_pot bd__law_pot (hr.mono (by decide)) hg (by rfl) (pa_cons (pv 0) (pa_cons pe_int pa_nil))))
    (pss_cons (ps_setLc (i := 2) (own := [("number", 4)]) (wi := (iRng1 (tCons (tC (.int 9)) tNil))) (g := (gName 4)) (tt := tYes) (te := (tCall (spM K false (0 + 1) m_power_sum) [] E0 (tCons (tVar 4) tNil))) rfl nd rfl rfl (sw_true rfl rfl rfl (by decide +kernel)) (pi_range1 (by rfl) T.z_range (pa_cons pe_int pa_nil)) (blkOk_by (own := [("number", 4)]) (N := N_law) (sc := defScope s_law) (by decide +kernel)) (fun _ _ _ _ _ => (pg_name (i := 4) nd rfl (by first | exact .inl rfl | exact .inr rfl))) (fun _ _ _ _ _ => pts_nil) (fun _ _ _ _ _ => (pe_fn F_power_sum bd_power_sum (hr.mono (by decide)) hg (by rfl) (pa_cons (pv 4) pa_nil))))
    (pss_cons (ps_if (PW.pt (pw_or (pt_cmpR (op_neD hr.units) (pv 2) (pe_lc (own := [("number", 4)]) (wi := (iRng1 (tCons (tC (.int 9)) tNil))) (g := (gName 4)) (tt := tYes) (te := (tKw (spM K false (0 + 1) m_power_sum) 0 1 [0] E0 tNil (tCons (tVar 4) tNil))) rfl nd (pi_range1 (by rfl) T.z_range (pa_cons pe_int pa_nil)) (blkOk_by (own := [("number", 4)]) (N := N_law) (sc := defScope s_law) (by decide +kernel)) (fun _ _ _ _ _ => (pg_name (i := 4) nd rfl (by first | exact .inl rfl | exact .inr rfl))) (fun _ _ _ _ _ => pts_nil) (fun _ _ _ _ _ => (pe_fnK0 F_power_sum bk_power_sum_0_number (hr.mono (by decide)) hg (by rfl) (pk_cons (pv 4) pk_nil)))) (nomark _)) (pw_or1 (pt_cmpR (op_neD hr.units) (pe_lc (own := [("one", 12)]) (wi := (iList K (tVar 2))) (g := (gName 12)) (tt := tYes) (te := (tCB (fun xs H Q => ∃ x n, xs = [x] ∧ LenV K x H n ∧ Q (.int n) H) (tCons (tVar 12) tNil))) rfl nd (pi_list (pv 2)) (blkOk_by (own := [("one", 12)]) (N := N_law) (sc := defScope s_law) (by decide +kernel)) (fun _ _ _ _ _ => (pg_name (i := 12) nd rfl (by first | exact .inl rfl | exact .inr rfl))) (fun _ _ _ _ _ => pts_nil) (fun _ _ _ _ _ => (pe_callB call_len (by rfl) T.z_len bt_len (pa_cons (pv 12) pa_nil)))) (pe_lc (own := [("number", 4)]) (wi := (iRng1 (tCons (tC (.int 9)) tNil))) (g := (gName 4)) (tt := tYes) (te := (tOp rAddA (tVar 4) (tC (.int 2)))) rfl nd (pi_range1 (by rfl) T.z_range (pa_cons pe_int pa_nil)) (blkOk_by (own := [("number", 4)]) (N := N_law) (sc := defScope s_law) (by decide +kernel)) (fun _ _ _ _ _ => (pg_name (i := 4) nd rfl (by first | exact .inl rfl | exact .inr rfl))) (fun _ _ _ _ _ => pts_nil) (fun _ _ _ _ _ => (pe_op op_addA (pv 4) pe_int))) (nomark _))))) (pss_one (ps_ret pe_bl)) pss_nil)
    (pss_cons (ps_setLc (i := 3) (own := [("one", 12)]) (wi := (iList K (tVar 2))) (g := (gName 12)) (tt := tYes) (te := (tCB (fun xs H Q => ∃ p ys, xs = [.ref p] ∧ (SqL K H p ys ∨ SqT K H p ys) ∧ ∀ l, H l = none → Q (.ref l) (upd H l (.lst ys))) (tCons (tVar 12) tNil))) rfl nd rfl rfl (sw_true rfl rfl rfl (by decide +kernel)) (pi_list (pv 2)) (blkOk_by (own := [("one", 12)]) (N := N_law) (sc := defScope s_law) (by decide +kernel)) (fun _ _ _ _ _ => (pg_name (i := 12) nd rfl (by first | exact .inl rfl | exact .inr rfl))) (fun _ _ _ _ _ => pts_nil) (fun _ _ _ _ _ => (pe_callTy call_list_of (by rfl) T.z_list bt_list (pa_cons (pv 12) pa_nil))))
    (pss_cons (ps_for PassesOwn.never rfl (pi_range1 (by rfl) T.z_range (pa_cons pe_int pa_nil)) (pg_name (i := 4) nd rfl (by first | exact .inl rfl | exact .inr rfl)) (pss_cons (ps_if (PW.pt (pw_or (pt_not (pt_val (pe_callB call_isi (by rfl) T.z_isinstance bt_isinstance (pa_cons (pe_ix ix_seq (pv 2) (pv 4) (fun _ _ => rfl)) (pa_cons (pe_bltn (v := .ty "list") (by rfl) T.z_list bt_list rfl) pa_nil))))) (pw_or (pt_cmpR (op_neD hr.units) (pe_ix ix_seq (pv 2) (pv 4) (fun _ _ => rfl)) (pe_fn F__law_trim bd__law_trim (hr.mono (by decide)) hg (by rfl) (pa_cons (pe_ix ix_seq (pv 2) (pv 4) (fun _ _ => rfl)) pa_nil)) (nomark _)) (pw_or1 (pt_cmpR (op_neD hr.units) (pe_ix ix_seq (pe_ix ix_seq (pv 2) (pv 4) (fun _ _ => rfl)) pe_int (fun _ _ => rfl)) (pe_tup (pa_cons pe_int (pa_cons pe_int pa_nil))) (nomark _)))))) (pss_one (ps_ret pe_bl)) pss_nil)
    (pss_cons (ps_set (i := 7) nd rfl (by first | exact .inl rfl | exact .inr rfl) (pe_lst pa_nil))
    (pss_cons (ps_for PassesOwn.never rfl (pi_range1 (by rfl) T.z_range (pa_cons (pe_op op_addA (pv 4) pe_int) pa_nil)) (pg_name (i := 8) nd rfl (by first | exact .inl rfl | exact .inr rfl)) (pss_one (ps_set (i := 7) nd rfl (by first | exact .inl rfl | exact .inr rfl) (pe_fn F__law_sum bd__law_sum (hr.mono (by decide)) hg (by rfl) (pa_cons (pv 7) (pa_cons (pe_fn F__law_times_number bd__law_times_number (hr.mono (by decide)) hg (by rfl) (pa_cons (pe_ix ix_seq (pv 2) (pv 8) (fun _ _ => rfl)) (pa_cons (pe_tup (pa_cons (pe_fn F__law_picks bd__law_picks (hr.mono (by decide)) hg (by rfl) (pa_cons (pe_op op_addA (pv 4) pe_int) (pa_cons (pv 8) pa_nil))) (pa_cons pe_int pa_nil))) pa_nil))) pa_nil))))))
    (pss_one (ps_if (pt_cmpR (op_neD hr.units) (pv 7) (pe_op op_addA (pe_op op_mulA (pe_lst (pa_cons (pe_tup (pa_cons pe_int (pa_cons pe_int pa_nil))) pa_nil)) (pe_op op_addA (pv 4) pe_int)) (pe_lst (pa_cons (pe_tup (pa_cons pe_int (pa_cons pe_int pa_nil))) pa_nil))) (nomark _)) (pss_one (ps_ret pe_bl)) pss_nil))))))
    (pss_cons (ps_if (PW.pt (pw_or (pt_cmpR (op_neD hr.units) (pe_lc (own := [("number", 4)]) (wi := (iRng1 (tCons (tC (.int 9)) tNil))) (g := (gName 4)) (tt := tYes) (te := (tCall (spM K false (0 + 1) m_bernoulli) [] E0 (tCons (tVar 4) tNil))) rfl nd (pi_range1 (by rfl) T.z_range (pa_cons pe_int pa_nil)) (blkOk_by (own := [("number", 4)]) (N := N_law) (sc := defScope s_law) (by decide +kernel)) (fun _ _ _ _ _ => (pg_name (i := 4) nd rfl (by first | exact .inl rfl | exact .inr rfl))) (fun _ _ _ _ _ => pts_nil) (fun _ _ _ _ _ => (pe_fn F_bernoulli bd_bernoulli (hr.mono (by decide)) hg (by rfl) (pa_cons (pv 4) pa_nil)))) (pe_lc (own := [("one", 12)]) (wi := (iList K (tVar 2))) (g := (gName 12)) (tt := tYes) (te := (tOp (rIx K) (tVar 12) (tC (.int 1)))) rfl nd (pi_list (pv 2)) (blkOk_by (own := [("one", 12)]) (N := N_law) (sc := defScope s_law) (by decide +kernel)) (fun _ _ _ _ _ => (pg_name (i := 12) nd rfl (by first | exact .inl rfl | exact .inr rfl))) (fun _ _ _ _ _ => pts_nil) (fun _ _ _ _ _ => (pe_ix ix_seq (pv 12) pe_int (fun _ _ => rfl)))) (nomark _)) (pw_or1 (pt_cmpR (op_neD hr.units) (pe_fnK0 F_bernoulli bk_bernoulli_0_number (hr.mono (by decide)) hg (by rfl) (pk_cons pe_int pk_nil)) (pe_tup (pa_cons pe_int (pa_cons pe_int pa_nil))) (nomark _))))) (pss_one (ps_ret pe_bl)) pss_nil)
    (pss_cons (ps_if (PW.pt (pw_or (pt_cmpR (op_neD hr.units) (pe_lc (own := [("number", 4)]) (wi := (iTup K (tTup (tCons (tC (.int 3)) (tCons (tC (.int 5)) (tCons (tC (.int 7)) tNil)))))) (g := (gName 4)) (tt := tYes) (te := (tCall (spM K false (0 + 1) m_bernoulli) [] E0 (tCons (tVar 4) tNil))) rfl nd (pi_tup (pe_tup (pa_cons pe_int (pa_cons pe_int (pa_cons pe_int pa_nil))))) (blkOk_by (own := [("number", 4)]) (N := N_law) (sc := defScope s_law) (by decide +kernel)) (fun _ _ _ _ _ => (pg_name (i := 4) nd rfl (by first | exact .inl rfl | exact .inr rfl))) (fun _ _ _ _ _ => pts_nil) (fun _ _ _ _ _ => (pe_fn F_bernoulli bd_bernoulli (hr.mono (by decide)) hg (by rfl) (pa_cons (pv 4) pa_nil)))) (pe_op op_mulA (pe_lst (pa_cons (pe_tup (pa_cons pe_int (pa_cons pe_int pa_nil))) pa_nil)) pe_int) (nomark _)) (pw_or (pt_cmpR (op_neD hr.units) (pe_fn F_bernoulli bd_bernoulli (hr.mono (by decide)) hg (by rfl) (pa_cons pe_int pa_nil)) (pe_tup (pa_cons pe_int (pa_cons pe_int pa_nil))) (nomark _)) (pw_or1 (pt_cmpR (op_neD hr.units) (pe_fn F_bernoulli bd_bernoulli (hr.mono (by decide)) hg (by rfl) (pa_cons pe_int pa_nil)) (pe_tup (pa_cons (pe_un un_neg pe_int) (pa_cons pe_int pa_nil))) (nomark _)))))) (pss_one (ps_ret pe_bl)) pss_nil)
    (pss_cons (ps_for PassesOwn.never rfl (pi_range1 (by rfl) T.z_range (pa_cons pe_int pa_nil)) (pg_name (i := 5) nd rfl (by first | exact .inl rfl | exact .inr rfl)) (pss_cons (ps_asg (pe_tup (pa_cons (pe_fn F__law_draw bd__law_draw (hr.mono (by decide)) hg (by rfl) (pa_cons (pv 1) (pa_cons pe_int pa_nil))) (pa_cons (pe_fn F__law_draw bd__law_draw (hr.mono (by decide)) hg (by rfl) (pa_cons (pv 1) (pa_cons pe_int pa_nil))) pa_nil))) (pg_tup rfl (pgs_cons (pg_name (i := 8) nd rfl (by first | exact .inl rfl | exact .inr rfl)) (pgs_cons (pg_name (i := 9) nd rfl (by first | exact .inl rfl | exact .inr rfl)) pgs_nil))))
    (pss_cons (ps_set (i := 10) nd rfl (by first | exact .inl rfl | exact .inr rfl) (pe_callB (cr_sum rfl) (by rfl) T.z_sum bt_sum (pa_cons (pe_lc (own := [("number", 4)]) (wi := (iRng1 (tCons (tVar 9) tNil))) (g := (gName 4)) (tt := tYes) (te := (tCall (spM K false (0 + 2) m__law_power) [] E0 (tCons (tVar 4) (tCons (tVar 8) tNil)))) rfl nd (pi_range1 (by rfl) T.z_range (pa_cons (pv 9) pa_nil)) (blkOk_by (own := [("number", 4)]) (N := N_law) (sc := defScope s_law) (by decide +kernel)) (fun _ _ _ _ _ => (pg_name (i := 4) nd rfl (by first | exact .inl rfl | exact .inr rfl))) (fun _ _ _ _ _ => pts_nil) (fun _ _ _ _ _ => (pe_fn F__law_power bd__law_power (hr.mono (by decide)) hg (by rfl) (pa_cons (pv 4) (pa_cons (pv 8) pa_nil))))) pa_nil)))
    (pss_cons (ps_set (i := 11) nd rfl (by first | exact .inl rfl | exact .inr rfl) (pe_op op_sub pe_int (pe_callB (cr_sum rfl) (by rfl) T.z_sum bt_sum (pa_cons (pe_lc (own := [("number", 4)]) (wi := (iRng2 (tCons (tC (.int 1)) (tCons (tOp rAddA (tVar 9) (tC (.int 1))) tNil)))) (g := (gName 4)) (tt := tYes) (te := (tCall (spM K false (0 + 2) m__law_power) [] E0 (tCons (tOp (rI0 fun i j => .int (i - j)) (tC (.int 0)) (tVar 4)) (tCons (tVar 8) tNil)))) rfl nd (pi_range2 (by rfl) T.z_range (pa_cons pe_int (pa_cons (pe_op op_addA (pv 9) pe_int) pa_nil))) (blkOk_by (own := [("number", 4)]) (N := N_law) (sc := defScope s_law) (by decide +kernel)) (fun _ _ _ _ _ => (pg_name (i := 4) nd rfl (by first | exact .inl rfl | exact .inr rfl))) (fun _ _ _ _ _ => pts_nil) (fun _ _ _ _ _ => (pe_fn F__law_power bd__law_power (hr.mono (by decide)) hg (by rfl) (pa_cons (pe_op op_sub pe_int (pv 4)) (pa_cons (pv 8) pa_nil))))) pa_nil))))
    (pss_one (ps_if (pt_cmpR (op_neD hr.units) (pe_lst (pa_cons (pe_fn F__law_value bd__law_value (hr.mono (by decide)) hg (by rfl) (pa_cons (pe_ix ix_seq (pv 2) (pv 8) (fun _ _ => rfl)) (pa_cons (pe_tup (pa_cons (pv 9) (pa_cons pe_int pa_nil))) pa_nil))) (pa_cons (pe_fn F__law_value bd__law_value (hr.mono (by decide)) hg (by rfl) (pa_cons (pe_ix ix_seq (pv 2) (pv 8) (fun _ _ => rfl)) (pa_cons (pe_tup (pa_cons (pe_op op_sub pe_int (pv 9)) (pa_cons pe_int pa_nil))) pa_nil))) pa_nil))) (pe_lst (pa_cons (pe_tup (pa_cons (pv 10) (pa_cons pe_int pa_nil))) (pa_cons (pe_tup (pa_cons (pv 11) (pa_cons pe_int pa_nil))) pa_nil))) (nomark _)) (pss_one (ps_ret pe_bl)) pss_nil))))))
    (pss_cons (ps_set (i := 6) nd rfl (by first | exact .inl rfl | exact .inr rfl) (pe_fn F__law_draw bd__law_draw (hr.mono (by decide)) hg (by rfl) (pa_cons (pv 1) (pa_cons pe_int pa_nil))))
    (pss_cons (ps_expr (pe_bm PySem.F.plainAttrs_list PySem.F.slot_list_append PySem.F.type_list_append mt_append (pe_ix ix_seq (pv 2) (pv 6) (fun _ _ => rfl)) (pa_cons pe_non pa_nil)))
    (pss_one (ps_ret (pe_and (pe_cmpR (op_eqD hr.units) (pe_fn F_power_sum bd_power_sum (hr.mono (by decide)) hg (by rfl) (pa_cons (pv 6) pa_nil)) (pe_ix ix_seq (pv 3) (pv 6) (fun _ _ => rfl)) (nomark _)) (pe_one (pe_cmpR (op_eqD hr.units) (pe_lc (own := [("number", 4)]) (wi := (iRng1 (tCons (tC (.int 9)) tNil))) (g := (gName 4)) (tt := tYes) (te := (tCall (spM K false (0 + 1) m_power_sum) [] E0 (tCons (tVar 4) tNil))) rfl nd (pi_range1 (by rfl) T.z_range (pa_cons pe_int pa_nil)) (blkOk_by (own := [("number", 4)]) (N := N_law) (sc := defScope s_law) (by decide +kernel)) (fun _ _ _ _ _ => (pg_name (i := 4) nd rfl (by first | exact .inl rfl | exact .inr rfl))) (fun _ _ _ _ _ => pts_nil) (fun _ _ _ _ _ => (pe_fn F_power_sum bd_power_sum (hr.mono (by decide)) hg (by rfl) (pa_cons (pv 4) pa_nil)))) (pv 3) (nomark _)))))))))))))))), fun F hk flat flat2 => ?_⟩
  have z : TSok0 F (tSeq (tAsg (tCall (spM K false (0 + 2) m__law_pot) [] E0 (tCons (tVar 0) (tCons (tC (.int 0)) tNil))) (gName 1)) (tSeq (tAsg (tLc (iRng1 (tCons (tC (.int 9)) tNil)) (gName 4) tYes (tCall (spM K false (0 + 1) m_power_sum) [] E0 (tCons (tVar 4) tNil)) [4]) (gName 2)) (tSeq (tIfS (tOr (tTest (tOp (rNeD K) (tVar 2) (tLc (iRng1 (tCons (tC (.int 9)) tNil)) (gName 4) tYes (tKw (spM K false (0 + 1) m_power_sum) 0 1 [0] E0 tNil (tCons (tVar 4) tNil)) [4]))) (tTest (tOp (rNeD K) (tLc (iList K (tVar 2)) (gName 12) tYes (tCB (fun xs H Q => ∃ x n, xs = [x] ∧ LenV K x H n ∧ Q (.int n) H) (tCons (tVar 12) tNil)) [12]) (tLc (iRng1 (tCons (tC (.int 9)) tNil)) (gName 4) tYes (tOp rAddA (tVar 4) (tC (.int 2))) [4])))) (tRet (tC (.bl false))) tNext) (tSeq (tAsg (tLc (iList K (tVar 2)) (gName 12) tYes (tCB (fun xs H Q => ∃ p ys, xs = [.ref p] ∧ (SqL K H p ys ∨ SqT K H p ys) ∧ ∀ l, H l = none → Q (.ref l) (upd H l (.lst ys))) (tCons (tVar 12) tNil)) [12]) (gName 3)) (tSeq (tSeq (tFor (iRng1 (tCons (tC (.int 9)) tNil)) (gName 4) (tSeq (tIfS (tOr (tNot (tB (tCB (rIsi K) (tCons (tOp (rIx K) (tVar 2) (tVar 4)) (tCons (tC (.ty "list")) tNil))))) (tOr (tTest (tOp (rNeD K) (tOp (rIx K) (tVar 2) (tVar 4)) (tCall (spM K false (0 + 1) m__law_trim) [] E0 (tCons (tOp (rIx K) (tVar 2) (tVar 4)) tNil)))) (tTest (tOp (rNeD K) (tOp (rIx K) (tOp (rIx K) (tVar 2) (tVar 4)) (tC (.int 0))) (tTup (tCons (tC (.int 0)) (tCons (tC (.int 1)) tNil))))))) (tRet (tC (.bl false))) tNext) (tSeq (tAsg (tLst tNil) (gName 7)) (tSeq (tFor (iRng1 (tCons (tOp rAddA (tVar 4) (tC (.int 1))) tNil)) (gName 8) (tAsg (tCall (spM K false (0 + 2) m__law_sum) [] E0 (tCons (tVar 7) (tCons (tCall (spM K false (0 + 2) m__law_times_number) [] E0 (tCons (tOp (rIx K) (tVar 2) (tVar 8)) (tCons (tTup (tCons (tCall (spM K false (0 + 2) m__law_picks) [] E0 (tCons (tOp rAddA (tVar 4) (tC (.int 1))) (tCons (tVar 8) tNil))) (tCons (tC (.int 1)) tNil))) tNil))) tNil))) (gName 7))) (tIfS (tTest (tOp (rNeD K) (tVar 7) (tOp rAddA (tOp rMulA (tLst (tCons (tTup (tCons (tC (.int 0)) (tCons (tC (.int 1)) tNil))) tNil)) (tOp rAddA (tVar 4) (tC (.int 1)))) (tLst (tCons (tTup (tCons (tC (.int 1)) (tCons (tC (.int 1)) tNil))) tNil))))) (tRet (tC (.bl false))) tNext))))) (tSeq (tIfS (tOr (tTest (tOp (rNeD K) (tLc (iRng1 (tCons (tC (.int 9)) tNil)) (gName 4) tYes (tCall (spM K false (0 + 1) m_bernoulli) [] E0 (tCons (tVar 4) tNil)) [4]) (tLc (iList K (tVar 2)) (gName 12) tYes (tOp (rIx K) (tVar 12) (tC (.int 1))) [12]))) (tTest (tOp (rNeD K) (tKw (spM K false (0 + 1) m_bernoulli) 0 1 [0] E0 tNil (tCons (tC (.int 6)) tNil)) (tTup (tCons (tC (.int 1)) (tCons (tC (.int 42)) tNil)))))) (tRet (tC (.bl false))) tNext) (tSeq (tIfS (tOr (tTest (tOp (rNeD K) (tLc (iTup K (tTup (tCons (tC (.int 3)) (tCons (tC (.int 5)) (tCons (tC (.int 7)) tNil))))) (gName 4) tYes (tCall (spM K false (0 + 1) m_bernoulli) [] E0 (tCons (tVar 4) tNil)) [4]) (tOp rMulA (tLst (tCons (tTup (tCons (tC (.int 0)) (tCons (tC (.int 1)) tNil))) tNil)) (tC (.int 3))))) (tOr (tTest (tOp (rNeD K) (tCall (spM K false (0 + 1) m_bernoulli) [] E0 (tCons (tC (.int 0)) tNil)) (tTup (tCons (tC (.int 1)) (tCons (tC (.int 1)) tNil))))) (tTest (tOp (rNeD K) (tCall (spM K false (0 + 1) m_bernoulli) [] E0 (tCons (tC (.int 1)) tNil)) (tTup (tCons (tUn (rU fun i => .int (-i)) (tC (.int 1))) (tCons (tC (.int 2)) tNil))))))) (tRet (tC (.bl false))) tNext) (tSeq (tFor (iRng1 (tCons (tC (.int 4)) tNil)) (gName 5) (tSeq (tAsg (tTup (tCons (tCall (spM K true (1 + 1) m__law_draw) [] E0 (tCons (tVar 1) (tCons (tC (.int 9)) tNil))) (tCons (tCall (spM K true (1 + 1) m__law_draw) [] E0 (tCons (tVar 1) (tCons (tC (.int 40)) tNil))) tNil))) (L2.gTup K 2 (L2.gCons (gName 8) (L2.gCons (gName 9) L2.gNil)))) (tSeq (tAsg (tCB (rSum K) (tCons (tLc (iRng1 (tCons (tVar 9) tNil)) (gName 4) tYes (tCall (spM K false (0 + 2) m__law_power) [] E0 (tCons (tVar 4) (tCons (tVar 8) tNil))) [4]) tNil)) (gName 10)) (tSeq (tAsg (tOp (rI0 fun i j => .int (i - j)) (tC (.int 0)) (tCB (rSum K) (tCons (tLc (iRng2 (tCons (tC (.int 1)) (tCons (tOp rAddA (tVar 9) (tC (.int 1))) tNil))) (gName 4) tYes (tCall (spM K false (0 + 2) m__law_power) [] E0 (tCons (tOp (rI0 fun i j => .int (i - j)) (tC (.int 0)) (tVar 4)) (tCons (tVar 8) tNil))) [4]) tNil))) (gName 11)) (tIfS (tTest (tOp (rNeD K) (tLst (tCons (tCall (spM K false (0 + 2) m__law_value) [] E0 (tCons (tOp (rIx K) (tVar 2) (tVar 8)) (tCons (tTup (tCons (tVar 9) (tCons (tC (.int 1)) tNil))) tNil))) (tCons (tCall (spM K false (0 + 2) m__law_value) [] E0 (tCons (tOp (rIx K) (tVar 2) (tVar 8)) (tCons (tTup (tCons (tOp (rI0 fun i j => .int (i - j)) (tC (.int 0)) (tVar 9)) (tCons (tC (.int 1)) tNil))) tNil))) tNil))) (tLst (tCons (tTup (tCons (tVar 10) (tCons (tC (.int 1)) tNil))) (tCons (tTup (tCons (tVar 11) (tCons (tC (.int 1)) tNil))) tNil))))) (tRet (tC (.bl false))) tNext))))) (tAsg (tCall (spM K true (1 + 1) m__law_draw) [] E0 (tCons (tVar 1) (tCons (tC (.int 9)) tNil))) (gName 6)))))) (tSeq (tDrop (tBM K "list" rAppend (tOp (rIx K) (tVar 2) (tVar 6)) (tCons (tC .non) tNil))) (tRet (tAndV (tOp (rEqD K) (tCall (spM K false (0 + 1) m_power_sum) [] E0 (tCons (tVar 6) tNil)) (tOp (rIx K) (tVar 3) (tVar 6))) (tOp (rEqD K) (tLc (iRng1 (tCons (tC (.int 9)) tNil)) (gName 4) tYes (tCall (spM K false (0 + 1) m_power_sum) [] E0 (tCons (tVar 4) tNil)) [4]) (tVar 3)))))))))) g_law := by
    subst hk
    exact (ok_seq0 (ok_asg (ok_call ln__law_pot (ok_cons (ok_var 0) (ok_cons (ok_int 0) ok_nil))) (ok_gname 1))
    (ok_seq0 (ok_asg (ok_lc (ok_iRng1 (ok_cons (ok_int 9) ok_nil)) (fun H0 => (ok_cname (by decide))) (fun H0 => ok_yes) (fun H0 => (TEok.f (ok_call ln_power_sum (ok_cons (ok_var 4) ok_nil))))) (ok_gname 2))
    (ok_seq0 (ok_ifS (ok_or (ok_test (ok_op oo_ne (ok_var 2) (TEok.f (ok_lc (ok_iRng1 (ok_cons (ok_int 9) ok_nil)) (fun H0 => (ok_cname (by decide))) (fun H0 => ok_yes) (fun H0 => (TEok.f (ok_kw ln_power_sum ok_nil (ok_cons (ok_var 4) ok_nil)))))))) (ok_test (ok_op oo_ne (TEok.f (ok_lc (ok_iList (ok_var 2)) (fun H0 => (ok_cname (by decide))) (fun H0 => ok_yes) (fun H0 => (TEok.f (ok_cb cb_len (ok_cons (ok_var 12) ok_nil)))))) (TEok.f (ok_lc (ok_iRng1 (ok_cons (ok_int 9) ok_nil)) (fun H0 => (ok_cname (by decide))) (fun H0 => ok_yes) (fun H0 => (TEok.f (ok_op oo_add (ok_var 4) (ok_int 2))))))))) (ok_ret (TDok.v (ok_bl false))) ok_next)
    (ok_hide flat flat2 (ok_iList (ok_var 2)) (fun H0 => (ok_cname (by decide))) (fun H0 => (ok_cb cb_listOf (ok_cons (ok_var 12) ok_nil))) (fun H0 p => (ok_seq (ok_for (ok_iRng1 (ok_cons (ok_int 9) ok_nil)) (ok_gname 4) (ok_seq (ok_ifS (ok_or (ok_not (ok_tB (ok_isi (TEok.f (ok_op oo_ix (ok_var 2) (ok_var 4)))))) (ok_or (ok_test (ok_op oo_ne (TEok.f (ok_op oo_ix (ok_var 2) (ok_var 4))) (TEok.f (ok_call ln__law_trim (ok_cons (TEok.f (ok_op oo_ix (ok_var 2) (ok_var 4))) ok_nil))))) (ok_test (ok_op oo_ne (TEok.f (ok_op oo_ix (TEok.f (ok_op oo_ix (ok_var 2) (ok_var 4))) (ok_int 0))) (ok_tup (ok_cons (ok_int 0) (ok_cons (ok_int 1) ok_nil))))))) (ok_ret (TDok.v (ok_bl false))) ok_next)
    (ok_seq (ok_asg (ok_lst ok_nil) (ok_gname 7))
    (ok_seq (ok_for (ok_iRng1 (ok_cons (TEok.f (ok_op oo_add (ok_var 4) (ok_int 1))) ok_nil)) (ok_gname 8) (ok_asg (ok_call ln__law_sum (ok_cons (ok_var 7) (ok_cons (TEok.f (ok_call ln__law_times_number (ok_cons (TEok.f (ok_op oo_ix (ok_var 2) (ok_var 8))) (ok_cons (ok_tup (ok_cons (TEok.f (ok_call ln__law_picks (ok_cons (TEok.f (ok_op oo_add (ok_var 4) (ok_int 1))) (ok_cons (ok_var 8) ok_nil)))) (ok_cons (ok_int 1) ok_nil))) ok_nil)))) ok_nil))) (ok_gname 7)))
    (ok_ifS (ok_test (ok_op oo_ne (ok_var 7) (TEok.f (ok_op oo_add (TEok.f (ok_op oo_mul (TEok.f (ok_lst (ok_cons (ok_tup (ok_cons (ok_int 0) (ok_cons (ok_int 1) ok_nil))) ok_nil))) (TEok.f (ok_op oo_add (ok_var 4) (ok_int 1))))) (TEok.f (ok_lst (ok_cons (ok_tup (ok_cons (ok_int 1) (ok_cons (ok_int 1) ok_nil))) ok_nil))))))) (ok_ret (TDok.v (ok_bl false))) ok_next)))))
    (ok_seq (ok_ifS (ok_or (ok_test (ok_op oo_ne (TEok.f (ok_lc (ok_iRng1 (ok_cons (ok_int 9) ok_nil)) (fun H0 => (ok_cname (by decide))) (fun H0 => ok_yes) (fun H0 => (TEok.f (ok_call ln_bernoulli (ok_cons (ok_var 4) ok_nil)))))) (TEok.f (ok_lc (ok_iList (ok_var 2)) (fun H0 => (ok_cname (by decide))) (fun H0 => ok_yes) (fun H0 => (TEok.f (ok_op oo_ix (ok_var 12) (ok_int 1)))))))) (ok_test (ok_op oo_ne (TEok.f (ok_kw ln_bernoulli ok_nil (ok_cons (ok_int 6) ok_nil))) (ok_tup (ok_cons (ok_int 1) (ok_cons (ok_int 42) ok_nil)))))) (ok_ret (TDok.v (ok_bl false))) ok_next)
    (ok_seq (ok_ifS (ok_or (ok_test (ok_op oo_ne (TEok.f (ok_lc (ok_iTup (ok_tup (ok_cons (ok_int 3) (ok_cons (ok_int 5) (ok_cons (ok_int 7) ok_nil))))) (fun H0 => (ok_cname (by decide))) (fun H0 => ok_yes) (fun H0 => (TEok.f (ok_call ln_bernoulli (ok_cons (ok_var 4) ok_nil)))))) (TEok.f (ok_op oo_mul (TEok.f (ok_lst (ok_cons (ok_tup (ok_cons (ok_int 0) (ok_cons (ok_int 1) ok_nil))) ok_nil))) (ok_int 3))))) (ok_or (ok_test (ok_op oo_ne (TEok.f (ok_call ln_bernoulli (ok_cons (ok_int 0) ok_nil))) (ok_tup (ok_cons (ok_int 1) (ok_cons (ok_int 1) ok_nil))))) (ok_test (ok_op oo_ne (TEok.f (ok_call ln_bernoulli (ok_cons (ok_int 1) ok_nil))) (ok_tup (ok_cons (TEok.f (ok_un uo_neg (ok_int 1))) (ok_cons (ok_int 2) ok_nil))))))) (ok_ret (TDok.v (ok_bl false))) ok_next)
    (ok_seq (ok_for (ok_iRng1 (ok_cons (ok_int 4) ok_nil)) (ok_gname 5) (ok_seq (ok_asg (TDok.v (ok_tup (ok_cons (TEok.f (ok_callP ln__law_draw (ok_cons (ok_int 9) ok_nil))) (ok_cons (TEok.f (ok_callP ln__law_draw (ok_cons (ok_int 40) ok_nil))) ok_nil)))) (ok_gtup (ok_gcons (ok_gname 8) (ok_gcons (ok_gname 9) ok_gnil))))
    (ok_seq (ok_asg (ok_cb cb_sum (ok_cons (TEok.f (ok_lc (ok_iRng1 (ok_cons (ok_var 9) ok_nil)) (fun H0 => (ok_cname (by decide))) (fun H0 => ok_yes) (fun H0 => (TEok.f (ok_call ln__law_power (ok_cons (ok_var 4) (ok_cons (ok_var 8) ok_nil))))))) ok_nil)) (ok_gname 10))
    (ok_seq (ok_asg (ok_op oo_sub (ok_int 0) (TEok.f (ok_cb cb_sum (ok_cons (TEok.f (ok_lc (ok_iRng2 (ok_cons (ok_int 1) (ok_cons (TEok.f (ok_op oo_add (ok_var 9) (ok_int 1))) ok_nil))) (fun H0 => (ok_cname (by decide))) (fun H0 => ok_yes) (fun H0 => (TEok.f (ok_call ln__law_power (ok_cons (TEok.f (ok_op oo_sub (ok_int 0) (ok_var 4))) (ok_cons (ok_var 8) ok_nil))))))) ok_nil)))) (ok_gname 11))
    (ok_ifS (ok_test (ok_op oo_ne (TEok.f (ok_lst (ok_cons (TEok.f (ok_call ln__law_value (ok_cons (TEok.f (ok_op oo_ix (ok_var 2) (ok_var 8))) (ok_cons (ok_tup (ok_cons (ok_var 9) (ok_cons (ok_int 1) ok_nil))) ok_nil)))) (ok_cons (TEok.f (ok_call ln__law_value (ok_cons (TEok.f (ok_op oo_ix (ok_var 2) (ok_var 8))) (ok_cons (ok_tup (ok_cons (TEok.f (ok_op oo_sub (ok_int 0) (ok_var 9))) (ok_cons (ok_int 1) ok_nil))) ok_nil)))) ok_nil)))) (TEok.f (ok_lst (ok_cons (ok_tup (ok_cons (ok_var 10) (ok_cons (ok_int 1) ok_nil))) (ok_cons (ok_tup (ok_cons (ok_var 11) (ok_cons (ok_int 1) ok_nil))) ok_nil)))))) (ok_ret (TDok.v (ok_bl false))) ok_next)))))
    (ok_asg (ok_callP ln__law_draw (ok_cons (ok_int 9) ok_nil)) (ok_gname 6))))))) (ok_ret (ok_andV (ok_op oo_eq (TEok.f (ok_call ln_power_sum (ok_cons (ok_var 6) ok_nil))) (TEok.f (ok_op oo_ix (ok_var 3) (ok_var 6)))) (ok_op oo_eq (TEok.f (ok_lc (ok_iRng1 (ok_cons (ok_int 9) ok_nil)) (fun H0 => (ok_cname (by decide))) (fun H0 => ok_yes) (fun H0 => (TEok.f (ok_call ln_power_sum (ok_cons (ok_var 4) ok_nil)))))) (ok_var 3))))))))
  simp only [Wk.tSeq_assoc] at z
  exact z
end
/-! ### what the top has written -/
theorem tx_mk {K : PySem.W.Frag} {h : Heap} {mg : Str → Option Value} (X : K.In h) (G : h.Ns mainGlobals mg)
    {f0 : Addr} {od0 an0 : Option Addr} {sl0 : Array (Option Value)} {oc0 kV0 dc0 pm0 cd0 ct0 : Value}
    {f1 : Addr} {od1 an1 : Option Addr} {sl1 : Array (Option Value)} {oc1 kV1 dc1 pm1 cd1 ct1 : Value}
    {f2 : Addr} {od2 an2 : Option Addr} {sl2 : Array (Option Value)} {oc2 kV2 dc2 pm2 cd2 ct2 : Value}
    {f3 : Addr} {od3 an3 : Option Addr} {sl3 : Array (Option Value)} {oc3 kV3 dc3 pm3 cd3 ct3 : Value}
    {f4 : Addr} {od4 an4 : Option Addr} {sl4 : Array (Option Value)} {oc4 kV4 dc4 pm4 cd4 ct4 : Value}
    {f5 : Addr} {od5 an5 : Option Addr} {sl5 : Array (Option Value)} {oc5 kV5 dc5 pm5 cd5 ct5 : Value}
    {f6 : Addr} {od6 an6 : Option Addr} {sl6 : Array (Option Value)} {oc6 kV6 dc6 pm6 cd6 ct6 : Value}
    {f7 : Addr} {od7 an7 : Option Addr} {sl7 : Array (Option Value)} {oc7 kV7 dc7 pm7 cd7 ct7 : Value}
    {f8 : Addr} {od8 an8 : Option Addr} {sl8 : Array (Option Value)} {oc8 kV8 dc8 pm8 cd8 ct8 : Value}
    {f9 : Addr} {od9 an9 : Option Addr} {sl9 : Array (Option Value)} {oc9 kV9 dc9 pm9 cd9 ct9 : Value}
    {f10 : Addr} {od10 an10 : Option Addr} {sl10 : Array (Option Value)} {oc10 kV10 dc10 pm10 cd10 ct10 : Value}
    {f11 : Addr} {od11 an11 : Option Addr} {sl11 : Array (Option Value)} {oc11 kV11 dc11 pm11 cd11 ct11 : Value}
    {f12 : Addr} {od12 an12 : Option Addr} {sl12 : Array (Option Value)} {oc12 kV12 dc12 pm12 cd12 ct12 : Value}
    {f13 : Addr} {od13 an13 : Option Addr} {sl13 : Array (Option Value)} {oc13 kV13 dc13 pm13 cd13 ct13 : Value}
    {f14 : Addr} {od14 an14 : Option Addr} {sl14 : Array (Option Value)} {oc14 kV14 dc14 pm14 cd14 ct14 : Value}
    {f15 : Addr} {od15 an15 : Option Addr} {sl15 : Array (Option Value)} {oc15 kV15 dc15 pm15 cd15 ct15 : Value}
    {f16 : Addr} {od16 an16 : Option Addr} {sl16 : Array (Option Value)} {oc16 kV16 dc16 pm16 cd16 ct16 : Value}
    {f17 : Addr} {od17 an17 : Option Addr} {sl17 : Array (Option Value)} {oc17 kV17 dc17 pm17 cd17 ct17 : Value}
    {f18 : Addr} {od18 an18 : Option Addr} {sl18 : Array (Option Value)} {oc18 kV18 dc18 pm18 cd18 ct18 : Value}
    {f19 : Addr} {od19 an19 : Option Addr} {sl19 : Array (Option Value)} {oc19 kV19 dc19 pm19 cd19 ct19 : Value}
    {f20 : Addr} {od20 an20 : Option Addr} {sl20 : Array (Option Value)} {oc20 kV20 dc20 pm20 cd20 ct20 : Value}
    {f21 : Addr} {od21 an21 : Option Addr} {sl21 : Array (Option Value)} {oc21 kV21 dc21 pm21 cd21 ct21 : Value}
    {f22 : Addr} {od22 an22 : Option Addr} {sl22 : Array (Option Value)} {oc22 kV22 dc22 pm22 cd22 ct22 : Value}
    {f23 : Addr} {od23 an23 : Option Addr} {sl23 : Array (Option Value)} {oc23 kV23 dc23 pm23 cd23 ct23 : Value}
    {f24 : Addr} {od24 an24 : Option Addr} {sl24 : Array (Option Value)} {oc24 kV24 dc24 pm24 cd24 ct24 : Value}
    {f25 : Addr} {od25 an25 : Option Addr} {sl25 : Array (Option Value)} {oc25 kV25 dc25 pm25 cd25 ct25 : Value}
    {f26 : Addr} {od26 an26 : Option Addr} {sl26 : Array (Option Value)} {oc26 kV26 dc26 pm26 cd26 ct26 : Value}
    {f27 : Addr} {od27 an27 : Option Addr} {sl27 : Array (Option Value)} {oc27 kV27 dc27 pm27 cd27 ct27 : Value}
    (a0 : PySem.W.nsIn K mainGlobals "is_integer" = some (some (.ref f0))) (l0 : K.lookup f0 = some ⟨oc0, od0, .func (PySem.W.fnOf "is_integer" "is_integer" (defArgs s_is_integer) (defBody s_is_integer) (defScope s_is_integer) .none kV0 dc0 pm0 an0 cd0 ct0), sl0⟩) (c0 : PySem.W.codeIn K cd0 "is_integer" = true) (k0 : PySem.W.keepIn K (.ref f0) = true)
    (a1 : PySem.W.nsIn K mainGlobals "is_within" = some (some (.ref f1))) (l1 : K.lookup f1 = some ⟨oc1, od1, .func (PySem.W.fnOf "is_within" "is_within" (defArgs s_is_within) (defBody s_is_within) (defScope s_is_within) .none kV1 dc1 pm1 an1 cd1 ct1), sl1⟩) (c1 : PySem.W.codeIn K cd1 "is_within" = true) (k1 : PySem.W.keepIn K (.ref f1) = true)
    (a2 : PySem.W.nsIn K mainGlobals "check_number" = some (some (.ref f2))) (l2 : K.lookup f2 = some ⟨oc2, od2, .func (PySem.W.fnOf "check_number" "check_number" (defArgs s_check_number) (defBody s_check_number) (defScope s_check_number) .none kV2 dc2 pm2 an2 cd2 ct2), sl2⟩) (c2 : PySem.W.codeIn K cd2 "check_number" = true) (k2 : PySem.W.keepIn K (.ref f2) = true)
    (a3 : PySem.W.nsIn K mainGlobals "divisor" = some (some (.ref f3))) (l3 : K.lookup f3 = some ⟨oc3, od3, .func (PySem.W.fnOf "divisor" "divisor" (defArgs s_divisor) (defBody s_divisor) (defScope s_divisor) .none kV3 dc3 pm3 an3 cd3 ct3), sl3⟩) (c3 : PySem.W.codeIn K cd3 "divisor" = true) (k3 : PySem.W.keepIn K (.ref f3) = true)
    (a4 : PySem.W.nsIn K mainGlobals "reduced" = some (some (.ref f4))) (l4 : K.lookup f4 = some ⟨oc4, od4, .func (PySem.W.fnOf "reduced" "reduced" (defArgs s_reduced) (defBody s_reduced) (defScope s_reduced) .none kV4 dc4 pm4 an4 cd4 ct4), sl4⟩) (c4 : PySem.W.codeIn K cd4 "reduced" = true) (k4 : PySem.W.keepIn K (.ref f4) = true)
    (a5 : PySem.W.nsIn K mainGlobals "add" = some (some (.ref f5))) (l5 : K.lookup f5 = some ⟨oc5, od5, .func (PySem.W.fnOf "add" "add" (defArgs s_add) (defBody s_add) (defScope s_add) .none kV5 dc5 pm5 an5 cd5 ct5), sl5⟩) (c5 : PySem.W.codeIn K cd5 "add" = true) (k5 : PySem.W.keepIn K (.ref f5) = true)
    (a6 : PySem.W.nsIn K mainGlobals "multiply" = some (some (.ref f6))) (l6 : K.lookup f6 = some ⟨oc6, od6, .func (PySem.W.fnOf "multiply" "multiply" (defArgs s_multiply) (defBody s_multiply) (defScope s_multiply) .none kV6 dc6 pm6 an6 cd6 ct6), sl6⟩) (c6 : PySem.W.codeIn K cd6 "multiply" = true) (k6 : PySem.W.keepIn K (.ref f6) = true)
    (a7 : PySem.W.nsIn K mainGlobals "divide" = some (some (.ref f7))) (l7 : K.lookup f7 = some ⟨oc7, od7, .func (PySem.W.fnOf "divide" "divide" (defArgs s_divide) (defBody s_divide) (defScope s_divide) .none kV7 dc7 pm7 an7 cd7 ct7), sl7⟩) (c7 : PySem.W.codeIn K cd7 "divide" = true) (k7 : PySem.W.keepIn K (.ref f7) = true)
    (a8 : PySem.W.nsIn K mainGlobals "turned" = some (some (.ref f8))) (l8 : K.lookup f8 = some ⟨oc8, od8, .func (PySem.W.fnOf "turned" "turned" (defArgs s_turned) (defBody s_turned) (defScope s_turned) .none kV8 dc8 pm8 an8 cd8 ct8), sl8⟩) (c8 : PySem.W.codeIn K cd8 "turned" = true) (k8 : PySem.W.keepIn K (.ref f8) = true)
    (a9 : PySem.W.nsIn K mainGlobals "total" = some (some (.ref f9))) (l9 : K.lookup f9 = some ⟨oc9, od9, .func (PySem.W.fnOf "total" "total" (defArgs s_total) (defBody s_total) (defScope s_total) .none kV9 dc9 pm9 an9 cd9 ct9), sl9⟩) (c9 : PySem.W.codeIn K cd9 "total" = true) (k9 : PySem.W.keepIn K (.ref f9) = true)
    (a10 : PySem.W.nsIn K mainGlobals "told_of" = some (some (.ref f10))) (l10 : K.lookup f10 = some ⟨oc10, od10, .func (PySem.W.fnOf "told_of" "told_of" (defArgs s_told_of) (defBody s_told_of) (defScope s_told_of) .none kV10 dc10 pm10 an10 cd10 ct10), sl10⟩) (c10 : PySem.W.codeIn K cd10 "told_of" = true) (k10 : PySem.W.keepIn K (.ref f10) = true)
    (a11 : PySem.W.nsIn K mainGlobals "picks" = some (some (.ref f11))) (l11 : K.lookup f11 = some ⟨oc11, od11, .func (PySem.W.fnOf "picks" "picks" (defArgs s_picks) (defBody s_picks) (defScope s_picks) .none kV11 dc11 pm11 an11 cd11 ct11), sl11⟩) (c11 : PySem.W.codeIn K cd11 "picks" = true) (k11 : PySem.W.keepIn K (.ref f11) = true)
    (a12 : PySem.W.nsIn K mainGlobals "bernoulli_of" = some (some (.ref f12))) (l12 : K.lookup f12 = some ⟨oc12, od12, .func (PySem.W.fnOf "bernoulli_of" "bernoulli_of" (defArgs s_bernoulli_of) (defBody s_bernoulli_of) (defScope s_bernoulli_of) .none kV12 dc12 pm12 an12 cd12 ct12), sl12⟩) (c12 : PySem.W.codeIn K cd12 "bernoulli_of" = true) (k12 : PySem.W.keepIn K (.ref f12) = true)
    (a13 : PySem.W.nsIn K mainGlobals "bernoulli" = some (some (.ref f13))) (l13 : K.lookup f13 = some ⟨oc13, od13, .func (PySem.W.fnOf "bernoulli" "bernoulli" (defArgs s_bernoulli) (defBody s_bernoulli) (defScope s_bernoulli) .none kV13 dc13 pm13 an13 cd13 ct13), sl13⟩) (c13 : PySem.W.codeIn K cd13 "bernoulli" = true) (k13 : PySem.W.keepIn K (.ref f13) = true)
    (a14 : PySem.W.nsIn K mainGlobals "power_sum" = some (some (.ref f14))) (l14 : K.lookup f14 = some ⟨oc14, od14, .func (PySem.W.fnOf "power_sum" "power_sum" (defArgs s_power_sum) (defBody s_power_sum) (defScope s_power_sum) .none kV14 dc14 pm14 an14 cd14 ct14), sl14⟩) (c14 : PySem.W.codeIn K cd14 "power_sum" = true) (k14 : PySem.W.keepIn K (.ref f14) = true)
    (a15 : PySem.W.nsIn K mainGlobals "_law_pot" = some (some (.ref f15))) (l15 : K.lookup f15 = some ⟨oc15, od15, .func (PySem.W.fnOf "_law_pot" "_law_pot" (defArgs s__law_pot) (defBody s__law_pot) (defScope s__law_pot) .none kV15 dc15 pm15 an15 cd15 ct15), sl15⟩) (c15 : PySem.W.codeIn K cd15 "_law_pot" = true) (k15 : PySem.W.keepIn K (.ref f15) = true)
    (a16 : PySem.W.nsIn K mainGlobals "_law_draw" = some (some (.ref f16))) (l16 : K.lookup f16 = some ⟨oc16, od16, .func (PySem.W.fnOf "_law_draw" "_law_draw" (defArgs s__law_draw) (defBody s__law_draw) (defScope s__law_draw) .none kV16 dc16 pm16 an16 cd16 ct16), sl16⟩) (c16 : PySem.W.codeIn K cd16 "_law_draw" = true) (k16 : PySem.W.keepIn K (.ref f16) = true)
    (a17 : PySem.W.nsIn K mainGlobals "_law_divisor" = some (some (.ref f17))) (l17 : K.lookup f17 = some ⟨oc17, od17, .func (PySem.W.fnOf "_law_divisor" "_law_divisor" (defArgs s__law_divisor) (defBody s__law_divisor) (defScope s__law_divisor) .none kV17 dc17 pm17 an17 cd17 ct17), sl17⟩) (c17 : PySem.W.codeIn K cd17 "_law_divisor" = true) (k17 : PySem.W.keepIn K (.ref f17) = true)
    (a18 : PySem.W.nsIn K mainGlobals "_law_cut" = some (some (.ref f18))) (l18 : K.lookup f18 = some ⟨oc18, od18, .func (PySem.W.fnOf "_law_cut" "_law_cut" (defArgs s__law_cut) (defBody s__law_cut) (defScope s__law_cut) .none kV18 dc18 pm18 an18 cd18 ct18), sl18⟩) (c18 : PySem.W.codeIn K cd18 "_law_cut" = true) (k18 : PySem.W.keepIn K (.ref f18) = true)
    (a19 : PySem.W.nsIn K mainGlobals "_law_add" = some (some (.ref f19))) (l19 : K.lookup f19 = some ⟨oc19, od19, .func (PySem.W.fnOf "_law_add" "_law_add" (defArgs s__law_add) (defBody s__law_add) (defScope s__law_add) .none kV19 dc19 pm19 an19 cd19 ct19), sl19⟩) (c19 : PySem.W.codeIn K cd19 "_law_add" = true) (k19 : PySem.W.keepIn K (.ref f19) = true)
    (a20 : PySem.W.nsIn K mainGlobals "_law_mul" = some (some (.ref f20))) (l20 : K.lookup f20 = some ⟨oc20, od20, .func (PySem.W.fnOf "_law_mul" "_law_mul" (defArgs s__law_mul) (defBody s__law_mul) (defScope s__law_mul) .none kV20 dc20 pm20 an20 cd20 ct20), sl20⟩) (c20 : PySem.W.codeIn K cd20 "_law_mul" = true) (k20 : PySem.W.keepIn K (.ref f20) = true)
    (a21 : PySem.W.nsIn K mainGlobals "_law_trim" = some (some (.ref f21))) (l21 : K.lookup f21 = some ⟨oc21, od21, .func (PySem.W.fnOf "_law_trim" "_law_trim" (defArgs s__law_trim) (defBody s__law_trim) (defScope s__law_trim) .none kV21 dc21 pm21 an21 cd21 ct21), sl21⟩) (c21 : PySem.W.codeIn K cd21 "_law_trim" = true) (k21 : PySem.W.keepIn K (.ref f21) = true)
    (a22 : PySem.W.nsIn K mainGlobals "_law_sum" = some (some (.ref f22))) (l22 : K.lookup f22 = some ⟨oc22, od22, .func (PySem.W.fnOf "_law_sum" "_law_sum" (defArgs s__law_sum) (defBody s__law_sum) (defScope s__law_sum) .none kV22 dc22 pm22 an22 cd22 ct22), sl22⟩) (c22 : PySem.W.codeIn K cd22 "_law_sum" = true) (k22 : PySem.W.keepIn K (.ref f22) = true)
    (a23 : PySem.W.nsIn K mainGlobals "_law_times_number" = some (some (.ref f23))) (l23 : K.lookup f23 = some ⟨oc23, od23, .func (PySem.W.fnOf "_law_times_number" "_law_times_number" (defArgs s__law_times_number) (defBody s__law_times_number) (defScope s__law_times_number) .none kV23 dc23 pm23 an23 cd23 ct23), sl23⟩) (c23 : PySem.W.codeIn K cd23 "_law_times_number" = true) (k23 : PySem.W.keepIn K (.ref f23) = true)
    (a24 : PySem.W.nsIn K mainGlobals "_law_value" = some (some (.ref f24))) (l24 : K.lookup f24 = some ⟨oc24, od24, .func (PySem.W.fnOf "_law_value" "_law_value" (defArgs s__law_value) (defBody s__law_value) (defScope s__law_value) .none kV24 dc24 pm24 an24 cd24 ct24), sl24⟩) (c24 : PySem.W.codeIn K cd24 "_law_value" = true) (k24 : PySem.W.keepIn K (.ref f24) = true)
    (a25 : PySem.W.nsIn K mainGlobals "_law_picks" = some (some (.ref f25))) (l25 : K.lookup f25 = some ⟨oc25, od25, .func (PySem.W.fnOf "_law_picks" "_law_picks" (defArgs s__law_picks) (defBody s__law_picks) (defScope s__law_picks) .none kV25 dc25 pm25 an25 cd25 ct25), sl25⟩) (c25 : PySem.W.codeIn K cd25 "_law_picks" = true) (k25 : PySem.W.keepIn K (.ref f25) = true)
    (a26 : PySem.W.nsIn K mainGlobals "_law_power" = some (some (.ref f26))) (l26 : K.lookup f26 = some ⟨oc26, od26, .func (PySem.W.fnOf "_law_power" "_law_power" (defArgs s__law_power) (defBody s__law_power) (defScope s__law_power) .none kV26 dc26 pm26 an26 cd26 ct26), sl26⟩) (c26 : PySem.W.codeIn K cd26 "_law_power" = true) (k26 : PySem.W.keepIn K (.ref f26) = true)
    (a27 : PySem.W.nsIn K mainGlobals "law" = some (some (.ref f27))) (l27 : K.lookup f27 = some ⟨oc27, od27, .func (PySem.W.fnOf "law" "law" (defArgs s_law) (defBody s_law) (defScope s_law) .none kV27 dc27 pm27 an27 cd27 ct27), sl27⟩) (c27 : PySem.W.codeIn K cd27 "law" = true) (k27 : PySem.W.keepIn K (.ref f27) = true)
    (z_abs : PySem.W.nsIn K mainGlobals "abs" = some none)
    (z_bool : PySem.W.nsIn K mainGlobals "bool" = some none)
    (z_divmod : PySem.W.nsIn K mainGlobals "divmod" = some none)
    (z_enumerate : PySem.W.nsIn K mainGlobals "enumerate" = some none)
    (z_int : PySem.W.nsIn K mainGlobals "int" = some none)
    (z_isinstance : PySem.W.nsIn K mainGlobals "isinstance" = some none)
    (z_len : PySem.W.nsIn K mainGlobals "len" = some none)
    (z_list : PySem.W.nsIn K mainGlobals "list" = some none)
    (z_max : PySem.W.nsIn K mainGlobals "max" = some none)
    (z_range : PySem.W.nsIn K mainGlobals "range" = some none)
    (z_sum : PySem.W.nsIn K mainGlobals "sum" = some none)
    (z_zip : PySem.W.nsIn K mainGlobals "zip" = some none)
    {t_MOST_POWER : Tok} (c_MOST_POWER : PySem.W.nsIn K mainGlobals "MOST_POWER" = some (some (.int 8 t_MOST_POWER)))
    {b_NOUGHT : Addr} {ds_NOUGHT : Option Addr} {n_NOUGHT : Nat} {sl_NOUGHT : Array (Option Value)} {u_NOUGHT_0 u_NOUGHT_1 : Tok} (c_NOUGHT : PySem.W.nsIn K mainGlobals "NOUGHT" = some (some (.ref b_NOUGHT))) (e_NOUGHT : K.lookup b_NOUGHT = some ⟨.type "tuple", ds_NOUGHT, .seq #[.int 0 u_NOUGHT_0, .int 1 u_NOUGHT_1] n_NOUGHT, sl_NOUGHT⟩)
    {b_ONE : Addr} {ds_ONE : Option Addr} {n_ONE : Nat} {sl_ONE : Array (Option Value)} {u_ONE_0 u_ONE_1 : Tok} (c_ONE : PySem.W.nsIn K mainGlobals "ONE" = some (some (.ref b_ONE))) (e_ONE : K.lookup b_ONE = some ⟨.type "tuple", ds_ONE, .seq #[.int 1 u_ONE_0, .int 1 u_ONE_1] n_ONE, sl_ONE⟩)
    : Tx K mg where
  d_is_integer := ⟨f0, _, fun_mk (st := s_is_integer) l0 c0 k0, PySem.W.mg_of X G a0⟩
  d_is_within := ⟨f1, _, fun_mk (st := s_is_within) l1 c1 k1, PySem.W.mg_of X G a1⟩
  d_check_number := ⟨f2, _, fun_mk (st := s_check_number) l2 c2 k2, PySem.W.mg_of X G a2⟩
  d_divisor := ⟨f3, _, fun_mk (st := s_divisor) l3 c3 k3, PySem.W.mg_of X G a3⟩
  d_reduced := ⟨f4, _, fun_mk (st := s_reduced) l4 c4 k4, PySem.W.mg_of X G a4⟩
  d_add := ⟨f5, _, fun_mk (st := s_add) l5 c5 k5, PySem.W.mg_of X G a5⟩
  d_multiply := ⟨f6, _, fun_mk (st := s_multiply) l6 c6 k6, PySem.W.mg_of X G a6⟩
  d_divide := ⟨f7, _, fun_mk (st := s_divide) l7 c7 k7, PySem.W.mg_of X G a7⟩
  d_turned := ⟨f8, _, fun_mk (st := s_turned) l8 c8 k8, PySem.W.mg_of X G a8⟩
  d_total := ⟨f9, _, fun_mk (st := s_total) l9 c9 k9, PySem.W.mg_of X G a9⟩
  d_told_of := ⟨f10, _, fun_mk (st := s_told_of) l10 c10 k10, PySem.W.mg_of X G a10⟩
  d_picks := ⟨f11, _, fun_mk (st := s_picks) l11 c11 k11, PySem.W.mg_of X G a11⟩
  d_bernoulli_of := ⟨f12, _, fun_mk (st := s_bernoulli_of) l12 c12 k12, PySem.W.mg_of X G a12⟩
  d_bernoulli := ⟨f13, _, fun_mk (st := s_bernoulli) l13 c13 k13, PySem.W.mg_of X G a13⟩
  d_power_sum := ⟨f14, _, fun_mk (st := s_power_sum) l14 c14 k14, PySem.W.mg_of X G a14⟩
  d__law_pot := ⟨f15, _, fun_mk (st := s__law_pot) l15 c15 k15, PySem.W.mg_of X G a15⟩
  d__law_draw := ⟨f16, _, fun_mk (st := s__law_draw) l16 c16 k16, PySem.W.mg_of X G a16⟩
  d__law_divisor := ⟨f17, _, fun_mk (st := s__law_divisor) l17 c17 k17, PySem.W.mg_of X G a17⟩
  d__law_cut := ⟨f18, _, fun_mk (st := s__law_cut) l18 c18 k18, PySem.W.mg_of X G a18⟩
  d__law_add := ⟨f19, _, fun_mk (st := s__law_add) l19 c19 k19, PySem.W.mg_of X G a19⟩
  d__law_mul := ⟨f20, _, fun_mk (st := s__law_mul) l20 c20 k20, PySem.W.mg_of X G a20⟩
  d__law_trim := ⟨f21, _, fun_mk (st := s__law_trim) l21 c21 k21, PySem.W.mg_of X G a21⟩
  d__law_sum := ⟨f22, _, fun_mk (st := s__law_sum) l22 c22 k22, PySem.W.mg_of X G a22⟩
  d__law_times_number := ⟨f23, _, fun_mk (st := s__law_times_number) l23 c23 k23, PySem.W.mg_of X G a23⟩
  d__law_value := ⟨f24, _, fun_mk (st := s__law_value) l24 c24 k24, PySem.W.mg_of X G a24⟩
  d__law_picks := ⟨f25, _, fun_mk (st := s__law_picks) l25 c25 k25, PySem.W.mg_of X G a25⟩
  d__law_power := ⟨f26, _, fun_mk (st := s__law_power) l26 c26 k26, PySem.W.mg_of X G a26⟩
  d_law := ⟨f27, _, fun_mk (st := s_law) l27 c27 k27, PySem.W.mg_of X G a27⟩
  z_abs := PySem.W.mg_none_of X G z_abs
  z_bool := PySem.W.mg_none_of X G z_bool
  z_divmod := PySem.W.mg_none_of X G z_divmod
  z_enumerate := PySem.W.mg_none_of X G z_enumerate
  z_int := PySem.W.mg_none_of X G z_int
  z_isinstance := PySem.W.mg_none_of X G z_isinstance
  z_len := PySem.W.mg_none_of X G z_len
  z_list := PySem.W.mg_none_of X G z_list
  z_max := PySem.W.mg_none_of X G z_max
  z_range := PySem.W.mg_none_of X G z_range
  z_sum := PySem.W.mg_none_of X G z_sum
  z_zip := PySem.W.mg_none_of X G z_zip
  c_MOST_POWER := ⟨_, PySem.W.mg_of X G c_MOST_POWER⟩
  c_NOUGHT := ⟨_, PySem.W.mg_of X G c_NOUGHT, fun _ => .tup (xs := [.int 0, .int 1]) (.inr ⟨_, _, _, e_NOUGHT, rfl, rfl, (by show 2 ≤ sizeLine; decide), (.cons ⟨_, rfl⟩ (.cons ⟨_, rfl⟩ .nil))⟩) (.cons (.int 0) (.cons (.int 1) .nil))⟩
  c_ONE := ⟨_, PySem.W.mg_of X G c_ONE, fun _ => .tup (xs := [.int 1, .int 1]) (.inr ⟨_, _, _, e_ONE, rfl, rfl, (by show 2 ≤ sizeLine; decide), (.cons ⟨_, rfl⟩ (.cons ⟨_, rfl⟩ .nil))⟩) (.cons (.int 1) (.cons (.int 1) .nil))⟩
end LawX

namespace LawX
open PySem L2 Wk
theorem draws : Draws m__law_draw := by
  intro p q many P hm hm2
  by_cases h0 : 0 < p
  · refine ⟨p % many, p / many, q, ?_, Int.emod_nonneg _ (by omega), Int.emod_lt_of_pos _ hm, ⟨Int.ediv_nonneg P.p0 (by omega), P.q0, P.q1⟩⟩
    simp [m__law_draw, mkFn, g__law_draw, sSeq, sIf, gTest, gOp, gIxV, slotL, gC, dGt, dCmp, h0, atI, ixN, sAsg, gCb, Wk.gCons, Wk.gNil, gVar, dDivmod, hm, hm2, gtTup, gtCons, gtSetV, gtName, gtNil, WRt.data, WRt.slot, sRet, gMove]
  · have q0 := P.q0
    have q1 := P.q1
    have a1 : dMul (.int q) (.int 48271) = some (.val (.int (q * 48271))) := dMul64 (by omega) (by decide)
    generalize e1 : (q * 48271 + 20191) % 2147483587 = q2
    have b0 : 0 ≤ q2 := by omega
    have b1 : q2 < 2147483587 := by omega
    have a2 : dMul (.int q2) (.int q2) = some (.val (.int (q2 * q2))) := dMul64 (by omega) (by omega)
    refine ⟨q2 * q2 % 2147483549 / 19 % many, p, q2, ?_, Int.emod_nonneg _ (by omega), Int.emod_lt_of_pos _ hm, ⟨P.p0, by omega, by omega⟩⟩
    simp [m__law_draw, mkFn, g__law_draw, sSeq, sIf, gTest, gOp, gIxV, slotL, gC, dGt, dCmp, h0, atI, ixN, sAsg, gCb, Wk.gCons, Wk.gNil, gVar, hm, gtTup, gtCons, gtSetV, gtName, gtNil, WRt.data, WRt.slot, sRet, gMove, gF, gV, sNext, dInt1, dAdd, a1, dModP, dDivP, e1, a2]
theorem pots : Pots m__law_pot := by
  intro ns k h0 h1
  -- the cell
  have key : ∀ c : Int, 0 ≤ c → ∃ p q, (sRet (gLst (Wk.gCons (gF (gCb dMax2 (Wk.gCons (gC (.int 0)) (Wk.gCons (gF (gOp dSub (gVar 2) (gF (gOp dPow (gC (.int 10)) (gC (.int 18)))))) Wk.gNil)))) (Wk.gCons (gF (gOp dAdd (gF (gOp dMod (gF (gCb dInt1 (Wk.gCons (gF (gOp dAdd (gF (gOp dAdd (gF (gOp dMul (gF (gOp dMod (gF (gCb dInt1 (Wk.gCons (gVar 2) Wk.gNil))) (gC (.int 2147483549)))) (gC (.int 46057)))) (gF (gOp dMul (gC (.int 1081)) (gVar 1))))) (gC (.int 30119)))) Wk.gNil))) (gC (.int 2147483563)))) (gC (.int 1)))) Wk.gNil)))) ⟨[.val (scrD ns), .val (.int k), .val (.int c)], []⟩ = some (.ret (.own [.int p, .int q]), ⟨[.val (scrD ns), .val (.int k), .val (.int c)], []⟩) ∧ Pot p q := by
    intro c hc
    generalize e1 : c % 2147483549 = r
    have r0 : 0 ≤ r := by omega
    have r1 : r < 2147483549 := by omega
    have a1 : dMul (.int r) (.int 46057) = some (.val (.int (r * 46057))) := dMul64 (by omega) (by decide)
    have a2 : dMul (.int 1081) (.int k) = some (.val (.int (1081 * k))) := dMul64 (by decide) (by omega)
    have a3 : dPow (.int 10) (.int 18) = some (.val (.int 1000000000000000000)) := by rfl
    have sz : 2 ≤ sizeLine := by decide
    refine ⟨(if c - 1000000000000000000 > 0 then c - 1000000000000000000 else 0), (r * 46057 + 1081 * k + 30119) % 2147483563 + 1, ?_, ⟨by split <;> omega, by omega, by omega⟩⟩
    simp [sRet, gLst, Wk.gCons, Wk.gNil, gF, gCb, gC, gVar, gOp, dSub, a3, dMax2, dInt1, dModP, e1, a1, a2, dAdd, sz, WRt.data]
  by_cases hk : k < (ns.length : Int)
  · have hlt : k.toNat < ns.length := by omega
    obtain ⟨p, q, e, P⟩ := key (if ns[k.toNat] < 0 then -ns[k.toNat] else ns[k.toNat]) (by split <;> omega)
    refine ⟨p, q, ?_, P⟩
    have ix : dIx (scrD ns) (.int k) = some (.val (.int ns[k.toNat])) := by
      have e1 : k = (k.toNat : Int) := by omega
      simp [scrD, dIx, atI, ixN, h0, hk, hlt]
    have ln : dLen [scrD ns] = some (.val (.int ns.length)) := by simp [scrD, dLen]
    simp only [m__law_pot, mkFn, g__law_pot, sSeq, sAsg, gIf, gTest, gOp, gVar, gF, gCb, Wk.gCons, Wk.gNil]
    simp only [List.length_cons, List.length_nil, List.map_cons, List.map_nil, List.replicate, List.nil_append, List.cons_append, List.getElem?_cons_zero, List.getElem?_cons_succ, ite_true, Bool.false_eq_true, ite_false, WRt.data, ln, dLt, dCmp, hk, decide_true, ix, dAbs, gtName, WRt.slot, List.set_cons_zero, List.set_cons_succ]
    simp only [Nat.reduceAdd, Nat.reduceLT, ite_true] 
    simp only [e]
  · obtain ⟨p, q, e, P⟩ := key (7685 * k + 5471) (by omega)
    refine ⟨p, q, ?_, P⟩
    have a2 : dMul (.int 7685) (.int k) = some (.val (.int (7685 * k))) := dMul64 (by decide) (by omega)
    have ln : dLen [scrD ns] = some (.val (.int ns.length)) := by simp [scrD, dLen]
    simp only [m__law_pot, mkFn, g__law_pot, sSeq, sAsg, gIf, gTest, gOp, gVar, gF, gCb, Wk.gCons, Wk.gNil, gC]
    simp only [List.length_cons, List.length_nil, List.map_cons, List.map_nil, List.replicate, List.nil_append, List.cons_append, List.getElem?_cons_zero, List.getElem?_cons_succ, ite_true, Bool.false_eq_true, ite_false, WRt.data, ln, dLt, dCmp, hk, decide_false, a2, dAdd, gtName, WRt.slot, List.set_cons_zero, List.set_cons_succ]
    simp only [Nat.reduceAdd, Nat.reduceLT, ite_true] 
    simp only [e]
end LawX

namespace LawX
open PySem L2 Wk
def evs : List (List D) := [[.tuple [.int 0, .int 1], .tuple [.int 1, .int 1]], [.tuple [.int 0, .int 1], .tuple [.int (-1), .int 2], .tuple [.int 1, .int 2]], [.tuple [.int 0, .int 1], .tuple [.int 1, .int 6], .tuple [.int (-1), .int 2], .tuple [.int 1, .int 3]], [.tuple [.int 0, .int 1], .tuple [.int 0, .int 1], .tuple [.int 1, .int 4], .tuple [.int (-1), .int 2], .tuple [.int 1, .int 4]], [.tuple [.int 0, .int 1], .tuple [.int (-1), .int 30], .tuple [.int 0, .int 1], .tuple [.int 1, .int 3], .tuple [.int (-1), .int 2], .tuple [.int 1, .int 5]], [.tuple [.int 0, .int 1], .tuple [.int 0, .int 1], .tuple [.int (-1), .int 12], .tuple [.int 0, .int 1], .tuple [.int 5, .int 12], .tuple [.int (-1), .int 2], .tuple [.int 1, .int 6]], [.tuple [.int 0, .int 1], .tuple [.int 1, .int 42], .tuple [.int 0, .int 1], .tuple [.int (-1), .int 6], .tuple [.int 0, .int 1], .tuple [.int 1, .int 2], .tuple [.int (-1), .int 2], .tuple [.int 1, .int 7]], [.tuple [.int 0, .int 1], .tuple [.int 0, .int 1], .tuple [.int 1, .int 12], .tuple [.int 0, .int 1], .tuple [.int (-7), .int 24], .tuple [.int 0, .int 1], .tuple [.int 7, .int 12], .tuple [.int (-1), .int 2], .tuple [.int 1, .int 8]], [.tuple [.int 0, .int 1], .tuple [.int (-1), .int 30], .tuple [.int 0, .int 1], .tuple [.int 2, .int 9], .tuple [.int 0, .int 1], .tuple [.int (-7), .int 15], .tuple [.int 0, .int 1], .tuple [.int 2, .int 3], .tuple [.int (-1), .int 2], .tuple [.int 1, .int 9]]]
def evd : List D := evs.map PyData.list
def wholeD : D := .list [.tuple [.int 0, .int 1], .tuple [.int 0, .int 1], .tuple [.int 0, .int 1], .tuple [.int 0, .int 1], .tuple [.int 0, .int 1], .tuple [.int 0, .int 1], .tuple [.int 0, .int 1], .tuple [.int 0, .int 1], .tuple [.int 0, .int 1], .tuple [.int 1, .int 1]]
def drawG : WMs := (sAsg (gV (Wk.gTup (Wk.gCons (gF (gCallP m__law_draw 1 (Wk.gCons (gC (.int 9)) Wk.gNil))) (Wk.gCons (gF (gCallP m__law_draw 1 (Wk.gCons (gC (.int 40)) Wk.gNil))) Wk.gNil)))) (gtTup 2 (gtCons (gtName 8) (gtCons (gtName 9) gtNil))))
def restG : WMs := (sSeq (sAsg (gCb dSum (Wk.gCons (gF (gLc [4] (gRng1 (Wk.gCons (gVar 9) Wk.gNil)) (gtName 4) gYes (gF (gCall m__law_power (Wk.gCons (gVar 4) (Wk.gCons (gVar 8) Wk.gNil)))))) Wk.gNil)) (gtName 10))
  (sSeq (sAsg (gOp dSub (gC (.int 0)) (gF (gCb dSum (Wk.gCons (gF (gLc [4] (gRng2 (Wk.gCons (gC (.int 1)) (Wk.gCons (gF (gOp dAdd (gVar 9) (gC (.int 1)))) Wk.gNil))) (gtName 4) gYes (gF (gCall m__law_power (Wk.gCons (gF (gOp dSub (gC (.int 0)) (gVar 4))) (Wk.gCons (gVar 8) Wk.gNil)))))) Wk.gNil)))) (gtName 11))
  (sIf (gTest (gOp dNe (gF (gLst (Wk.gCons (gF (gCall m__law_value (Wk.gCons (gF (gOp dIx (gVar 2) (gVar 8))) (Wk.gCons (Wk.gTup (Wk.gCons (gVar 9) (Wk.gCons (gC (.int 1)) Wk.gNil))) Wk.gNil)))) (Wk.gCons (gF (gCall m__law_value (Wk.gCons (gF (gOp dIx (gVar 2) (gVar 8))) (Wk.gCons (Wk.gTup (Wk.gCons (gF (gOp dSub (gC (.int 0)) (gVar 9))) (Wk.gCons (gC (.int 1)) Wk.gNil))) Wk.gNil)))) Wk.gNil)))) (gF (gLst (Wk.gCons (Wk.gTup (Wk.gCons (gVar 10) (Wk.gCons (gC (.int 1)) Wk.gNil))) (Wk.gCons (Wk.gTup (Wk.gCons (gVar 11) (Wk.gCons (gC (.int 1)) Wk.gNil))) Wk.gNil)))))) (sRet (gV (gC (.bool false)))) sNext)))
theorem g7_eq : g_law_7 = sFor (gRng1 (Wk.gCons (gC (.int 4)) Wk.gNil)) (gtName 5) (sSeq drawG restG) := rfl
theorem c1 (scr : D) (p q : Int) : g_law_1 ⟨[.val scr, .own [.int p, .int q], .un, .un, .un, .un, .un, .un, .un, .un, .un, .un, .un], []⟩ = some (.nx, ⟨[.val scr, .own [.int p, .int q], .own evd, .un, .un, .un, .un, .un, .un, .un, .un, .un, .un], []⟩) := by kernel_rfl
theorem c2 (scr : D) (p q : Int) : g_law_2 ⟨[.val scr, .own [.int p, .int q], .own evd, .un, .un, .un, .un, .un, .un, .un, .un, .un, .un], []⟩ = some (.nx, ⟨[.val scr, .own [.int p, .int q], .val (.list evd), .un, .un, .un, .un, .un, .un, .un, .un, .un, .un], []⟩) := by kernel_rfl
theorem c3 (scr : D) (p q : Int) : gLcLO [12] (gtName 12) (gCb dListOf (Wk.gCons (gVar 12) Wk.gNil)) evd ⟨[.val scr, .own [.int p, .int q], .val (.list evd), .un, .un, .un, .un, .un, .un, .un, .un, .un, .un], []⟩ = some (evs, ⟨[.val scr, .own [.int p, .int q], .val (.list evd), .un, .un, .un, .un, .un, .un, .un, .un, .un, .un], []⟩) := by kernel_rfl
theorem c4 (scr : D) (p q : Int) : g_law_4 ⟨[.val scr, .own [.int p, .int q], .val (.list evd), .pin, .un, .un, .un, .un, .un, .un, .un, .un, .un], []⟩ = some (.nx, ⟨[.val scr, .own [.int p, .int q], .val (.list evd), .pin, .val (.int 8), .un, .un, .val wholeD, .val (.int 8), .un, .un, .un, .un], []⟩) := by kernel_rfl
theorem c5 (scr : D) (p q : Int) : g_law_5 ⟨[.val scr, .own [.int p, .int q], .val (.list evd), .pin, .val (.int 8), .un, .un, .val wholeD, .val (.int 8), .un, .un, .un, .un], []⟩ = some (.nx, ⟨[.val scr, .own [.int p, .int q], .val (.list evd), .pin, .un, .un, .un, .val wholeD, .val (.int 8), .un, .un, .un, .un], []⟩) := by kernel_rfl
theorem c6 (scr : D) (p q : Int) : g_law_6 ⟨[.val scr, .own [.int p, .int q], .val (.list evd), .pin, .un, .un, .un, .val wholeD, .val (.int 8), .un, .un, .un, .un], []⟩ = some (.nx, ⟨[.val scr, .own [.int p, .int q], .val (.list evd), .pin, .un, .un, .un, .val wholeD, .val (.int 8), .un, .un, .un, .un], []⟩) := by kernel_rfl
theorem h_0 (ns : List Int) (p q a b c e : Int) : smash 3 2 6 evs ⟨[.val (scrD ns), .own [.int p, .int q], .val (.list evd), .pin, .un, .val (.int 3), .val (.int 0), .val wholeD, .val (.int a), .val (.int b), .val (.int c), .val (.int e), .un], []⟩ = some ⟨[.un, .own [.int p, .int q], .un, .val (.list (evs.map PyData.list)), .un, .val (.int 3), .val (.int 0), .un, .val (.int a), .val (.int b), .val (.int c), .val (.int e), .un], []⟩ := by kernel_rfl
theorem t_0 (p q a b c e : Int) : g_law_10 ⟨[.un, .own [.int p, .int q], .un, .val (.list (evs.map PyData.list)), .un, .val (.int 3), .val (.int 0), .un, .val (.int a), .val (.int b), .val (.int c), .val (.int e), .un], []⟩ = some (.ret (.val (.bool true)), ⟨[.un, .own [.int p, .int q], .un, .val (.list (evs.map PyData.list)), .un, .val (.int 3), .val (.int 0), .un, .val (.int a), .val (.int b), .val (.int c), .val (.int e), .un], []⟩) := by kernel_rfl
theorem h_1 (ns : List Int) (p q a b c e : Int) : smash 3 2 6 evs ⟨[.val (scrD ns), .own [.int p, .int q], .val (.list evd), .pin, .un, .val (.int 3), .val (.int 1), .val wholeD, .val (.int a), .val (.int b), .val (.int c), .val (.int e), .un], []⟩ = some ⟨[.un, .own [.int p, .int q], .un, .val (.list (evs.map PyData.list)), .un, .val (.int 3), .val (.int 1), .un, .val (.int a), .val (.int b), .val (.int c), .val (.int e), .un], []⟩ := by kernel_rfl
theorem t_1 (p q a b c e : Int) : g_law_10 ⟨[.un, .own [.int p, .int q], .un, .val (.list (evs.map PyData.list)), .un, .val (.int 3), .val (.int 1), .un, .val (.int a), .val (.int b), .val (.int c), .val (.int e), .un], []⟩ = some (.ret (.val (.bool true)), ⟨[.un, .own [.int p, .int q], .un, .val (.list (evs.map PyData.list)), .un, .val (.int 3), .val (.int 1), .un, .val (.int a), .val (.int b), .val (.int c), .val (.int e), .un], []⟩) := by kernel_rfl
theorem h_2 (ns : List Int) (p q a b c e : Int) : smash 3 2 6 evs ⟨[.val (scrD ns), .own [.int p, .int q], .val (.list evd), .pin, .un, .val (.int 3), .val (.int 2), .val wholeD, .val (.int a), .val (.int b), .val (.int c), .val (.int e), .un], []⟩ = some ⟨[.un, .own [.int p, .int q], .un, .val (.list (evs.map PyData.list)), .un, .val (.int 3), .val (.int 2), .un, .val (.int a), .val (.int b), .val (.int c), .val (.int e), .un], []⟩ := by kernel_rfl
theorem t_2 (p q a b c e : Int) : g_law_10 ⟨[.un, .own [.int p, .int q], .un, .val (.list (evs.map PyData.list)), .un, .val (.int 3), .val (.int 2), .un, .val (.int a), .val (.int b), .val (.int c), .val (.int e), .un], []⟩ = some (.ret (.val (.bool true)), ⟨[.un, .own [.int p, .int q], .un, .val (.list (evs.map PyData.list)), .un, .val (.int 3), .val (.int 2), .un, .val (.int a), .val (.int b), .val (.int c), .val (.int e), .un], []⟩) := by kernel_rfl
theorem h_3 (ns : List Int) (p q a b c e : Int) : smash 3 2 6 evs ⟨[.val (scrD ns), .own [.int p, .int q], .val (.list evd), .pin, .un, .val (.int 3), .val (.int 3), .val wholeD, .val (.int a), .val (.int b), .val (.int c), .val (.int e), .un], []⟩ = some ⟨[.un, .own [.int p, .int q], .un, .val (.list (evs.map PyData.list)), .un, .val (.int 3), .val (.int 3), .un, .val (.int a), .val (.int b), .val (.int c), .val (.int e), .un], []⟩ := by kernel_rfl
theorem t_3 (p q a b c e : Int) : g_law_10 ⟨[.un, .own [.int p, .int q], .un, .val (.list (evs.map PyData.list)), .un, .val (.int 3), .val (.int 3), .un, .val (.int a), .val (.int b), .val (.int c), .val (.int e), .un], []⟩ = some (.ret (.val (.bool true)), ⟨[.un, .own [.int p, .int q], .un, .val (.list (evs.map PyData.list)), .un, .val (.int 3), .val (.int 3), .un, .val (.int a), .val (.int b), .val (.int c), .val (.int e), .un], []⟩) := by kernel_rfl
theorem h_4 (ns : List Int) (p q a b c e : Int) : smash 3 2 6 evs ⟨[.val (scrD ns), .own [.int p, .int q], .val (.list evd), .pin, .un, .val (.int 3), .val (.int 4), .val wholeD, .val (.int a), .val (.int b), .val (.int c), .val (.int e), .un], []⟩ = some ⟨[.un, .own [.int p, .int q], .un, .val (.list (evs.map PyData.list)), .un, .val (.int 3), .val (.int 4), .un, .val (.int a), .val (.int b), .val (.int c), .val (.int e), .un], []⟩ := by kernel_rfl
theorem t_4 (p q a b c e : Int) : g_law_10 ⟨[.un, .own [.int p, .int q], .un, .val (.list (evs.map PyData.list)), .un, .val (.int 3), .val (.int 4), .un, .val (.int a), .val (.int b), .val (.int c), .val (.int e), .un], []⟩ = some (.ret (.val (.bool true)), ⟨[.un, .own [.int p, .int q], .un, .val (.list (evs.map PyData.list)), .un, .val (.int 3), .val (.int 4), .un, .val (.int a), .val (.int b), .val (.int c), .val (.int e), .un], []⟩) := by kernel_rfl
theorem h_5 (ns : List Int) (p q a b c e : Int) : smash 3 2 6 evs ⟨[.val (scrD ns), .own [.int p, .int q], .val (.list evd), .pin, .un, .val (.int 3), .val (.int 5), .val wholeD, .val (.int a), .val (.int b), .val (.int c), .val (.int e), .un], []⟩ = some ⟨[.un, .own [.int p, .int q], .un, .val (.list (evs.map PyData.list)), .un, .val (.int 3), .val (.int 5), .un, .val (.int a), .val (.int b), .val (.int c), .val (.int e), .un], []⟩ := by kernel_rfl
theorem t_5 (p q a b c e : Int) : g_law_10 ⟨[.un, .own [.int p, .int q], .un, .val (.list (evs.map PyData.list)), .un, .val (.int 3), .val (.int 5), .un, .val (.int a), .val (.int b), .val (.int c), .val (.int e), .un], []⟩ = some (.ret (.val (.bool true)), ⟨[.un, .own [.int p, .int q], .un, .val (.list (evs.map PyData.list)), .un, .val (.int 3), .val (.int 5), .un, .val (.int a), .val (.int b), .val (.int c), .val (.int e), .un], []⟩) := by kernel_rfl
theorem h_6 (ns : List Int) (p q a b c e : Int) : smash 3 2 6 evs ⟨[.val (scrD ns), .own [.int p, .int q], .val (.list evd), .pin, .un, .val (.int 3), .val (.int 6), .val wholeD, .val (.int a), .val (.int b), .val (.int c), .val (.int e), .un], []⟩ = some ⟨[.un, .own [.int p, .int q], .un, .val (.list (evs.map PyData.list)), .un, .val (.int 3), .val (.int 6), .un, .val (.int a), .val (.int b), .val (.int c), .val (.int e), .un], []⟩ := by kernel_rfl
theorem t_6 (p q a b c e : Int) : g_law_10 ⟨[.un, .own [.int p, .int q], .un, .val (.list (evs.map PyData.list)), .un, .val (.int 3), .val (.int 6), .un, .val (.int a), .val (.int b), .val (.int c), .val (.int e), .un], []⟩ = some (.ret (.val (.bool true)), ⟨[.un, .own [.int p, .int q], .un, .val (.list (evs.map PyData.list)), .un, .val (.int 3), .val (.int 6), .un, .val (.int a), .val (.int b), .val (.int c), .val (.int e), .un], []⟩) := by kernel_rfl
theorem h_7 (ns : List Int) (p q a b c e : Int) : smash 3 2 6 evs ⟨[.val (scrD ns), .own [.int p, .int q], .val (.list evd), .pin, .un, .val (.int 3), .val (.int 7), .val wholeD, .val (.int a), .val (.int b), .val (.int c), .val (.int e), .un], []⟩ = some ⟨[.un, .own [.int p, .int q], .un, .val (.list (evs.map PyData.list)), .un, .val (.int 3), .val (.int 7), .un, .val (.int a), .val (.int b), .val (.int c), .val (.int e), .un], []⟩ := by kernel_rfl
theorem t_7 (p q a b c e : Int) : g_law_10 ⟨[.un, .own [.int p, .int q], .un, .val (.list (evs.map PyData.list)), .un, .val (.int 3), .val (.int 7), .un, .val (.int a), .val (.int b), .val (.int c), .val (.int e), .un], []⟩ = some (.ret (.val (.bool true)), ⟨[.un, .own [.int p, .int q], .un, .val (.list (evs.map PyData.list)), .un, .val (.int 3), .val (.int 7), .un, .val (.int a), .val (.int b), .val (.int c), .val (.int e), .un], []⟩) := by kernel_rfl
theorem h_8 (ns : List Int) (p q a b c e : Int) : smash 3 2 6 evs ⟨[.val (scrD ns), .own [.int p, .int q], .val (.list evd), .pin, .un, .val (.int 3), .val (.int 8), .val wholeD, .val (.int a), .val (.int b), .val (.int c), .val (.int e), .un], []⟩ = some ⟨[.un, .own [.int p, .int q], .un, .val (.list (evs.map PyData.list)), .un, .val (.int 3), .val (.int 8), .un, .val (.int a), .val (.int b), .val (.int c), .val (.int e), .un], []⟩ := by kernel_rfl
theorem t_8 (p q a b c e : Int) : g_law_10 ⟨[.un, .own [.int p, .int q], .un, .val (.list (evs.map PyData.list)), .un, .val (.int 3), .val (.int 8), .un, .val (.int a), .val (.int b), .val (.int c), .val (.int e), .un], []⟩ = some (.ret (.val (.bool true)), ⟨[.un, .own [.int p, .int q], .un, .val (.list (evs.map PyData.list)), .un, .val (.int 3), .val (.int 8), .un, .val (.int a), .val (.int b), .val (.int c), .val (.int e), .un], []⟩) := by kernel_rfl
end LawX

namespace LawX
open PySem L2 Wk
theorem b_0_0 (scr : D) (p q : Int) (a5 a7 a10 a11 : WSl) : restG ⟨[.val scr, .own [.int p, .int q], .val (.list evd), .pin, .un, a5, .un, a7, .val (.int 0), .val (.int 0), a10, a11, .un], []⟩ = some (.nx, ⟨[.val scr, .own [.int p, .int q], .val (.list evd), .pin, .un, a5, .un, a7, .val (.int 0), .val (.int 0), .val (.int 0), .val (.int 0), .un], []⟩) := by kernel_rfl
theorem b_0_1 (scr : D) (p q : Int) (a5 a7 a10 a11 : WSl) : restG ⟨[.val scr, .own [.int p, .int q], .val (.list evd), .pin, .un, a5, .un, a7, .val (.int 0), .val (.int 1), a10, a11, .un], []⟩ = some (.nx, ⟨[.val scr, .own [.int p, .int q], .val (.list evd), .pin, .un, a5, .un, a7, .val (.int 0), .val (.int 1), .val (.int 1), .val (.int (-1)), .un], []⟩) := by kernel_rfl
theorem b_0_2 (scr : D) (p q : Int) (a5 a7 a10 a11 : WSl) : restG ⟨[.val scr, .own [.int p, .int q], .val (.list evd), .pin, .un, a5, .un, a7, .val (.int 0), .val (.int 2), a10, a11, .un], []⟩ = some (.nx, ⟨[.val scr, .own [.int p, .int q], .val (.list evd), .pin, .un, a5, .un, a7, .val (.int 0), .val (.int 2), .val (.int 2), .val (.int (-2)), .un], []⟩) := by kernel_rfl
theorem b_0_3 (scr : D) (p q : Int) (a5 a7 a10 a11 : WSl) : restG ⟨[.val scr, .own [.int p, .int q], .val (.list evd), .pin, .un, a5, .un, a7, .val (.int 0), .val (.int 3), a10, a11, .un], []⟩ = some (.nx, ⟨[.val scr, .own [.int p, .int q], .val (.list evd), .pin, .un, a5, .un, a7, .val (.int 0), .val (.int 3), .val (.int 3), .val (.int (-3)), .un], []⟩) := by kernel_rfl
theorem b_0_4 (scr : D) (p q : Int) (a5 a7 a10 a11 : WSl) : restG ⟨[.val scr, .own [.int p, .int q], .val (.list evd), .pin, .un, a5, .un, a7, .val (.int 0), .val (.int 4), a10, a11, .un], []⟩ = some (.nx, ⟨[.val scr, .own [.int p, .int q], .val (.list evd), .pin, .un, a5, .un, a7, .val (.int 0), .val (.int 4), .val (.int 4), .val (.int (-4)), .un], []⟩) := by kernel_rfl
theorem b_0_5 (scr : D) (p q : Int) (a5 a7 a10 a11 : WSl) : restG ⟨[.val scr, .own [.int p, .int q], .val (.list evd), .pin, .un, a5, .un, a7, .val (.int 0), .val (.int 5), a10, a11, .un], []⟩ = some (.nx, ⟨[.val scr, .own [.int p, .int q], .val (.list evd), .pin, .un, a5, .un, a7, .val (.int 0), .val (.int 5), .val (.int 5), .val (.int (-5)), .un], []⟩) := by kernel_rfl
theorem b_0_6 (scr : D) (p q : Int) (a5 a7 a10 a11 : WSl) : restG ⟨[.val scr, .own [.int p, .int q], .val (.list evd), .pin, .un, a5, .un, a7, .val (.int 0), .val (.int 6), a10, a11, .un], []⟩ = some (.nx, ⟨[.val scr, .own [.int p, .int q], .val (.list evd), .pin, .un, a5, .un, a7, .val (.int 0), .val (.int 6), .val (.int 6), .val (.int (-6)), .un], []⟩) := by kernel_rfl
theorem b_0_7 (scr : D) (p q : Int) (a5 a7 a10 a11 : WSl) : restG ⟨[.val scr, .own [.int p, .int q], .val (.list evd), .pin, .un, a5, .un, a7, .val (.int 0), .val (.int 7), a10, a11, .un], []⟩ = some (.nx, ⟨[.val scr, .own [.int p, .int q], .val (.list evd), .pin, .un, a5, .un, a7, .val (.int 0), .val (.int 7), .val (.int 7), .val (.int (-7)), .un], []⟩) := by kernel_rfl
theorem b_0_8 (scr : D) (p q : Int) (a5 a7 a10 a11 : WSl) : restG ⟨[.val scr, .own [.int p, .int q], .val (.list evd), .pin, .un, a5, .un, a7, .val (.int 0), .val (.int 8), a10, a11, .un], []⟩ = some (.nx, ⟨[.val scr, .own [.int p, .int q], .val (.list evd), .pin, .un, a5, .un, a7, .val (.int 0), .val (.int 8), .val (.int 8), .val (.int (-8)), .un], []⟩) := by kernel_rfl
theorem b_0_9 (scr : D) (p q : Int) (a5 a7 a10 a11 : WSl) : restG ⟨[.val scr, .own [.int p, .int q], .val (.list evd), .pin, .un, a5, .un, a7, .val (.int 0), .val (.int 9), a10, a11, .un], []⟩ = some (.nx, ⟨[.val scr, .own [.int p, .int q], .val (.list evd), .pin, .un, a5, .un, a7, .val (.int 0), .val (.int 9), .val (.int 9), .val (.int (-9)), .un], []⟩) := by kernel_rfl
theorem b_0_10 (scr : D) (p q : Int) (a5 a7 a10 a11 : WSl) : restG ⟨[.val scr, .own [.int p, .int q], .val (.list evd), .pin, .un, a5, .un, a7, .val (.int 0), .val (.int 10), a10, a11, .un], []⟩ = some (.nx, ⟨[.val scr, .own [.int p, .int q], .val (.list evd), .pin, .un, a5, .un, a7, .val (.int 0), .val (.int 10), .val (.int 10), .val (.int (-10)), .un], []⟩) := by kernel_rfl
theorem b_0_11 (scr : D) (p q : Int) (a5 a7 a10 a11 : WSl) : restG ⟨[.val scr, .own [.int p, .int q], .val (.list evd), .pin, .un, a5, .un, a7, .val (.int 0), .val (.int 11), a10, a11, .un], []⟩ = some (.nx, ⟨[.val scr, .own [.int p, .int q], .val (.list evd), .pin, .un, a5, .un, a7, .val (.int 0), .val (.int 11), .val (.int 11), .val (.int (-11)), .un], []⟩) := by kernel_rfl
theorem b_0_12 (scr : D) (p q : Int) (a5 a7 a10 a11 : WSl) : restG ⟨[.val scr, .own [.int p, .int q], .val (.list evd), .pin, .un, a5, .un, a7, .val (.int 0), .val (.int 12), a10, a11, .un], []⟩ = some (.nx, ⟨[.val scr, .own [.int p, .int q], .val (.list evd), .pin, .un, a5, .un, a7, .val (.int 0), .val (.int 12), .val (.int 12), .val (.int (-12)), .un], []⟩) := by kernel_rfl
theorem b_0_13 (scr : D) (p q : Int) (a5 a7 a10 a11 : WSl) : restG ⟨[.val scr, .own [.int p, .int q], .val (.list evd), .pin, .un, a5, .un, a7, .val (.int 0), .val (.int 13), a10, a11, .un], []⟩ = some (.nx, ⟨[.val scr, .own [.int p, .int q], .val (.list evd), .pin, .un, a5, .un, a7, .val (.int 0), .val (.int 13), .val (.int 13), .val (.int (-13)), .un], []⟩) := by kernel_rfl
theorem b_0_14 (scr : D) (p q : Int) (a5 a7 a10 a11 : WSl) : restG ⟨[.val scr, .own [.int p, .int q], .val (.list evd), .pin, .un, a5, .un, a7, .val (.int 0), .val (.int 14), a10, a11, .un], []⟩ = some (.nx, ⟨[.val scr, .own [.int p, .int q], .val (.list evd), .pin, .un, a5, .un, a7, .val (.int 0), .val (.int 14), .val (.int 14), .val (.int (-14)), .un], []⟩) := by kernel_rfl
theorem b_0_15 (scr : D) (p q : Int) (a5 a7 a10 a11 : WSl) : restG ⟨[.val scr, .own [.int p, .int q], .val (.list evd), .pin, .un, a5, .un, a7, .val (.int 0), .val (.int 15), a10, a11, .un], []⟩ = some (.nx, ⟨[.val scr, .own [.int p, .int q], .val (.list evd), .pin, .un, a5, .un, a7, .val (.int 0), .val (.int 15), .val (.int 15), .val (.int (-15)), .un], []⟩) := by kernel_rfl
theorem b_0_16 (scr : D) (p q : Int) (a5 a7 a10 a11 : WSl) : restG ⟨[.val scr, .own [.int p, .int q], .val (.list evd), .pin, .un, a5, .un, a7, .val (.int 0), .val (.int 16), a10, a11, .un], []⟩ = some (.nx, ⟨[.val scr, .own [.int p, .int q], .val (.list evd), .pin, .un, a5, .un, a7, .val (.int 0), .val (.int 16), .val (.int 16), .val (.int (-16)), .un], []⟩) := by kernel_rfl
theorem b_0_17 (scr : D) (p q : Int) (a5 a7 a10 a11 : WSl) : restG ⟨[.val scr, .own [.int p, .int q], .val (.list evd), .pin, .un, a5, .un, a7, .val (.int 0), .val (.int 17), a10, a11, .un], []⟩ = some (.nx, ⟨[.val scr, .own [.int p, .int q], .val (.list evd), .pin, .un, a5, .un, a7, .val (.int 0), .val (.int 17), .val (.int 17), .val (.int (-17)), .un], []⟩) := by kernel_rfl
theorem b_0_18 (scr : D) (p q : Int) (a5 a7 a10 a11 : WSl) : restG ⟨[.val scr, .own [.int p, .int q], .val (.list evd), .pin, .un, a5, .un, a7, .val (.int 0), .val (.int 18), a10, a11, .un], []⟩ = some (.nx, ⟨[.val scr, .own [.int p, .int q], .val (.list evd), .pin, .un, a5, .un, a7, .val (.int 0), .val (.int 18), .val (.int 18), .val (.int (-18)), .un], []⟩) := by kernel_rfl
theorem b_0_19 (scr : D) (p q : Int) (a5 a7 a10 a11 : WSl) : restG ⟨[.val scr, .own [.int p, .int q], .val (.list evd), .pin, .un, a5, .un, a7, .val (.int 0), .val (.int 19), a10, a11, .un], []⟩ = some (.nx, ⟨[.val scr, .own [.int p, .int q], .val (.list evd), .pin, .un, a5, .un, a7, .val (.int 0), .val (.int 19), .val (.int 19), .val (.int (-19)), .un], []⟩) := by kernel_rfl
theorem b_0_20 (scr : D) (p q : Int) (a5 a7 a10 a11 : WSl) : restG ⟨[.val scr, .own [.int p, .int q], .val (.list evd), .pin, .un, a5, .un, a7, .val (.int 0), .val (.int 20), a10, a11, .un], []⟩ = some (.nx, ⟨[.val scr, .own [.int p, .int q], .val (.list evd), .pin, .un, a5, .un, a7, .val (.int 0), .val (.int 20), .val (.int 20), .val (.int (-20)), .un], []⟩) := by kernel_rfl
theorem b_0_21 (scr : D) (p q : Int) (a5 a7 a10 a11 : WSl) : restG ⟨[.val scr, .own [.int p, .int q], .val (.list evd), .pin, .un, a5, .un, a7, .val (.int 0), .val (.int 21), a10, a11, .un], []⟩ = some (.nx, ⟨[.val scr, .own [.int p, .int q], .val (.list evd), .pin, .un, a5, .un, a7, .val (.int 0), .val (.int 21), .val (.int 21), .val (.int (-21)), .un], []⟩) := by kernel_rfl
theorem b_0_22 (scr : D) (p q : Int) (a5 a7 a10 a11 : WSl) : restG ⟨[.val scr, .own [.int p, .int q], .val (.list evd), .pin, .un, a5, .un, a7, .val (.int 0), .val (.int 22), a10, a11, .un], []⟩ = some (.nx, ⟨[.val scr, .own [.int p, .int q], .val (.list evd), .pin, .un, a5, .un, a7, .val (.int 0), .val (.int 22), .val (.int 22), .val (.int (-22)), .un], []⟩) := by kernel_rfl
theorem b_0_23 (scr : D) (p q : Int) (a5 a7 a10 a11 : WSl) : restG ⟨[.val scr, .own [.int p, .int q], .val (.list evd), .pin, .un, a5, .un, a7, .val (.int 0), .val (.int 23), a10, a11, .un], []⟩ = some (.nx, ⟨[.val scr, .own [.int p, .int q], .val (.list evd), .pin, .un, a5, .un, a7, .val (.int 0), .val (.int 23), .val (.int 23), .val (.int (-23)), .un], []⟩) := by kernel_rfl
theorem b_0_24 (scr : D) (p q : Int) (a5 a7 a10 a11 : WSl) : restG ⟨[.val scr, .own [.int p, .int q], .val (.list evd), .pin, .un, a5, .un, a7, .val (.int 0), .val (.int 24), a10, a11, .un], []⟩ = some (.nx, ⟨[.val scr, .own [.int p, .int q], .val (.list evd), .pin, .un, a5, .un, a7, .val (.int 0), .val (.int 24), .val (.int 24), .val (.int (-24)), .un], []⟩) := by kernel_rfl
theorem b_0_25 (scr : D) (p q : Int) (a5 a7 a10 a11 : WSl) : restG ⟨[.val scr, .own [.int p, .int q], .val (.list evd), .pin, .un, a5, .un, a7, .val (.int 0), .val (.int 25), a10, a11, .un], []⟩ = some (.nx, ⟨[.val scr, .own [.int p, .int q], .val (.list evd), .pin, .un, a5, .un, a7, .val (.int 0), .val (.int 25), .val (.int 25), .val (.int (-25)), .un], []⟩) := by kernel_rfl
theorem b_0_26 (scr : D) (p q : Int) (a5 a7 a10 a11 : WSl) : restG ⟨[.val scr, .own [.int p, .int q], .val (.list evd), .pin, .un, a5, .un, a7, .val (.int 0), .val (.int 26), a10, a11, .un], []⟩ = some (.nx, ⟨[.val scr, .own [.int p, .int q], .val (.list evd), .pin, .un, a5, .un, a7, .val (.int 0), .val (.int 26), .val (.int 26), .val (.int (-26)), .un], []⟩) := by kernel_rfl
theorem b_0_27 (scr : D) (p q : Int) (a5 a7 a10 a11 : WSl) : restG ⟨[.val scr, .own [.int p, .int q], .val (.list evd), .pin, .un, a5, .un, a7, .val (.int 0), .val (.int 27), a10, a11, .un], []⟩ = some (.nx, ⟨[.val scr, .own [.int p, .int q], .val (.list evd), .pin, .un, a5, .un, a7, .val (.int 0), .val (.int 27), .val (.int 27), .val (.int (-27)), .un], []⟩) := by kernel_rfl
theorem b_0_28 (scr : D) (p q : Int) (a5 a7 a10 a11 : WSl) : restG ⟨[.val scr, .own [.int p, .int q], .val (.list evd), .pin, .un, a5, .un, a7, .val (.int 0), .val (.int 28), a10, a11, .un], []⟩ = some (.nx, ⟨[.val scr, .own [.int p, .int q], .val (.list evd), .pin, .un, a5, .un, a7, .val (.int 0), .val (.int 28), .val (.int 28), .val (.int (-28)), .un], []⟩) := by kernel_rfl
theorem b_0_29 (scr : D) (p q : Int) (a5 a7 a10 a11 : WSl) : restG ⟨[.val scr, .own [.int p, .int q], .val (.list evd), .pin, .un, a5, .un, a7, .val (.int 0), .val (.int 29), a10, a11, .un], []⟩ = some (.nx, ⟨[.val scr, .own [.int p, .int q], .val (.list evd), .pin, .un, a5, .un, a7, .val (.int 0), .val (.int 29), .val (.int 29), .val (.int (-29)), .un], []⟩) := by kernel_rfl
theorem b_0_30 (scr : D) (p q : Int) (a5 a7 a10 a11 : WSl) : restG ⟨[.val scr, .own [.int p, .int q], .val (.list evd), .pin, .un, a5, .un, a7, .val (.int 0), .val (.int 30), a10, a11, .un], []⟩ = some (.nx, ⟨[.val scr, .own [.int p, .int q], .val (.list evd), .pin, .un, a5, .un, a7, .val (.int 0), .val (.int 30), .val (.int 30), .val (.int (-30)), .un], []⟩) := by kernel_rfl
theorem b_0_31 (scr : D) (p q : Int) (a5 a7 a10 a11 : WSl) : restG ⟨[.val scr, .own [.int p, .int q], .val (.list evd), .pin, .un, a5, .un, a7, .val (.int 0), .val (.int 31), a10, a11, .un], []⟩ = some (.nx, ⟨[.val scr, .own [.int p, .int q], .val (.list evd), .pin, .un, a5, .un, a7, .val (.int 0), .val (.int 31), .val (.int 31), .val (.int (-31)), .un], []⟩) := by kernel_rfl
theorem b_0_32 (scr : D) (p q : Int) (a5 a7 a10 a11 : WSl) : restG ⟨[.val scr, .own [.int p, .int q], .val (.list evd), .pin, .un, a5, .un, a7, .val (.int 0), .val (.int 32), a10, a11, .un], []⟩ = some (.nx, ⟨[.val scr, .own [.int p, .int q], .val (.list evd), .pin, .un, a5, .un, a7, .val (.int 0), .val (.int 32), .val (.int 32), .val (.int (-32)), .un], []⟩) := by kernel_rfl
theorem b_0_33 (scr : D) (p q : Int) (a5 a7 a10 a11 : WSl) : restG ⟨[.val scr, .own [.int p, .int q], .val (.list evd), .pin, .un, a5, .un, a7, .val (.int 0), .val (.int 33), a10, a11, .un], []⟩ = some (.nx, ⟨[.val scr, .own [.int p, .int q], .val (.list evd), .pin, .un, a5, .un, a7, .val (.int 0), .val (.int 33), .val (.int 33), .val (.int (-33)), .un], []⟩) := by kernel_rfl
theorem b_0_34 (scr : D) (p q : Int) (a5 a7 a10 a11 : WSl) : restG ⟨[.val scr, .own [.int p, .int q], .val (.list evd), .pin, .un, a5, .un, a7, .val (.int 0), .val (.int 34), a10, a11, .un], []⟩ = some (.nx, ⟨[.val scr, .own [.int p, .int q], .val (.list evd), .pin, .un, a5, .un, a7, .val (.int 0), .val (.int 34), .val (.int 34), .val (.int (-34)), .un], []⟩) := by kernel_rfl
theorem b_0_35 (scr : D) (p q : Int) (a5 a7 a10 a11 : WSl) : restG ⟨[.val scr, .own [.int p, .int q], .val (.list evd), .pin, .un, a5, .un, a7, .val (.int 0), .val (.int 35), a10, a11, .un], []⟩ = some (.nx, ⟨[.val scr, .own [.int p, .int q], .val (.list evd), .pin, .un, a5, .un, a7, .val (.int 0), .val (.int 35), .val (.int 35), .val (.int (-35)), .un], []⟩) := by kernel_rfl
theorem b_0_36 (scr : D) (p q : Int) (a5 a7 a10 a11 : WSl) : restG ⟨[.val scr, .own [.int p, .int q], .val (.list evd), .pin, .un, a5, .un, a7, .val (.int 0), .val (.int 36), a10, a11, .un], []⟩ = some (.nx, ⟨[.val scr, .own [.int p, .int q], .val (.list evd), .pin, .un, a5, .un, a7, .val (.int 0), .val (.int 36), .val (.int 36), .val (.int (-36)), .un], []⟩) := by kernel_rfl
theorem b_0_37 (scr : D) (p q : Int) (a5 a7 a10 a11 : WSl) : restG ⟨[.val scr, .own [.int p, .int q], .val (.list evd), .pin, .un, a5, .un, a7, .val (.int 0), .val (.int 37), a10, a11, .un], []⟩ = some (.nx, ⟨[.val scr, .own [.int p, .int q], .val (.list evd), .pin, .un, a5, .un, a7, .val (.int 0), .val (.int 37), .val (.int 37), .val (.int (-37)), .un], []⟩) := by kernel_rfl
theorem b_0_38 (scr : D) (p q : Int) (a5 a7 a10 a11 : WSl) : restG ⟨[.val scr, .own [.int p, .int q], .val (.list evd), .pin, .un, a5, .un, a7, .val (.int 0), .val (.int 38), a10, a11, .un], []⟩ = some (.nx, ⟨[.val scr, .own [.int p, .int q], .val (.list evd), .pin, .un, a5, .un, a7, .val (.int 0), .val (.int 38), .val (.int 38), .val (.int (-38)), .un], []⟩) := by kernel_rfl
theorem b_0_39 (scr : D) (p q : Int) (a5 a7 a10 a11 : WSl) : restG ⟨[.val scr, .own [.int p, .int q], .val (.list evd), .pin, .un, a5, .un, a7, .val (.int 0), .val (.int 39), a10, a11, .un], []⟩ = some (.nx, ⟨[.val scr, .own [.int p, .int q], .val (.list evd), .pin, .un, a5, .un, a7, .val (.int 0), .val (.int 39), .val (.int 39), .val (.int (-39)), .un], []⟩) := by kernel_rfl
theorem b_1_0 (scr : D) (p q : Int) (a5 a7 a10 a11 : WSl) : restG ⟨[.val scr, .own [.int p, .int q], .val (.list evd), .pin, .un, a5, .un, a7, .val (.int 1), .val (.int 0), a10, a11, .un], []⟩ = some (.nx, ⟨[.val scr, .own [.int p, .int q], .val (.list evd), .pin, .un, a5, .un, a7, .val (.int 1), .val (.int 0), .val (.int 0), .val (.int 0), .un], []⟩) := by kernel_rfl
theorem b_1_1 (scr : D) (p q : Int) (a5 a7 a10 a11 : WSl) : restG ⟨[.val scr, .own [.int p, .int q], .val (.list evd), .pin, .un, a5, .un, a7, .val (.int 1), .val (.int 1), a10, a11, .un], []⟩ = some (.nx, ⟨[.val scr, .own [.int p, .int q], .val (.list evd), .pin, .un, a5, .un, a7, .val (.int 1), .val (.int 1), .val (.int 0), .val (.int 1), .un], []⟩) := by kernel_rfl
theorem b_1_2 (scr : D) (p q : Int) (a5 a7 a10 a11 : WSl) : restG ⟨[.val scr, .own [.int p, .int q], .val (.list evd), .pin, .un, a5, .un, a7, .val (.int 1), .val (.int 2), a10, a11, .un], []⟩ = some (.nx, ⟨[.val scr, .own [.int p, .int q], .val (.list evd), .pin, .un, a5, .un, a7, .val (.int 1), .val (.int 2), .val (.int 1), .val (.int 3), .un], []⟩) := by kernel_rfl
theorem b_1_3 (scr : D) (p q : Int) (a5 a7 a10 a11 : WSl) : restG ⟨[.val scr, .own [.int p, .int q], .val (.list evd), .pin, .un, a5, .un, a7, .val (.int 1), .val (.int 3), a10, a11, .un], []⟩ = some (.nx, ⟨[.val scr, .own [.int p, .int q], .val (.list evd), .pin, .un, a5, .un, a7, .val (.int 1), .val (.int 3), .val (.int 3), .val (.int 6), .un], []⟩) := by kernel_rfl
theorem b_1_4 (scr : D) (p q : Int) (a5 a7 a10 a11 : WSl) : restG ⟨[.val scr, .own [.int p, .int q], .val (.list evd), .pin, .un, a5, .un, a7, .val (.int 1), .val (.int 4), a10, a11, .un], []⟩ = some (.nx, ⟨[.val scr, .own [.int p, .int q], .val (.list evd), .pin, .un, a5, .un, a7, .val (.int 1), .val (.int 4), .val (.int 6), .val (.int 10), .un], []⟩) := by kernel_rfl
theorem b_1_5 (scr : D) (p q : Int) (a5 a7 a10 a11 : WSl) : restG ⟨[.val scr, .own [.int p, .int q], .val (.list evd), .pin, .un, a5, .un, a7, .val (.int 1), .val (.int 5), a10, a11, .un], []⟩ = some (.nx, ⟨[.val scr, .own [.int p, .int q], .val (.list evd), .pin, .un, a5, .un, a7, .val (.int 1), .val (.int 5), .val (.int 10), .val (.int 15), .un], []⟩) := by kernel_rfl
theorem b_1_6 (scr : D) (p q : Int) (a5 a7 a10 a11 : WSl) : restG ⟨[.val scr, .own [.int p, .int q], .val (.list evd), .pin, .un, a5, .un, a7, .val (.int 1), .val (.int 6), a10, a11, .un], []⟩ = some (.nx, ⟨[.val scr, .own [.int p, .int q], .val (.list evd), .pin, .un, a5, .un, a7, .val (.int 1), .val (.int 6), .val (.int 15), .val (.int 21), .un], []⟩) := by kernel_rfl
theorem b_1_7 (scr : D) (p q : Int) (a5 a7 a10 a11 : WSl) : restG ⟨[.val scr, .own [.int p, .int q], .val (.list evd), .pin, .un, a5, .un, a7, .val (.int 1), .val (.int 7), a10, a11, .un], []⟩ = some (.nx, ⟨[.val scr, .own [.int p, .int q], .val (.list evd), .pin, .un, a5, .un, a7, .val (.int 1), .val (.int 7), .val (.int 21), .val (.int 28), .un], []⟩) := by kernel_rfl
theorem b_1_8 (scr : D) (p q : Int) (a5 a7 a10 a11 : WSl) : restG ⟨[.val scr, .own [.int p, .int q], .val (.list evd), .pin, .un, a5, .un, a7, .val (.int 1), .val (.int 8), a10, a11, .un], []⟩ = some (.nx, ⟨[.val scr, .own [.int p, .int q], .val (.list evd), .pin, .un, a5, .un, a7, .val (.int 1), .val (.int 8), .val (.int 28), .val (.int 36), .un], []⟩) := by kernel_rfl
theorem b_1_9 (scr : D) (p q : Int) (a5 a7 a10 a11 : WSl) : restG ⟨[.val scr, .own [.int p, .int q], .val (.list evd), .pin, .un, a5, .un, a7, .val (.int 1), .val (.int 9), a10, a11, .un], []⟩ = some (.nx, ⟨[.val scr, .own [.int p, .int q], .val (.list evd), .pin, .un, a5, .un, a7, .val (.int 1), .val (.int 9), .val (.int 36), .val (.int 45), .un], []⟩) := by kernel_rfl
theorem b_1_10 (scr : D) (p q : Int) (a5 a7 a10 a11 : WSl) : restG ⟨[.val scr, .own [.int p, .int q], .val (.list evd), .pin, .un, a5, .un, a7, .val (.int 1), .val (.int 10), a10, a11, .un], []⟩ = some (.nx, ⟨[.val scr, .own [.int p, .int q], .val (.list evd), .pin, .un, a5, .un, a7, .val (.int 1), .val (.int 10), .val (.int 45), .val (.int 55), .un], []⟩) := by kernel_rfl
theorem b_1_11 (scr : D) (p q : Int) (a5 a7 a10 a11 : WSl) : restG ⟨[.val scr, .own [.int p, .int q], .val (.list evd), .pin, .un, a5, .un, a7, .val (.int 1), .val (.int 11), a10, a11, .un], []⟩ = some (.nx, ⟨[.val scr, .own [.int p, .int q], .val (.list evd), .pin, .un, a5, .un, a7, .val (.int 1), .val (.int 11), .val (.int 55), .val (.int 66), .un], []⟩) := by kernel_rfl
theorem b_1_12 (scr : D) (p q : Int) (a5 a7 a10 a11 : WSl) : restG ⟨[.val scr, .own [.int p, .int q], .val (.list evd), .pin, .un, a5, .un, a7, .val (.int 1), .val (.int 12), a10, a11, .un], []⟩ = some (.nx, ⟨[.val scr, .own [.int p, .int q], .val (.list evd), .pin, .un, a5, .un, a7, .val (.int 1), .val (.int 12), .val (.int 66), .val (.int 78), .un], []⟩) := by kernel_rfl
theorem b_1_13 (scr : D) (p q : Int) (a5 a7 a10 a11 : WSl) : restG ⟨[.val scr, .own [.int p, .int q], .val (.list evd), .pin, .un, a5, .un, a7, .val (.int 1), .val (.int 13), a10, a11, .un], []⟩ = some (.nx, ⟨[.val scr, .own [.int p, .int q], .val (.list evd), .pin, .un, a5, .un, a7, .val (.int 1), .val (.int 13), .val (.int 78), .val (.int 91), .un], []⟩) := by kernel_rfl
theorem b_1_14 (scr : D) (p q : Int) (a5 a7 a10 a11 : WSl) : restG ⟨[.val scr, .own [.int p, .int q], .val (.list evd), .pin, .un, a5, .un, a7, .val (.int 1), .val (.int 14), a10, a11, .un], []⟩ = some (.nx, ⟨[.val scr, .own [.int p, .int q], .val (.list evd), .pin, .un, a5, .un, a7, .val (.int 1), .val (.int 14), .val (.int 91), .val (.int 105), .un], []⟩) := by kernel_rfl
theorem b_1_15 (scr : D) (p q : Int) (a5 a7 a10 a11 : WSl) : restG ⟨[.val scr, .own [.int p, .int q], .val (.list evd), .pin, .un, a5, .un, a7, .val (.int 1), .val (.int 15), a10, a11, .un], []⟩ = some (.nx, ⟨[.val scr, .own [.int p, .int q], .val (.list evd), .pin, .un, a5, .un, a7, .val (.int 1), .val (.int 15), .val (.int 105), .val (.int 120), .un], []⟩) := by kernel_rfl
theorem b_1_16 (scr : D) (p q : Int) (a5 a7 a10 a11 : WSl) : restG ⟨[.val scr, .own [.int p, .int q], .val (.list evd), .pin, .un, a5, .un, a7, .val (.int 1), .val (.int 16), a10, a11, .un], []⟩ = some (.nx, ⟨[.val scr, .own [.int p, .int q], .val (.list evd), .pin, .un, a5, .un, a7, .val (.int 1), .val (.int 16), .val (.int 120), .val (.int 136), .un], []⟩) := by kernel_rfl
theorem b_1_17 (scr : D) (p q : Int) (a5 a7 a10 a11 : WSl) : restG ⟨[.val scr, .own [.int p, .int q], .val (.list evd), .pin, .un, a5, .un, a7, .val (.int 1), .val (.int 17), a10, a11, .un], []⟩ = some (.nx, ⟨[.val scr, .own [.int p, .int q], .val (.list evd), .pin, .un, a5, .un, a7, .val (.int 1), .val (.int 17), .val (.int 136), .val (.int 153), .un], []⟩) := by kernel_rfl
theorem b_1_18 (scr : D) (p q : Int) (a5 a7 a10 a11 : WSl) : restG ⟨[.val scr, .own [.int p, .int q], .val (.list evd), .pin, .un, a5, .un, a7, .val (.int 1), .val (.int 18), a10, a11, .un], []⟩ = some (.nx, ⟨[.val scr, .own [.int p, .int q], .val (.list evd), .pin, .un, a5, .un, a7, .val (.int 1), .val (.int 18), .val (.int 153), .val (.int 171), .un], []⟩) := by kernel_rfl
theorem b_1_19 (scr : D) (p q : Int) (a5 a7 a10 a11 : WSl) : restG ⟨[.val scr, .own [.int p, .int q], .val (.list evd), .pin, .un, a5, .un, a7, .val (.int 1), .val (.int 19), a10, a11, .un], []⟩ = some (.nx, ⟨[.val scr, .own [.int p, .int q], .val (.list evd), .pin, .un, a5, .un, a7, .val (.int 1), .val (.int 19), .val (.int 171), .val (.int 190), .un], []⟩) := by kernel_rfl
theorem b_1_20 (scr : D) (p q : Int) (a5 a7 a10 a11 : WSl) : restG ⟨[.val scr, .own [.int p, .int q], .val (.list evd), .pin, .un, a5, .un, a7, .val (.int 1), .val (.int 20), a10, a11, .un], []⟩ = some (.nx, ⟨[.val scr, .own [.int p, .int q], .val (.list evd), .pin, .un, a5, .un, a7, .val (.int 1), .val (.int 20), .val (.int 190), .val (.int 210), .un], []⟩) := by kernel_rfl
theorem b_1_21 (scr : D) (p q : Int) (a5 a7 a10 a11 : WSl) : restG ⟨[.val scr, .own [.int p, .int q], .val (.list evd), .pin, .un, a5, .un, a7, .val (.int 1), .val (.int 21), a10, a11, .un], []⟩ = some (.nx, ⟨[.val scr, .own [.int p, .int q], .val (.list evd), .pin, .un, a5, .un, a7, .val (.int 1), .val (.int 21), .val (.int 210), .val (.int 231), .un], []⟩) := by kernel_rfl
theorem b_1_22 (scr : D) (p q : Int) (a5 a7 a10 a11 : WSl) : restG ⟨[.val scr, .own [.int p, .int q], .val (.list evd), .pin, .un, a5, .un, a7, .val (.int 1), .val (.int 22), a10, a11, .un], []⟩ = some (.nx, ⟨[.val scr, .own [.int p, .int q], .val (.list evd), .pin, .un, a5, .un, a7, .val (.int 1), .val (.int 22), .val (.int 231), .val (.int 253), .un], []⟩) := by kernel_rfl
theorem b_1_23 (scr : D) (p q : Int) (a5 a7 a10 a11 : WSl) : restG ⟨[.val scr, .own [.int p, .int q], .val (.list evd), .pin, .un, a5, .un, a7, .val (.int 1), .val (.int 23), a10, a11, .un], []⟩ = some (.nx, ⟨[.val scr, .own [.int p, .int q], .val (.list evd), .pin, .un, a5, .un, a7, .val (.int 1), .val (.int 23), .val (.int 253), .val (.int 276), .un], []⟩) := by kernel_rfl
theorem b_1_24 (scr : D) (p q : Int) (a5 a7 a10 a11 : WSl) : restG ⟨[.val scr, .own [.int p, .int q], .val (.list evd), .pin, .un, a5, .un, a7, .val (.int 1), .val (.int 24), a10, a11, .un], []⟩ = some (.nx, ⟨[.val scr, .own [.int p, .int q], .val (.list evd), .pin, .un, a5, .un, a7, .val (.int 1), .val (.int 24), .val (.int 276), .val (.int 300), .un], []⟩) := by kernel_rfl
theorem b_1_25 (scr : D) (p q : Int) (a5 a7 a10 a11 : WSl) : restG ⟨[.val scr, .own [.int p, .int q], .val (.list evd), .pin, .un, a5, .un, a7, .val (.int 1), .val (.int 25), a10, a11, .un], []⟩ = some (.nx, ⟨[.val scr, .own [.int p, .int q], .val (.list evd), .pin, .un, a5, .un, a7, .val (.int 1), .val (.int 25), .val (.int 300), .val (.int 325), .un], []⟩) := by kernel_rfl
theorem b_1_26 (scr : D) (p q : Int) (a5 a7 a10 a11 : WSl) : restG ⟨[.val scr, .own [.int p, .int q], .val (.list evd), .pin, .un, a5, .un, a7, .val (.int 1), .val (.int 26), a10, a11, .un], []⟩ = some (.nx, ⟨[.val scr, .own [.int p, .int q], .val (.list evd), .pin, .un, a5, .un, a7, .val (.int 1), .val (.int 26), .val (.int 325), .val (.int 351), .un], []⟩) := by kernel_rfl
theorem b_1_27 (scr : D) (p q : Int) (a5 a7 a10 a11 : WSl) : restG ⟨[.val scr, .own [.int p, .int q], .val (.list evd), .pin, .un, a5, .un, a7, .val (.int 1), .val (.int 27), a10, a11, .un], []⟩ = some (.nx, ⟨[.val scr, .own [.int p, .int q], .val (.list evd), .pin, .un, a5, .un, a7, .val (.int 1), .val (.int 27), .val (.int 351), .val (.int 378), .un], []⟩) := by kernel_rfl
theorem b_1_28 (scr : D) (p q : Int) (a5 a7 a10 a11 : WSl) : restG ⟨[.val scr, .own [.int p, .int q], .val (.list evd), .pin, .un, a5, .un, a7, .val (.int 1), .val (.int 28), a10, a11, .un], []⟩ = some (.nx, ⟨[.val scr, .own [.int p, .int q], .val (.list evd), .pin, .un, a5, .un, a7, .val (.int 1), .val (.int 28), .val (.int 378), .val (.int 406), .un], []⟩) := by kernel_rfl
theorem b_1_29 (scr : D) (p q : Int) (a5 a7 a10 a11 : WSl) : restG ⟨[.val scr, .own [.int p, .int q], .val (.list evd), .pin, .un, a5, .un, a7, .val (.int 1), .val (.int 29), a10, a11, .un], []⟩ = some (.nx, ⟨[.val scr, .own [.int p, .int q], .val (.list evd), .pin, .un, a5, .un, a7, .val (.int 1), .val (.int 29), .val (.int 406), .val (.int 435), .un], []⟩) := by kernel_rfl
theorem b_1_30 (scr : D) (p q : Int) (a5 a7 a10 a11 : WSl) : restG ⟨[.val scr, .own [.int p, .int q], .val (.list evd), .pin, .un, a5, .un, a7, .val (.int 1), .val (.int 30), a10, a11, .un], []⟩ = some (.nx, ⟨[.val scr, .own [.int p, .int q], .val (.list evd), .pin, .un, a5, .un, a7, .val (.int 1), .val (.int 30), .val (.int 435), .val (.int 465), .un], []⟩) := by kernel_rfl
theorem b_1_31 (scr : D) (p q : Int) (a5 a7 a10 a11 : WSl) : restG ⟨[.val scr, .own [.int p, .int q], .val (.list evd), .pin, .un, a5, .un, a7, .val (.int 1), .val (.int 31), a10, a11, .un], []⟩ = some (.nx, ⟨[.val scr, .own [.int p, .int q], .val (.list evd), .pin, .un, a5, .un, a7, .val (.int 1), .val (.int 31), .val (.int 465), .val (.int 496), .un], []⟩) := by kernel_rfl
theorem b_1_32 (scr : D) (p q : Int) (a5 a7 a10 a11 : WSl) : restG ⟨[.val scr, .own [.int p, .int q], .val (.list evd), .pin, .un, a5, .un, a7, .val (.int 1), .val (.int 32), a10, a11, .un], []⟩ = some (.nx, ⟨[.val scr, .own [.int p, .int q], .val (.list evd), .pin, .un, a5, .un, a7, .val (.int 1), .val (.int 32), .val (.int 496), .val (.int 528), .un], []⟩) := by kernel_rfl
theorem b_1_33 (scr : D) (p q : Int) (a5 a7 a10 a11 : WSl) : restG ⟨[.val scr, .own [.int p, .int q], .val (.list evd), .pin, .un, a5, .un, a7, .val (.int 1), .val (.int 33), a10, a11, .un], []⟩ = some (.nx, ⟨[.val scr, .own [.int p, .int q], .val (.list evd), .pin, .un, a5, .un, a7, .val (.int 1), .val (.int 33), .val (.int 528), .val (.int 561), .un], []⟩) := by kernel_rfl
theorem b_1_34 (scr : D) (p q : Int) (a5 a7 a10 a11 : WSl) : restG ⟨[.val scr, .own [.int p, .int q], .val (.list evd), .pin, .un, a5, .un, a7, .val (.int 1), .val (.int 34), a10, a11, .un], []⟩ = some (.nx, ⟨[.val scr, .own [.int p, .int q], .val (.list evd), .pin, .un, a5, .un, a7, .val (.int 1), .val (.int 34), .val (.int 561), .val (.int 595), .un], []⟩) := by kernel_rfl
theorem b_1_35 (scr : D) (p q : Int) (a5 a7 a10 a11 : WSl) : restG ⟨[.val scr, .own [.int p, .int q], .val (.list evd), .pin, .un, a5, .un, a7, .val (.int 1), .val (.int 35), a10, a11, .un], []⟩ = some (.nx, ⟨[.val scr, .own [.int p, .int q], .val (.list evd), .pin, .un, a5, .un, a7, .val (.int 1), .val (.int 35), .val (.int 595), .val (.int 630), .un], []⟩) := by kernel_rfl
theorem b_1_36 (scr : D) (p q : Int) (a5 a7 a10 a11 : WSl) : restG ⟨[.val scr, .own [.int p, .int q], .val (.list evd), .pin, .un, a5, .un, a7, .val (.int 1), .val (.int 36), a10, a11, .un], []⟩ = some (.nx, ⟨[.val scr, .own [.int p, .int q], .val (.list evd), .pin, .un, a5, .un, a7, .val (.int 1), .val (.int 36), .val (.int 630), .val (.int 666), .un], []⟩) := by kernel_rfl
theorem b_1_37 (scr : D) (p q : Int) (a5 a7 a10 a11 : WSl) : restG ⟨[.val scr, .own [.int p, .int q], .val (.list evd), .pin, .un, a5, .un, a7, .val (.int 1), .val (.int 37), a10, a11, .un], []⟩ = some (.nx, ⟨[.val scr, .own [.int p, .int q], .val (.list evd), .pin, .un, a5, .un, a7, .val (.int 1), .val (.int 37), .val (.int 666), .val (.int 703), .un], []⟩) := by kernel_rfl
theorem b_1_38 (scr : D) (p q : Int) (a5 a7 a10 a11 : WSl) : restG ⟨[.val scr, .own [.int p, .int q], .val (.list evd), .pin, .un, a5, .un, a7, .val (.int 1), .val (.int 38), a10, a11, .un], []⟩ = some (.nx, ⟨[.val scr, .own [.int p, .int q], .val (.list evd), .pin, .un, a5, .un, a7, .val (.int 1), .val (.int 38), .val (.int 703), .val (.int 741), .un], []⟩) := by kernel_rfl
theorem b_1_39 (scr : D) (p q : Int) (a5 a7 a10 a11 : WSl) : restG ⟨[.val scr, .own [.int p, .int q], .val (.list evd), .pin, .un, a5, .un, a7, .val (.int 1), .val (.int 39), a10, a11, .un], []⟩ = some (.nx, ⟨[.val scr, .own [.int p, .int q], .val (.list evd), .pin, .un, a5, .un, a7, .val (.int 1), .val (.int 39), .val (.int 741), .val (.int 780), .un], []⟩) := by kernel_rfl
theorem b_2_0 (scr : D) (p q : Int) (a5 a7 a10 a11 : WSl) : restG ⟨[.val scr, .own [.int p, .int q], .val (.list evd), .pin, .un, a5, .un, a7, .val (.int 2), .val (.int 0), a10, a11, .un], []⟩ = some (.nx, ⟨[.val scr, .own [.int p, .int q], .val (.list evd), .pin, .un, a5, .un, a7, .val (.int 2), .val (.int 0), .val (.int 0), .val (.int 0), .un], []⟩) := by kernel_rfl
theorem b_2_1 (scr : D) (p q : Int) (a5 a7 a10 a11 : WSl) : restG ⟨[.val scr, .own [.int p, .int q], .val (.list evd), .pin, .un, a5, .un, a7, .val (.int 2), .val (.int 1), a10, a11, .un], []⟩ = some (.nx, ⟨[.val scr, .own [.int p, .int q], .val (.list evd), .pin, .un, a5, .un, a7, .val (.int 2), .val (.int 1), .val (.int 0), .val (.int (-1)), .un], []⟩) := by kernel_rfl
theorem b_2_2 (scr : D) (p q : Int) (a5 a7 a10 a11 : WSl) : restG ⟨[.val scr, .own [.int p, .int q], .val (.list evd), .pin, .un, a5, .un, a7, .val (.int 2), .val (.int 2), a10, a11, .un], []⟩ = some (.nx, ⟨[.val scr, .own [.int p, .int q], .val (.list evd), .pin, .un, a5, .un, a7, .val (.int 2), .val (.int 2), .val (.int 1), .val (.int (-5)), .un], []⟩) := by kernel_rfl
theorem b_2_3 (scr : D) (p q : Int) (a5 a7 a10 a11 : WSl) : restG ⟨[.val scr, .own [.int p, .int q], .val (.list evd), .pin, .un, a5, .un, a7, .val (.int 2), .val (.int 3), a10, a11, .un], []⟩ = some (.nx, ⟨[.val scr, .own [.int p, .int q], .val (.list evd), .pin, .un, a5, .un, a7, .val (.int 2), .val (.int 3), .val (.int 5), .val (.int (-14)), .un], []⟩) := by kernel_rfl
theorem b_2_4 (scr : D) (p q : Int) (a5 a7 a10 a11 : WSl) : restG ⟨[.val scr, .own [.int p, .int q], .val (.list evd), .pin, .un, a5, .un, a7, .val (.int 2), .val (.int 4), a10, a11, .un], []⟩ = some (.nx, ⟨[.val scr, .own [.int p, .int q], .val (.list evd), .pin, .un, a5, .un, a7, .val (.int 2), .val (.int 4), .val (.int 14), .val (.int (-30)), .un], []⟩) := by kernel_rfl
theorem b_2_5 (scr : D) (p q : Int) (a5 a7 a10 a11 : WSl) : restG ⟨[.val scr, .own [.int p, .int q], .val (.list evd), .pin, .un, a5, .un, a7, .val (.int 2), .val (.int 5), a10, a11, .un], []⟩ = some (.nx, ⟨[.val scr, .own [.int p, .int q], .val (.list evd), .pin, .un, a5, .un, a7, .val (.int 2), .val (.int 5), .val (.int 30), .val (.int (-55)), .un], []⟩) := by kernel_rfl
theorem b_2_6 (scr : D) (p q : Int) (a5 a7 a10 a11 : WSl) : restG ⟨[.val scr, .own [.int p, .int q], .val (.list evd), .pin, .un, a5, .un, a7, .val (.int 2), .val (.int 6), a10, a11, .un], []⟩ = some (.nx, ⟨[.val scr, .own [.int p, .int q], .val (.list evd), .pin, .un, a5, .un, a7, .val (.int 2), .val (.int 6), .val (.int 55), .val (.int (-91)), .un], []⟩) := by kernel_rfl
theorem b_2_7 (scr : D) (p q : Int) (a5 a7 a10 a11 : WSl) : restG ⟨[.val scr, .own [.int p, .int q], .val (.list evd), .pin, .un, a5, .un, a7, .val (.int 2), .val (.int 7), a10, a11, .un], []⟩ = some (.nx, ⟨[.val scr, .own [.int p, .int q], .val (.list evd), .pin, .un, a5, .un, a7, .val (.int 2), .val (.int 7), .val (.int 91), .val (.int (-140)), .un], []⟩) := by kernel_rfl
theorem b_2_8 (scr : D) (p q : Int) (a5 a7 a10 a11 : WSl) : restG ⟨[.val scr, .own [.int p, .int q], .val (.list evd), .pin, .un, a5, .un, a7, .val (.int 2), .val (.int 8), a10, a11, .un], []⟩ = some (.nx, ⟨[.val scr, .own [.int p, .int q], .val (.list evd), .pin, .un, a5, .un, a7, .val (.int 2), .val (.int 8), .val (.int 140), .val (.int (-204)), .un], []⟩) := by kernel_rfl
theorem b_2_9 (scr : D) (p q : Int) (a5 a7 a10 a11 : WSl) : restG ⟨[.val scr, .own [.int p, .int q], .val (.list evd), .pin, .un, a5, .un, a7, .val (.int 2), .val (.int 9), a10, a11, .un], []⟩ = some (.nx, ⟨[.val scr, .own [.int p, .int q], .val (.list evd), .pin, .un, a5, .un, a7, .val (.int 2), .val (.int 9), .val (.int 204), .val (.int (-285)), .un], []⟩) := by kernel_rfl
theorem b_2_10 (scr : D) (p q : Int) (a5 a7 a10 a11 : WSl) : restG ⟨[.val scr, .own [.int p, .int q], .val (.list evd), .pin, .un, a5, .un, a7, .val (.int 2), .val (.int 10), a10, a11, .un], []⟩ = some (.nx, ⟨[.val scr, .own [.int p, .int q], .val (.list evd), .pin, .un, a5, .un, a7, .val (.int 2), .val (.int 10), .val (.int 285), .val (.int (-385)), .un], []⟩) := by kernel_rfl
theorem b_2_11 (scr : D) (p q : Int) (a5 a7 a10 a11 : WSl) : restG ⟨[.val scr, .own [.int p, .int q], .val (.list evd), .pin, .un, a5, .un, a7, .val (.int 2), .val (.int 11), a10, a11, .un], []⟩ = some (.nx, ⟨[.val scr, .own [.int p, .int q], .val (.list evd), .pin, .un, a5, .un, a7, .val (.int 2), .val (.int 11), .val (.int 385), .val (.int (-506)), .un], []⟩) := by kernel_rfl
theorem b_2_12 (scr : D) (p q : Int) (a5 a7 a10 a11 : WSl) : restG ⟨[.val scr, .own [.int p, .int q], .val (.list evd), .pin, .un, a5, .un, a7, .val (.int 2), .val (.int 12), a10, a11, .un], []⟩ = some (.nx, ⟨[.val scr, .own [.int p, .int q], .val (.list evd), .pin, .un, a5, .un, a7, .val (.int 2), .val (.int 12), .val (.int 506), .val (.int (-650)), .un], []⟩) := by kernel_rfl
theorem b_2_13 (scr : D) (p q : Int) (a5 a7 a10 a11 : WSl) : restG ⟨[.val scr, .own [.int p, .int q], .val (.list evd), .pin, .un, a5, .un, a7, .val (.int 2), .val (.int 13), a10, a11, .un], []⟩ = some (.nx, ⟨[.val scr, .own [.int p, .int q], .val (.list evd), .pin, .un, a5, .un, a7, .val (.int 2), .val (.int 13), .val (.int 650), .val (.int (-819)), .un], []⟩) := by kernel_rfl
theorem b_2_14 (scr : D) (p q : Int) (a5 a7 a10 a11 : WSl) : restG ⟨[.val scr, .own [.int p, .int q], .val (.list evd), .pin, .un, a5, .un, a7, .val (.int 2), .val (.int 14), a10, a11, .un], []⟩ = some (.nx, ⟨[.val scr, .own [.int p, .int q], .val (.list evd), .pin, .un, a5, .un, a7, .val (.int 2), .val (.int 14), .val (.int 819), .val (.int (-1015)), .un], []⟩) := by kernel_rfl
theorem b_2_15 (scr : D) (p q : Int) (a5 a7 a10 a11 : WSl) : restG ⟨[.val scr, .own [.int p, .int q], .val (.list evd), .pin, .un, a5, .un, a7, .val (.int 2), .val (.int 15), a10, a11, .un], []⟩ = some (.nx, ⟨[.val scr, .own [.int p, .int q], .val (.list evd), .pin, .un, a5, .un, a7, .val (.int 2), .val (.int 15), .val (.int 1015), .val (.int (-1240)), .un], []⟩) := by kernel_rfl
theorem b_2_16 (scr : D) (p q : Int) (a5 a7 a10 a11 : WSl) : restG ⟨[.val scr, .own [.int p, .int q], .val (.list evd), .pin, .un, a5, .un, a7, .val (.int 2), .val (.int 16), a10, a11, .un], []⟩ = some (.nx, ⟨[.val scr, .own [.int p, .int q], .val (.list evd), .pin, .un, a5, .un, a7, .val (.int 2), .val (.int 16), .val (.int 1240), .val (.int (-1496)), .un], []⟩) := by kernel_rfl
theorem b_2_17 (scr : D) (p q : Int) (a5 a7 a10 a11 : WSl) : restG ⟨[.val scr, .own [.int p, .int q], .val (.list evd), .pin, .un, a5, .un, a7, .val (.int 2), .val (.int 17), a10, a11, .un], []⟩ = some (.nx, ⟨[.val scr, .own [.int p, .int q], .val (.list evd), .pin, .un, a5, .un, a7, .val (.int 2), .val (.int 17), .val (.int 1496), .val (.int (-1785)), .un], []⟩) := by kernel_rfl
theorem b_2_18 (scr : D) (p q : Int) (a5 a7 a10 a11 : WSl) : restG ⟨[.val scr, .own [.int p, .int q], .val (.list evd), .pin, .un, a5, .un, a7, .val (.int 2), .val (.int 18), a10, a11, .un], []⟩ = some (.nx, ⟨[.val scr, .own [.int p, .int q], .val (.list evd), .pin, .un, a5, .un, a7, .val (.int 2), .val (.int 18), .val (.int 1785), .val (.int (-2109)), .un], []⟩) := by kernel_rfl
theorem b_2_19 (scr : D) (p q : Int) (a5 a7 a10 a11 : WSl) : restG ⟨[.val scr, .own [.int p, .int q], .val (.list evd), .pin, .un, a5, .un, a7, .val (.int 2), .val (.int 19), a10, a11, .un], []⟩ = some (.nx, ⟨[.val scr, .own [.int p, .int q], .val (.list evd), .pin, .un, a5, .un, a7, .val (.int 2), .val (.int 19), .val (.int 2109), .val (.int (-2470)), .un], []⟩) := by kernel_rfl
theorem b_2_20 (scr : D) (p q : Int) (a5 a7 a10 a11 : WSl) : restG ⟨[.val scr, .own [.int p, .int q], .val (.list evd), .pin, .un, a5, .un, a7, .val (.int 2), .val (.int 20), a10, a11, .un], []⟩ = some (.nx, ⟨[.val scr, .own [.int p, .int q], .val (.list evd), .pin, .un, a5, .un, a7, .val (.int 2), .val (.int 20), .val (.int 2470), .val (.int (-2870)), .un], []⟩) := by kernel_rfl
theorem b_2_21 (scr : D) (p q : Int) (a5 a7 a10 a11 : WSl) : restG ⟨[.val scr, .own [.int p, .int q], .val (.list evd), .pin, .un, a5, .un, a7, .val (.int 2), .val (.int 21), a10, a11, .un], []⟩ = some (.nx, ⟨[.val scr, .own [.int p, .int q], .val (.list evd), .pin, .un, a5, .un, a7, .val (.int 2), .val (.int 21), .val (.int 2870), .val (.int (-3311)), .un], []⟩) := by kernel_rfl
theorem b_2_22 (scr : D) (p q : Int) (a5 a7 a10 a11 : WSl) : restG ⟨[.val scr, .own [.int p, .int q], .val (.list evd), .pin, .un, a5, .un, a7, .val (.int 2), .val (.int 22), a10, a11, .un], []⟩ = some (.nx, ⟨[.val scr, .own [.int p, .int q], .val (.list evd), .pin, .un, a5, .un, a7, .val (.int 2), .val (.int 22), .val (.int 3311), .val (.int (-3795)), .un], []⟩) := by kernel_rfl
theorem b_2_23 (scr : D) (p q : Int) (a5 a7 a10 a11 : WSl) : restG ⟨[.val scr, .own [.int p, .int q], .val (.list evd), .pin, .un, a5, .un, a7, .val (.int 2), .val (.int 23), a10, a11, .un], []⟩ = some (.nx, ⟨[.val scr, .own [.int p, .int q], .val (.list evd), .pin, .un, a5, .un, a7, .val (.int 2), .val (.int 23), .val (.int 3795), .val (.int (-4324)), .un], []⟩) := by kernel_rfl
theorem b_2_24 (scr : D) (p q : Int) (a5 a7 a10 a11 : WSl) : restG ⟨[.val scr, .own [.int p, .int q], .val (.list evd), .pin, .un, a5, .un, a7, .val (.int 2), .val (.int 24), a10, a11, .un], []⟩ = some (.nx, ⟨[.val scr, .own [.int p, .int q], .val (.list evd), .pin, .un, a5, .un, a7, .val (.int 2), .val (.int 24), .val (.int 4324), .val (.int (-4900)), .un], []⟩) := by kernel_rfl
theorem b_2_25 (scr : D) (p q : Int) (a5 a7 a10 a11 : WSl) : restG ⟨[.val scr, .own [.int p, .int q], .val (.list evd), .pin, .un, a5, .un, a7, .val (.int 2), .val (.int 25), a10, a11, .un], []⟩ = some (.nx, ⟨[.val scr, .own [.int p, .int q], .val (.list evd), .pin, .un, a5, .un, a7, .val (.int 2), .val (.int 25), .val (.int 4900), .val (.int (-5525)), .un], []⟩) := by kernel_rfl
theorem b_2_26 (scr : D) (p q : Int) (a5 a7 a10 a11 : WSl) : restG ⟨[.val scr, .own [.int p, .int q], .val (.list evd), .pin, .un, a5, .un, a7, .val (.int 2), .val (.int 26), a10, a11, .un], []⟩ = some (.nx, ⟨[.val scr, .own [.int p, .int q], .val (.list evd), .pin, .un, a5, .un, a7, .val (.int 2), .val (.int 26), .val (.int 5525), .val (.int (-6201)), .un], []⟩) := by kernel_rfl
theorem b_2_27 (scr : D) (p q : Int) (a5 a7 a10 a11 : WSl) : restG ⟨[.val scr, .own [.int p, .int q], .val (.list evd), .pin, .un, a5, .un, a7, .val (.int 2), .val (.int 27), a10, a11, .un], []⟩ = some (.nx, ⟨[.val scr, .own [.int p, .int q], .val (.list evd), .pin, .un, a5, .un, a7, .val (.int 2), .val (.int 27), .val (.int 6201), .val (.int (-6930)), .un], []⟩) := by kernel_rfl
theorem b_2_28 (scr : D) (p q : Int) (a5 a7 a10 a11 : WSl) : restG ⟨[.val scr, .own [.int p, .int q], .val (.list evd), .pin, .un, a5, .un, a7, .val (.int 2), .val (.int 28), a10, a11, .un], []⟩ = some (.nx, ⟨[.val scr, .own [.int p, .int q], .val (.list evd), .pin, .un, a5, .un, a7, .val (.int 2), .val (.int 28), .val (.int 6930), .val (.int (-7714)), .un], []⟩) := by kernel_rfl
theorem b_2_29 (scr : D) (p q : Int) (a5 a7 a10 a11 : WSl) : restG ⟨[.val scr, .own [.int p, .int q], .val (.list evd), .pin, .un, a5, .un, a7, .val (.int 2), .val (.int 29), a10, a11, .un], []⟩ = some (.nx, ⟨[.val scr, .own [.int p, .int q], .val (.list evd), .pin, .un, a5, .un, a7, .val (.int 2), .val (.int 29), .val (.int 7714), .val (.int (-8555)), .un], []⟩) := by kernel_rfl
theorem b_2_30 (scr : D) (p q : Int) (a5 a7 a10 a11 : WSl) : restG ⟨[.val scr, .own [.int p, .int q], .val (.list evd), .pin, .un, a5, .un, a7, .val (.int 2), .val (.int 30), a10, a11, .un], []⟩ = some (.nx, ⟨[.val scr, .own [.int p, .int q], .val (.list evd), .pin, .un, a5, .un, a7, .val (.int 2), .val (.int 30), .val (.int 8555), .val (.int (-9455)), .un], []⟩) := by kernel_rfl
theorem b_2_31 (scr : D) (p q : Int) (a5 a7 a10 a11 : WSl) : restG ⟨[.val scr, .own [.int p, .int q], .val (.list evd), .pin, .un, a5, .un, a7, .val (.int 2), .val (.int 31), a10, a11, .un], []⟩ = some (.nx, ⟨[.val scr, .own [.int p, .int q], .val (.list evd), .pin, .un, a5, .un, a7, .val (.int 2), .val (.int 31), .val (.int 9455), .val (.int (-10416)), .un], []⟩) := by kernel_rfl
theorem b_2_32 (scr : D) (p q : Int) (a5 a7 a10 a11 : WSl) : restG ⟨[.val scr, .own [.int p, .int q], .val (.list evd), .pin, .un, a5, .un, a7, .val (.int 2), .val (.int 32), a10, a11, .un], []⟩ = some (.nx, ⟨[.val scr, .own [.int p, .int q], .val (.list evd), .pin, .un, a5, .un, a7, .val (.int 2), .val (.int 32), .val (.int 10416), .val (.int (-11440)), .un], []⟩) := by kernel_rfl
theorem b_2_33 (scr : D) (p q : Int) (a5 a7 a10 a11 : WSl) : restG ⟨[.val scr, .own [.int p, .int q], .val (.list evd), .pin, .un, a5, .un, a7, .val (.int 2), .val (.int 33), a10, a11, .un], []⟩ = some (.nx, ⟨[.val scr, .own [.int p, .int q], .val (.list evd), .pin, .un, a5, .un, a7, .val (.int 2), .val (.int 33), .val (.int 11440), .val (.int (-12529)), .un], []⟩) := by kernel_rfl
theorem b_2_34 (scr : D) (p q : Int) (a5 a7 a10 a11 : WSl) : restG ⟨[.val scr, .own [.int p, .int q], .val (.list evd), .pin, .un, a5, .un, a7, .val (.int 2), .val (.int 34), a10, a11, .un], []⟩ = some (.nx, ⟨[.val scr, .own [.int p, .int q], .val (.list evd), .pin, .un, a5, .un, a7, .val (.int 2), .val (.int 34), .val (.int 12529), .val (.int (-13685)), .un], []⟩) := by kernel_rfl
theorem b_2_35 (scr : D) (p q : Int) (a5 a7 a10 a11 : WSl) : restG ⟨[.val scr, .own [.int p, .int q], .val (.list evd), .pin, .un, a5, .un, a7, .val (.int 2), .val (.int 35), a10, a11, .un], []⟩ = some (.nx, ⟨[.val scr, .own [.int p, .int q], .val (.list evd), .pin, .un, a5, .un, a7, .val (.int 2), .val (.int 35), .val (.int 13685), .val (.int (-14910)), .un], []⟩) := by kernel_rfl
theorem b_2_36 (scr : D) (p q : Int) (a5 a7 a10 a11 : WSl) : restG ⟨[.val scr, .own [.int p, .int q], .val (.list evd), .pin, .un, a5, .un, a7, .val (.int 2), .val (.int 36), a10, a11, .un], []⟩ = some (.nx, ⟨[.val scr, .own [.int p, .int q], .val (.list evd), .pin, .un, a5, .un, a7, .val (.int 2), .val (.int 36), .val (.int 14910), .val (.int (-16206)), .un], []⟩) := by kernel_rfl
theorem b_2_37 (scr : D) (p q : Int) (a5 a7 a10 a11 : WSl) : restG ⟨[.val scr, .own [.int p, .int q], .val (.list evd), .pin, .un, a5, .un, a7, .val (.int 2), .val (.int 37), a10, a11, .un], []⟩ = some (.nx, ⟨[.val scr, .own [.int p, .int q], .val (.list evd), .pin, .un, a5, .un, a7, .val (.int 2), .val (.int 37), .val (.int 16206), .val (.int (-17575)), .un], []⟩) := by kernel_rfl
theorem b_2_38 (scr : D) (p q : Int) (a5 a7 a10 a11 : WSl) : restG ⟨[.val scr, .own [.int p, .int q], .val (.list evd), .pin, .un, a5, .un, a7, .val (.int 2), .val (.int 38), a10, a11, .un], []⟩ = some (.nx, ⟨[.val scr, .own [.int p, .int q], .val (.list evd), .pin, .un, a5, .un, a7, .val (.int 2), .val (.int 38), .val (.int 17575), .val (.int (-19019)), .un], []⟩) := by kernel_rfl
theorem b_2_39 (scr : D) (p q : Int) (a5 a7 a10 a11 : WSl) : restG ⟨[.val scr, .own [.int p, .int q], .val (.list evd), .pin, .un, a5, .un, a7, .val (.int 2), .val (.int 39), a10, a11, .un], []⟩ = some (.nx, ⟨[.val scr, .own [.int p, .int q], .val (.list evd), .pin, .un, a5, .un, a7, .val (.int 2), .val (.int 39), .val (.int 19019), .val (.int (-20540)), .un], []⟩) := by kernel_rfl
theorem b_3_0 (scr : D) (p q : Int) (a5 a7 a10 a11 : WSl) : restG ⟨[.val scr, .own [.int p, .int q], .val (.list evd), .pin, .un, a5, .un, a7, .val (.int 3), .val (.int 0), a10, a11, .un], []⟩ = some (.nx, ⟨[.val scr, .own [.int p, .int q], .val (.list evd), .pin, .un, a5, .un, a7, .val (.int 3), .val (.int 0), .val (.int 0), .val (.int 0), .un], []⟩) := by kernel_rfl
theorem b_3_1 (scr : D) (p q : Int) (a5 a7 a10 a11 : WSl) : restG ⟨[.val scr, .own [.int p, .int q], .val (.list evd), .pin, .un, a5, .un, a7, .val (.int 3), .val (.int 1), a10, a11, .un], []⟩ = some (.nx, ⟨[.val scr, .own [.int p, .int q], .val (.list evd), .pin, .un, a5, .un, a7, .val (.int 3), .val (.int 1), .val (.int 0), .val (.int 1), .un], []⟩) := by kernel_rfl
theorem b_3_2 (scr : D) (p q : Int) (a5 a7 a10 a11 : WSl) : restG ⟨[.val scr, .own [.int p, .int q], .val (.list evd), .pin, .un, a5, .un, a7, .val (.int 3), .val (.int 2), a10, a11, .un], []⟩ = some (.nx, ⟨[.val scr, .own [.int p, .int q], .val (.list evd), .pin, .un, a5, .un, a7, .val (.int 3), .val (.int 2), .val (.int 1), .val (.int 9), .un], []⟩) := by kernel_rfl
theorem b_3_3 (scr : D) (p q : Int) (a5 a7 a10 a11 : WSl) : restG ⟨[.val scr, .own [.int p, .int q], .val (.list evd), .pin, .un, a5, .un, a7, .val (.int 3), .val (.int 3), a10, a11, .un], []⟩ = some (.nx, ⟨[.val scr, .own [.int p, .int q], .val (.list evd), .pin, .un, a5, .un, a7, .val (.int 3), .val (.int 3), .val (.int 9), .val (.int 36), .un], []⟩) := by kernel_rfl
theorem b_3_4 (scr : D) (p q : Int) (a5 a7 a10 a11 : WSl) : restG ⟨[.val scr, .own [.int p, .int q], .val (.list evd), .pin, .un, a5, .un, a7, .val (.int 3), .val (.int 4), a10, a11, .un], []⟩ = some (.nx, ⟨[.val scr, .own [.int p, .int q], .val (.list evd), .pin, .un, a5, .un, a7, .val (.int 3), .val (.int 4), .val (.int 36), .val (.int 100), .un], []⟩) := by kernel_rfl
theorem b_3_5 (scr : D) (p q : Int) (a5 a7 a10 a11 : WSl) : restG ⟨[.val scr, .own [.int p, .int q], .val (.list evd), .pin, .un, a5, .un, a7, .val (.int 3), .val (.int 5), a10, a11, .un], []⟩ = some (.nx, ⟨[.val scr, .own [.int p, .int q], .val (.list evd), .pin, .un, a5, .un, a7, .val (.int 3), .val (.int 5), .val (.int 100), .val (.int 225), .un], []⟩) := by kernel_rfl
theorem b_3_6 (scr : D) (p q : Int) (a5 a7 a10 a11 : WSl) : restG ⟨[.val scr, .own [.int p, .int q], .val (.list evd), .pin, .un, a5, .un, a7, .val (.int 3), .val (.int 6), a10, a11, .un], []⟩ = some (.nx, ⟨[.val scr, .own [.int p, .int q], .val (.list evd), .pin, .un, a5, .un, a7, .val (.int 3), .val (.int 6), .val (.int 225), .val (.int 441), .un], []⟩) := by kernel_rfl
theorem b_3_7 (scr : D) (p q : Int) (a5 a7 a10 a11 : WSl) : restG ⟨[.val scr, .own [.int p, .int q], .val (.list evd), .pin, .un, a5, .un, a7, .val (.int 3), .val (.int 7), a10, a11, .un], []⟩ = some (.nx, ⟨[.val scr, .own [.int p, .int q], .val (.list evd), .pin, .un, a5, .un, a7, .val (.int 3), .val (.int 7), .val (.int 441), .val (.int 784), .un], []⟩) := by kernel_rfl
theorem b_3_8 (scr : D) (p q : Int) (a5 a7 a10 a11 : WSl) : restG ⟨[.val scr, .own [.int p, .int q], .val (.list evd), .pin, .un, a5, .un, a7, .val (.int 3), .val (.int 8), a10, a11, .un], []⟩ = some (.nx, ⟨[.val scr, .own [.int p, .int q], .val (.list evd), .pin, .un, a5, .un, a7, .val (.int 3), .val (.int 8), .val (.int 784), .val (.int 1296), .un], []⟩) := by kernel_rfl
theorem b_3_9 (scr : D) (p q : Int) (a5 a7 a10 a11 : WSl) : restG ⟨[.val scr, .own [.int p, .int q], .val (.list evd), .pin, .un, a5, .un, a7, .val (.int 3), .val (.int 9), a10, a11, .un], []⟩ = some (.nx, ⟨[.val scr, .own [.int p, .int q], .val (.list evd), .pin, .un, a5, .un, a7, .val (.int 3), .val (.int 9), .val (.int 1296), .val (.int 2025), .un], []⟩) := by kernel_rfl
theorem b_3_10 (scr : D) (p q : Int) (a5 a7 a10 a11 : WSl) : restG ⟨[.val scr, .own [.int p, .int q], .val (.list evd), .pin, .un, a5, .un, a7, .val (.int 3), .val (.int 10), a10, a11, .un], []⟩ = some (.nx, ⟨[.val scr, .own [.int p, .int q], .val (.list evd), .pin, .un, a5, .un, a7, .val (.int 3), .val (.int 10), .val (.int 2025), .val (.int 3025), .un], []⟩) := by kernel_rfl
theorem b_3_11 (scr : D) (p q : Int) (a5 a7 a10 a11 : WSl) : restG ⟨[.val scr, .own [.int p, .int q], .val (.list evd), .pin, .un, a5, .un, a7, .val (.int 3), .val (.int 11), a10, a11, .un], []⟩ = some (.nx, ⟨[.val scr, .own [.int p, .int q], .val (.list evd), .pin, .un, a5, .un, a7, .val (.int 3), .val (.int 11), .val (.int 3025), .val (.int 4356), .un], []⟩) := by kernel_rfl
theorem b_3_12 (scr : D) (p q : Int) (a5 a7 a10 a11 : WSl) : restG ⟨[.val scr, .own [.int p, .int q], .val (.list evd), .pin, .un, a5, .un, a7, .val (.int 3), .val (.int 12), a10, a11, .un], []⟩ = some (.nx, ⟨[.val scr, .own [.int p, .int q], .val (.list evd), .pin, .un, a5, .un, a7, .val (.int 3), .val (.int 12), .val (.int 4356), .val (.int 6084), .un], []⟩) := by kernel_rfl
theorem b_3_13 (scr : D) (p q : Int) (a5 a7 a10 a11 : WSl) : restG ⟨[.val scr, .own [.int p, .int q], .val (.list evd), .pin, .un, a5, .un, a7, .val (.int 3), .val (.int 13), a10, a11, .un], []⟩ = some (.nx, ⟨[.val scr, .own [.int p, .int q], .val (.list evd), .pin, .un, a5, .un, a7, .val (.int 3), .val (.int 13), .val (.int 6084), .val (.int 8281), .un], []⟩) := by kernel_rfl
theorem b_3_14 (scr : D) (p q : Int) (a5 a7 a10 a11 : WSl) : restG ⟨[.val scr, .own [.int p, .int q], .val (.list evd), .pin, .un, a5, .un, a7, .val (.int 3), .val (.int 14), a10, a11, .un], []⟩ = some (.nx, ⟨[.val scr, .own [.int p, .int q], .val (.list evd), .pin, .un, a5, .un, a7, .val (.int 3), .val (.int 14), .val (.int 8281), .val (.int 11025), .un], []⟩) := by kernel_rfl
theorem b_3_15 (scr : D) (p q : Int) (a5 a7 a10 a11 : WSl) : restG ⟨[.val scr, .own [.int p, .int q], .val (.list evd), .pin, .un, a5, .un, a7, .val (.int 3), .val (.int 15), a10, a11, .un], []⟩ = some (.nx, ⟨[.val scr, .own [.int p, .int q], .val (.list evd), .pin, .un, a5, .un, a7, .val (.int 3), .val (.int 15), .val (.int 11025), .val (.int 14400), .un], []⟩) := by kernel_rfl
theorem b_3_16 (scr : D) (p q : Int) (a5 a7 a10 a11 : WSl) : restG ⟨[.val scr, .own [.int p, .int q], .val (.list evd), .pin, .un, a5, .un, a7, .val (.int 3), .val (.int 16), a10, a11, .un], []⟩ = some (.nx, ⟨[.val scr, .own [.int p, .int q], .val (.list evd), .pin, .un, a5, .un, a7, .val (.int 3), .val (.int 16), .val (.int 14400), .val (.int 18496), .un], []⟩) := by kernel_rfl
theorem b_3_17 (scr : D) (p q : Int) (a5 a7 a10 a11 : WSl) : restG ⟨[.val scr, .own [.int p, .int q], .val (.list evd), .pin, .un, a5, .un, a7, .val (.int 3), .val (.int 17), a10, a11, .un], []⟩ = some (.nx, ⟨[.val scr, .own [.int p, .int q], .val (.list evd), .pin, .un, a5, .un, a7, .val (.int 3), .val (.int 17), .val (.int 18496), .val (.int 23409), .un], []⟩) := by kernel_rfl
theorem b_3_18 (scr : D) (p q : Int) (a5 a7 a10 a11 : WSl) : restG ⟨[.val scr, .own [.int p, .int q], .val (.list evd), .pin, .un, a5, .un, a7, .val (.int 3), .val (.int 18), a10, a11, .un], []⟩ = some (.nx, ⟨[.val scr, .own [.int p, .int q], .val (.list evd), .pin, .un, a5, .un, a7, .val (.int 3), .val (.int 18), .val (.int 23409), .val (.int 29241), .un], []⟩) := by kernel_rfl
theorem b_3_19 (scr : D) (p q : Int) (a5 a7 a10 a11 : WSl) : restG ⟨[.val scr, .own [.int p, .int q], .val (.list evd), .pin, .un, a5, .un, a7, .val (.int 3), .val (.int 19), a10, a11, .un], []⟩ = some (.nx, ⟨[.val scr, .own [.int p, .int q], .val (.list evd), .pin, .un, a5, .un, a7, .val (.int 3), .val (.int 19), .val (.int 29241), .val (.int 36100), .un], []⟩) := by kernel_rfl
theorem b_3_20 (scr : D) (p q : Int) (a5 a7 a10 a11 : WSl) : restG ⟨[.val scr, .own [.int p, .int q], .val (.list evd), .pin, .un, a5, .un, a7, .val (.int 3), .val (.int 20), a10, a11, .un], []⟩ = some (.nx, ⟨[.val scr, .own [.int p, .int q], .val (.list evd), .pin, .un, a5, .un, a7, .val (.int 3), .val (.int 20), .val (.int 36100), .val (.int 44100), .un], []⟩) := by kernel_rfl
theorem b_3_21 (scr : D) (p q : Int) (a5 a7 a10 a11 : WSl) : restG ⟨[.val scr, .own [.int p, .int q], .val (.list evd), .pin, .un, a5, .un, a7, .val (.int 3), .val (.int 21), a10, a11, .un], []⟩ = some (.nx, ⟨[.val scr, .own [.int p, .int q], .val (.list evd), .pin, .un, a5, .un, a7, .val (.int 3), .val (.int 21), .val (.int 44100), .val (.int 53361), .un], []⟩) := by kernel_rfl
theorem b_3_22 (scr : D) (p q : Int) (a5 a7 a10 a11 : WSl) : restG ⟨[.val scr, .own [.int p, .int q], .val (.list evd), .pin, .un, a5, .un, a7, .val (.int 3), .val (.int 22), a10, a11, .un], []⟩ = some (.nx, ⟨[.val scr, .own [.int p, .int q], .val (.list evd), .pin, .un, a5, .un, a7, .val (.int 3), .val (.int 22), .val (.int 53361), .val (.int 64009), .un], []⟩) := by kernel_rfl
theorem b_3_23 (scr : D) (p q : Int) (a5 a7 a10 a11 : WSl) : restG ⟨[.val scr, .own [.int p, .int q], .val (.list evd), .pin, .un, a5, .un, a7, .val (.int 3), .val (.int 23), a10, a11, .un], []⟩ = some (.nx, ⟨[.val scr, .own [.int p, .int q], .val (.list evd), .pin, .un, a5, .un, a7, .val (.int 3), .val (.int 23), .val (.int 64009), .val (.int 76176), .un], []⟩) := by kernel_rfl
theorem b_3_24 (scr : D) (p q : Int) (a5 a7 a10 a11 : WSl) : restG ⟨[.val scr, .own [.int p, .int q], .val (.list evd), .pin, .un, a5, .un, a7, .val (.int 3), .val (.int 24), a10, a11, .un], []⟩ = some (.nx, ⟨[.val scr, .own [.int p, .int q], .val (.list evd), .pin, .un, a5, .un, a7, .val (.int 3), .val (.int 24), .val (.int 76176), .val (.int 90000), .un], []⟩) := by kernel_rfl
theorem b_3_25 (scr : D) (p q : Int) (a5 a7 a10 a11 : WSl) : restG ⟨[.val scr, .own [.int p, .int q], .val (.list evd), .pin, .un, a5, .un, a7, .val (.int 3), .val (.int 25), a10, a11, .un], []⟩ = some (.nx, ⟨[.val scr, .own [.int p, .int q], .val (.list evd), .pin, .un, a5, .un, a7, .val (.int 3), .val (.int 25), .val (.int 90000), .val (.int 105625), .un], []⟩) := by kernel_rfl
theorem b_3_26 (scr : D) (p q : Int) (a5 a7 a10 a11 : WSl) : restG ⟨[.val scr, .own [.int p, .int q], .val (.list evd), .pin, .un, a5, .un, a7, .val (.int 3), .val (.int 26), a10, a11, .un], []⟩ = some (.nx, ⟨[.val scr, .own [.int p, .int q], .val (.list evd), .pin, .un, a5, .un, a7, .val (.int 3), .val (.int 26), .val (.int 105625), .val (.int 123201), .un], []⟩) := by kernel_rfl
theorem b_3_27 (scr : D) (p q : Int) (a5 a7 a10 a11 : WSl) : restG ⟨[.val scr, .own [.int p, .int q], .val (.list evd), .pin, .un, a5, .un, a7, .val (.int 3), .val (.int 27), a10, a11, .un], []⟩ = some (.nx, ⟨[.val scr, .own [.int p, .int q], .val (.list evd), .pin, .un, a5, .un, a7, .val (.int 3), .val (.int 27), .val (.int 123201), .val (.int 142884), .un], []⟩) := by kernel_rfl
theorem b_3_28 (scr : D) (p q : Int) (a5 a7 a10 a11 : WSl) : restG ⟨[.val scr, .own [.int p, .int q], .val (.list evd), .pin, .un, a5, .un, a7, .val (.int 3), .val (.int 28), a10, a11, .un], []⟩ = some (.nx, ⟨[.val scr, .own [.int p, .int q], .val (.list evd), .pin, .un, a5, .un, a7, .val (.int 3), .val (.int 28), .val (.int 142884), .val (.int 164836), .un], []⟩) := by kernel_rfl
theorem b_3_29 (scr : D) (p q : Int) (a5 a7 a10 a11 : WSl) : restG ⟨[.val scr, .own [.int p, .int q], .val (.list evd), .pin, .un, a5, .un, a7, .val (.int 3), .val (.int 29), a10, a11, .un], []⟩ = some (.nx, ⟨[.val scr, .own [.int p, .int q], .val (.list evd), .pin, .un, a5, .un, a7, .val (.int 3), .val (.int 29), .val (.int 164836), .val (.int 189225), .un], []⟩) := by kernel_rfl
theorem b_3_30 (scr : D) (p q : Int) (a5 a7 a10 a11 : WSl) : restG ⟨[.val scr, .own [.int p, .int q], .val (.list evd), .pin, .un, a5, .un, a7, .val (.int 3), .val (.int 30), a10, a11, .un], []⟩ = some (.nx, ⟨[.val scr, .own [.int p, .int q], .val (.list evd), .pin, .un, a5, .un, a7, .val (.int 3), .val (.int 30), .val (.int 189225), .val (.int 216225), .un], []⟩) := by kernel_rfl
theorem b_3_31 (scr : D) (p q : Int) (a5 a7 a10 a11 : WSl) : restG ⟨[.val scr, .own [.int p, .int q], .val (.list evd), .pin, .un, a5, .un, a7, .val (.int 3), .val (.int 31), a10, a11, .un], []⟩ = some (.nx, ⟨[.val scr, .own [.int p, .int q], .val (.list evd), .pin, .un, a5, .un, a7, .val (.int 3), .val (.int 31), .val (.int 216225), .val (.int 246016), .un], []⟩) := by kernel_rfl
theorem b_3_32 (scr : D) (p q : Int) (a5 a7 a10 a11 : WSl) : restG ⟨[.val scr, .own [.int p, .int q], .val (.list evd), .pin, .un, a5, .un, a7, .val (.int 3), .val (.int 32), a10, a11, .un], []⟩ = some (.nx, ⟨[.val scr, .own [.int p, .int q], .val (.list evd), .pin, .un, a5, .un, a7, .val (.int 3), .val (.int 32), .val (.int 246016), .val (.int 278784), .un], []⟩) := by kernel_rfl
theorem b_3_33 (scr : D) (p q : Int) (a5 a7 a10 a11 : WSl) : restG ⟨[.val scr, .own [.int p, .int q], .val (.list evd), .pin, .un, a5, .un, a7, .val (.int 3), .val (.int 33), a10, a11, .un], []⟩ = some (.nx, ⟨[.val scr, .own [.int p, .int q], .val (.list evd), .pin, .un, a5, .un, a7, .val (.int 3), .val (.int 33), .val (.int 278784), .val (.int 314721), .un], []⟩) := by kernel_rfl
theorem b_3_34 (scr : D) (p q : Int) (a5 a7 a10 a11 : WSl) : restG ⟨[.val scr, .own [.int p, .int q], .val (.list evd), .pin, .un, a5, .un, a7, .val (.int 3), .val (.int 34), a10, a11, .un], []⟩ = some (.nx, ⟨[.val scr, .own [.int p, .int q], .val (.list evd), .pin, .un, a5, .un, a7, .val (.int 3), .val (.int 34), .val (.int 314721), .val (.int 354025), .un], []⟩) := by kernel_rfl
theorem b_3_35 (scr : D) (p q : Int) (a5 a7 a10 a11 : WSl) : restG ⟨[.val scr, .own [.int p, .int q], .val (.list evd), .pin, .un, a5, .un, a7, .val (.int 3), .val (.int 35), a10, a11, .un], []⟩ = some (.nx, ⟨[.val scr, .own [.int p, .int q], .val (.list evd), .pin, .un, a5, .un, a7, .val (.int 3), .val (.int 35), .val (.int 354025), .val (.int 396900), .un], []⟩) := by kernel_rfl
theorem b_3_36 (scr : D) (p q : Int) (a5 a7 a10 a11 : WSl) : restG ⟨[.val scr, .own [.int p, .int q], .val (.list evd), .pin, .un, a5, .un, a7, .val (.int 3), .val (.int 36), a10, a11, .un], []⟩ = some (.nx, ⟨[.val scr, .own [.int p, .int q], .val (.list evd), .pin, .un, a5, .un, a7, .val (.int 3), .val (.int 36), .val (.int 396900), .val (.int 443556), .un], []⟩) := by kernel_rfl
theorem b_3_37 (scr : D) (p q : Int) (a5 a7 a10 a11 : WSl) : restG ⟨[.val scr, .own [.int p, .int q], .val (.list evd), .pin, .un, a5, .un, a7, .val (.int 3), .val (.int 37), a10, a11, .un], []⟩ = some (.nx, ⟨[.val scr, .own [.int p, .int q], .val (.list evd), .pin, .un, a5, .un, a7, .val (.int 3), .val (.int 37), .val (.int 443556), .val (.int 494209), .un], []⟩) := by kernel_rfl
theorem b_3_38 (scr : D) (p q : Int) (a5 a7 a10 a11 : WSl) : restG ⟨[.val scr, .own [.int p, .int q], .val (.list evd), .pin, .un, a5, .un, a7, .val (.int 3), .val (.int 38), a10, a11, .un], []⟩ = some (.nx, ⟨[.val scr, .own [.int p, .int q], .val (.list evd), .pin, .un, a5, .un, a7, .val (.int 3), .val (.int 38), .val (.int 494209), .val (.int 549081), .un], []⟩) := by kernel_rfl
theorem b_3_39 (scr : D) (p q : Int) (a5 a7 a10 a11 : WSl) : restG ⟨[.val scr, .own [.int p, .int q], .val (.list evd), .pin, .un, a5, .un, a7, .val (.int 3), .val (.int 39), a10, a11, .un], []⟩ = some (.nx, ⟨[.val scr, .own [.int p, .int q], .val (.list evd), .pin, .un, a5, .un, a7, .val (.int 3), .val (.int 39), .val (.int 549081), .val (.int 608400), .un], []⟩) := by kernel_rfl
theorem b_4_0 (scr : D) (p q : Int) (a5 a7 a10 a11 : WSl) : restG ⟨[.val scr, .own [.int p, .int q], .val (.list evd), .pin, .un, a5, .un, a7, .val (.int 4), .val (.int 0), a10, a11, .un], []⟩ = some (.nx, ⟨[.val scr, .own [.int p, .int q], .val (.list evd), .pin, .un, a5, .un, a7, .val (.int 4), .val (.int 0), .val (.int 0), .val (.int 0), .un], []⟩) := by kernel_rfl
theorem b_4_1 (scr : D) (p q : Int) (a5 a7 a10 a11 : WSl) : restG ⟨[.val scr, .own [.int p, .int q], .val (.list evd), .pin, .un, a5, .un, a7, .val (.int 4), .val (.int 1), a10, a11, .un], []⟩ = some (.nx, ⟨[.val scr, .own [.int p, .int q], .val (.list evd), .pin, .un, a5, .un, a7, .val (.int 4), .val (.int 1), .val (.int 0), .val (.int (-1)), .un], []⟩) := by kernel_rfl
theorem b_4_2 (scr : D) (p q : Int) (a5 a7 a10 a11 : WSl) : restG ⟨[.val scr, .own [.int p, .int q], .val (.list evd), .pin, .un, a5, .un, a7, .val (.int 4), .val (.int 2), a10, a11, .un], []⟩ = some (.nx, ⟨[.val scr, .own [.int p, .int q], .val (.list evd), .pin, .un, a5, .un, a7, .val (.int 4), .val (.int 2), .val (.int 1), .val (.int (-17)), .un], []⟩) := by kernel_rfl
theorem b_4_3 (scr : D) (p q : Int) (a5 a7 a10 a11 : WSl) : restG ⟨[.val scr, .own [.int p, .int q], .val (.list evd), .pin, .un, a5, .un, a7, .val (.int 4), .val (.int 3), a10, a11, .un], []⟩ = some (.nx, ⟨[.val scr, .own [.int p, .int q], .val (.list evd), .pin, .un, a5, .un, a7, .val (.int 4), .val (.int 3), .val (.int 17), .val (.int (-98)), .un], []⟩) := by kernel_rfl
theorem b_4_4 (scr : D) (p q : Int) (a5 a7 a10 a11 : WSl) : restG ⟨[.val scr, .own [.int p, .int q], .val (.list evd), .pin, .un, a5, .un, a7, .val (.int 4), .val (.int 4), a10, a11, .un], []⟩ = some (.nx, ⟨[.val scr, .own [.int p, .int q], .val (.list evd), .pin, .un, a5, .un, a7, .val (.int 4), .val (.int 4), .val (.int 98), .val (.int (-354)), .un], []⟩) := by kernel_rfl
theorem b_4_5 (scr : D) (p q : Int) (a5 a7 a10 a11 : WSl) : restG ⟨[.val scr, .own [.int p, .int q], .val (.list evd), .pin, .un, a5, .un, a7, .val (.int 4), .val (.int 5), a10, a11, .un], []⟩ = some (.nx, ⟨[.val scr, .own [.int p, .int q], .val (.list evd), .pin, .un, a5, .un, a7, .val (.int 4), .val (.int 5), .val (.int 354), .val (.int (-979)), .un], []⟩) := by kernel_rfl
theorem b_4_6 (scr : D) (p q : Int) (a5 a7 a10 a11 : WSl) : restG ⟨[.val scr, .own [.int p, .int q], .val (.list evd), .pin, .un, a5, .un, a7, .val (.int 4), .val (.int 6), a10, a11, .un], []⟩ = some (.nx, ⟨[.val scr, .own [.int p, .int q], .val (.list evd), .pin, .un, a5, .un, a7, .val (.int 4), .val (.int 6), .val (.int 979), .val (.int (-2275)), .un], []⟩) := by kernel_rfl
theorem b_4_7 (scr : D) (p q : Int) (a5 a7 a10 a11 : WSl) : restG ⟨[.val scr, .own [.int p, .int q], .val (.list evd), .pin, .un, a5, .un, a7, .val (.int 4), .val (.int 7), a10, a11, .un], []⟩ = some (.nx, ⟨[.val scr, .own [.int p, .int q], .val (.list evd), .pin, .un, a5, .un, a7, .val (.int 4), .val (.int 7), .val (.int 2275), .val (.int (-4676)), .un], []⟩) := by kernel_rfl
theorem b_4_8 (scr : D) (p q : Int) (a5 a7 a10 a11 : WSl) : restG ⟨[.val scr, .own [.int p, .int q], .val (.list evd), .pin, .un, a5, .un, a7, .val (.int 4), .val (.int 8), a10, a11, .un], []⟩ = some (.nx, ⟨[.val scr, .own [.int p, .int q], .val (.list evd), .pin, .un, a5, .un, a7, .val (.int 4), .val (.int 8), .val (.int 4676), .val (.int (-8772)), .un], []⟩) := by kernel_rfl
theorem b_4_9 (scr : D) (p q : Int) (a5 a7 a10 a11 : WSl) : restG ⟨[.val scr, .own [.int p, .int q], .val (.list evd), .pin, .un, a5, .un, a7, .val (.int 4), .val (.int 9), a10, a11, .un], []⟩ = some (.nx, ⟨[.val scr, .own [.int p, .int q], .val (.list evd), .pin, .un, a5, .un, a7, .val (.int 4), .val (.int 9), .val (.int 8772), .val (.int (-15333)), .un], []⟩) := by kernel_rfl
theorem b_4_10 (scr : D) (p q : Int) (a5 a7 a10 a11 : WSl) : restG ⟨[.val scr, .own [.int p, .int q], .val (.list evd), .pin, .un, a5, .un, a7, .val (.int 4), .val (.int 10), a10, a11, .un], []⟩ = some (.nx, ⟨[.val scr, .own [.int p, .int q], .val (.list evd), .pin, .un, a5, .un, a7, .val (.int 4), .val (.int 10), .val (.int 15333), .val (.int (-25333)), .un], []⟩) := by kernel_rfl
theorem b_4_11 (scr : D) (p q : Int) (a5 a7 a10 a11 : WSl) : restG ⟨[.val scr, .own [.int p, .int q], .val (.list evd), .pin, .un, a5, .un, a7, .val (.int 4), .val (.int 11), a10, a11, .un], []⟩ = some (.nx, ⟨[.val scr, .own [.int p, .int q], .val (.list evd), .pin, .un, a5, .un, a7, .val (.int 4), .val (.int 11), .val (.int 25333), .val (.int (-39974)), .un], []⟩) := by kernel_rfl
theorem b_4_12 (scr : D) (p q : Int) (a5 a7 a10 a11 : WSl) : restG ⟨[.val scr, .own [.int p, .int q], .val (.list evd), .pin, .un, a5, .un, a7, .val (.int 4), .val (.int 12), a10, a11, .un], []⟩ = some (.nx, ⟨[.val scr, .own [.int p, .int q], .val (.list evd), .pin, .un, a5, .un, a7, .val (.int 4), .val (.int 12), .val (.int 39974), .val (.int (-60710)), .un], []⟩) := by kernel_rfl
theorem b_4_13 (scr : D) (p q : Int) (a5 a7 a10 a11 : WSl) : restG ⟨[.val scr, .own [.int p, .int q], .val (.list evd), .pin, .un, a5, .un, a7, .val (.int 4), .val (.int 13), a10, a11, .un], []⟩ = some (.nx, ⟨[.val scr, .own [.int p, .int q], .val (.list evd), .pin, .un, a5, .un, a7, .val (.int 4), .val (.int 13), .val (.int 60710), .val (.int (-89271)), .un], []⟩) := by kernel_rfl
theorem b_4_14 (scr : D) (p q : Int) (a5 a7 a10 a11 : WSl) : restG ⟨[.val scr, .own [.int p, .int q], .val (.list evd), .pin, .un, a5, .un, a7, .val (.int 4), .val (.int 14), a10, a11, .un], []⟩ = some (.nx, ⟨[.val scr, .own [.int p, .int q], .val (.list evd), .pin, .un, a5, .un, a7, .val (.int 4), .val (.int 14), .val (.int 89271), .val (.int (-127687)), .un], []⟩) := by kernel_rfl
theorem b_4_15 (scr : D) (p q : Int) (a5 a7 a10 a11 : WSl) : restG ⟨[.val scr, .own [.int p, .int q], .val (.list evd), .pin, .un, a5, .un, a7, .val (.int 4), .val (.int 15), a10, a11, .un], []⟩ = some (.nx, ⟨[.val scr, .own [.int p, .int q], .val (.list evd), .pin, .un, a5, .un, a7, .val (.int 4), .val (.int 15), .val (.int 127687), .val (.int (-178312)), .un], []⟩) := by kernel_rfl
theorem b_4_16 (scr : D) (p q : Int) (a5 a7 a10 a11 : WSl) : restG ⟨[.val scr, .own [.int p, .int q], .val (.list evd), .pin, .un, a5, .un, a7, .val (.int 4), .val (.int 16), a10, a11, .un], []⟩ = some (.nx, ⟨[.val scr, .own [.int p, .int q], .val (.list evd), .pin, .un, a5, .un, a7, .val (.int 4), .val (.int 16), .val (.int 178312), .val (.int (-243848)), .un], []⟩) := by kernel_rfl
theorem b_4_17 (scr : D) (p q : Int) (a5 a7 a10 a11 : WSl) : restG ⟨[.val scr, .own [.int p, .int q], .val (.list evd), .pin, .un, a5, .un, a7, .val (.int 4), .val (.int 17), a10, a11, .un], []⟩ = some (.nx, ⟨[.val scr, .own [.int p, .int q], .val (.list evd), .pin, .un, a5, .un, a7, .val (.int 4), .val (.int 17), .val (.int 243848), .val (.int (-327369)), .un], []⟩) := by kernel_rfl
theorem b_4_18 (scr : D) (p q : Int) (a5 a7 a10 a11 : WSl) : restG ⟨[.val scr, .own [.int p, .int q], .val (.list evd), .pin, .un, a5, .un, a7, .val (.int 4), .val (.int 18), a10, a11, .un], []⟩ = some (.nx, ⟨[.val scr, .own [.int p, .int q], .val (.list evd), .pin, .un, a5, .un, a7, .val (.int 4), .val (.int 18), .val (.int 327369), .val (.int (-432345)), .un], []⟩) := by kernel_rfl
theorem b_4_19 (scr : D) (p q : Int) (a5 a7 a10 a11 : WSl) : restG ⟨[.val scr, .own [.int p, .int q], .val (.list evd), .pin, .un, a5, .un, a7, .val (.int 4), .val (.int 19), a10, a11, .un], []⟩ = some (.nx, ⟨[.val scr, .own [.int p, .int q], .val (.list evd), .pin, .un, a5, .un, a7, .val (.int 4), .val (.int 19), .val (.int 432345), .val (.int (-562666)), .un], []⟩) := by kernel_rfl
theorem b_4_20 (scr : D) (p q : Int) (a5 a7 a10 a11 : WSl) : restG ⟨[.val scr, .own [.int p, .int q], .val (.list evd), .pin, .un, a5, .un, a7, .val (.int 4), .val (.int 20), a10, a11, .un], []⟩ = some (.nx, ⟨[.val scr, .own [.int p, .int q], .val (.list evd), .pin, .un, a5, .un, a7, .val (.int 4), .val (.int 20), .val (.int 562666), .val (.int (-722666)), .un], []⟩) := by kernel_rfl
theorem b_4_21 (scr : D) (p q : Int) (a5 a7 a10 a11 : WSl) : restG ⟨[.val scr, .own [.int p, .int q], .val (.list evd), .pin, .un, a5, .un, a7, .val (.int 4), .val (.int 21), a10, a11, .un], []⟩ = some (.nx, ⟨[.val scr, .own [.int p, .int q], .val (.list evd), .pin, .un, a5, .un, a7, .val (.int 4), .val (.int 21), .val (.int 722666), .val (.int (-917147)), .un], []⟩) := by kernel_rfl
theorem b_4_22 (scr : D) (p q : Int) (a5 a7 a10 a11 : WSl) : restG ⟨[.val scr, .own [.int p, .int q], .val (.list evd), .pin, .un, a5, .un, a7, .val (.int 4), .val (.int 22), a10, a11, .un], []⟩ = some (.nx, ⟨[.val scr, .own [.int p, .int q], .val (.list evd), .pin, .un, a5, .un, a7, .val (.int 4), .val (.int 22), .val (.int 917147), .val (.int (-1151403)), .un], []⟩) := by kernel_rfl
theorem b_4_23 (scr : D) (p q : Int) (a5 a7 a10 a11 : WSl) : restG ⟨[.val scr, .own [.int p, .int q], .val (.list evd), .pin, .un, a5, .un, a7, .val (.int 4), .val (.int 23), a10, a11, .un], []⟩ = some (.nx, ⟨[.val scr, .own [.int p, .int q], .val (.list evd), .pin, .un, a5, .un, a7, .val (.int 4), .val (.int 23), .val (.int 1151403), .val (.int (-1431244)), .un], []⟩) := by kernel_rfl
theorem b_4_24 (scr : D) (p q : Int) (a5 a7 a10 a11 : WSl) : restG ⟨[.val scr, .own [.int p, .int q], .val (.list evd), .pin, .un, a5, .un, a7, .val (.int 4), .val (.int 24), a10, a11, .un], []⟩ = some (.nx, ⟨[.val scr, .own [.int p, .int q], .val (.list evd), .pin, .un, a5, .un, a7, .val (.int 4), .val (.int 24), .val (.int 1431244), .val (.int (-1763020)), .un], []⟩) := by kernel_rfl
theorem b_4_25 (scr : D) (p q : Int) (a5 a7 a10 a11 : WSl) : restG ⟨[.val scr, .own [.int p, .int q], .val (.list evd), .pin, .un, a5, .un, a7, .val (.int 4), .val (.int 25), a10, a11, .un], []⟩ = some (.nx, ⟨[.val scr, .own [.int p, .int q], .val (.list evd), .pin, .un, a5, .un, a7, .val (.int 4), .val (.int 25), .val (.int 1763020), .val (.int (-2153645)), .un], []⟩) := by kernel_rfl
theorem b_4_26 (scr : D) (p q : Int) (a5 a7 a10 a11 : WSl) : restG ⟨[.val scr, .own [.int p, .int q], .val (.list evd), .pin, .un, a5, .un, a7, .val (.int 4), .val (.int 26), a10, a11, .un], []⟩ = some (.nx, ⟨[.val scr, .own [.int p, .int q], .val (.list evd), .pin, .un, a5, .un, a7, .val (.int 4), .val (.int 26), .val (.int 2153645), .val (.int (-2610621)), .un], []⟩) := by kernel_rfl
theorem b_4_27 (scr : D) (p q : Int) (a5 a7 a10 a11 : WSl) : restG ⟨[.val scr, .own [.int p, .int q], .val (.list evd), .pin, .un, a5, .un, a7, .val (.int 4), .val (.int 27), a10, a11, .un], []⟩ = some (.nx, ⟨[.val scr, .own [.int p, .int q], .val (.list evd), .pin, .un, a5, .un, a7, .val (.int 4), .val (.int 27), .val (.int 2610621), .val (.int (-3142062)), .un], []⟩) := by kernel_rfl
theorem b_4_28 (scr : D) (p q : Int) (a5 a7 a10 a11 : WSl) : restG ⟨[.val scr, .own [.int p, .int q], .val (.list evd), .pin, .un, a5, .un, a7, .val (.int 4), .val (.int 28), a10, a11, .un], []⟩ = some (.nx, ⟨[.val scr, .own [.int p, .int q], .val (.list evd), .pin, .un, a5, .un, a7, .val (.int 4), .val (.int 28), .val (.int 3142062), .val (.int (-3756718)), .un], []⟩) := by kernel_rfl
theorem b_4_29 (scr : D) (p q : Int) (a5 a7 a10 a11 : WSl) : restG ⟨[.val scr, .own [.int p, .int q], .val (.list evd), .pin, .un, a5, .un, a7, .val (.int 4), .val (.int 29), a10, a11, .un], []⟩ = some (.nx, ⟨[.val scr, .own [.int p, .int q], .val (.list evd), .pin, .un, a5, .un, a7, .val (.int 4), .val (.int 29), .val (.int 3756718), .val (.int (-4463999)), .un], []⟩) := by kernel_rfl
theorem b_4_30 (scr : D) (p q : Int) (a5 a7 a10 a11 : WSl) : restG ⟨[.val scr, .own [.int p, .int q], .val (.list evd), .pin, .un, a5, .un, a7, .val (.int 4), .val (.int 30), a10, a11, .un], []⟩ = some (.nx, ⟨[.val scr, .own [.int p, .int q], .val (.list evd), .pin, .un, a5, .un, a7, .val (.int 4), .val (.int 30), .val (.int 4463999), .val (.int (-5273999)), .un], []⟩) := by kernel_rfl
theorem b_4_31 (scr : D) (p q : Int) (a5 a7 a10 a11 : WSl) : restG ⟨[.val scr, .own [.int p, .int q], .val (.list evd), .pin, .un, a5, .un, a7, .val (.int 4), .val (.int 31), a10, a11, .un], []⟩ = some (.nx, ⟨[.val scr, .own [.int p, .int q], .val (.list evd), .pin, .un, a5, .un, a7, .val (.int 4), .val (.int 31), .val (.int 5273999), .val (.int (-6197520)), .un], []⟩) := by kernel_rfl
theorem b_4_32 (scr : D) (p q : Int) (a5 a7 a10 a11 : WSl) : restG ⟨[.val scr, .own [.int p, .int q], .val (.list evd), .pin, .un, a5, .un, a7, .val (.int 4), .val (.int 32), a10, a11, .un], []⟩ = some (.nx, ⟨[.val scr, .own [.int p, .int q], .val (.list evd), .pin, .un, a5, .un, a7, .val (.int 4), .val (.int 32), .val (.int 6197520), .val (.int (-7246096)), .un], []⟩) := by kernel_rfl
theorem b_4_33 (scr : D) (p q : Int) (a5 a7 a10 a11 : WSl) : restG ⟨[.val scr, .own [.int p, .int q], .val (.list evd), .pin, .un, a5, .un, a7, .val (.int 4), .val (.int 33), a10, a11, .un], []⟩ = some (.nx, ⟨[.val scr, .own [.int p, .int q], .val (.list evd), .pin, .un, a5, .un, a7, .val (.int 4), .val (.int 33), .val (.int 7246096), .val (.int (-8432017)), .un], []⟩) := by kernel_rfl
theorem b_4_34 (scr : D) (p q : Int) (a5 a7 a10 a11 : WSl) : restG ⟨[.val scr, .own [.int p, .int q], .val (.list evd), .pin, .un, a5, .un, a7, .val (.int 4), .val (.int 34), a10, a11, .un], []⟩ = some (.nx, ⟨[.val scr, .own [.int p, .int q], .val (.list evd), .pin, .un, a5, .un, a7, .val (.int 4), .val (.int 34), .val (.int 8432017), .val (.int (-9768353)), .un], []⟩) := by kernel_rfl
theorem b_4_35 (scr : D) (p q : Int) (a5 a7 a10 a11 : WSl) : restG ⟨[.val scr, .own [.int p, .int q], .val (.list evd), .pin, .un, a5, .un, a7, .val (.int 4), .val (.int 35), a10, a11, .un], []⟩ = some (.nx, ⟨[.val scr, .own [.int p, .int q], .val (.list evd), .pin, .un, a5, .un, a7, .val (.int 4), .val (.int 35), .val (.int 9768353), .val (.int (-11268978)), .un], []⟩) := by kernel_rfl
theorem b_4_36 (scr : D) (p q : Int) (a5 a7 a10 a11 : WSl) : restG ⟨[.val scr, .own [.int p, .int q], .val (.list evd), .pin, .un, a5, .un, a7, .val (.int 4), .val (.int 36), a10, a11, .un], []⟩ = some (.nx, ⟨[.val scr, .own [.int p, .int q], .val (.list evd), .pin, .un, a5, .un, a7, .val (.int 4), .val (.int 36), .val (.int 11268978), .val (.int (-12948594)), .un], []⟩) := by kernel_rfl
theorem b_4_37 (scr : D) (p q : Int) (a5 a7 a10 a11 : WSl) : restG ⟨[.val scr, .own [.int p, .int q], .val (.list evd), .pin, .un, a5, .un, a7, .val (.int 4), .val (.int 37), a10, a11, .un], []⟩ = some (.nx, ⟨[.val scr, .own [.int p, .int q], .val (.list evd), .pin, .un, a5, .un, a7, .val (.int 4), .val (.int 37), .val (.int 12948594), .val (.int (-14822755)), .un], []⟩) := by kernel_rfl
theorem b_4_38 (scr : D) (p q : Int) (a5 a7 a10 a11 : WSl) : restG ⟨[.val scr, .own [.int p, .int q], .val (.list evd), .pin, .un, a5, .un, a7, .val (.int 4), .val (.int 38), a10, a11, .un], []⟩ = some (.nx, ⟨[.val scr, .own [.int p, .int q], .val (.list evd), .pin, .un, a5, .un, a7, .val (.int 4), .val (.int 38), .val (.int 14822755), .val (.int (-16907891)), .un], []⟩) := by kernel_rfl
theorem b_4_39 (scr : D) (p q : Int) (a5 a7 a10 a11 : WSl) : restG ⟨[.val scr, .own [.int p, .int q], .val (.list evd), .pin, .un, a5, .un, a7, .val (.int 4), .val (.int 39), a10, a11, .un], []⟩ = some (.nx, ⟨[.val scr, .own [.int p, .int q], .val (.list evd), .pin, .un, a5, .un, a7, .val (.int 4), .val (.int 39), .val (.int 16907891), .val (.int (-19221332)), .un], []⟩) := by kernel_rfl
theorem b_5_0 (scr : D) (p q : Int) (a5 a7 a10 a11 : WSl) : restG ⟨[.val scr, .own [.int p, .int q], .val (.list evd), .pin, .un, a5, .un, a7, .val (.int 5), .val (.int 0), a10, a11, .un], []⟩ = some (.nx, ⟨[.val scr, .own [.int p, .int q], .val (.list evd), .pin, .un, a5, .un, a7, .val (.int 5), .val (.int 0), .val (.int 0), .val (.int 0), .un], []⟩) := by kernel_rfl
theorem b_5_1 (scr : D) (p q : Int) (a5 a7 a10 a11 : WSl) : restG ⟨[.val scr, .own [.int p, .int q], .val (.list evd), .pin, .un, a5, .un, a7, .val (.int 5), .val (.int 1), a10, a11, .un], []⟩ = some (.nx, ⟨[.val scr, .own [.int p, .int q], .val (.list evd), .pin, .un, a5, .un, a7, .val (.int 5), .val (.int 1), .val (.int 0), .val (.int 1), .un], []⟩) := by kernel_rfl
theorem b_5_2 (scr : D) (p q : Int) (a5 a7 a10 a11 : WSl) : restG ⟨[.val scr, .own [.int p, .int q], .val (.list evd), .pin, .un, a5, .un, a7, .val (.int 5), .val (.int 2), a10, a11, .un], []⟩ = some (.nx, ⟨[.val scr, .own [.int p, .int q], .val (.list evd), .pin, .un, a5, .un, a7, .val (.int 5), .val (.int 2), .val (.int 1), .val (.int 33), .un], []⟩) := by kernel_rfl
theorem b_5_3 (scr : D) (p q : Int) (a5 a7 a10 a11 : WSl) : restG ⟨[.val scr, .own [.int p, .int q], .val (.list evd), .pin, .un, a5, .un, a7, .val (.int 5), .val (.int 3), a10, a11, .un], []⟩ = some (.nx, ⟨[.val scr, .own [.int p, .int q], .val (.list evd), .pin, .un, a5, .un, a7, .val (.int 5), .val (.int 3), .val (.int 33), .val (.int 276), .un], []⟩) := by kernel_rfl
theorem b_5_4 (scr : D) (p q : Int) (a5 a7 a10 a11 : WSl) : restG ⟨[.val scr, .own [.int p, .int q], .val (.list evd), .pin, .un, a5, .un, a7, .val (.int 5), .val (.int 4), a10, a11, .un], []⟩ = some (.nx, ⟨[.val scr, .own [.int p, .int q], .val (.list evd), .pin, .un, a5, .un, a7, .val (.int 5), .val (.int 4), .val (.int 276), .val (.int 1300), .un], []⟩) := by kernel_rfl
theorem b_5_5 (scr : D) (p q : Int) (a5 a7 a10 a11 : WSl) : restG ⟨[.val scr, .own [.int p, .int q], .val (.list evd), .pin, .un, a5, .un, a7, .val (.int 5), .val (.int 5), a10, a11, .un], []⟩ = some (.nx, ⟨[.val scr, .own [.int p, .int q], .val (.list evd), .pin, .un, a5, .un, a7, .val (.int 5), .val (.int 5), .val (.int 1300), .val (.int 4425), .un], []⟩) := by kernel_rfl
theorem b_5_6 (scr : D) (p q : Int) (a5 a7 a10 a11 : WSl) : restG ⟨[.val scr, .own [.int p, .int q], .val (.list evd), .pin, .un, a5, .un, a7, .val (.int 5), .val (.int 6), a10, a11, .un], []⟩ = some (.nx, ⟨[.val scr, .own [.int p, .int q], .val (.list evd), .pin, .un, a5, .un, a7, .val (.int 5), .val (.int 6), .val (.int 4425), .val (.int 12201), .un], []⟩) := by kernel_rfl
theorem b_5_7 (scr : D) (p q : Int) (a5 a7 a10 a11 : WSl) : restG ⟨[.val scr, .own [.int p, .int q], .val (.list evd), .pin, .un, a5, .un, a7, .val (.int 5), .val (.int 7), a10, a11, .un], []⟩ = some (.nx, ⟨[.val scr, .own [.int p, .int q], .val (.list evd), .pin, .un, a5, .un, a7, .val (.int 5), .val (.int 7), .val (.int 12201), .val (.int 29008), .un], []⟩) := by kernel_rfl
theorem b_5_8 (scr : D) (p q : Int) (a5 a7 a10 a11 : WSl) : restG ⟨[.val scr, .own [.int p, .int q], .val (.list evd), .pin, .un, a5, .un, a7, .val (.int 5), .val (.int 8), a10, a11, .un], []⟩ = some (.nx, ⟨[.val scr, .own [.int p, .int q], .val (.list evd), .pin, .un, a5, .un, a7, .val (.int 5), .val (.int 8), .val (.int 29008), .val (.int 61776), .un], []⟩) := by kernel_rfl
theorem b_5_9 (scr : D) (p q : Int) (a5 a7 a10 a11 : WSl) : restG ⟨[.val scr, .own [.int p, .int q], .val (.list evd), .pin, .un, a5, .un, a7, .val (.int 5), .val (.int 9), a10, a11, .un], []⟩ = some (.nx, ⟨[.val scr, .own [.int p, .int q], .val (.list evd), .pin, .un, a5, .un, a7, .val (.int 5), .val (.int 9), .val (.int 61776), .val (.int 120825), .un], []⟩) := by kernel_rfl
theorem b_5_10 (scr : D) (p q : Int) (a5 a7 a10 a11 : WSl) : restG ⟨[.val scr, .own [.int p, .int q], .val (.list evd), .pin, .un, a5, .un, a7, .val (.int 5), .val (.int 10), a10, a11, .un], []⟩ = some (.nx, ⟨[.val scr, .own [.int p, .int q], .val (.list evd), .pin, .un, a5, .un, a7, .val (.int 5), .val (.int 10), .val (.int 120825), .val (.int 220825), .un], []⟩) := by kernel_rfl
theorem b_5_11 (scr : D) (p q : Int) (a5 a7 a10 a11 : WSl) : restG ⟨[.val scr, .own [.int p, .int q], .val (.list evd), .pin, .un, a5, .un, a7, .val (.int 5), .val (.int 11), a10, a11, .un], []⟩ = some (.nx, ⟨[.val scr, .own [.int p, .int q], .val (.list evd), .pin, .un, a5, .un, a7, .val (.int 5), .val (.int 11), .val (.int 220825), .val (.int 381876), .un], []⟩) := by kernel_rfl
theorem b_5_12 (scr : D) (p q : Int) (a5 a7 a10 a11 : WSl) : restG ⟨[.val scr, .own [.int p, .int q], .val (.list evd), .pin, .un, a5, .un, a7, .val (.int 5), .val (.int 12), a10, a11, .un], []⟩ = some (.nx, ⟨[.val scr, .own [.int p, .int q], .val (.list evd), .pin, .un, a5, .un, a7, .val (.int 5), .val (.int 12), .val (.int 381876), .val (.int 630708), .un], []⟩) := by kernel_rfl
theorem b_5_13 (scr : D) (p q : Int) (a5 a7 a10 a11 : WSl) : restG ⟨[.val scr, .own [.int p, .int q], .val (.list evd), .pin, .un, a5, .un, a7, .val (.int 5), .val (.int 13), a10, a11, .un], []⟩ = some (.nx, ⟨[.val scr, .own [.int p, .int q], .val (.list evd), .pin, .un, a5, .un, a7, .val (.int 5), .val (.int 13), .val (.int 630708), .val (.int 1002001), .un], []⟩) := by kernel_rfl
theorem b_5_14 (scr : D) (p q : Int) (a5 a7 a10 a11 : WSl) : restG ⟨[.val scr, .own [.int p, .int q], .val (.list evd), .pin, .un, a5, .un, a7, .val (.int 5), .val (.int 14), a10, a11, .un], []⟩ = some (.nx, ⟨[.val scr, .own [.int p, .int q], .val (.list evd), .pin, .un, a5, .un, a7, .val (.int 5), .val (.int 14), .val (.int 1002001), .val (.int 1539825), .un], []⟩) := by kernel_rfl
theorem b_5_15 (scr : D) (p q : Int) (a5 a7 a10 a11 : WSl) : restG ⟨[.val scr, .own [.int p, .int q], .val (.list evd), .pin, .un, a5, .un, a7, .val (.int 5), .val (.int 15), a10, a11, .un], []⟩ = some (.nx, ⟨[.val scr, .own [.int p, .int q], .val (.list evd), .pin, .un, a5, .un, a7, .val (.int 5), .val (.int 15), .val (.int 1539825), .val (.int 2299200), .un], []⟩) := by kernel_rfl
theorem b_5_16 (scr : D) (p q : Int) (a5 a7 a10 a11 : WSl) : restG ⟨[.val scr, .own [.int p, .int q], .val (.list evd), .pin, .un, a5, .un, a7, .val (.int 5), .val (.int 16), a10, a11, .un], []⟩ = some (.nx, ⟨[.val scr, .own [.int p, .int q], .val (.list evd), .pin, .un, a5, .un, a7, .val (.int 5), .val (.int 16), .val (.int 2299200), .val (.int 3347776), .un], []⟩) := by kernel_rfl
theorem b_5_17 (scr : D) (p q : Int) (a5 a7 a10 a11 : WSl) : restG ⟨[.val scr, .own [.int p, .int q], .val (.list evd), .pin, .un, a5, .un, a7, .val (.int 5), .val (.int 17), a10, a11, .un], []⟩ = some (.nx, ⟨[.val scr, .own [.int p, .int q], .val (.list evd), .pin, .un, a5, .un, a7, .val (.int 5), .val (.int 17), .val (.int 3347776), .val (.int 4767633), .un], []⟩) := by kernel_rfl
theorem b_5_18 (scr : D) (p q : Int) (a5 a7 a10 a11 : WSl) : restG ⟨[.val scr, .own [.int p, .int q], .val (.list evd), .pin, .un, a5, .un, a7, .val (.int 5), .val (.int 18), a10, a11, .un], []⟩ = some (.nx, ⟨[.val scr, .own [.int p, .int q], .val (.list evd), .pin, .un, a5, .un, a7, .val (.int 5), .val (.int 18), .val (.int 4767633), .val (.int 6657201), .un], []⟩) := by kernel_rfl
theorem b_5_19 (scr : D) (p q : Int) (a5 a7 a10 a11 : WSl) : restG ⟨[.val scr, .own [.int p, .int q], .val (.list evd), .pin, .un, a5, .un, a7, .val (.int 5), .val (.int 19), a10, a11, .un], []⟩ = some (.nx, ⟨[.val scr, .own [.int p, .int q], .val (.list evd), .pin, .un, a5, .un, a7, .val (.int 5), .val (.int 19), .val (.int 6657201), .val (.int 9133300), .un], []⟩) := by kernel_rfl
theorem b_5_20 (scr : D) (p q : Int) (a5 a7 a10 a11 : WSl) : restG ⟨[.val scr, .own [.int p, .int q], .val (.list evd), .pin, .un, a5, .un, a7, .val (.int 5), .val (.int 20), a10, a11, .un], []⟩ = some (.nx, ⟨[.val scr, .own [.int p, .int q], .val (.list evd), .pin, .un, a5, .un, a7, .val (.int 5), .val (.int 20), .val (.int 9133300), .val (.int 12333300), .un], []⟩) := by kernel_rfl
theorem b_5_21 (scr : D) (p q : Int) (a5 a7 a10 a11 : WSl) : restG ⟨[.val scr, .own [.int p, .int q], .val (.list evd), .pin, .un, a5, .un, a7, .val (.int 5), .val (.int 21), a10, a11, .un], []⟩ = some (.nx, ⟨[.val scr, .own [.int p, .int q], .val (.list evd), .pin, .un, a5, .un, a7, .val (.int 5), .val (.int 21), .val (.int 12333300), .val (.int 16417401), .un], []⟩) := by kernel_rfl
theorem b_5_22 (scr : D) (p q : Int) (a5 a7 a10 a11 : WSl) : restG ⟨[.val scr, .own [.int p, .int q], .val (.list evd), .pin, .un, a5, .un, a7, .val (.int 5), .val (.int 22), a10, a11, .un], []⟩ = some (.nx, ⟨[.val scr, .own [.int p, .int q], .val (.list evd), .pin, .un, a5, .un, a7, .val (.int 5), .val (.int 22), .val (.int 16417401), .val (.int 21571033), .un], []⟩) := by kernel_rfl
theorem b_5_23 (scr : D) (p q : Int) (a5 a7 a10 a11 : WSl) : restG ⟨[.val scr, .own [.int p, .int q], .val (.list evd), .pin, .un, a5, .un, a7, .val (.int 5), .val (.int 23), a10, a11, .un], []⟩ = some (.nx, ⟨[.val scr, .own [.int p, .int q], .val (.list evd), .pin, .un, a5, .un, a7, .val (.int 5), .val (.int 23), .val (.int 21571033), .val (.int 28007376), .un], []⟩) := by kernel_rfl
theorem b_5_24 (scr : D) (p q : Int) (a5 a7 a10 a11 : WSl) : restG ⟨[.val scr, .own [.int p, .int q], .val (.list evd), .pin, .un, a5, .un, a7, .val (.int 5), .val (.int 24), a10, a11, .un], []⟩ = some (.nx, ⟨[.val scr, .own [.int p, .int q], .val (.list evd), .pin, .un, a5, .un, a7, .val (.int 5), .val (.int 24), .val (.int 28007376), .val (.int 35970000), .un], []⟩) := by kernel_rfl
theorem b_5_25 (scr : D) (p q : Int) (a5 a7 a10 a11 : WSl) : restG ⟨[.val scr, .own [.int p, .int q], .val (.list evd), .pin, .un, a5, .un, a7, .val (.int 5), .val (.int 25), a10, a11, .un], []⟩ = some (.nx, ⟨[.val scr, .own [.int p, .int q], .val (.list evd), .pin, .un, a5, .un, a7, .val (.int 5), .val (.int 25), .val (.int 35970000), .val (.int 45735625), .un], []⟩) := by kernel_rfl
theorem b_5_26 (scr : D) (p q : Int) (a5 a7 a10 a11 : WSl) : restG ⟨[.val scr, .own [.int p, .int q], .val (.list evd), .pin, .un, a5, .un, a7, .val (.int 5), .val (.int 26), a10, a11, .un], []⟩ = some (.nx, ⟨[.val scr, .own [.int p, .int q], .val (.list evd), .pin, .un, a5, .un, a7, .val (.int 5), .val (.int 26), .val (.int 45735625), .val (.int 57617001), .un], []⟩) := by kernel_rfl
theorem b_5_27 (scr : D) (p q : Int) (a5 a7 a10 a11 : WSl) : restG ⟨[.val scr, .own [.int p, .int q], .val (.list evd), .pin, .un, a5, .un, a7, .val (.int 5), .val (.int 27), a10, a11, .un], []⟩ = some (.nx, ⟨[.val scr, .own [.int p, .int q], .val (.list evd), .pin, .un, a5, .un, a7, .val (.int 5), .val (.int 27), .val (.int 57617001), .val (.int 71965908), .un], []⟩) := by kernel_rfl
theorem b_5_28 (scr : D) (p q : Int) (a5 a7 a10 a11 : WSl) : restG ⟨[.val scr, .own [.int p, .int q], .val (.list evd), .pin, .un, a5, .un, a7, .val (.int 5), .val (.int 28), a10, a11, .un], []⟩ = some (.nx, ⟨[.val scr, .own [.int p, .int q], .val (.list evd), .pin, .un, a5, .un, a7, .val (.int 5), .val (.int 28), .val (.int 71965908), .val (.int 89176276), .un], []⟩) := by kernel_rfl
theorem b_5_29 (scr : D) (p q : Int) (a5 a7 a10 a11 : WSl) : restG ⟨[.val scr, .own [.int p, .int q], .val (.list evd), .pin, .un, a5, .un, a7, .val (.int 5), .val (.int 29), a10, a11, .un], []⟩ = some (.nx, ⟨[.val scr, .own [.int p, .int q], .val (.list evd), .pin, .un, a5, .un, a7, .val (.int 5), .val (.int 29), .val (.int 89176276), .val (.int 109687425), .un], []⟩) := by kernel_rfl
theorem b_5_30 (scr : D) (p q : Int) (a5 a7 a10 a11 : WSl) : restG ⟨[.val scr, .own [.int p, .int q], .val (.list evd), .pin, .un, a5, .un, a7, .val (.int 5), .val (.int 30), a10, a11, .un], []⟩ = some (.nx, ⟨[.val scr, .own [.int p, .int q], .val (.list evd), .pin, .un, a5, .un, a7, .val (.int 5), .val (.int 30), .val (.int 109687425), .val (.int 133987425), .un], []⟩) := by kernel_rfl
theorem b_5_31 (scr : D) (p q : Int) (a5 a7 a10 a11 : WSl) : restG ⟨[.val scr, .own [.int p, .int q], .val (.list evd), .pin, .un, a5, .un, a7, .val (.int 5), .val (.int 31), a10, a11, .un], []⟩ = some (.nx, ⟨[.val scr, .own [.int p, .int q], .val (.list evd), .pin, .un, a5, .un, a7, .val (.int 5), .val (.int 31), .val (.int 133987425), .val (.int 162616576), .un], []⟩) := by kernel_rfl
theorem b_5_32 (scr : D) (p q : Int) (a5 a7 a10 a11 : WSl) : restG ⟨[.val scr, .own [.int p, .int q], .val (.list evd), .pin, .un, a5, .un, a7, .val (.int 5), .val (.int 32), a10, a11, .un], []⟩ = some (.nx, ⟨[.val scr, .own [.int p, .int q], .val (.list evd), .pin, .un, a5, .un, a7, .val (.int 5), .val (.int 32), .val (.int 162616576), .val (.int 196171008), .un], []⟩) := by kernel_rfl
theorem b_5_33 (scr : D) (p q : Int) (a5 a7 a10 a11 : WSl) : restG ⟨[.val scr, .own [.int p, .int q], .val (.list evd), .pin, .un, a5, .un, a7, .val (.int 5), .val (.int 33), a10, a11, .un], []⟩ = some (.nx, ⟨[.val scr, .own [.int p, .int q], .val (.list evd), .pin, .un, a5, .un, a7, .val (.int 5), .val (.int 33), .val (.int 196171008), .val (.int 235306401), .un], []⟩) := by kernel_rfl
theorem b_5_34 (scr : D) (p q : Int) (a5 a7 a10 a11 : WSl) : restG ⟨[.val scr, .own [.int p, .int q], .val (.list evd), .pin, .un, a5, .un, a7, .val (.int 5), .val (.int 34), a10, a11, .un], []⟩ = some (.nx, ⟨[.val scr, .own [.int p, .int q], .val (.list evd), .pin, .un, a5, .un, a7, .val (.int 5), .val (.int 34), .val (.int 235306401), .val (.int 280741825), .un], []⟩) := by kernel_rfl
theorem b_5_35 (scr : D) (p q : Int) (a5 a7 a10 a11 : WSl) : restG ⟨[.val scr, .own [.int p, .int q], .val (.list evd), .pin, .un, a5, .un, a7, .val (.int 5), .val (.int 35), a10, a11, .un], []⟩ = some (.nx, ⟨[.val scr, .own [.int p, .int q], .val (.list evd), .pin, .un, a5, .un, a7, .val (.int 5), .val (.int 35), .val (.int 280741825), .val (.int 333263700), .un], []⟩) := by kernel_rfl
theorem b_5_36 (scr : D) (p q : Int) (a5 a7 a10 a11 : WSl) : restG ⟨[.val scr, .own [.int p, .int q], .val (.list evd), .pin, .un, a5, .un, a7, .val (.int 5), .val (.int 36), a10, a11, .un], []⟩ = some (.nx, ⟨[.val scr, .own [.int p, .int q], .val (.list evd), .pin, .un, a5, .un, a7, .val (.int 5), .val (.int 36), .val (.int 333263700), .val (.int 393729876), .un], []⟩) := by kernel_rfl
theorem b_5_37 (scr : D) (p q : Int) (a5 a7 a10 a11 : WSl) : restG ⟨[.val scr, .own [.int p, .int q], .val (.list evd), .pin, .un, a5, .un, a7, .val (.int 5), .val (.int 37), a10, a11, .un], []⟩ = some (.nx, ⟨[.val scr, .own [.int p, .int q], .val (.list evd), .pin, .un, a5, .un, a7, .val (.int 5), .val (.int 37), .val (.int 393729876), .val (.int 463073833), .un], []⟩) := by kernel_rfl
theorem b_5_38 (scr : D) (p q : Int) (a5 a7 a10 a11 : WSl) : restG ⟨[.val scr, .own [.int p, .int q], .val (.list evd), .pin, .un, a5, .un, a7, .val (.int 5), .val (.int 38), a10, a11, .un], []⟩ = some (.nx, ⟨[.val scr, .own [.int p, .int q], .val (.list evd), .pin, .un, a5, .un, a7, .val (.int 5), .val (.int 38), .val (.int 463073833), .val (.int 542309001), .un], []⟩) := by kernel_rfl
theorem b_5_39 (scr : D) (p q : Int) (a5 a7 a10 a11 : WSl) : restG ⟨[.val scr, .own [.int p, .int q], .val (.list evd), .pin, .un, a5, .un, a7, .val (.int 5), .val (.int 39), a10, a11, .un], []⟩ = some (.nx, ⟨[.val scr, .own [.int p, .int q], .val (.list evd), .pin, .un, a5, .un, a7, .val (.int 5), .val (.int 39), .val (.int 542309001), .val (.int 632533200), .un], []⟩) := by kernel_rfl
theorem b_6_0 (scr : D) (p q : Int) (a5 a7 a10 a11 : WSl) : restG ⟨[.val scr, .own [.int p, .int q], .val (.list evd), .pin, .un, a5, .un, a7, .val (.int 6), .val (.int 0), a10, a11, .un], []⟩ = some (.nx, ⟨[.val scr, .own [.int p, .int q], .val (.list evd), .pin, .un, a5, .un, a7, .val (.int 6), .val (.int 0), .val (.int 0), .val (.int 0), .un], []⟩) := by kernel_rfl
theorem b_6_1 (scr : D) (p q : Int) (a5 a7 a10 a11 : WSl) : restG ⟨[.val scr, .own [.int p, .int q], .val (.list evd), .pin, .un, a5, .un, a7, .val (.int 6), .val (.int 1), a10, a11, .un], []⟩ = some (.nx, ⟨[.val scr, .own [.int p, .int q], .val (.list evd), .pin, .un, a5, .un, a7, .val (.int 6), .val (.int 1), .val (.int 0), .val (.int (-1)), .un], []⟩) := by kernel_rfl
theorem b_6_2 (scr : D) (p q : Int) (a5 a7 a10 a11 : WSl) : restG ⟨[.val scr, .own [.int p, .int q], .val (.list evd), .pin, .un, a5, .un, a7, .val (.int 6), .val (.int 2), a10, a11, .un], []⟩ = some (.nx, ⟨[.val scr, .own [.int p, .int q], .val (.list evd), .pin, .un, a5, .un, a7, .val (.int 6), .val (.int 2), .val (.int 1), .val (.int (-65)), .un], []⟩) := by kernel_rfl
theorem b_6_3 (scr : D) (p q : Int) (a5 a7 a10 a11 : WSl) : restG ⟨[.val scr, .own [.int p, .int q], .val (.list evd), .pin, .un, a5, .un, a7, .val (.int 6), .val (.int 3), a10, a11, .un], []⟩ = some (.nx, ⟨[.val scr, .own [.int p, .int q], .val (.list evd), .pin, .un, a5, .un, a7, .val (.int 6), .val (.int 3), .val (.int 65), .val (.int (-794)), .un], []⟩) := by kernel_rfl
theorem b_6_4 (scr : D) (p q : Int) (a5 a7 a10 a11 : WSl) : restG ⟨[.val scr, .own [.int p, .int q], .val (.list evd), .pin, .un, a5, .un, a7, .val (.int 6), .val (.int 4), a10, a11, .un], []⟩ = some (.nx, ⟨[.val scr, .own [.int p, .int q], .val (.list evd), .pin, .un, a5, .un, a7, .val (.int 6), .val (.int 4), .val (.int 794), .val (.int (-4890)), .un], []⟩) := by kernel_rfl
theorem b_6_5 (scr : D) (p q : Int) (a5 a7 a10 a11 : WSl) : restG ⟨[.val scr, .own [.int p, .int q], .val (.list evd), .pin, .un, a5, .un, a7, .val (.int 6), .val (.int 5), a10, a11, .un], []⟩ = some (.nx, ⟨[.val scr, .own [.int p, .int q], .val (.list evd), .pin, .un, a5, .un, a7, .val (.int 6), .val (.int 5), .val (.int 4890), .val (.int (-20515)), .un], []⟩) := by kernel_rfl
theorem b_6_6 (scr : D) (p q : Int) (a5 a7 a10 a11 : WSl) : restG ⟨[.val scr, .own [.int p, .int q], .val (.list evd), .pin, .un, a5, .un, a7, .val (.int 6), .val (.int 6), a10, a11, .un], []⟩ = some (.nx, ⟨[.val scr, .own [.int p, .int q], .val (.list evd), .pin, .un, a5, .un, a7, .val (.int 6), .val (.int 6), .val (.int 20515), .val (.int (-67171)), .un], []⟩) := by kernel_rfl
theorem b_6_7 (scr : D) (p q : Int) (a5 a7 a10 a11 : WSl) : restG ⟨[.val scr, .own [.int p, .int q], .val (.list evd), .pin, .un, a5, .un, a7, .val (.int 6), .val (.int 7), a10, a11, .un], []⟩ = some (.nx, ⟨[.val scr, .own [.int p, .int q], .val (.list evd), .pin, .un, a5, .un, a7, .val (.int 6), .val (.int 7), .val (.int 67171), .val (.int (-184820)), .un], []⟩) := by kernel_rfl
theorem b_6_8 (scr : D) (p q : Int) (a5 a7 a10 a11 : WSl) : restG ⟨[.val scr, .own [.int p, .int q], .val (.list evd), .pin, .un, a5, .un, a7, .val (.int 6), .val (.int 8), a10, a11, .un], []⟩ = some (.nx, ⟨[.val scr, .own [.int p, .int q], .val (.list evd), .pin, .un, a5, .un, a7, .val (.int 6), .val (.int 8), .val (.int 184820), .val (.int (-446964)), .un], []⟩) := by kernel_rfl
theorem b_6_9 (scr : D) (p q : Int) (a5 a7 a10 a11 : WSl) : restG ⟨[.val scr, .own [.int p, .int q], .val (.list evd), .pin, .un, a5, .un, a7, .val (.int 6), .val (.int 9), a10, a11, .un], []⟩ = some (.nx, ⟨[.val scr, .own [.int p, .int q], .val (.list evd), .pin, .un, a5, .un, a7, .val (.int 6), .val (.int 9), .val (.int 446964), .val (.int (-978405)), .un], []⟩) := by kernel_rfl
theorem b_6_10 (scr : D) (p q : Int) (a5 a7 a10 a11 : WSl) : restG ⟨[.val scr, .own [.int p, .int q], .val (.list evd), .pin, .un, a5, .un, a7, .val (.int 6), .val (.int 10), a10, a11, .un], []⟩ = some (.nx, ⟨[.val scr, .own [.int p, .int q], .val (.list evd), .pin, .un, a5, .un, a7, .val (.int 6), .val (.int 10), .val (.int 978405), .val (.int (-1978405)), .un], []⟩) := by kernel_rfl
theorem b_6_11 (scr : D) (p q : Int) (a5 a7 a10 a11 : WSl) : restG ⟨[.val scr, .own [.int p, .int q], .val (.list evd), .pin, .un, a5, .un, a7, .val (.int 6), .val (.int 11), a10, a11, .un], []⟩ = some (.nx, ⟨[.val scr, .own [.int p, .int q], .val (.list evd), .pin, .un, a5, .un, a7, .val (.int 6), .val (.int 11), .val (.int 1978405), .val (.int (-3749966)), .un], []⟩) := by kernel_rfl
theorem b_6_12 (scr : D) (p q : Int) (a5 a7 a10 a11 : WSl) : restG ⟨[.val scr, .own [.int p, .int q], .val (.list evd), .pin, .un, a5, .un, a7, .val (.int 6), .val (.int 12), a10, a11, .un], []⟩ = some (.nx, ⟨[.val scr, .own [.int p, .int q], .val (.list evd), .pin, .un, a5, .un, a7, .val (.int 6), .val (.int 12), .val (.int 3749966), .val (.int (-6735950)), .un], []⟩) := by kernel_rfl
theorem b_6_13 (scr : D) (p q : Int) (a5 a7 a10 a11 : WSl) : restG ⟨[.val scr, .own [.int p, .int q], .val (.list evd), .pin, .un, a5, .un, a7, .val (.int 6), .val (.int 13), a10, a11, .un], []⟩ = some (.nx, ⟨[.val scr, .own [.int p, .int q], .val (.list evd), .pin, .un, a5, .un, a7, .val (.int 6), .val (.int 13), .val (.int 6735950), .val (.int (-11562759)), .un], []⟩) := by kernel_rfl
theorem b_6_14 (scr : D) (p q : Int) (a5 a7 a10 a11 : WSl) : restG ⟨[.val scr, .own [.int p, .int q], .val (.list evd), .pin, .un, a5, .un, a7, .val (.int 6), .val (.int 14), a10, a11, .un], []⟩ = some (.nx, ⟨[.val scr, .own [.int p, .int q], .val (.list evd), .pin, .un, a5, .un, a7, .val (.int 6), .val (.int 14), .val (.int 11562759), .val (.int (-19092295)), .un], []⟩) := by kernel_rfl
theorem b_6_15 (scr : D) (p q : Int) (a5 a7 a10 a11 : WSl) : restG ⟨[.val scr, .own [.int p, .int q], .val (.list evd), .pin, .un, a5, .un, a7, .val (.int 6), .val (.int 15), a10, a11, .un], []⟩ = some (.nx, ⟨[.val scr, .own [.int p, .int q], .val (.list evd), .pin, .un, a5, .un, a7, .val (.int 6), .val (.int 15), .val (.int 19092295), .val (.int (-30482920)), .un], []⟩) := by kernel_rfl
theorem b_6_16 (scr : D) (p q : Int) (a5 a7 a10 a11 : WSl) : restG ⟨[.val scr, .own [.int p, .int q], .val (.list evd), .pin, .un, a5, .un, a7, .val (.int 6), .val (.int 16), a10, a11, .un], []⟩ = some (.nx, ⟨[.val scr, .own [.int p, .int q], .val (.list evd), .pin, .un, a5, .un, a7, .val (.int 6), .val (.int 16), .val (.int 30482920), .val (.int (-47260136)), .un], []⟩) := by kernel_rfl
theorem b_6_17 (scr : D) (p q : Int) (a5 a7 a10 a11 : WSl) : restG ⟨[.val scr, .own [.int p, .int q], .val (.list evd), .pin, .un, a5, .un, a7, .val (.int 6), .val (.int 17), a10, a11, .un], []⟩ = some (.nx, ⟨[.val scr, .own [.int p, .int q], .val (.list evd), .pin, .un, a5, .un, a7, .val (.int 6), .val (.int 17), .val (.int 47260136), .val (.int (-71397705)), .un], []⟩) := by kernel_rfl
theorem b_6_18 (scr : D) (p q : Int) (a5 a7 a10 a11 : WSl) : restG ⟨[.val scr, .own [.int p, .int q], .val (.list evd), .pin, .un, a5, .un, a7, .val (.int 6), .val (.int 18), a10, a11, .un], []⟩ = some (.nx, ⟨[.val scr, .own [.int p, .int q], .val (.list evd), .pin, .un, a5, .un, a7, .val (.int 6), .val (.int 18), .val (.int 71397705), .val (.int (-105409929)), .un], []⟩) := by kernel_rfl
theorem b_6_19 (scr : D) (p q : Int) (a5 a7 a10 a11 : WSl) : restG ⟨[.val scr, .own [.int p, .int q], .val (.list evd), .pin, .un, a5, .un, a7, .val (.int 6), .val (.int 19), a10, a11, .un], []⟩ = some (.nx, ⟨[.val scr, .own [.int p, .int q], .val (.list evd), .pin, .un, a5, .un, a7, .val (.int 6), .val (.int 19), .val (.int 105409929), .val (.int (-152455810)), .un], []⟩) := by kernel_rfl
theorem b_6_20 (scr : D) (p q : Int) (a5 a7 a10 a11 : WSl) : restG ⟨[.val scr, .own [.int p, .int q], .val (.list evd), .pin, .un, a5, .un, a7, .val (.int 6), .val (.int 20), a10, a11, .un], []⟩ = some (.nx, ⟨[.val scr, .own [.int p, .int q], .val (.list evd), .pin, .un, a5, .un, a7, .val (.int 6), .val (.int 20), .val (.int 152455810), .val (.int (-216455810)), .un], []⟩) := by kernel_rfl
theorem b_6_21 (scr : D) (p q : Int) (a5 a7 a10 a11 : WSl) : restG ⟨[.val scr, .own [.int p, .int q], .val (.list evd), .pin, .un, a5, .un, a7, .val (.int 6), .val (.int 21), a10, a11, .un], []⟩ = some (.nx, ⟨[.val scr, .own [.int p, .int q], .val (.list evd), .pin, .un, a5, .un, a7, .val (.int 6), .val (.int 21), .val (.int 216455810), .val (.int (-302221931)), .un], []⟩) := by kernel_rfl
theorem b_6_22 (scr : D) (p q : Int) (a5 a7 a10 a11 : WSl) : restG ⟨[.val scr, .own [.int p, .int q], .val (.list evd), .pin, .un, a5, .un, a7, .val (.int 6), .val (.int 22), a10, a11, .un], []⟩ = some (.nx, ⟨[.val scr, .own [.int p, .int q], .val (.list evd), .pin, .un, a5, .un, a7, .val (.int 6), .val (.int 22), .val (.int 302221931), .val (.int (-415601835)), .un], []⟩) := by kernel_rfl
theorem b_6_23 (scr : D) (p q : Int) (a5 a7 a10 a11 : WSl) : restG ⟨[.val scr, .own [.int p, .int q], .val (.list evd), .pin, .un, a5, .un, a7, .val (.int 6), .val (.int 23), a10, a11, .un], []⟩ = some (.nx, ⟨[.val scr, .own [.int p, .int q], .val (.list evd), .pin, .un, a5, .un, a7, .val (.int 6), .val (.int 23), .val (.int 415601835), .val (.int (-563637724)), .un], []⟩) := by kernel_rfl
theorem b_6_24 (scr : D) (p q : Int) (a5 a7 a10 a11 : WSl) : restG ⟨[.val scr, .own [.int p, .int q], .val (.list evd), .pin, .un, a5, .un, a7, .val (.int 6), .val (.int 24), a10, a11, .un], []⟩ = some (.nx, ⟨[.val scr, .own [.int p, .int q], .val (.list evd), .pin, .un, a5, .un, a7, .val (.int 6), .val (.int 24), .val (.int 563637724), .val (.int (-754740700)), .un], []⟩) := by kernel_rfl
theorem b_6_25 (scr : D) (p q : Int) (a5 a7 a10 a11 : WSl) : restG ⟨[.val scr, .own [.int p, .int q], .val (.list evd), .pin, .un, a5, .un, a7, .val (.int 6), .val (.int 25), a10, a11, .un], []⟩ = some (.nx, ⟨[.val scr, .own [.int p, .int q], .val (.list evd), .pin, .un, a5, .un, a7, .val (.int 6), .val (.int 25), .val (.int 754740700), .val (.int (-998881325)), .un], []⟩) := by kernel_rfl
theorem b_6_26 (scr : D) (p q : Int) (a5 a7 a10 a11 : WSl) : restG ⟨[.val scr, .own [.int p, .int q], .val (.list evd), .pin, .un, a5, .un, a7, .val (.int 6), .val (.int 26), a10, a11, .un], []⟩ = some (.nx, ⟨[.val scr, .own [.int p, .int q], .val (.list evd), .pin, .un, a5, .un, a7, .val (.int 6), .val (.int 26), .val (.int 998881325), .val (.int (-1307797101)), .un], []⟩) := by kernel_rfl
theorem b_6_27 (scr : D) (p q : Int) (a5 a7 a10 a11 : WSl) : restG ⟨[.val scr, .own [.int p, .int q], .val (.list evd), .pin, .un, a5, .un, a7, .val (.int 6), .val (.int 27), a10, a11, .un], []⟩ = some (.nx, ⟨[.val scr, .own [.int p, .int q], .val (.list evd), .pin, .un, a5, .un, a7, .val (.int 6), .val (.int 27), .val (.int 1307797101), .val (.int (-1695217590)), .un], []⟩) := by kernel_rfl
theorem b_6_28 (scr : D) (p q : Int) (a5 a7 a10 a11 : WSl) : restG ⟨[.val scr, .own [.int p, .int q], .val (.list evd), .pin, .un, a5, .un, a7, .val (.int 6), .val (.int 28), a10, a11, .un], []⟩ = some (.nx, ⟨[.val scr, .own [.int p, .int q], .val (.list evd), .pin, .un, a5, .un, a7, .val (.int 6), .val (.int 28), .val (.int 1695217590), .val (.int (-2177107894)), .un], []⟩) := by kernel_rfl
theorem b_6_29 (scr : D) (p q : Int) (a5 a7 a10 a11 : WSl) : restG ⟨[.val scr, .own [.int p, .int q], .val (.list evd), .pin, .un, a5, .un, a7, .val (.int 6), .val (.int 29), a10, a11, .un], []⟩ = some (.nx, ⟨[.val scr, .own [.int p, .int q], .val (.list evd), .pin, .un, a5, .un, a7, .val (.int 6), .val (.int 29), .val (.int 2177107894), .val (.int (-2771931215)), .un], []⟩) := by kernel_rfl
theorem b_6_30 (scr : D) (p q : Int) (a5 a7 a10 a11 : WSl) : restG ⟨[.val scr, .own [.int p, .int q], .val (.list evd), .pin, .un, a5, .un, a7, .val (.int 6), .val (.int 30), a10, a11, .un], []⟩ = some (.nx, ⟨[.val scr, .own [.int p, .int q], .val (.list evd), .pin, .un, a5, .un, a7, .val (.int 6), .val (.int 30), .val (.int 2771931215), .val (.int (-3500931215)), .un], []⟩) := by kernel_rfl
theorem b_6_31 (scr : D) (p q : Int) (a5 a7 a10 a11 : WSl) : restG ⟨[.val scr, .own [.int p, .int q], .val (.list evd), .pin, .un, a5, .un, a7, .val (.int 6), .val (.int 31), a10, a11, .un], []⟩ = some (.nx, ⟨[.val scr, .own [.int p, .int q], .val (.list evd), .pin, .un, a5, .un, a7, .val (.int 6), .val (.int 31), .val (.int 3500931215), .val (.int (-4388434896)), .un], []⟩) := by kernel_rfl
theorem b_6_32 (scr : D) (p q : Int) (a5 a7 a10 a11 : WSl) : restG ⟨[.val scr, .own [.int p, .int q], .val (.list evd), .pin, .un, a5, .un, a7, .val (.int 6), .val (.int 32), a10, a11, .un], []⟩ = some (.nx, ⟨[.val scr, .own [.int p, .int q], .val (.list evd), .pin, .un, a5, .un, a7, .val (.int 6), .val (.int 32), .val (.int 4388434896), .val (.int (-5462176720)), .un], []⟩) := by kernel_rfl
theorem b_6_33 (scr : D) (p q : Int) (a5 a7 a10 a11 : WSl) : restG ⟨[.val scr, .own [.int p, .int q], .val (.list evd), .pin, .un, a5, .un, a7, .val (.int 6), .val (.int 33), a10, a11, .un], []⟩ = some (.nx, ⟨[.val scr, .own [.int p, .int q], .val (.list evd), .pin, .un, a5, .un, a7, .val (.int 6), .val (.int 33), .val (.int 5462176720), .val (.int (-6753644689)), .un], []⟩) := by kernel_rfl
theorem b_6_34 (scr : D) (p q : Int) (a5 a7 a10 a11 : WSl) : restG ⟨[.val scr, .own [.int p, .int q], .val (.list evd), .pin, .un, a5, .un, a7, .val (.int 6), .val (.int 34), a10, a11, .un], []⟩ = some (.nx, ⟨[.val scr, .own [.int p, .int q], .val (.list evd), .pin, .un, a5, .un, a7, .val (.int 6), .val (.int 34), .val (.int 6753644689), .val (.int (-8298449105)), .un], []⟩) := by kernel_rfl
theorem b_6_35 (scr : D) (p q : Int) (a5 a7 a10 a11 : WSl) : restG ⟨[.val scr, .own [.int p, .int q], .val (.list evd), .pin, .un, a5, .un, a7, .val (.int 6), .val (.int 35), a10, a11, .un], []⟩ = some (.nx, ⟨[.val scr, .own [.int p, .int q], .val (.list evd), .pin, .un, a5, .un, a7, .val (.int 6), .val (.int 35), .val (.int 8298449105), .val (.int (-10136714730)), .un], []⟩) := by kernel_rfl
theorem b_6_36 (scr : D) (p q : Int) (a5 a7 a10 a11 : WSl) : restG ⟨[.val scr, .own [.int p, .int q], .val (.list evd), .pin, .un, a5, .un, a7, .val (.int 6), .val (.int 36), a10, a11, .un], []⟩ = some (.nx, ⟨[.val scr, .own [.int p, .int q], .val (.list evd), .pin, .un, a5, .un, a7, .val (.int 6), .val (.int 36), .val (.int 10136714730), .val (.int (-12313497066)), .un], []⟩) := by kernel_rfl
theorem b_6_37 (scr : D) (p q : Int) (a5 a7 a10 a11 : WSl) : restG ⟨[.val scr, .own [.int p, .int q], .val (.list evd), .pin, .un, a5, .un, a7, .val (.int 6), .val (.int 37), a10, a11, .un], []⟩ = some (.nx, ⟨[.val scr, .own [.int p, .int q], .val (.list evd), .pin, .un, a5, .un, a7, .val (.int 6), .val (.int 37), .val (.int 12313497066), .val (.int (-14879223475)), .un], []⟩) := by kernel_rfl
theorem b_6_38 (scr : D) (p q : Int) (a5 a7 a10 a11 : WSl) : restG ⟨[.val scr, .own [.int p, .int q], .val (.list evd), .pin, .un, a5, .un, a7, .val (.int 6), .val (.int 38), a10, a11, .un], []⟩ = some (.nx, ⟨[.val scr, .own [.int p, .int q], .val (.list evd), .pin, .un, a5, .un, a7, .val (.int 6), .val (.int 38), .val (.int 14879223475), .val (.int (-17890159859)), .un], []⟩) := by kernel_rfl
theorem b_6_39 (scr : D) (p q : Int) (a5 a7 a10 a11 : WSl) : restG ⟨[.val scr, .own [.int p, .int q], .val (.list evd), .pin, .un, a5, .un, a7, .val (.int 6), .val (.int 39), a10, a11, .un], []⟩ = some (.nx, ⟨[.val scr, .own [.int p, .int q], .val (.list evd), .pin, .un, a5, .un, a7, .val (.int 6), .val (.int 39), .val (.int 17890159859), .val (.int (-21408903620)), .un], []⟩) := by kernel_rfl
theorem b_7_0 (scr : D) (p q : Int) (a5 a7 a10 a11 : WSl) : restG ⟨[.val scr, .own [.int p, .int q], .val (.list evd), .pin, .un, a5, .un, a7, .val (.int 7), .val (.int 0), a10, a11, .un], []⟩ = some (.nx, ⟨[.val scr, .own [.int p, .int q], .val (.list evd), .pin, .un, a5, .un, a7, .val (.int 7), .val (.int 0), .val (.int 0), .val (.int 0), .un], []⟩) := by kernel_rfl
theorem b_7_1 (scr : D) (p q : Int) (a5 a7 a10 a11 : WSl) : restG ⟨[.val scr, .own [.int p, .int q], .val (.list evd), .pin, .un, a5, .un, a7, .val (.int 7), .val (.int 1), a10, a11, .un], []⟩ = some (.nx, ⟨[.val scr, .own [.int p, .int q], .val (.list evd), .pin, .un, a5, .un, a7, .val (.int 7), .val (.int 1), .val (.int 0), .val (.int 1), .un], []⟩) := by kernel_rfl
theorem b_7_2 (scr : D) (p q : Int) (a5 a7 a10 a11 : WSl) : restG ⟨[.val scr, .own [.int p, .int q], .val (.list evd), .pin, .un, a5, .un, a7, .val (.int 7), .val (.int 2), a10, a11, .un], []⟩ = some (.nx, ⟨[.val scr, .own [.int p, .int q], .val (.list evd), .pin, .un, a5, .un, a7, .val (.int 7), .val (.int 2), .val (.int 1), .val (.int 129), .un], []⟩) := by kernel_rfl
theorem b_7_3 (scr : D) (p q : Int) (a5 a7 a10 a11 : WSl) : restG ⟨[.val scr, .own [.int p, .int q], .val (.list evd), .pin, .un, a5, .un, a7, .val (.int 7), .val (.int 3), a10, a11, .un], []⟩ = some (.nx, ⟨[.val scr, .own [.int p, .int q], .val (.list evd), .pin, .un, a5, .un, a7, .val (.int 7), .val (.int 3), .val (.int 129), .val (.int 2316), .un], []⟩) := by kernel_rfl
theorem b_7_4 (scr : D) (p q : Int) (a5 a7 a10 a11 : WSl) : restG ⟨[.val scr, .own [.int p, .int q], .val (.list evd), .pin, .un, a5, .un, a7, .val (.int 7), .val (.int 4), a10, a11, .un], []⟩ = some (.nx, ⟨[.val scr, .own [.int p, .int q], .val (.list evd), .pin, .un, a5, .un, a7, .val (.int 7), .val (.int 4), .val (.int 2316), .val (.int 18700), .un], []⟩) := by kernel_rfl
theorem b_7_5 (scr : D) (p q : Int) (a5 a7 a10 a11 : WSl) : restG ⟨[.val scr, .own [.int p, .int q], .val (.list evd), .pin, .un, a5, .un, a7, .val (.int 7), .val (.int 5), a10, a11, .un], []⟩ = some (.nx, ⟨[.val scr, .own [.int p, .int q], .val (.list evd), .pin, .un, a5, .un, a7, .val (.int 7), .val (.int 5), .val (.int 18700), .val (.int 96825), .un], []⟩) := by kernel_rfl
theorem b_7_6 (scr : D) (p q : Int) (a5 a7 a10 a11 : WSl) : restG ⟨[.val scr, .own [.int p, .int q], .val (.list evd), .pin, .un, a5, .un, a7, .val (.int 7), .val (.int 6), a10, a11, .un], []⟩ = some (.nx, ⟨[.val scr, .own [.int p, .int q], .val (.list evd), .pin, .un, a5, .un, a7, .val (.int 7), .val (.int 6), .val (.int 96825), .val (.int 376761), .un], []⟩) := by kernel_rfl
theorem b_7_7 (scr : D) (p q : Int) (a5 a7 a10 a11 : WSl) : restG ⟨[.val scr, .own [.int p, .int q], .val (.list evd), .pin, .un, a5, .un, a7, .val (.int 7), .val (.int 7), a10, a11, .un], []⟩ = some (.nx, ⟨[.val scr, .own [.int p, .int q], .val (.list evd), .pin, .un, a5, .un, a7, .val (.int 7), .val (.int 7), .val (.int 376761), .val (.int 1200304), .un], []⟩) := by kernel_rfl
theorem b_7_8 (scr : D) (p q : Int) (a5 a7 a10 a11 : WSl) : restG ⟨[.val scr, .own [.int p, .int q], .val (.list evd), .pin, .un, a5, .un, a7, .val (.int 7), .val (.int 8), a10, a11, .un], []⟩ = some (.nx, ⟨[.val scr, .own [.int p, .int q], .val (.list evd), .pin, .un, a5, .un, a7, .val (.int 7), .val (.int 8), .val (.int 1200304), .val (.int 3297456), .un], []⟩) := by kernel_rfl
theorem b_7_9 (scr : D) (p q : Int) (a5 a7 a10 a11 : WSl) : restG ⟨[.val scr, .own [.int p, .int q], .val (.list evd), .pin, .un, a5, .un, a7, .val (.int 7), .val (.int 9), a10, a11, .un], []⟩ = some (.nx, ⟨[.val scr, .own [.int p, .int q], .val (.list evd), .pin, .un, a5, .un, a7, .val (.int 7), .val (.int 9), .val (.int 3297456), .val (.int 8080425), .un], []⟩) := by kernel_rfl
theorem b_7_10 (scr : D) (p q : Int) (a5 a7 a10 a11 : WSl) : restG ⟨[.val scr, .own [.int p, .int q], .val (.list evd), .pin, .un, a5, .un, a7, .val (.int 7), .val (.int 10), a10, a11, .un], []⟩ = some (.nx, ⟨[.val scr, .own [.int p, .int q], .val (.list evd), .pin, .un, a5, .un, a7, .val (.int 7), .val (.int 10), .val (.int 8080425), .val (.int 18080425), .un], []⟩) := by kernel_rfl
theorem b_7_11 (scr : D) (p q : Int) (a5 a7 a10 a11 : WSl) : restG ⟨[.val scr, .own [.int p, .int q], .val (.list evd), .pin, .un, a5, .un, a7, .val (.int 7), .val (.int 11), a10, a11, .un], []⟩ = some (.nx, ⟨[.val scr, .own [.int p, .int q], .val (.list evd), .pin, .un, a5, .un, a7, .val (.int 7), .val (.int 11), .val (.int 18080425), .val (.int 37567596), .un], []⟩) := by kernel_rfl
theorem b_7_12 (scr : D) (p q : Int) (a5 a7 a10 a11 : WSl) : restG ⟨[.val scr, .own [.int p, .int q], .val (.list evd), .pin, .un, a5, .un, a7, .val (.int 7), .val (.int 12), a10, a11, .un], []⟩ = some (.nx, ⟨[.val scr, .own [.int p, .int q], .val (.list evd), .pin, .un, a5, .un, a7, .val (.int 7), .val (.int 12), .val (.int 37567596), .val (.int 73399404), .un], []⟩) := by kernel_rfl
theorem b_7_13 (scr : D) (p q : Int) (a5 a7 a10 a11 : WSl) : restG ⟨[.val scr, .own [.int p, .int q], .val (.list evd), .pin, .un, a5, .un, a7, .val (.int 7), .val (.int 13), a10, a11, .un], []⟩ = some (.nx, ⟨[.val scr, .own [.int p, .int q], .val (.list evd), .pin, .un, a5, .un, a7, .val (.int 7), .val (.int 13), .val (.int 73399404), .val (.int 136147921), .un], []⟩) := by kernel_rfl
theorem b_7_14 (scr : D) (p q : Int) (a5 a7 a10 a11 : WSl) : restG ⟨[.val scr, .own [.int p, .int q], .val (.list evd), .pin, .un, a5, .un, a7, .val (.int 7), .val (.int 14), a10, a11, .un], []⟩ = some (.nx, ⟨[.val scr, .own [.int p, .int q], .val (.list evd), .pin, .un, a5, .un, a7, .val (.int 7), .val (.int 14), .val (.int 136147921), .val (.int 241561425), .un], []⟩) := by kernel_rfl
theorem b_7_15 (scr : D) (p q : Int) (a5 a7 a10 a11 : WSl) : restG ⟨[.val scr, .own [.int p, .int q], .val (.list evd), .pin, .un, a5, .un, a7, .val (.int 7), .val (.int 15), a10, a11, .un], []⟩ = some (.nx, ⟨[.val scr, .own [.int p, .int q], .val (.list evd), .pin, .un, a5, .un, a7, .val (.int 7), .val (.int 15), .val (.int 241561425), .val (.int 412420800), .un], []⟩) := by kernel_rfl
theorem b_7_16 (scr : D) (p q : Int) (a5 a7 a10 a11 : WSl) : restG ⟨[.val scr, .own [.int p, .int q], .val (.list evd), .pin, .un, a5, .un, a7, .val (.int 7), .val (.int 16), a10, a11, .un], []⟩ = some (.nx, ⟨[.val scr, .own [.int p, .int q], .val (.list evd), .pin, .un, a5, .un, a7, .val (.int 7), .val (.int 16), .val (.int 412420800), .val (.int 680856256), .un], []⟩) := by kernel_rfl
theorem b_7_17 (scr : D) (p q : Int) (a5 a7 a10 a11 : WSl) : restG ⟨[.val scr, .own [.int p, .int q], .val (.list evd), .pin, .un, a5, .un, a7, .val (.int 7), .val (.int 17), a10, a11, .un], []⟩ = some (.nx, ⟨[.val scr, .own [.int p, .int q], .val (.list evd), .pin, .un, a5, .un, a7, .val (.int 7), .val (.int 17), .val (.int 680856256), .val (.int 1091194929), .un], []⟩) := by kernel_rfl
theorem b_7_18 (scr : D) (p q : Int) (a5 a7 a10 a11 : WSl) : restG ⟨[.val scr, .own [.int p, .int q], .val (.list evd), .pin, .un, a5, .un, a7, .val (.int 7), .val (.int 18), a10, a11, .un], []⟩ = some (.nx, ⟨[.val scr, .own [.int p, .int q], .val (.list evd), .pin, .un, a5, .un, a7, .val (.int 7), .val (.int 18), .val (.int 1091194929), .val (.int 1703414961), .un], []⟩) := by kernel_rfl
theorem b_7_19 (scr : D) (p q : Int) (a5 a7 a10 a11 : WSl) : restG ⟨[.val scr, .own [.int p, .int q], .val (.list evd), .pin, .un, a5, .un, a7, .val (.int 7), .val (.int 19), a10, a11, .un], []⟩ = some (.nx, ⟨[.val scr, .own [.int p, .int q], .val (.list evd), .pin, .un, a5, .un, a7, .val (.int 7), .val (.int 19), .val (.int 1703414961), .val (.int 2597286700), .un], []⟩) := by kernel_rfl
theorem b_7_20 (scr : D) (p q : Int) (a5 a7 a10 a11 : WSl) : restG ⟨[.val scr, .own [.int p, .int q], .val (.list evd), .pin, .un, a5, .un, a7, .val (.int 7), .val (.int 20), a10, a11, .un], []⟩ = some (.nx, ⟨[.val scr, .own [.int p, .int q], .val (.list evd), .pin, .un, a5, .un, a7, .val (.int 7), .val (.int 20), .val (.int 2597286700), .val (.int 3877286700), .un], []⟩) := by kernel_rfl
theorem b_7_21 (scr : D) (p q : Int) (a5 a7 a10 a11 : WSl) : restG ⟨[.val scr, .own [.int p, .int q], .val (.list evd), .pin, .un, a5, .un, a7, .val (.int 7), .val (.int 21), a10, a11, .un], []⟩ = some (.nx, ⟨[.val scr, .own [.int p, .int q], .val (.list evd), .pin, .un, a5, .un, a7, .val (.int 7), .val (.int 21), .val (.int 3877286700), .val (.int 5678375241), .un], []⟩) := by kernel_rfl
theorem b_7_22 (scr : D) (p q : Int) (a5 a7 a10 a11 : WSl) : restG ⟨[.val scr, .own [.int p, .int q], .val (.list evd), .pin, .un, a5, .un, a7, .val (.int 7), .val (.int 22), a10, a11, .un], []⟩ = some (.nx, ⟨[.val scr, .own [.int p, .int q], .val (.list evd), .pin, .un, a5, .un, a7, .val (.int 7), .val (.int 22), .val (.int 5678375241), .val (.int 8172733129), .un], []⟩) := by kernel_rfl
theorem b_7_23 (scr : D) (p q : Int) (a5 a7 a10 a11 : WSl) : restG ⟨[.val scr, .own [.int p, .int q], .val (.list evd), .pin, .un, a5, .un, a7, .val (.int 7), .val (.int 23), a10, a11, .un], []⟩ = some (.nx, ⟨[.val scr, .own [.int p, .int q], .val (.list evd), .pin, .un, a5, .un, a7, .val (.int 7), .val (.int 23), .val (.int 8172733129), .val (.int 11577558576), .un], []⟩) := by kernel_rfl
theorem b_7_24 (scr : D) (p q : Int) (a5 a7 a10 a11 : WSl) : restG ⟨[.val scr, .own [.int p, .int q], .val (.list evd), .pin, .un, a5, .un, a7, .val (.int 7), .val (.int 24), a10, a11, .un], []⟩ = some (.nx, ⟨[.val scr, .own [.int p, .int q], .val (.list evd), .pin, .un, a5, .un, a7, .val (.int 7), .val (.int 24), .val (.int 11577558576), .val (.int 16164030000), .un], []⟩) := by kernel_rfl
theorem b_7_25 (scr : D) (p q : Int) (a5 a7 a10 a11 : WSl) : restG ⟨[.val scr, .own [.int p, .int q], .val (.list evd), .pin, .un, a5, .un, a7, .val (.int 7), .val (.int 25), a10, a11, .un], []⟩ = some (.nx, ⟨[.val scr, .own [.int p, .int q], .val (.list evd), .pin, .un, a5, .un, a7, .val (.int 7), .val (.int 25), .val (.int 16164030000), .val (.int 22267545625), .un], []⟩) := by kernel_rfl
theorem b_7_26 (scr : D) (p q : Int) (a5 a7 a10 a11 : WSl) : restG ⟨[.val scr, .own [.int p, .int q], .val (.list evd), .pin, .un, a5, .un, a7, .val (.int 7), .val (.int 26), a10, a11, .un], []⟩ = some (.nx, ⟨[.val scr, .own [.int p, .int q], .val (.list evd), .pin, .un, a5, .un, a7, .val (.int 7), .val (.int 26), .val (.int 22267545625), .val (.int 30299355801), .un], []⟩) := by kernel_rfl
theorem b_7_27 (scr : D) (p q : Int) (a5 a7 a10 a11 : WSl) : restG ⟨[.val scr, .own [.int p, .int q], .val (.list evd), .pin, .un, a5, .un, a7, .val (.int 7), .val (.int 27), a10, a11, .un], []⟩ = some (.nx, ⟨[.val scr, .own [.int p, .int q], .val (.list evd), .pin, .un, a5, .un, a7, .val (.int 7), .val (.int 27), .val (.int 30299355801), .val (.int 40759709004), .un], []⟩) := by kernel_rfl
theorem b_7_28 (scr : D) (p q : Int) (a5 a7 a10 a11 : WSl) : restG ⟨[.val scr, .own [.int p, .int q], .val (.list evd), .pin, .un, a5, .un, a7, .val (.int 7), .val (.int 28), a10, a11, .un], []⟩ = some (.nx, ⟨[.val scr, .own [.int p, .int q], .val (.list evd), .pin, .un, a5, .un, a7, .val (.int 7), .val (.int 28), .val (.int 40759709004), .val (.int 54252637516), .un], []⟩) := by kernel_rfl
theorem b_7_29 (scr : D) (p q : Int) (a5 a7 a10 a11 : WSl) : restG ⟨[.val scr, .own [.int p, .int q], .val (.list evd), .pin, .un, a5, .un, a7, .val (.int 7), .val (.int 29), a10, a11, .un], []⟩ = some (.nx, ⟨[.val scr, .own [.int p, .int q], .val (.list evd), .pin, .un, a5, .un, a7, .val (.int 7), .val (.int 29), .val (.int 54252637516), .val (.int 71502513825), .un], []⟩) := by kernel_rfl
theorem b_7_30 (scr : D) (p q : Int) (a5 a7 a10 a11 : WSl) : restG ⟨[.val scr, .own [.int p, .int q], .val (.list evd), .pin, .un, a5, .un, a7, .val (.int 7), .val (.int 30), a10, a11, .un], []⟩ = some (.nx, ⟨[.val scr, .own [.int p, .int q], .val (.list evd), .pin, .un, a5, .un, a7, .val (.int 7), .val (.int 30), .val (.int 71502513825), .val (.int 93372513825), .un], []⟩) := by kernel_rfl
theorem b_7_31 (scr : D) (p q : Int) (a5 a7 a10 a11 : WSl) : restG ⟨[.val scr, .own [.int p, .int q], .val (.list evd), .pin, .un, a5, .un, a7, .val (.int 7), .val (.int 31), a10, a11, .un], []⟩ = some (.nx, ⟨[.val scr, .own [.int p, .int q], .val (.list evd), .pin, .un, a5, .un, a7, .val (.int 7), .val (.int 31), .val (.int 93372513825), .val (.int 120885127936), .un], []⟩) := by kernel_rfl
theorem b_7_32 (scr : D) (p q : Int) (a5 a7 a10 a11 : WSl) : restG ⟨[.val scr, .own [.int p, .int q], .val (.list evd), .pin, .un, a5, .un, a7, .val (.int 7), .val (.int 32), a10, a11, .un], []⟩ = some (.nx, ⟨[.val scr, .own [.int p, .int q], .val (.list evd), .pin, .un, a5, .un, a7, .val (.int 7), .val (.int 32), .val (.int 120885127936), .val (.int 155244866304), .un], []⟩) := by kernel_rfl
theorem b_7_33 (scr : D) (p q : Int) (a5 a7 a10 a11 : WSl) : restG ⟨[.val scr, .own [.int p, .int q], .val (.list evd), .pin, .un, a5, .un, a7, .val (.int 7), .val (.int 33), a10, a11, .un], []⟩ = some (.nx, ⟨[.val scr, .own [.int p, .int q], .val (.list evd), .pin, .un, a5, .un, a7, .val (.int 7), .val (.int 33), .val (.int 155244866304), .val (.int 197863309281), .un], []⟩) := by kernel_rfl
theorem b_7_34 (scr : D) (p q : Int) (a5 a7 a10 a11 : WSl) : restG ⟨[.val scr, .own [.int p, .int q], .val (.list evd), .pin, .un, a5, .un, a7, .val (.int 7), .val (.int 34), a10, a11, .un], []⟩ = some (.nx, ⟨[.val scr, .own [.int p, .int q], .val (.list evd), .pin, .un, a5, .un, a7, .val (.int 7), .val (.int 34), .val (.int 197863309281), .val (.int 250386659425), .un], []⟩) := by kernel_rfl
theorem b_7_35 (scr : D) (p q : Int) (a5 a7 a10 a11 : WSl) : restG ⟨[.val scr, .own [.int p, .int q], .val (.list evd), .pin, .un, a5, .un, a7, .val (.int 7), .val (.int 35), a10, a11, .un], []⟩ = some (.nx, ⟨[.val scr, .own [.int p, .int q], .val (.list evd), .pin, .un, a5, .un, a7, .val (.int 7), .val (.int 35), .val (.int 250386659425), .val (.int 314725956300), .un], []⟩) := by kernel_rfl
theorem b_7_36 (scr : D) (p q : Int) (a5 a7 a10 a11 : WSl) : restG ⟨[.val scr, .own [.int p, .int q], .val (.list evd), .pin, .un, a5, .un, a7, .val (.int 7), .val (.int 36), a10, a11, .un], []⟩ = some (.nx, ⟨[.val scr, .own [.int p, .int q], .val (.list evd), .pin, .un, a5, .un, a7, .val (.int 7), .val (.int 36), .val (.int 314725956300), .val (.int 393090120396), .un], []⟩) := by kernel_rfl
theorem b_7_37 (scr : D) (p q : Int) (a5 a7 a10 a11 : WSl) : restG ⟨[.val scr, .own [.int p, .int q], .val (.list evd), .pin, .un, a5, .un, a7, .val (.int 7), .val (.int 37), a10, a11, .un], []⟩ = some (.nx, ⟨[.val scr, .own [.int p, .int q], .val (.list evd), .pin, .un, a5, .un, a7, .val (.int 7), .val (.int 37), .val (.int 393090120396), .val (.int 488021997529), .un], []⟩) := by kernel_rfl
theorem b_7_38 (scr : D) (p q : Int) (a5 a7 a10 a11 : WSl) : restG ⟨[.val scr, .own [.int p, .int q], .val (.list evd), .pin, .un, a5, .un, a7, .val (.int 7), .val (.int 38), a10, a11, .un], []⟩ = some (.nx, ⟨[.val scr, .own [.int p, .int q], .val (.list evd), .pin, .un, a5, .un, a7, .val (.int 7), .val (.int 38), .val (.int 488021997529), .val (.int 602437580121), .un], []⟩) := by kernel_rfl
theorem b_7_39 (scr : D) (p q : Int) (a5 a7 a10 a11 : WSl) : restG ⟨[.val scr, .own [.int p, .int q], .val (.list evd), .pin, .un, a5, .un, a7, .val (.int 7), .val (.int 39), a10, a11, .un], []⟩ = some (.nx, ⟨[.val scr, .own [.int p, .int q], .val (.list evd), .pin, .un, a5, .un, a7, .val (.int 7), .val (.int 39), .val (.int 602437580121), .val (.int 739668586800), .un], []⟩) := by kernel_rfl
theorem b_8_0 (scr : D) (p q : Int) (a5 a7 a10 a11 : WSl) : restG ⟨[.val scr, .own [.int p, .int q], .val (.list evd), .pin, .un, a5, .un, a7, .val (.int 8), .val (.int 0), a10, a11, .un], []⟩ = some (.nx, ⟨[.val scr, .own [.int p, .int q], .val (.list evd), .pin, .un, a5, .un, a7, .val (.int 8), .val (.int 0), .val (.int 0), .val (.int 0), .un], []⟩) := by kernel_rfl
theorem b_8_1 (scr : D) (p q : Int) (a5 a7 a10 a11 : WSl) : restG ⟨[.val scr, .own [.int p, .int q], .val (.list evd), .pin, .un, a5, .un, a7, .val (.int 8), .val (.int 1), a10, a11, .un], []⟩ = some (.nx, ⟨[.val scr, .own [.int p, .int q], .val (.list evd), .pin, .un, a5, .un, a7, .val (.int 8), .val (.int 1), .val (.int 0), .val (.int (-1)), .un], []⟩) := by kernel_rfl
theorem b_8_2 (scr : D) (p q : Int) (a5 a7 a10 a11 : WSl) : restG ⟨[.val scr, .own [.int p, .int q], .val (.list evd), .pin, .un, a5, .un, a7, .val (.int 8), .val (.int 2), a10, a11, .un], []⟩ = some (.nx, ⟨[.val scr, .own [.int p, .int q], .val (.list evd), .pin, .un, a5, .un, a7, .val (.int 8), .val (.int 2), .val (.int 1), .val (.int (-257)), .un], []⟩) := by kernel_rfl
theorem b_8_3 (scr : D) (p q : Int) (a5 a7 a10 a11 : WSl) : restG ⟨[.val scr, .own [.int p, .int q], .val (.list evd), .pin, .un, a5, .un, a7, .val (.int 8), .val (.int 3), a10, a11, .un], []⟩ = some (.nx, ⟨[.val scr, .own [.int p, .int q], .val (.list evd), .pin, .un, a5, .un, a7, .val (.int 8), .val (.int 3), .val (.int 257), .val (.int (-6818)), .un], []⟩) := by kernel_rfl
theorem b_8_4 (scr : D) (p q : Int) (a5 a7 a10 a11 : WSl) : restG ⟨[.val scr, .own [.int p, .int q], .val (.list evd), .pin, .un, a5, .un, a7, .val (.int 8), .val (.int 4), a10, a11, .un], []⟩ = some (.nx, ⟨[.val scr, .own [.int p, .int q], .val (.list evd), .pin, .un, a5, .un, a7, .val (.int 8), .val (.int 4), .val (.int 6818), .val (.int (-72354)), .un], []⟩) := by kernel_rfl
theorem b_8_5 (scr : D) (p q : Int) (a5 a7 a10 a11 : WSl) : restG ⟨[.val scr, .own [.int p, .int q], .val (.list evd), .pin, .un, a5, .un, a7, .val (.int 8), .val (.int 5), a10, a11, .un], []⟩ = some (.nx, ⟨[.val scr, .own [.int p, .int q], .val (.list evd), .pin, .un, a5, .un, a7, .val (.int 8), .val (.int 5), .val (.int 72354), .val (.int (-462979)), .un], []⟩) := by kernel_rfl
theorem b_8_6 (scr : D) (p q : Int) (a5 a7 a10 a11 : WSl) : restG ⟨[.val scr, .own [.int p, .int q], .val (.list evd), .pin, .un, a5, .un, a7, .val (.int 8), .val (.int 6), a10, a11, .un], []⟩ = some (.nx, ⟨[.val scr, .own [.int p, .int q], .val (.list evd), .pin, .un, a5, .un, a7, .val (.int 8), .val (.int 6), .val (.int 462979), .val (.int (-2142595)), .un], []⟩) := by kernel_rfl
theorem b_8_7 (scr : D) (p q : Int) (a5 a7 a10 a11 : WSl) : restG ⟨[.val scr, .own [.int p, .int q], .val (.list evd), .pin, .un, a5, .un, a7, .val (.int 8), .val (.int 7), a10, a11, .un], []⟩ = some (.nx, ⟨[.val scr, .own [.int p, .int q], .val (.list evd), .pin, .un, a5, .un, a7, .val (.int 8), .val (.int 7), .val (.int 2142595), .val (.int (-7907396)), .un], []⟩) := by kernel_rfl
theorem b_8_8 (scr : D) (p q : Int) (a5 a7 a10 a11 : WSl) : restG ⟨[.val scr, .own [.int p, .int q], .val (.list evd), .pin, .un, a5, .un, a7, .val (.int 8), .val (.int 8), a10, a11, .un], []⟩ = some (.nx, ⟨[.val scr, .own [.int p, .int q], .val (.list evd), .pin, .un, a5, .un, a7, .val (.int 8), .val (.int 8), .val (.int 7907396), .val (.int (-24684612)), .un], []⟩) := by kernel_rfl
theorem b_8_9 (scr : D) (p q : Int) (a5 a7 a10 a11 : WSl) : restG ⟨[.val scr, .own [.int p, .int q], .val (.list evd), .pin, .un, a5, .un, a7, .val (.int 8), .val (.int 9), a10, a11, .un], []⟩ = some (.nx, ⟨[.val scr, .own [.int p, .int q], .val (.list evd), .pin, .un, a5, .un, a7, .val (.int 8), .val (.int 9), .val (.int 24684612), .val (.int (-67731333)), .un], []⟩) := by kernel_rfl
theorem b_8_10 (scr : D) (p q : Int) (a5 a7 a10 a11 : WSl) : restG ⟨[.val scr, .own [.int p, .int q], .val (.list evd), .pin, .un, a5, .un, a7, .val (.int 8), .val (.int 10), a10, a11, .un], []⟩ = some (.nx, ⟨[.val scr, .own [.int p, .int q], .val (.list evd), .pin, .un, a5, .un, a7, .val (.int 8), .val (.int 10), .val (.int 67731333), .val (.int (-167731333)), .un], []⟩) := by kernel_rfl
theorem b_8_11 (scr : D) (p q : Int) (a5 a7 a10 a11 : WSl) : restG ⟨[.val scr, .own [.int p, .int q], .val (.list evd), .pin, .un, a5, .un, a7, .val (.int 8), .val (.int 11), a10, a11, .un], []⟩ = some (.nx, ⟨[.val scr, .own [.int p, .int q], .val (.list evd), .pin, .un, a5, .un, a7, .val (.int 8), .val (.int 11), .val (.int 167731333), .val (.int (-382090214)), .un], []⟩) := by kernel_rfl
theorem b_8_12 (scr : D) (p q : Int) (a5 a7 a10 a11 : WSl) : restG ⟨[.val scr, .own [.int p, .int q], .val (.list evd), .pin, .un, a5, .un, a7, .val (.int 8), .val (.int 12), a10, a11, .un], []⟩ = some (.nx, ⟨[.val scr, .own [.int p, .int q], .val (.list evd), .pin, .un, a5, .un, a7, .val (.int 8), .val (.int 12), .val (.int 382090214), .val (.int (-812071910)), .un], []⟩) := by kernel_rfl
theorem b_8_13 (scr : D) (p q : Int) (a5 a7 a10 a11 : WSl) : restG ⟨[.val scr, .own [.int p, .int q], .val (.list evd), .pin, .un, a5, .un, a7, .val (.int 8), .val (.int 13), a10, a11, .un], []⟩ = some (.nx, ⟨[.val scr, .own [.int p, .int q], .val (.list evd), .pin, .un, a5, .un, a7, .val (.int 8), .val (.int 13), .val (.int 812071910), .val (.int (-1627802631)), .un], []⟩) := by kernel_rfl
theorem b_8_14 (scr : D) (p q : Int) (a5 a7 a10 a11 : WSl) : restG ⟨[.val scr, .own [.int p, .int q], .val (.list evd), .pin, .un, a5, .un, a7, .val (.int 8), .val (.int 14), a10, a11, .un], []⟩ = some (.nx, ⟨[.val scr, .own [.int p, .int q], .val (.list evd), .pin, .un, a5, .un, a7, .val (.int 8), .val (.int 14), .val (.int 1627802631), .val (.int (-3103591687)), .un], []⟩) := by kernel_rfl
theorem b_8_15 (scr : D) (p q : Int) (a5 a7 a10 a11 : WSl) : restG ⟨[.val scr, .own [.int p, .int q], .val (.list evd), .pin, .un, a5, .un, a7, .val (.int 8), .val (.int 15), a10, a11, .un], []⟩ = some (.nx, ⟨[.val scr, .own [.int p, .int q], .val (.list evd), .pin, .un, a5, .un, a7, .val (.int 8), .val (.int 15), .val (.int 3103591687), .val (.int (-5666482312)), .un], []⟩) := by kernel_rfl
theorem b_8_16 (scr : D) (p q : Int) (a5 a7 a10 a11 : WSl) : restG ⟨[.val scr, .own [.int p, .int q], .val (.list evd), .pin, .un, a5, .un, a7, .val (.int 8), .val (.int 16), a10, a11, .un], []⟩ = some (.nx, ⟨[.val scr, .own [.int p, .int q], .val (.list evd), .pin, .un, a5, .un, a7, .val (.int 8), .val (.int 16), .val (.int 5666482312), .val (.int (-9961449608)), .un], []⟩) := by kernel_rfl
theorem b_8_17 (scr : D) (p q : Int) (a5 a7 a10 a11 : WSl) : restG ⟨[.val scr, .own [.int p, .int q], .val (.list evd), .pin, .un, a5, .un, a7, .val (.int 8), .val (.int 17), a10, a11, .un], []⟩ = some (.nx, ⟨[.val scr, .own [.int p, .int q], .val (.list evd), .pin, .un, a5, .un, a7, .val (.int 8), .val (.int 17), .val (.int 9961449608), .val (.int (-16937207049)), .un], []⟩) := by kernel_rfl
theorem b_8_18 (scr : D) (p q : Int) (a5 a7 a10 a11 : WSl) : restG ⟨[.val scr, .own [.int p, .int q], .val (.list evd), .pin, .un, a5, .un, a7, .val (.int 8), .val (.int 18), a10, a11, .un], []⟩ = some (.nx, ⟨[.val scr, .own [.int p, .int q], .val (.list evd), .pin, .un, a5, .un, a7, .val (.int 8), .val (.int 18), .val (.int 16937207049), .val (.int (-27957167625)), .un], []⟩) := by kernel_rfl
theorem b_8_19 (scr : D) (p q : Int) (a5 a7 a10 a11 : WSl) : restG ⟨[.val scr, .own [.int p, .int q], .val (.list evd), .pin, .un, a5, .un, a7, .val (.int 8), .val (.int 19), a10, a11, .un], []⟩ = some (.nx, ⟨[.val scr, .own [.int p, .int q], .val (.list evd), .pin, .un, a5, .un, a7, .val (.int 8), .val (.int 19), .val (.int 27957167625), .val (.int (-44940730666)), .un], []⟩) := by kernel_rfl
theorem b_8_20 (scr : D) (p q : Int) (a5 a7 a10 a11 : WSl) : restG ⟨[.val scr, .own [.int p, .int q], .val (.list evd), .pin, .un, a5, .un, a7, .val (.int 8), .val (.int 20), a10, a11, .un], []⟩ = some (.nx, ⟨[.val scr, .own [.int p, .int q], .val (.list evd), .pin, .un, a5, .un, a7, .val (.int 8), .val (.int 20), .val (.int 44940730666), .val (.int (-70540730666)), .un], []⟩) := by kernel_rfl
theorem b_8_21 (scr : D) (p q : Int) (a5 a7 a10 a11 : WSl) : restG ⟨[.val scr, .own [.int p, .int q], .val (.list evd), .pin, .un, a5, .un, a7, .val (.int 8), .val (.int 21), a10, a11, .un], []⟩ = some (.nx, ⟨[.val scr, .own [.int p, .int q], .val (.list evd), .pin, .un, a5, .un, a7, .val (.int 8), .val (.int 21), .val (.int 70540730666), .val (.int (-108363590027)), .un], []⟩) := by kernel_rfl
theorem b_8_22 (scr : D) (p q : Int) (a5 a7 a10 a11 : WSl) : restG ⟨[.val scr, .own [.int p, .int q], .val (.list evd), .pin, .un, a5, .un, a7, .val (.int 8), .val (.int 22), a10, a11, .un], []⟩ = some (.nx, ⟨[.val scr, .own [.int p, .int q], .val (.list evd), .pin, .un, a5, .un, a7, .val (.int 8), .val (.int 22), .val (.int 108363590027), .val (.int (-163239463563)), .un], []⟩) := by kernel_rfl
theorem b_8_23 (scr : D) (p q : Int) (a5 a7 a10 a11 : WSl) : restG ⟨[.val scr, .own [.int p, .int q], .val (.list evd), .pin, .un, a5, .un, a7, .val (.int 8), .val (.int 23), a10, a11, .un], []⟩ = some (.nx, ⟨[.val scr, .own [.int p, .int q], .val (.list evd), .pin, .un, a5, .un, a7, .val (.int 8), .val (.int 23), .val (.int 163239463563), .val (.int (-241550448844)), .un], []⟩) := by kernel_rfl
theorem b_8_24 (scr : D) (p q : Int) (a5 a7 a10 a11 : WSl) : restG ⟨[.val scr, .own [.int p, .int q], .val (.list evd), .pin, .un, a5, .un, a7, .val (.int 8), .val (.int 24), a10, a11, .un], []⟩ = some (.nx, ⟨[.val scr, .own [.int p, .int q], .val (.list evd), .pin, .un, a5, .un, a7, .val (.int 8), .val (.int 24), .val (.int 241550448844), .val (.int (-351625763020)), .un], []⟩) := by kernel_rfl
theorem b_8_25 (scr : D) (p q : Int) (a5 a7 a10 a11 : WSl) : restG ⟨[.val scr, .own [.int p, .int q], .val (.list evd), .pin, .un, a5, .un, a7, .val (.int 8), .val (.int 25), a10, a11, .un], []⟩ = some (.nx, ⟨[.val scr, .own [.int p, .int q], .val (.list evd), .pin, .un, a5, .un, a7, .val (.int 8), .val (.int 25), .val (.int 351625763020), .val (.int (-504213653645)), .un], []⟩) := by kernel_rfl
theorem b_8_26 (scr : D) (p q : Int) (a5 a7 a10 a11 : WSl) : restG ⟨[.val scr, .own [.int p, .int q], .val (.list evd), .pin, .un, a5, .un, a7, .val (.int 8), .val (.int 26), a10, a11, .un], []⟩ = some (.nx, ⟨[.val scr, .own [.int p, .int q], .val (.list evd), .pin, .un, a5, .un, a7, .val (.int 8), .val (.int 26), .val (.int 504213653645), .val (.int (-713040718221)), .un], []⟩) := by kernel_rfl
theorem b_8_27 (scr : D) (p q : Int) (a5 a7 a10 a11 : WSl) : restG ⟨[.val scr, .own [.int p, .int q], .val (.list evd), .pin, .un, a5, .un, a7, .val (.int 8), .val (.int 27), a10, a11, .un], []⟩ = some (.nx, ⟨[.val scr, .own [.int p, .int q], .val (.list evd), .pin, .un, a5, .un, a7, .val (.int 8), .val (.int 27), .val (.int 713040718221), .val (.int (-995470254702)), .un], []⟩) := by kernel_rfl
theorem b_8_28 (scr : D) (p q : Int) (a5 a7 a10 a11 : WSl) : restG ⟨[.val scr, .own [.int p, .int q], .val (.list evd), .pin, .un, a5, .un, a7, .val (.int 8), .val (.int 28), a10, a11, .un], []⟩ = some (.nx, ⟨[.val scr, .own [.int p, .int q], .val (.list evd), .pin, .un, a5, .un, a7, .val (.int 8), .val (.int 28), .val (.int 995470254702), .val (.int (-1373272253038)), .un], []⟩) := by kernel_rfl
theorem b_8_29 (scr : D) (p q : Int) (a5 a7 a10 a11 : WSl) : restG ⟨[.val scr, .own [.int p, .int q], .val (.list evd), .pin, .un, a5, .un, a7, .val (.int 8), .val (.int 29), a10, a11, .un], []⟩ = some (.nx, ⟨[.val scr, .own [.int p, .int q], .val (.list evd), .pin, .un, a5, .un, a7, .val (.int 8), .val (.int 29), .val (.int 1373272253038), .val (.int (-1873518665999)), .un], []⟩) := by kernel_rfl
theorem b_8_30 (scr : D) (p q : Int) (a5 a7 a10 a11 : WSl) : restG ⟨[.val scr, .own [.int p, .int q], .val (.list evd), .pin, .un, a5, .un, a7, .val (.int 8), .val (.int 30), a10, a11, .un], []⟩ = some (.nx, ⟨[.val scr, .own [.int p, .int q], .val (.list evd), .pin, .un, a5, .un, a7, .val (.int 8), .val (.int 30), .val (.int 1873518665999), .val (.int (-2529618665999)), .un], []⟩) := by kernel_rfl
theorem b_8_31 (scr : D) (p q : Int) (a5 a7 a10 a11 : WSl) : restG ⟨[.val scr, .own [.int p, .int q], .val (.list evd), .pin, .un, a5, .un, a7, .val (.int 8), .val (.int 31), a10, a11, .un], []⟩ = some (.nx, ⟨[.val scr, .own [.int p, .int q], .val (.list evd), .pin, .un, a5, .un, a7, .val (.int 8), .val (.int 31), .val (.int 2529618665999), .val (.int (-3382509703440)), .un], []⟩) := by kernel_rfl
theorem b_8_32 (scr : D) (p q : Int) (a5 a7 a10 a11 : WSl) : restG ⟨[.val scr, .own [.int p, .int q], .val (.list evd), .pin, .un, a5, .un, a7, .val (.int 8), .val (.int 32), a10, a11, .un], []⟩ = some (.nx, ⟨[.val scr, .own [.int p, .int q], .val (.list evd), .pin, .un, a5, .un, a7, .val (.int 8), .val (.int 32), .val (.int 3382509703440), .val (.int (-4482021331216)), .un], []⟩) := by kernel_rfl
theorem b_8_33 (scr : D) (p q : Int) (a5 a7 a10 a11 : WSl) : restG ⟨[.val scr, .own [.int p, .int q], .val (.list evd), .pin, .un, a5, .un, a7, .val (.int 8), .val (.int 33), a10, a11, .un], []⟩ = some (.nx, ⟨[.val scr, .own [.int p, .int q], .val (.list evd), .pin, .un, a5, .un, a7, .val (.int 8), .val (.int 33), .val (.int 4482021331216), .val (.int (-5888429949457)), .un], []⟩) := by kernel_rfl
theorem b_8_34 (scr : D) (p q : Int) (a5 a7 a10 a11 : WSl) : restG ⟨[.val scr, .own [.int p, .int q], .val (.list evd), .pin, .un, a5, .un, a7, .val (.int 8), .val (.int 34), a10, a11, .un], []⟩ = some (.nx, ⟨[.val scr, .own [.int p, .int q], .val (.list evd), .pin, .un, a5, .un, a7, .val (.int 8), .val (.int 34), .val (.int 5888429949457), .val (.int (-7674223854353)), .un], []⟩) := by kernel_rfl
theorem b_8_35 (scr : D) (p q : Int) (a5 a7 a10 a11 : WSl) : restG ⟨[.val scr, .own [.int p, .int q], .val (.list evd), .pin, .un, a5, .un, a7, .val (.int 8), .val (.int 35), a10, a11, .un], []⟩ = some (.nx, ⟨[.val scr, .own [.int p, .int q], .val (.list evd), .pin, .un, a5, .un, a7, .val (.int 8), .val (.int 35), .val (.int 7674223854353), .val (.int (-9926099244978)), .un], []⟩) := by kernel_rfl
theorem b_8_36 (scr : D) (p q : Int) (a5 a7 a10 a11 : WSl) : restG ⟨[.val scr, .own [.int p, .int q], .val (.list evd), .pin, .un, a5, .un, a7, .val (.int 8), .val (.int 36), a10, a11, .un], []⟩ = some (.nx, ⟨[.val scr, .own [.int p, .int q], .val (.list evd), .pin, .un, a5, .un, a7, .val (.int 8), .val (.int 36), .val (.int 9926099244978), .val (.int (-12747209152434)), .un], []⟩) := by kernel_rfl
theorem b_8_37 (scr : D) (p q : Int) (a5 a7 a10 a11 : WSl) : restG ⟨[.val scr, .own [.int p, .int q], .val (.list evd), .pin, .un, a5, .un, a7, .val (.int 8), .val (.int 37), a10, a11, .un], []⟩ = some (.nx, ⟨[.val scr, .own [.int p, .int q], .val (.list evd), .pin, .un, a5, .un, a7, .val (.int 8), .val (.int 37), .val (.int 12747209152434), .val (.int (-16259688606355)), .un], []⟩) := by kernel_rfl
theorem b_8_38 (scr : D) (p q : Int) (a5 a7 a10 a11 : WSl) : restG ⟨[.val scr, .own [.int p, .int q], .val (.list evd), .pin, .un, a5, .un, a7, .val (.int 8), .val (.int 38), a10, a11, .un], []⟩ = some (.nx, ⟨[.val scr, .own [.int p, .int q], .val (.list evd), .pin, .un, a5, .un, a7, .val (.int 8), .val (.int 38), .val (.int 16259688606355), .val (.int (-20607480744851)), .un], []⟩) := by kernel_rfl
theorem b_8_39 (scr : D) (p q : Int) (a5 a7 a10 a11 : WSl) : restG ⟨[.val scr, .own [.int p, .int q], .val (.list evd), .pin, .un, a5, .un, a7, .val (.int 8), .val (.int 39), a10, a11, .un], []⟩ = some (.nx, ⟨[.val scr, .own [.int p, .int q], .val (.list evd), .pin, .un, a5, .un, a7, .val (.int 8), .val (.int 39), .val (.int 20607480744851), .val (.int (-25959490005332)), .un], []⟩) := by kernel_rfl
end LawX

namespace LawX
open PySem L2 Wk
theorem seq_nx {a b : WMs} {S S1 : WSt} (h : a S = some (.nx, S1)) : sSeq a b S = b S1 := by
  unfold sSeq
  rw [h]
theorem forL_cons {gt : WRt → WSt → Option WSt} {gb : WMs} {d : D} {ds : List D} {S S1 S2 : WSt} {r : Option (Fl × WSt)} (h : gt (.val d) S = some S1) (h2 : gb S1 = some (.nx, S2)) (h3 : sForL gt gb ds S2 = r) : sForL gt gb (d :: ds) S = r := by
  unfold sForL
  simp only [h, h2]
  exact h3
theorem run_hide {vs : List Nat} {gi : WMo (List D)} {gt : WRt → WSt → Option WSt} {ge : WMo WRt} {i iy ia : Nat} {gm gl : WMs} {S S1 S2 S3 S4 : WSt} {ds : List D} {ess : List (List D)} {r : Option (Fl × WSt)}
    (h1 : gi S = some (ds, S1)) (hz : ds.length ≤ sizeLine) (h2 : gLcLO vs gt ge ds (S1.wipe vs) = some (ess, S2)) (hc : i < (S2.wipe vs).env.length ∧ (S2.wipe vs).env.all (fun s => !isPin s) = true)
    (h3 : gm ⟨(S2.wipe vs).env.set i .pin, S2.pot⟩ = some (.nx, S3)) (h4 : smash i iy ia ess S3 = some S4) (h5 : gl S4 = r) : sHide vs gi gt ge i gm iy ia gl S = r := by
  unfold sHide
  rw [h1]
  simp only [hz, if_true, h2, hc, and_self, h3, h4]
  exact h5
theorem draw_own {env : List WSl} {s0 : WSl} {p q p' q' many d : Int} (e : m__law_draw [.int p, .int q] [.int many] = some (.val (.int d), [.int p', .int q'])) :
    gCallP m__law_draw 1 (Wk.gCons (gC (.int many)) Wk.gNil) ⟨s0 :: .own [.int p, .int q] :: env, []⟩ = some (.val (.int d), ⟨s0 :: .own [.int p', .int q'] :: env, []⟩) := by
  simp [gCallP, Wk.gCons, Wk.gNil, gC, e]
theorem r_0 (scr : D) (p q : Int) (a5 a7 a10 a11 : WSl) : ∀ n : Nat, n < 40 → ∃ d e : Int, restG ⟨[.val scr, .own [.int p, .int q], .val (.list evd), .pin, .un, a5, .un, a7, .val (.int 0), .val (.int (n : Int)), a10, a11, .un], []⟩ = some (.nx, ⟨[.val scr, .own [.int p, .int q], .val (.list evd), .pin, .un, a5, .un, a7, .val (.int 0), .val (.int (n : Int)), .val (.int d), .val (.int e), .un], []⟩)
  | 0, _ => ⟨_, _, b_0_0 scr p q a5 a7 a10 a11⟩
  | 1, _ => ⟨_, _, b_0_1 scr p q a5 a7 a10 a11⟩
  | 2, _ => ⟨_, _, b_0_2 scr p q a5 a7 a10 a11⟩
  | 3, _ => ⟨_, _, b_0_3 scr p q a5 a7 a10 a11⟩
  | 4, _ => ⟨_, _, b_0_4 scr p q a5 a7 a10 a11⟩
  | 5, _ => ⟨_, _, b_0_5 scr p q a5 a7 a10 a11⟩
  | 6, _ => ⟨_, _, b_0_6 scr p q a5 a7 a10 a11⟩
  | 7, _ => ⟨_, _, b_0_7 scr p q a5 a7 a10 a11⟩
  | 8, _ => ⟨_, _, b_0_8 scr p q a5 a7 a10 a11⟩
  | 9, _ => ⟨_, _, b_0_9 scr p q a5 a7 a10 a11⟩
  | 10, _ => ⟨_, _, b_0_10 scr p q a5 a7 a10 a11⟩
  | 11, _ => ⟨_, _, b_0_11 scr p q a5 a7 a10 a11⟩
  | 12, _ => ⟨_, _, b_0_12 scr p q a5 a7 a10 a11⟩
  | 13, _ => ⟨_, _, b_0_13 scr p q a5 a7 a10 a11⟩
  | 14, _ => ⟨_, _, b_0_14 scr p q a5 a7 a10 a11⟩
  | 15, _ => ⟨_, _, b_0_15 scr p q a5 a7 a10 a11⟩
  | 16, _ => ⟨_, _, b_0_16 scr p q a5 a7 a10 a11⟩
  | 17, _ => ⟨_, _, b_0_17 scr p q a5 a7 a10 a11⟩
  | 18, _ => ⟨_, _, b_0_18 scr p q a5 a7 a10 a11⟩
  | 19, _ => ⟨_, _, b_0_19 scr p q a5 a7 a10 a11⟩
  | 20, _ => ⟨_, _, b_0_20 scr p q a5 a7 a10 a11⟩
  | 21, _ => ⟨_, _, b_0_21 scr p q a5 a7 a10 a11⟩
  | 22, _ => ⟨_, _, b_0_22 scr p q a5 a7 a10 a11⟩
  | 23, _ => ⟨_, _, b_0_23 scr p q a5 a7 a10 a11⟩
  | 24, _ => ⟨_, _, b_0_24 scr p q a5 a7 a10 a11⟩
  | 25, _ => ⟨_, _, b_0_25 scr p q a5 a7 a10 a11⟩
  | 26, _ => ⟨_, _, b_0_26 scr p q a5 a7 a10 a11⟩
  | 27, _ => ⟨_, _, b_0_27 scr p q a5 a7 a10 a11⟩
  | 28, _ => ⟨_, _, b_0_28 scr p q a5 a7 a10 a11⟩
  | 29, _ => ⟨_, _, b_0_29 scr p q a5 a7 a10 a11⟩
  | 30, _ => ⟨_, _, b_0_30 scr p q a5 a7 a10 a11⟩
  | 31, _ => ⟨_, _, b_0_31 scr p q a5 a7 a10 a11⟩
  | 32, _ => ⟨_, _, b_0_32 scr p q a5 a7 a10 a11⟩
  | 33, _ => ⟨_, _, b_0_33 scr p q a5 a7 a10 a11⟩
  | 34, _ => ⟨_, _, b_0_34 scr p q a5 a7 a10 a11⟩
  | 35, _ => ⟨_, _, b_0_35 scr p q a5 a7 a10 a11⟩
  | 36, _ => ⟨_, _, b_0_36 scr p q a5 a7 a10 a11⟩
  | 37, _ => ⟨_, _, b_0_37 scr p q a5 a7 a10 a11⟩
  | 38, _ => ⟨_, _, b_0_38 scr p q a5 a7 a10 a11⟩
  | 39, _ => ⟨_, _, b_0_39 scr p q a5 a7 a10 a11⟩
  | n + 40, h => absurd h (by omega)
theorem r_1 (scr : D) (p q : Int) (a5 a7 a10 a11 : WSl) : ∀ n : Nat, n < 40 → ∃ d e : Int, restG ⟨[.val scr, .own [.int p, .int q], .val (.list evd), .pin, .un, a5, .un, a7, .val (.int 1), .val (.int (n : Int)), a10, a11, .un], []⟩ = some (.nx, ⟨[.val scr, .own [.int p, .int q], .val (.list evd), .pin, .un, a5, .un, a7, .val (.int 1), .val (.int (n : Int)), .val (.int d), .val (.int e), .un], []⟩)
  | 0, _ => ⟨_, _, b_1_0 scr p q a5 a7 a10 a11⟩
  | 1, _ => ⟨_, _, b_1_1 scr p q a5 a7 a10 a11⟩
  | 2, _ => ⟨_, _, b_1_2 scr p q a5 a7 a10 a11⟩
  | 3, _ => ⟨_, _, b_1_3 scr p q a5 a7 a10 a11⟩
  | 4, _ => ⟨_, _, b_1_4 scr p q a5 a7 a10 a11⟩
  | 5, _ => ⟨_, _, b_1_5 scr p q a5 a7 a10 a11⟩
  | 6, _ => ⟨_, _, b_1_6 scr p q a5 a7 a10 a11⟩
  | 7, _ => ⟨_, _, b_1_7 scr p q a5 a7 a10 a11⟩
  | 8, _ => ⟨_, _, b_1_8 scr p q a5 a7 a10 a11⟩
  | 9, _ => ⟨_, _, b_1_9 scr p q a5 a7 a10 a11⟩
  | 10, _ => ⟨_, _, b_1_10 scr p q a5 a7 a10 a11⟩
  | 11, _ => ⟨_, _, b_1_11 scr p q a5 a7 a10 a11⟩
  | 12, _ => ⟨_, _, b_1_12 scr p q a5 a7 a10 a11⟩
  | 13, _ => ⟨_, _, b_1_13 scr p q a5 a7 a10 a11⟩
  | 14, _ => ⟨_, _, b_1_14 scr p q a5 a7 a10 a11⟩
  | 15, _ => ⟨_, _, b_1_15 scr p q a5 a7 a10 a11⟩
  | 16, _ => ⟨_, _, b_1_16 scr p q a5 a7 a10 a11⟩
  | 17, _ => ⟨_, _, b_1_17 scr p q a5 a7 a10 a11⟩
  | 18, _ => ⟨_, _, b_1_18 scr p q a5 a7 a10 a11⟩
  | 19, _ => ⟨_, _, b_1_19 scr p q a5 a7 a10 a11⟩
  | 20, _ => ⟨_, _, b_1_20 scr p q a5 a7 a10 a11⟩
  | 21, _ => ⟨_, _, b_1_21 scr p q a5 a7 a10 a11⟩
  | 22, _ => ⟨_, _, b_1_22 scr p q a5 a7 a10 a11⟩
  | 23, _ => ⟨_, _, b_1_23 scr p q a5 a7 a10 a11⟩
  | 24, _ => ⟨_, _, b_1_24 scr p q a5 a7 a10 a11⟩
  | 25, _ => ⟨_, _, b_1_25 scr p q a5 a7 a10 a11⟩
  | 26, _ => ⟨_, _, b_1_26 scr p q a5 a7 a10 a11⟩
  | 27, _ => ⟨_, _, b_1_27 scr p q a5 a7 a10 a11⟩
  | 28, _ => ⟨_, _, b_1_28 scr p q a5 a7 a10 a11⟩
  | 29, _ => ⟨_, _, b_1_29 scr p q a5 a7 a10 a11⟩
  | 30, _ => ⟨_, _, b_1_30 scr p q a5 a7 a10 a11⟩
  | 31, _ => ⟨_, _, b_1_31 scr p q a5 a7 a10 a11⟩
  | 32, _ => ⟨_, _, b_1_32 scr p q a5 a7 a10 a11⟩
  | 33, _ => ⟨_, _, b_1_33 scr p q a5 a7 a10 a11⟩
  | 34, _ => ⟨_, _, b_1_34 scr p q a5 a7 a10 a11⟩
  | 35, _ => ⟨_, _, b_1_35 scr p q a5 a7 a10 a11⟩
  | 36, _ => ⟨_, _, b_1_36 scr p q a5 a7 a10 a11⟩
  | 37, _ => ⟨_, _, b_1_37 scr p q a5 a7 a10 a11⟩
  | 38, _ => ⟨_, _, b_1_38 scr p q a5 a7 a10 a11⟩
  | 39, _ => ⟨_, _, b_1_39 scr p q a5 a7 a10 a11⟩
  | n + 40, h => absurd h (by omega)
theorem r_2 (scr : D) (p q : Int) (a5 a7 a10 a11 : WSl) : ∀ n : Nat, n < 40 → ∃ d e : Int, restG ⟨[.val scr, .own [.int p, .int q], .val (.list evd), .pin, .un, a5, .un, a7, .val (.int 2), .val (.int (n : Int)), a10, a11, .un], []⟩ = some (.nx, ⟨[.val scr, .own [.int p, .int q], .val (.list evd), .pin, .un, a5, .un, a7, .val (.int 2), .val (.int (n : Int)), .val (.int d), .val (.int e), .un], []⟩)
  | 0, _ => ⟨_, _, b_2_0 scr p q a5 a7 a10 a11⟩
  | 1, _ => ⟨_, _, b_2_1 scr p q a5 a7 a10 a11⟩
  | 2, _ => ⟨_, _, b_2_2 scr p q a5 a7 a10 a11⟩
  | 3, _ => ⟨_, _, b_2_3 scr p q a5 a7 a10 a11⟩
  | 4, _ => ⟨_, _, b_2_4 scr p q a5 a7 a10 a11⟩
  | 5, _ => ⟨_, _, b_2_5 scr p q a5 a7 a10 a11⟩
  | 6, _ => ⟨_, _, b_2_6 scr p q a5 a7 a10 a11⟩
  | 7, _ => ⟨_, _, b_2_7 scr p q a5 a7 a10 a11⟩
  | 8, _ => ⟨_, _, b_2_8 scr p q a5 a7 a10 a11⟩
  | 9, _ => ⟨_, _, b_2_9 scr p q a5 a7 a10 a11⟩
  | 10, _ => ⟨_, _, b_2_10 scr p q a5 a7 a10 a11⟩
  | 11, _ => ⟨_, _, b_2_11 scr p q a5 a7 a10 a11⟩
  | 12, _ => ⟨_, _, b_2_12 scr p q a5 a7 a10 a11⟩
  | 13, _ => ⟨_, _, b_2_13 scr p q a5 a7 a10 a11⟩
  | 14, _ => ⟨_, _, b_2_14 scr p q a5 a7 a10 a11⟩
  | 15, _ => ⟨_, _, b_2_15 scr p q a5 a7 a10 a11⟩
  | 16, _ => ⟨_, _, b_2_16 scr p q a5 a7 a10 a11⟩
  | 17, _ => ⟨_, _, b_2_17 scr p q a5 a7 a10 a11⟩
  | 18, _ => ⟨_, _, b_2_18 scr p q a5 a7 a10 a11⟩
  | 19, _ => ⟨_, _, b_2_19 scr p q a5 a7 a10 a11⟩
  | 20, _ => ⟨_, _, b_2_20 scr p q a5 a7 a10 a11⟩
  | 21, _ => ⟨_, _, b_2_21 scr p q a5 a7 a10 a11⟩
  | 22, _ => ⟨_, _, b_2_22 scr p q a5 a7 a10 a11⟩
  | 23, _ => ⟨_, _, b_2_23 scr p q a5 a7 a10 a11⟩
  | 24, _ => ⟨_, _, b_2_24 scr p q a5 a7 a10 a11⟩
  | 25, _ => ⟨_, _, b_2_25 scr p q a5 a7 a10 a11⟩
  | 26, _ => ⟨_, _, b_2_26 scr p q a5 a7 a10 a11⟩
  | 27, _ => ⟨_, _, b_2_27 scr p q a5 a7 a10 a11⟩
  | 28, _ => ⟨_, _, b_2_28 scr p q a5 a7 a10 a11⟩
  | 29, _ => ⟨_, _, b_2_29 scr p q a5 a7 a10 a11⟩
  | 30, _ => ⟨_, _, b_2_30 scr p q a5 a7 a10 a11⟩
  | 31, _ => ⟨_, _, b_2_31 scr p q a5 a7 a10 a11⟩
  | 32, _ => ⟨_, _, b_2_32 scr p q a5 a7 a10 a11⟩
  | 33, _ => ⟨_, _, b_2_33 scr p q a5 a7 a10 a11⟩
  | 34, _ => ⟨_, _, b_2_34 scr p q a5 a7 a10 a11⟩
  | 35, _ => ⟨_, _, b_2_35 scr p q a5 a7 a10 a11⟩
  | 36, _ => ⟨_, _, b_2_36 scr p q a5 a7 a10 a11⟩
  | 37, _ => ⟨_, _, b_2_37 scr p q a5 a7 a10 a11⟩
  | 38, _ => ⟨_, _, b_2_38 scr p q a5 a7 a10 a11⟩
  | 39, _ => ⟨_, _, b_2_39 scr p q a5 a7 a10 a11⟩
  | n + 40, h => absurd h (by omega)
theorem r_3 (scr : D) (p q : Int) (a5 a7 a10 a11 : WSl) : ∀ n : Nat, n < 40 → ∃ d e : Int, restG ⟨[.val scr, .own [.int p, .int q], .val (.list evd), .pin, .un, a5, .un, a7, .val (.int 3), .val (.int (n : Int)), a10, a11, .un], []⟩ = some (.nx, ⟨[.val scr, .own [.int p, .int q], .val (.list evd), .pin, .un, a5, .un, a7, .val (.int 3), .val (.int (n : Int)), .val (.int d), .val (.int e), .un], []⟩)
  | 0, _ => ⟨_, _, b_3_0 scr p q a5 a7 a10 a11⟩
  | 1, _ => ⟨_, _, b_3_1 scr p q a5 a7 a10 a11⟩
  | 2, _ => ⟨_, _, b_3_2 scr p q a5 a7 a10 a11⟩
  | 3, _ => ⟨_, _, b_3_3 scr p q a5 a7 a10 a11⟩
  | 4, _ => ⟨_, _, b_3_4 scr p q a5 a7 a10 a11⟩
  | 5, _ => ⟨_, _, b_3_5 scr p q a5 a7 a10 a11⟩
  | 6, _ => ⟨_, _, b_3_6 scr p q a5 a7 a10 a11⟩
  | 7, _ => ⟨_, _, b_3_7 scr p q a5 a7 a10 a11⟩
  | 8, _ => ⟨_, _, b_3_8 scr p q a5 a7 a10 a11⟩
  | 9, _ => ⟨_, _, b_3_9 scr p q a5 a7 a10 a11⟩
  | 10, _ => ⟨_, _, b_3_10 scr p q a5 a7 a10 a11⟩
  | 11, _ => ⟨_, _, b_3_11 scr p q a5 a7 a10 a11⟩
  | 12, _ => ⟨_, _, b_3_12 scr p q a5 a7 a10 a11⟩
  | 13, _ => ⟨_, _, b_3_13 scr p q a5 a7 a10 a11⟩
  | 14, _ => ⟨_, _, b_3_14 scr p q a5 a7 a10 a11⟩
  | 15, _ => ⟨_, _, b_3_15 scr p q a5 a7 a10 a11⟩
  | 16, _ => ⟨_, _, b_3_16 scr p q a5 a7 a10 a11⟩
  | 17, _ => ⟨_, _, b_3_17 scr p q a5 a7 a10 a11⟩
  | 18, _ => ⟨_, _, b_3_18 scr p q a5 a7 a10 a11⟩
  | 19, _ => ⟨_, _, b_3_19 scr p q a5 a7 a10 a11⟩
  | 20, _ => ⟨_, _, b_3_20 scr p q a5 a7 a10 a11⟩
  | 21, _ => ⟨_, _, b_3_21 scr p q a5 a7 a10 a11⟩
  | 22, _ => ⟨_, _, b_3_22 scr p q a5 a7 a10 a11⟩
  | 23, _ => ⟨_, _, b_3_23 scr p q a5 a7 a10 a11⟩
  | 24, _ => ⟨_, _, b_3_24 scr p q a5 a7 a10 a11⟩
  | 25, _ => ⟨_, _, b_3_25 scr p q a5 a7 a10 a11⟩
  | 26, _ => ⟨_, _, b_3_26 scr p q a5 a7 a10 a11⟩
  | 27, _ => ⟨_, _, b_3_27 scr p q a5 a7 a10 a11⟩
  | 28, _ => ⟨_, _, b_3_28 scr p q a5 a7 a10 a11⟩
  | 29, _ => ⟨_, _, b_3_29 scr p q a5 a7 a10 a11⟩
  | 30, _ => ⟨_, _, b_3_30 scr p q a5 a7 a10 a11⟩
  | 31, _ => ⟨_, _, b_3_31 scr p q a5 a7 a10 a11⟩
  | 32, _ => ⟨_, _, b_3_32 scr p q a5 a7 a10 a11⟩
  | 33, _ => ⟨_, _, b_3_33 scr p q a5 a7 a10 a11⟩
  | 34, _ => ⟨_, _, b_3_34 scr p q a5 a7 a10 a11⟩
  | 35, _ => ⟨_, _, b_3_35 scr p q a5 a7 a10 a11⟩
  | 36, _ => ⟨_, _, b_3_36 scr p q a5 a7 a10 a11⟩
  | 37, _ => ⟨_, _, b_3_37 scr p q a5 a7 a10 a11⟩
  | 38, _ => ⟨_, _, b_3_38 scr p q a5 a7 a10 a11⟩
  | 39, _ => ⟨_, _, b_3_39 scr p q a5 a7 a10 a11⟩
  | n + 40, h => absurd h (by omega)
theorem r_4 (scr : D) (p q : Int) (a5 a7 a10 a11 : WSl) : ∀ n : Nat, n < 40 → ∃ d e : Int, restG ⟨[.val scr, .own [.int p, .int q], .val (.list evd), .pin, .un, a5, .un, a7, .val (.int 4), .val (.int (n : Int)), a10, a11, .un], []⟩ = some (.nx, ⟨[.val scr, .own [.int p, .int q], .val (.list evd), .pin, .un, a5, .un, a7, .val (.int 4), .val (.int (n : Int)), .val (.int d), .val (.int e), .un], []⟩)
  | 0, _ => ⟨_, _, b_4_0 scr p q a5 a7 a10 a11⟩
  | 1, _ => ⟨_, _, b_4_1 scr p q a5 a7 a10 a11⟩
  | 2, _ => ⟨_, _, b_4_2 scr p q a5 a7 a10 a11⟩
  | 3, _ => ⟨_, _, b_4_3 scr p q a5 a7 a10 a11⟩
  | 4, _ => ⟨_, _, b_4_4 scr p q a5 a7 a10 a11⟩
  | 5, _ => ⟨_, _, b_4_5 scr p q a5 a7 a10 a11⟩
  | 6, _ => ⟨_, _, b_4_6 scr p q a5 a7 a10 a11⟩
  | 7, _ => ⟨_, _, b_4_7 scr p q a5 a7 a10 a11⟩
  | 8, _ => ⟨_, _, b_4_8 scr p q a5 a7 a10 a11⟩
  | 9, _ => ⟨_, _, b_4_9 scr p q a5 a7 a10 a11⟩
  | 10, _ => ⟨_, _, b_4_10 scr p q a5 a7 a10 a11⟩
  | 11, _ => ⟨_, _, b_4_11 scr p q a5 a7 a10 a11⟩
  | 12, _ => ⟨_, _, b_4_12 scr p q a5 a7 a10 a11⟩
  | 13, _ => ⟨_, _, b_4_13 scr p q a5 a7 a10 a11⟩
  | 14, _ => ⟨_, _, b_4_14 scr p q a5 a7 a10 a11⟩
  | 15, _ => ⟨_, _, b_4_15 scr p q a5 a7 a10 a11⟩
  | 16, _ => ⟨_, _, b_4_16 scr p q a5 a7 a10 a11⟩
  | 17, _ => ⟨_, _, b_4_17 scr p q a5 a7 a10 a11⟩
  | 18, _ => ⟨_, _, b_4_18 scr p q a5 a7 a10 a11⟩
  | 19, _ => ⟨_, _, b_4_19 scr p q a5 a7 a10 a11⟩
  | 20, _ => ⟨_, _, b_4_20 scr p q a5 a7 a10 a11⟩
  | 21, _ => ⟨_, _, b_4_21 scr p q a5 a7 a10 a11⟩
  | 22, _ => ⟨_, _, b_4_22 scr p q a5 a7 a10 a11⟩
  | 23, _ => ⟨_, _, b_4_23 scr p q a5 a7 a10 a11⟩
  | 24, _ => ⟨_, _, b_4_24 scr p q a5 a7 a10 a11⟩
  | 25, _ => ⟨_, _, b_4_25 scr p q a5 a7 a10 a11⟩
  | 26, _ => ⟨_, _, b_4_26 scr p q a5 a7 a10 a11⟩
  | 27, _ => ⟨_, _, b_4_27 scr p q a5 a7 a10 a11⟩
  | 28, _ => ⟨_, _, b_4_28 scr p q a5 a7 a10 a11⟩
  | 29, _ => ⟨_, _, b_4_29 scr p q a5 a7 a10 a11⟩
  | 30, _ => ⟨_, _, b_4_30 scr p q a5 a7 a10 a11⟩
  | 31, _ => ⟨_, _, b_4_31 scr p q a5 a7 a10 a11⟩
  | 32, _ => ⟨_, _, b_4_32 scr p q a5 a7 a10 a11⟩
  | 33, _ => ⟨_, _, b_4_33 scr p q a5 a7 a10 a11⟩
  | 34, _ => ⟨_, _, b_4_34 scr p q a5 a7 a10 a11⟩
  | 35, _ => ⟨_, _, b_4_35 scr p q a5 a7 a10 a11⟩
  | 36, _ => ⟨_, _, b_4_36 scr p q a5 a7 a10 a11⟩
  | 37, _ => ⟨_, _, b_4_37 scr p q a5 a7 a10 a11⟩
  | 38, _ => ⟨_, _, b_4_38 scr p q a5 a7 a10 a11⟩
  | 39, _ => ⟨_, _, b_4_39 scr p q a5 a7 a10 a11⟩
  | n + 40, h => absurd h (by omega)
theorem r_5 (scr : D) (p q : Int) (a5 a7 a10 a11 : WSl) : ∀ n : Nat, n < 40 → ∃ d e : Int, restG ⟨[.val scr, .own [.int p, .int q], .val (.list evd), .pin, .un, a5, .un, a7, .val (.int 5), .val (.int (n : Int)), a10, a11, .un], []⟩ = some (.nx, ⟨[.val scr, .own [.int p, .int q], .val (.list evd), .pin, .un, a5, .un, a7, .val (.int 5), .val (.int (n : Int)), .val (.int d), .val (.int e), .un], []⟩)
  | 0, _ => ⟨_, _, b_5_0 scr p q a5 a7 a10 a11⟩
  | 1, _ => ⟨_, _, b_5_1 scr p q a5 a7 a10 a11⟩
  | 2, _ => ⟨_, _, b_5_2 scr p q a5 a7 a10 a11⟩
  | 3, _ => ⟨_, _, b_5_3 scr p q a5 a7 a10 a11⟩
  | 4, _ => ⟨_, _, b_5_4 scr p q a5 a7 a10 a11⟩
  | 5, _ => ⟨_, _, b_5_5 scr p q a5 a7 a10 a11⟩
  | 6, _ => ⟨_, _, b_5_6 scr p q a5 a7 a10 a11⟩
  | 7, _ => ⟨_, _, b_5_7 scr p q a5 a7 a10 a11⟩
  | 8, _ => ⟨_, _, b_5_8 scr p q a5 a7 a10 a11⟩
  | 9, _ => ⟨_, _, b_5_9 scr p q a5 a7 a10 a11⟩
  | 10, _ => ⟨_, _, b_5_10 scr p q a5 a7 a10 a11⟩
  | 11, _ => ⟨_, _, b_5_11 scr p q a5 a7 a10 a11⟩
  | 12, _ => ⟨_, _, b_5_12 scr p q a5 a7 a10 a11⟩
  | 13, _ => ⟨_, _, b_5_13 scr p q a5 a7 a10 a11⟩
  | 14, _ => ⟨_, _, b_5_14 scr p q a5 a7 a10 a11⟩
  | 15, _ => ⟨_, _, b_5_15 scr p q a5 a7 a10 a11⟩
  | 16, _ => ⟨_, _, b_5_16 scr p q a5 a7 a10 a11⟩
  | 17, _ => ⟨_, _, b_5_17 scr p q a5 a7 a10 a11⟩
  | 18, _ => ⟨_, _, b_5_18 scr p q a5 a7 a10 a11⟩
  | 19, _ => ⟨_, _, b_5_19 scr p q a5 a7 a10 a11⟩
  | 20, _ => ⟨_, _, b_5_20 scr p q a5 a7 a10 a11⟩
  | 21, _ => ⟨_, _, b_5_21 scr p q a5 a7 a10 a11⟩
  | 22, _ => ⟨_, _, b_5_22 scr p q a5 a7 a10 a11⟩
  | 23, _ => ⟨_, _, b_5_23 scr p q a5 a7 a10 a11⟩
  | 24, _ => ⟨_, _, b_5_24 scr p q a5 a7 a10 a11⟩
  | 25, _ => ⟨_, _, b_5_25 scr p q a5 a7 a10 a11⟩
  | 26, _ => ⟨_, _, b_5_26 scr p q a5 a7 a10 a11⟩
  | 27, _ => ⟨_, _, b_5_27 scr p q a5 a7 a10 a11⟩
  | 28, _ => ⟨_, _, b_5_28 scr p q a5 a7 a10 a11⟩
  | 29, _ => ⟨_, _, b_5_29 scr p q a5 a7 a10 a11⟩
  | 30, _ => ⟨_, _, b_5_30 scr p q a5 a7 a10 a11⟩
  | 31, _ => ⟨_, _, b_5_31 scr p q a5 a7 a10 a11⟩
  | 32, _ => ⟨_, _, b_5_32 scr p q a5 a7 a10 a11⟩
  | 33, _ => ⟨_, _, b_5_33 scr p q a5 a7 a10 a11⟩
  | 34, _ => ⟨_, _, b_5_34 scr p q a5 a7 a10 a11⟩
  | 35, _ => ⟨_, _, b_5_35 scr p q a5 a7 a10 a11⟩
  | 36, _ => ⟨_, _, b_5_36 scr p q a5 a7 a10 a11⟩
  | 37, _ => ⟨_, _, b_5_37 scr p q a5 a7 a10 a11⟩
  | 38, _ => ⟨_, _, b_5_38 scr p q a5 a7 a10 a11⟩
  | 39, _ => ⟨_, _, b_5_39 scr p q a5 a7 a10 a11⟩
  | n + 40, h => absurd h (by omega)
theorem r_6 (scr : D) (p q : Int) (a5 a7 a10 a11 : WSl) : ∀ n : Nat, n < 40 → ∃ d e : Int, restG ⟨[.val scr, .own [.int p, .int q], .val (.list evd), .pin, .un, a5, .un, a7, .val (.int 6), .val (.int (n : Int)), a10, a11, .un], []⟩ = some (.nx, ⟨[.val scr, .own [.int p, .int q], .val (.list evd), .pin, .un, a5, .un, a7, .val (.int 6), .val (.int (n : Int)), .val (.int d), .val (.int e), .un], []⟩)
  | 0, _ => ⟨_, _, b_6_0 scr p q a5 a7 a10 a11⟩
  | 1, _ => ⟨_, _, b_6_1 scr p q a5 a7 a10 a11⟩
  | 2, _ => ⟨_, _, b_6_2 scr p q a5 a7 a10 a11⟩
  | 3, _ => ⟨_, _, b_6_3 scr p q a5 a7 a10 a11⟩
  | 4, _ => ⟨_, _, b_6_4 scr p q a5 a7 a10 a11⟩
  | 5, _ => ⟨_, _, b_6_5 scr p q a5 a7 a10 a11⟩
  | 6, _ => ⟨_, _, b_6_6 scr p q a5 a7 a10 a11⟩
  | 7, _ => ⟨_, _, b_6_7 scr p q a5 a7 a10 a11⟩
  | 8, _ => ⟨_, _, b_6_8 scr p q a5 a7 a10 a11⟩
  | 9, _ => ⟨_, _, b_6_9 scr p q a5 a7 a10 a11⟩
  | 10, _ => ⟨_, _, b_6_10 scr p q a5 a7 a10 a11⟩
  | 11, _ => ⟨_, _, b_6_11 scr p q a5 a7 a10 a11⟩
  | 12, _ => ⟨_, _, b_6_12 scr p q a5 a7 a10 a11⟩
  | 13, _ => ⟨_, _, b_6_13 scr p q a5 a7 a10 a11⟩
  | 14, _ => ⟨_, _, b_6_14 scr p q a5 a7 a10 a11⟩
  | 15, _ => ⟨_, _, b_6_15 scr p q a5 a7 a10 a11⟩
  | 16, _ => ⟨_, _, b_6_16 scr p q a5 a7 a10 a11⟩
  | 17, _ => ⟨_, _, b_6_17 scr p q a5 a7 a10 a11⟩
  | 18, _ => ⟨_, _, b_6_18 scr p q a5 a7 a10 a11⟩
  | 19, _ => ⟨_, _, b_6_19 scr p q a5 a7 a10 a11⟩
  | 20, _ => ⟨_, _, b_6_20 scr p q a5 a7 a10 a11⟩
  | 21, _ => ⟨_, _, b_6_21 scr p q a5 a7 a10 a11⟩
  | 22, _ => ⟨_, _, b_6_22 scr p q a5 a7 a10 a11⟩
  | 23, _ => ⟨_, _, b_6_23 scr p q a5 a7 a10 a11⟩
  | 24, _ => ⟨_, _, b_6_24 scr p q a5 a7 a10 a11⟩
  | 25, _ => ⟨_, _, b_6_25 scr p q a5 a7 a10 a11⟩
  | 26, _ => ⟨_, _, b_6_26 scr p q a5 a7 a10 a11⟩
  | 27, _ => ⟨_, _, b_6_27 scr p q a5 a7 a10 a11⟩
  | 28, _ => ⟨_, _, b_6_28 scr p q a5 a7 a10 a11⟩
  | 29, _ => ⟨_, _, b_6_29 scr p q a5 a7 a10 a11⟩
  | 30, _ => ⟨_, _, b_6_30 scr p q a5 a7 a10 a11⟩
  | 31, _ => ⟨_, _, b_6_31 scr p q a5 a7 a10 a11⟩
  | 32, _ => ⟨_, _, b_6_32 scr p q a5 a7 a10 a11⟩
  | 33, _ => ⟨_, _, b_6_33 scr p q a5 a7 a10 a11⟩
  | 34, _ => ⟨_, _, b_6_34 scr p q a5 a7 a10 a11⟩
  | 35, _ => ⟨_, _, b_6_35 scr p q a5 a7 a10 a11⟩
  | 36, _ => ⟨_, _, b_6_36 scr p q a5 a7 a10 a11⟩
  | 37, _ => ⟨_, _, b_6_37 scr p q a5 a7 a10 a11⟩
  | 38, _ => ⟨_, _, b_6_38 scr p q a5 a7 a10 a11⟩
  | 39, _ => ⟨_, _, b_6_39 scr p q a5 a7 a10 a11⟩
  | n + 40, h => absurd h (by omega)
theorem r_7 (scr : D) (p q : Int) (a5 a7 a10 a11 : WSl) : ∀ n : Nat, n < 40 → ∃ d e : Int, restG ⟨[.val scr, .own [.int p, .int q], .val (.list evd), .pin, .un, a5, .un, a7, .val (.int 7), .val (.int (n : Int)), a10, a11, .un], []⟩ = some (.nx, ⟨[.val scr, .own [.int p, .int q], .val (.list evd), .pin, .un, a5, .un, a7, .val (.int 7), .val (.int (n : Int)), .val (.int d), .val (.int e), .un], []⟩)
  | 0, _ => ⟨_, _, b_7_0 scr p q a5 a7 a10 a11⟩
  | 1, _ => ⟨_, _, b_7_1 scr p q a5 a7 a10 a11⟩
  | 2, _ => ⟨_, _, b_7_2 scr p q a5 a7 a10 a11⟩
  | 3, _ => ⟨_, _, b_7_3 scr p q a5 a7 a10 a11⟩
  | 4, _ => ⟨_, _, b_7_4 scr p q a5 a7 a10 a11⟩
  | 5, _ => ⟨_, _, b_7_5 scr p q a5 a7 a10 a11⟩
  | 6, _ => ⟨_, _, b_7_6 scr p q a5 a7 a10 a11⟩
  | 7, _ => ⟨_, _, b_7_7 scr p q a5 a7 a10 a11⟩
  | 8, _ => ⟨_, _, b_7_8 scr p q a5 a7 a10 a11⟩
  | 9, _ => ⟨_, _, b_7_9 scr p q a5 a7 a10 a11⟩
  | 10, _ => ⟨_, _, b_7_10 scr p q a5 a7 a10 a11⟩
  | 11, _ => ⟨_, _, b_7_11 scr p q a5 a7 a10 a11⟩
  | 12, _ => ⟨_, _, b_7_12 scr p q a5 a7 a10 a11⟩
  | 13, _ => ⟨_, _, b_7_13 scr p q a5 a7 a10 a11⟩
  | 14, _ => ⟨_, _, b_7_14 scr p q a5 a7 a10 a11⟩
  | 15, _ => ⟨_, _, b_7_15 scr p q a5 a7 a10 a11⟩
  | 16, _ => ⟨_, _, b_7_16 scr p q a5 a7 a10 a11⟩
  | 17, _ => ⟨_, _, b_7_17 scr p q a5 a7 a10 a11⟩
  | 18, _ => ⟨_, _, b_7_18 scr p q a5 a7 a10 a11⟩
  | 19, _ => ⟨_, _, b_7_19 scr p q a5 a7 a10 a11⟩
  | 20, _ => ⟨_, _, b_7_20 scr p q a5 a7 a10 a11⟩
  | 21, _ => ⟨_, _, b_7_21 scr p q a5 a7 a10 a11⟩
  | 22, _ => ⟨_, _, b_7_22 scr p q a5 a7 a10 a11⟩
  | 23, _ => ⟨_, _, b_7_23 scr p q a5 a7 a10 a11⟩
  | 24, _ => ⟨_, _, b_7_24 scr p q a5 a7 a10 a11⟩
  | 25, _ => ⟨_, _, b_7_25 scr p q a5 a7 a10 a11⟩
  | 26, _ => ⟨_, _, b_7_26 scr p q a5 a7 a10 a11⟩
  | 27, _ => ⟨_, _, b_7_27 scr p q a5 a7 a10 a11⟩
  | 28, _ => ⟨_, _, b_7_28 scr p q a5 a7 a10 a11⟩
  | 29, _ => ⟨_, _, b_7_29 scr p q a5 a7 a10 a11⟩
  | 30, _ => ⟨_, _, b_7_30 scr p q a5 a7 a10 a11⟩
  | 31, _ => ⟨_, _, b_7_31 scr p q a5 a7 a10 a11⟩
  | 32, _ => ⟨_, _, b_7_32 scr p q a5 a7 a10 a11⟩
  | 33, _ => ⟨_, _, b_7_33 scr p q a5 a7 a10 a11⟩
  | 34, _ => ⟨_, _, b_7_34 scr p q a5 a7 a10 a11⟩
  | 35, _ => ⟨_, _, b_7_35 scr p q a5 a7 a10 a11⟩
  | 36, _ => ⟨_, _, b_7_36 scr p q a5 a7 a10 a11⟩
  | 37, _ => ⟨_, _, b_7_37 scr p q a5 a7 a10 a11⟩
  | 38, _ => ⟨_, _, b_7_38 scr p q a5 a7 a10 a11⟩
  | 39, _ => ⟨_, _, b_7_39 scr p q a5 a7 a10 a11⟩
  | n + 40, h => absurd h (by omega)
theorem r_8 (scr : D) (p q : Int) (a5 a7 a10 a11 : WSl) : ∀ n : Nat, n < 40 → ∃ d e : Int, restG ⟨[.val scr, .own [.int p, .int q], .val (.list evd), .pin, .un, a5, .un, a7, .val (.int 8), .val (.int (n : Int)), a10, a11, .un], []⟩ = some (.nx, ⟨[.val scr, .own [.int p, .int q], .val (.list evd), .pin, .un, a5, .un, a7, .val (.int 8), .val (.int (n : Int)), .val (.int d), .val (.int e), .un], []⟩)
  | 0, _ => ⟨_, _, b_8_0 scr p q a5 a7 a10 a11⟩
  | 1, _ => ⟨_, _, b_8_1 scr p q a5 a7 a10 a11⟩
  | 2, _ => ⟨_, _, b_8_2 scr p q a5 a7 a10 a11⟩
  | 3, _ => ⟨_, _, b_8_3 scr p q a5 a7 a10 a11⟩
  | 4, _ => ⟨_, _, b_8_4 scr p q a5 a7 a10 a11⟩
  | 5, _ => ⟨_, _, b_8_5 scr p q a5 a7 a10 a11⟩
  | 6, _ => ⟨_, _, b_8_6 scr p q a5 a7 a10 a11⟩
  | 7, _ => ⟨_, _, b_8_7 scr p q a5 a7 a10 a11⟩
  | 8, _ => ⟨_, _, b_8_8 scr p q a5 a7 a10 a11⟩
  | 9, _ => ⟨_, _, b_8_9 scr p q a5 a7 a10 a11⟩
  | 10, _ => ⟨_, _, b_8_10 scr p q a5 a7 a10 a11⟩
  | 11, _ => ⟨_, _, b_8_11 scr p q a5 a7 a10 a11⟩
  | 12, _ => ⟨_, _, b_8_12 scr p q a5 a7 a10 a11⟩
  | 13, _ => ⟨_, _, b_8_13 scr p q a5 a7 a10 a11⟩
  | 14, _ => ⟨_, _, b_8_14 scr p q a5 a7 a10 a11⟩
  | 15, _ => ⟨_, _, b_8_15 scr p q a5 a7 a10 a11⟩
  | 16, _ => ⟨_, _, b_8_16 scr p q a5 a7 a10 a11⟩
  | 17, _ => ⟨_, _, b_8_17 scr p q a5 a7 a10 a11⟩
  | 18, _ => ⟨_, _, b_8_18 scr p q a5 a7 a10 a11⟩
  | 19, _ => ⟨_, _, b_8_19 scr p q a5 a7 a10 a11⟩
  | 20, _ => ⟨_, _, b_8_20 scr p q a5 a7 a10 a11⟩
  | 21, _ => ⟨_, _, b_8_21 scr p q a5 a7 a10 a11⟩
  | 22, _ => ⟨_, _, b_8_22 scr p q a5 a7 a10 a11⟩
  | 23, _ => ⟨_, _, b_8_23 scr p q a5 a7 a10 a11⟩
  | 24, _ => ⟨_, _, b_8_24 scr p q a5 a7 a10 a11⟩
  | 25, _ => ⟨_, _, b_8_25 scr p q a5 a7 a10 a11⟩
  | 26, _ => ⟨_, _, b_8_26 scr p q a5 a7 a10 a11⟩
  | 27, _ => ⟨_, _, b_8_27 scr p q a5 a7 a10 a11⟩
  | 28, _ => ⟨_, _, b_8_28 scr p q a5 a7 a10 a11⟩
  | 29, _ => ⟨_, _, b_8_29 scr p q a5 a7 a10 a11⟩
  | 30, _ => ⟨_, _, b_8_30 scr p q a5 a7 a10 a11⟩
  | 31, _ => ⟨_, _, b_8_31 scr p q a5 a7 a10 a11⟩
  | 32, _ => ⟨_, _, b_8_32 scr p q a5 a7 a10 a11⟩
  | 33, _ => ⟨_, _, b_8_33 scr p q a5 a7 a10 a11⟩
  | 34, _ => ⟨_, _, b_8_34 scr p q a5 a7 a10 a11⟩
  | 35, _ => ⟨_, _, b_8_35 scr p q a5 a7 a10 a11⟩
  | 36, _ => ⟨_, _, b_8_36 scr p q a5 a7 a10 a11⟩
  | 37, _ => ⟨_, _, b_8_37 scr p q a5 a7 a10 a11⟩
  | 38, _ => ⟨_, _, b_8_38 scr p q a5 a7 a10 a11⟩
  | 39, _ => ⟨_, _, b_8_39 scr p q a5 a7 a10 a11⟩
  | n + 40, h => absurd h (by omega)
theorem rest (scr : D) (p q : Int) (a5 a7 a10 a11 : WSl) {v n : Int} (v0 : 0 ≤ v) (v1 : v < 9) (n0 : 0 ≤ n) (n1 : n < 40) : ∃ d e : Int, restG ⟨[.val scr, .own [.int p, .int q], .val (.list evd), .pin, .un, a5, .un, a7, .val (.int v), .val (.int n), a10, a11, .un], []⟩ = some (.nx, ⟨[.val scr, .own [.int p, .int q], .val (.list evd), .pin, .un, a5, .un, a7, .val (.int v), .val (.int n), .val (.int d), .val (.int e), .un], []⟩) := by
  obtain ⟨k, rfl⟩ := Int.eq_ofNat_of_zero_le n0
  have hk : k < 40 := by omega
  have dd : v = 0 ∨ v = 1 ∨ v = 2 ∨ v = 3 ∨ v = 4 ∨ v = 5 ∨ v = 6 ∨ v = 7 ∨ v = 8 := by omega
  rcases dd with rfl | rfl | rfl | rfl | rfl | rfl | rfl | rfl | rfl
  · exact r_0 scr p q a5 a7 a10 a11 k hk
  · exact r_1 scr p q a5 a7 a10 a11 k hk
  · exact r_2 scr p q a5 a7 a10 a11 k hk
  · exact r_3 scr p q a5 a7 a10 a11 k hk
  · exact r_4 scr p q a5 a7 a10 a11 k hk
  · exact r_5 scr p q a5 a7 a10 a11 k hk
  · exact r_6 scr p q a5 a7 a10 a11 k hk
  · exact r_7 scr p q a5 a7 a10 a11 k hk
  · exact r_8 scr p q a5 a7 a10 a11 k hk
theorem turn_ (scr : D) {p q : Int} (P : Pot p q) (a5 a7 a8 a9 a10 a11 : WSl) : ∃ p' q' v n d e : Int, Pot p' q' ∧ sSeq drawG restG ⟨[.val scr, .own [.int p, .int q], .val (.list evd), .pin, .un, a5, .un, a7, a8, a9, a10, a11, .un], []⟩ = some (.nx, ⟨[.val scr, .own [.int p', .int q'], .val (.list evd), .pin, .un, a5, .un, a7, .val (.int v), .val (.int n), .val (.int d), .val (.int e), .un], []⟩) := by
  obtain ⟨v, p1, q1, ev, v0, v1, P1⟩ := draws p q 9 P (by omega) (by omega)
  obtain ⟨n, p2, q2, en, n0, n1, P2⟩ := draws p1 q1 40 P1 (by omega) (by omega)
  obtain ⟨d, e, r⟩ := rest scr p2 q2 a5 a7 a10 a11 v0 v1 n0 n1
  refine ⟨p2, q2, v, n, d, e, P2, ?_⟩
  rw [seq_nx (S1 := ⟨[.val scr, .own [.int p2, .int q2], .val (.list evd), .pin, .un, a5, .un, a7, .val (.int v), .val (.int n), a10, a11, .un], []⟩)]
  · exact r
  · have z : Wk.gTup (Wk.gCons (gF (gCallP m__law_draw 1 (Wk.gCons (gC (.int 9)) Wk.gNil))) (Wk.gCons (gF (gCallP m__law_draw 1 (Wk.gCons (gC (.int 40)) Wk.gNil))) Wk.gNil)) ⟨[.val scr, .own [.int p, .int q], .val (.list evd), .pin, .un, a5, .un, a7, a8, a9, a10, a11, .un], []⟩ = some (.tuple [.int v, .int n], ⟨[.val scr, .own [.int p2, .int q2], .val (.list evd), .pin, .un, a5, .un, a7, a8, a9, a10, a11, .un], []⟩) := by
      unfold Wk.gTup
      rw [run_cons (run_Fv (draw_own ev)) (run_cons (run_Fv (draw_own en)) run_nil)]
      try rfl
    exact run_asg (run_V z) rfl
theorem g7_run (scr : D) {p q : Int} (P : Pot p q) : ∃ p' q' a b c e : Int, Pot p' q' ∧ g_law_7 ⟨[.val scr, .own [.int p, .int q], .val (.list evd), .pin, .un, .un, .un, .val wholeD, .val (.int 8), .un, .un, .un, .un], []⟩ = some (.nx, ⟨[.val scr, .own [.int p', .int q'], .val (.list evd), .pin, .un, .val (.int 3), .un, .val wholeD, .val (.int a), .val (.int b), .val (.int c), .val (.int e), .un], []⟩) := by
  obtain ⟨p1, q1, v1, n1, d1, e1, P1, t1⟩ := turn_ scr P (.val (.int 0)) (.val wholeD) (.val (.int 8)) .un .un .un
  obtain ⟨p2, q2, v2, n2, d2, e2, P2, t2⟩ := turn_ scr P1 (.val (.int 1)) (.val wholeD) (.val (.int v1)) (.val (.int n1)) (.val (.int d1)) (.val (.int e1))
  obtain ⟨p3, q3, v3, n3, d3, e3, P3, t3⟩ := turn_ scr P2 (.val (.int 2)) (.val wholeD) (.val (.int v2)) (.val (.int n2)) (.val (.int d2)) (.val (.int e2))
  obtain ⟨p4, q4, v4, n4, d4, e4, P4, t4⟩ := turn_ scr P3 (.val (.int 3)) (.val wholeD) (.val (.int v3)) (.val (.int n3)) (.val (.int d3)) (.val (.int e3))
  refine ⟨p4, q4, v4, n4, d4, e4, P4, ?_⟩
  rw [g7_eq]
  have z := forL_cons (gt := gtName 5) (gb := sSeq drawG restG) (S := ⟨[.val scr, .own [.int p, .int q], .val (.list evd), .pin, .un, .un, .un, .val wholeD, .val (.int 8), .un, .un, .un, .un], []⟩) (d := .int 0) rfl t1 (forL_cons (d := .int 1) rfl t2 (forL_cons (d := .int 2) rfl t3 (forL_cons (ds := []) (d := .int 3) rfl t4 rfl)))
  exact z
theorem mid_run (scr : D) {p q : Int} (P : Pot p q) : ∃ p' q' a b c e d : Int, Pot p' q' ∧ 0 ≤ d ∧ d < 9 ∧ sSeq g_law_4 (sSeq g_law_5 (sSeq g_law_6 (sSeq g_law_7 g_law_8))) ⟨[.val scr, .own [.int p, .int q], .val (.list evd), .pin, .un, .un, .un, .un, .un, .un, .un, .un, .un], []⟩ = some (.nx, ⟨[.val scr, .own [.int p', .int q'], .val (.list evd), .pin, .un, .val (.int 3), .val (.int d), .val wholeD, .val (.int a), .val (.int b), .val (.int c), .val (.int e), .un], []⟩) := by
  obtain ⟨p1, q1, a, b, c, e, P1, t⟩ := g7_run scr P
  obtain ⟨d, p2, q2, ed, d0, d1, P2⟩ := draws p1 q1 9 P1 (by omega) (by omega)
  refine ⟨p2, q2, a, b, c, e, d, P2, d0, d1, ?_⟩
  rw [seq_nx (c4 scr p q), seq_nx (c5 scr p q), seq_nx (c6 scr p q), seq_nx t]
  exact run_asg (draw_own ed) rfl
theorem law_true (ns : List Int) (h : ns.length ≤ 63) : ∃ pd, m_law [] [scrD ns] = some (.val (.bool true), pd) := by
  obtain ⟨p, q, e0, P⟩ := pots ns 0 (by omega) (by omega)
  obtain ⟨p', q', a, b, c, e, d, P', d0, d1, mr⟩ := mid_run (scrD ns) P
  have x0 : g_law_0 ⟨[.val (scrD ns), .un, .un, .un, .un, .un, .un, .un, .un, .un, .un, .un, .un], []⟩ = some (.nx, ⟨[.val (scrD ns), .own [.int p, .int q], .un, .un, .un, .un, .un, .un, .un, .un, .un, .un, .un], []⟩) := run_asg (run_call (run_cons rfl (run_cons rfl run_nil)) e0) rfl
  have dd : d = 0 ∨ d = 1 ∨ d = 2 ∨ d = 3 ∨ d = 4 ∨ d = 5 ∨ d = 6 ∨ d = 7 ∨ d = 8 := by omega
  have hs : ∃ S4, smash 3 2 6 evs ⟨[.val (scrD ns), .own [.int p', .int q'], .val (.list evd), .pin, .un, .val (.int 3), .val (.int d), .val wholeD, .val (.int a), .val (.int b), .val (.int c), .val (.int e), .un], []⟩ = some S4 ∧ g_law_10 S4 = some (.ret (.val (.bool true)), S4) ∧ S4.pot = [] := by
    rcases dd with rfl | rfl | rfl | rfl | rfl | rfl | rfl | rfl | rfl
    · exact ⟨_, h_0 ns p' q' a b c e, t_0 p' q' a b c e, rfl⟩
    · exact ⟨_, h_1 ns p' q' a b c e, t_1 p' q' a b c e, rfl⟩
    · exact ⟨_, h_2 ns p' q' a b c e, t_2 p' q' a b c e, rfl⟩
    · exact ⟨_, h_3 ns p' q' a b c e, t_3 p' q' a b c e, rfl⟩
    · exact ⟨_, h_4 ns p' q' a b c e, t_4 p' q' a b c e, rfl⟩
    · exact ⟨_, h_5 ns p' q' a b c e, t_5 p' q' a b c e, rfl⟩
    · exact ⟨_, h_6 ns p' q' a b c e, t_6 p' q' a b c e, rfl⟩
    · exact ⟨_, h_7 ns p' q' a b c e, t_7 p' q' a b c e, rfl⟩
    · exact ⟨_, h_8 ns p' q' a b c e, t_8 p' q' a b c e, rfl⟩
  obtain ⟨S4, s1, s2, s3⟩ := hs
  refine ⟨S4.pot, ?_⟩
  have fin : g_law ⟨[.val (scrD ns), .un, .un, .un, .un, .un, .un, .un, .un, .un, .un, .un, .un], []⟩ = some (.ret (.val (.bool true)), S4) := by
    unfold g_law
    rw [seq_nx x0, seq_nx (c1 (scrD ns) p q), seq_nx (c2 (scrD ns) p q)]
    exact run_hide (gi := gItL (gVar 2)) (ds := evd) (S1 := ⟨[.val (scrD ns), .own [.int p, .int q], .val (.list evd), .un, .un, .un, .un, .un, .un, .un, .un, .un, .un], []⟩) (ess := evs) (S2 := ⟨[.val (scrD ns), .own [.int p, .int q], .val (.list evd), .un, .un, .un, .un, .un, .un, .un, .un, .un, .un], []⟩) rfl (by decide +kernel) (c3 (scrD ns) p q) ⟨by show 3 < 13; decide, rfl⟩ mr s1 s2
  show (match g_law ⟨[.val (scrD ns), .un, .un, .un, .un, .un, .un, .un, .un, .un, .un, .un, .un], []⟩ with | some (.ret r, S) => some (r, S.pot) | some (.nx, S) => some (.val .none, S.pot) | _ => none) = _
  rw [fin]
end LawX

open PySem PySem.W PyProof.Rows
set_option maxHeartbeats 0 in
theorem PySem.Challenge.cw_sumworkshop_k18_whole_power_sums_by_tele_holds : PySem.Challenge.rw_sumworkshop_k18_whole_power_sums_by_tele.Holds := by
  w_on; o_law; k_head; (case hw => w_witness2)
  k_fill
  refine Wk.law_end0 (l := PySem.Challenge.rw_sumworkshop_k18_whole_power_sums_by_tele) (n := 63) (k := 7) (x := "script") (st := LawX.s_law) (m := LawX.m_law) rfl (by decide) rfl ⟨rfl, by decide, by decide⟩ (fun w h Y => PySem.W.kIn_of Y) LawX.bd_law ?F LawX.law_true
  case F =>
    intro w mg h KX G base h1 h2
    refine' LawX.fn_law (LawX.tx_mk KX G ?a0 ?l0 ?c0 ?k0 ?a1 ?l1 ?c1 ?k1 ?a2 ?l2 ?c2 ?k2 ?a3 ?l3 ?c3 ?k3 ?a4 ?l4 ?c4 ?k4 ?a5 ?l5 ?c5 ?k5 ?a6 ?l6 ?c6 ?k6 ?a7 ?l7 ?c7 ?k7 ?a8 ?l8 ?c8 ?k8 ?a9 ?l9 ?c9 ?k9 ?a10 ?l10 ?c10 ?k10 ?a11 ?l11 ?c11 ?k11 ?a12 ?l12 ?c12 ?k12 ?a13 ?l13 ?c13 ?k13 ?a14 ?l14 ?c14 ?k14 ?a15 ?l15 ?c15 ?k15 ?a16 ?l16 ?c16 ?k16 ?a17 ?l17 ?c17 ?k17 ?a18 ?l18 ?c18 ?k18 ?a19 ?l19 ?c19 ?k19 ?a20 ?l20 ?c20 ?k20 ?a21 ?l21 ?c21 ?k21 ?a22 ?l22 ?c22 ?k22 ?a23 ?l23 ?c23 ?k23 ?a24 ?l24 ?c24 ?k24 ?a25 ?l25 ?c25 ?k25 ?a26 ?l26 ?c26 ?k26 ?a27 ?l27 ?c27 ?k27 ?z_abs ?z_bool ?z_divmod ?z_enumerate ?z_int ?z_isinstance ?z_len ?z_list ?z_max ?z_range ?z_sum ?z_zip ?c_MOST_POWER ?c_NOUGHT ?e_NOUGHT ?c_ONE ?e_ONE)
    (case a0 => k_is); (case l0 => k_is); (case c0 => k_is); (case k0 => k_is); (case a1 => k_is); (case l1 => k_is); (case c1 => k_is); (case k1 => k_is); (case a2 => k_is); (case l2 => k_is); (case c2 => k_is); (case k2 => k_is); (case a3 => k_is); (case l3 => k_is); (case c3 => k_is); (case k3 => k_is); (case a4 => k_is); (case l4 => k_is); (case c4 => k_is); (case k4 => k_is); (case a5 => k_is); (case l5 => k_is); (case c5 => k_is); (case k5 => k_is); (case a6 => k_is); (case l6 => k_is); (case c6 => k_is); (case k6 => k_is); (case a7 => k_is); (case l7 => k_is); (case c7 => k_is); (case k7 => k_is); (case a8 => k_is); (case l8 => k_is); (case c8 => k_is); (case k8 => k_is); (case a9 => k_is); (case l9 => k_is); (case c9 => k_is); (case k9 => k_is); (case a10 => k_is); (case l10 => k_is); (case c10 => k_is); (case k10 => k_is); (case a11 => k_is); (case l11 => k_is); (case c11 => k_is); (case k11 => k_is); (case a12 => k_is); (case l12 => k_is); (case c12 => k_is); (case k12 => k_is); (case a13 => k_is); (case l13 => k_is); (case c13 => k_is); (case k13 => k_is); (case a14 => k_is); (case l14 => k_is); (case c14 => k_is); (case k14 => k_is); (case a15 => k_is); (case l15 => k_is); (case c15 => k_is); (case k15 => k_is); (case a16 => k_is); (case l16 => k_is); (case c16 => k_is); (case k16 => k_is); (case a17 => k_is); (case l17 => k_is); (case c17 => k_is); (case k17 => k_is); (case a18 => k_is); (case l18 => k_is); (case c18 => k_is); (case k18 => k_is); (case a19 => k_is); (case l19 => k_is); (case c19 => k_is); (case k19 => k_is); (case a20 => k_is); (case l20 => k_is); (case c20 => k_is); (case k20 => k_is); (case a21 => k_is); (case l21 => k_is); (case c21 => k_is); (case k21 => k_is); (case a22 => k_is); (case l22 => k_is); (case c22 => k_is); (case k22 => k_is); (case a23 => k_is); (case l23 => k_is); (case c23 => k_is); (case k23 => k_is); (case a24 => k_is); (case l24 => k_is); (case c24 => k_is); (case k24 => k_is); (case a25 => k_is); (case l25 => k_is); (case c25 => k_is); (case k25 => k_is); (case a26 => k_is); (case l26 => k_is); (case c26 => k_is); (case k26 => k_is); (case a27 => k_is); (case l27 => k_is); (case c27 => k_is); (case k27 => k_is); (case z_abs => k_is); (case z_bool => k_is); (case z_divmod => k_is); (case z_enumerate => k_is); (case z_int => k_is); (case z_isinstance => k_is); (case z_len => k_is); (case z_list => k_is); (case z_max => k_is); (case z_range => k_is); (case z_sum => k_is); (case z_zip => k_is); (case c_MOST_POWER => k_is); (case c_NOUGHT => k_is); (case e_NOUGHT => k_is); (case c_ONE => k_is); (case e_ONE => k_is)
