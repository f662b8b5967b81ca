import PyProof.Rows.All
import Wide.All
import OpenK.AllK
import Wide.FinOn
import HandS.ForMost
import KE.GoesMore
import KE.GoesEnum
import HandS.SetKeys
import HandS.TupAny
import HandS.Style
import HandS.Conv
import HandS.IsInst
import HandS.Deep
import HandS.TupMul
import HandS.Wide
import HandS.WideBits
import KE.KTupSum
import HandS.TryOnly
import KE.KRevSl
import HandS.Replace
import HandS.SortInts
import PySem.Challenge.RW_masking_k19_whole_triangle
set_option Elab.async false
set_option linter.all false
set_option maxRecDepth 100000
set_option maxHeartbeats 4000000
/-! pure values, the relation to the heap's values, slots, frames, the state -/
namespace PL
open PySem PySem.Spec L2

inductive PV where
  | non | bl (b : Bool) | int (i : Int) | str (x : Str)
  | tup (xs : List PV) | lst (xs : List PV)
  | dic (ks : List (Key × PV)) | dit (ks : List (List Key × PV))
  | town | scr (K : PySem.W.Frag) (ns : List Int) | ref (a : Addr)
  deriving Inhabited

/-- what a name holds: nothing, a frozen value, or a list or dict of its own -/
inductive Slot where
  | un | val (p : PV) | own (p : PV)
  deriving Inhabited
abbrev Rho := List Slot

/-- what stands around a def that runs: fixed contents, the draws' counter, the script -/
structure Fr where
  dom : Addr → Prop
  ok : Hp → Prop
  loc : ∀ H H', (∀ a, dom a → H' a = H a) → ok H → ok H'
  there : ∀ H a, ok H → dom a → H a ≠ none
  tw : Addr
  sc : Addr
  kf : PySem.W.Frag
  ns : List Int
  twd : dom tw
  twg : ∀ H, ok H → ∃ p q : Int, 0 ≤ p ∧ 0 ≤ q ∧ H tw = some (.lst [.int p, .int q])
  tws : ∀ H p q, ok H → 0 ≤ p → 0 ≤ q → ok (upd H tw (.lst [.int p, .int q]))
  scg : ∀ H, ok H → SqL kf H sc (ns.map V.int)
  nsl : ns.length ≤ 63

/-- a text of a size and of signs that a text may have -/
abbrev Sok (x : Str) : Prop := x.length ≤ sizeLine ∧ PyData.strOk x = true
mutual
inductive Rep (fr : Fr) (F : Hp) : V → PV → Prop
  | non : Rep fr F .non .non
  | bl (b : Bool) : Rep fr F (.bl b) (.bl b)
  | int (i : Int) : Rep fr F (.int i) (.int i)
  | str (x : Str) (h : Sok x) : Rep fr F (.str x) (.str x)
  | tup {a : Addr} {vs : List V} {ps : List PV} (h : F a = some (.tup vs)) (l : ps.length ≤ sizeLine) (r : Reps fr F vs ps) : Rep fr F (.ref a) (.tup ps)
  | lst {a : Addr} {vs : List V} {ps : List PV} (h : F a = some (.lst vs)) (l : ps.length ≤ sizeLine) (r : Reps fr F vs ps) : Rep fr F (.ref a) (.lst ps)
  | dic {a : Addr} {vs : List (Key × V)} {ps : List (Key × PV)} (h : Rd F a (.dK vs)) (l : ps.length ≤ sizeLine) (r : RepK fr F vs ps) : Rep fr F (.ref a) (.dic ps)
  | dit {a : Addr} {vs : List (List Key × V)} {ps : List (List Key × PV)} (h : Rd F a (.dT vs)) (l : ps.length ≤ sizeLine) (r : RepT fr F vs ps) : Rep fr F (.ref a) (.dit ps)
  | town : Rep fr F (.ref fr.tw) .town
  | scr : Rep fr F (.ref fr.sc) (.scr fr.kf fr.ns)
  | ref (a : Addr) : Rep fr F (.ref a) (.ref a)
inductive Reps (fr : Fr) (F : Hp) : List V → List PV → Prop
  | nil : Reps fr F [] []
  | cons {v : V} {p : PV} {vs : List V} {ps : List PV} (h : Rep fr F v p) (r : Reps fr F vs ps) : Reps fr F (v :: vs) (p :: ps)
inductive RepK (fr : Fr) (F : Hp) : List (Key × V) → List (Key × PV) → Prop
  | nil : RepK fr F [] []
  | cons {k : Key} {v : V} {p : PV} {vs : List (Key × V)} {ps : List (Key × PV)} (h : Rep fr F v p) (r : RepK fr F vs ps) : RepK fr F ((k, v) :: vs) ((k, p) :: ps)
inductive RepT (fr : Fr) (F : Hp) : List (List Key × V) → List (List Key × PV) → Prop
  | nil : RepT fr F [] []
  | cons {k : List Key} {v : V} {p : PV} {vs : List (List Key × V)} {ps : List (List Key × PV)} (h : Rep fr F v p) (r : RepT fr F vs ps) : RepT fr F ((k, v) :: vs) ((k, p) :: ps)
end

/-- what can be read of F can be read of F' -/
structure RLe (F F' : Hp) : Prop where
  l : ∀ a xs, F a = some (.lst xs) → F' a = some (.lst xs)
  t : ∀ a xs, F a = some (.tup xs) → F' a = some (.tup xs)
  k : ∀ a kvs, Rd F a (.dK kvs) → Rd F' a (.dK kvs)
  d : ∀ a kvs, Rd F a (.dT kvs) → Rd F' a (.dT kvs)
/-- and what is locked stays so -/
structure FLe (F F' : Hp) : Prop extends RLe F F' where
  z : ∀ a u, F a = some u → F' a = some u

section
variable {fr fr' : Fr} {F F' F'' H : Hp}
theorem RLe.refl (F : Hp) : RLe F F := ⟨fun _ _ h => h, fun _ _ h => h, fun _ _ h => h, fun _ _ h => h⟩
theorem RLe.trans (x : RLe F F') (y : RLe F' F'') : RLe F F'' :=
  ⟨fun _ _ h => y.l _ _ (x.l _ _ h), fun _ _ h => y.t _ _ (x.t _ _ h), fun _ _ h => y.k _ _ (x.k _ _ h), fun _ _ h => y.d _ _ (x.d _ _ h)⟩
theorem FLe.refl (F : Hp) : FLe F F := ⟨RLe.refl F, fun _ _ h => h⟩
theorem FLe.trans (x : FLe F F') (y : FLe F' F'') : FLe F F'' := ⟨x.toRLe.trans y.toRLe, fun _ _ h => y.z _ _ (x.z _ _ h)⟩
theorem RLe.of_le (h : ∀ a o, F a = some o → F' a = some o) : RLe F F' :=
  ⟨fun _ _ e => h _ _ e, fun _ _ e => h _ _ e, fun _ _ e => e.elim (fun e => .inl (h _ _ e)) fun ⟨o, e⟩ => .inr ⟨o, h _ _ e⟩, fun _ _ e => e.elim (fun e => .inl (h _ _ e)) fun ⟨o, e⟩ => .inr ⟨o, h _ _ e⟩⟩
theorem FLe.of_le (h : ∀ a o, F a = some o → F' a = some o) : FLe F F' := ⟨RLe.of_le h, h⟩
theorem FLe.new {p : Addr} {o : HO} (h : F p = none) : FLe F (upd F p o) := FLe.of_le fun a u e => by rw [upd_ne (ne_of_none e h)]; exact e

mutual
theorem Rep.mono (q : RLe F F') (t1 : fr'.tw = fr.tw) (t2 : fr'.sc = fr.sc ∧ fr'.kf = fr.kf ∧ fr'.ns = fr.ns) : ∀ {v : V} {p : PV}, Rep fr F v p → Rep fr' F' v p
  | _, _, .non => .non
  | _, _, .bl b => .bl b
  | _, _, .int i => .int i
  | _, _, .str x h => .str x h
  | _, _, .tup h l r => .tup (q.t _ _ h) l (Reps.mono q t1 t2 r)
  | _, _, .lst h l r => .lst (q.l _ _ h) l (Reps.mono q t1 t2 r)
  | _, _, .dic h l r => .dic (q.k _ _ h) l (RepK.mono q t1 t2 r)
  | _, _, .dit h l r => .dit (q.d _ _ h) l (RepT.mono q t1 t2 r)
  | _, _, .town => t1 ▸ Rep.town
  | _, _, .scr => by rw [← t2.1, ← t2.2.1, ← t2.2.2]; exact .scr
  | _, _, .ref a => .ref a
theorem Reps.mono (q : RLe F F') (t1 : fr'.tw = fr.tw) (t2 : fr'.sc = fr.sc ∧ fr'.kf = fr.kf ∧ fr'.ns = fr.ns) : ∀ {v : List V} {p : List PV}, Reps fr F v p → Reps fr' F' v p
  | _, _, .nil => .nil
  | _, _, .cons h r => .cons (Rep.mono q t1 t2 h) (Reps.mono q t1 t2 r)
theorem RepK.mono (q : RLe F F') (t1 : fr'.tw = fr.tw) (t2 : fr'.sc = fr.sc ∧ fr'.kf = fr.kf ∧ fr'.ns = fr.ns) : ∀ {v : List (Key × V)} {p : List (Key × PV)}, RepK fr F v p → RepK fr' F' v p
  | _, _, .nil => .nil
  | _, _, .cons h r => .cons (Rep.mono q t1 t2 h) (RepK.mono q t1 t2 r)
theorem RepT.mono (q : RLe F F') (t1 : fr'.tw = fr.tw) (t2 : fr'.sc = fr.sc ∧ fr'.kf = fr.kf ∧ fr'.ns = fr.ns) : ∀ {v : List (List Key × V)} {p : List (List Key × PV)}, RepT fr F v p → RepT fr' F' v p
  | _, _, .nil => .nil
  | _, _, .cons h r => .cons (Rep.mono q t1 t2 h) (RepT.mono q t1 t2 r)
end
theorem Rep.up {v : V} {p : PV} (x : Rep fr F v p) (q : FLe F F') : Rep fr F' v p := x.mono q.toRLe rfl ⟨rfl, rfl, rfl⟩
theorem Reps.up {v : List V} {p : List PV} (x : Reps fr F v p) (q : FLe F F') : Reps fr F' v p := x.mono q.toRLe rfl ⟨rfl, rfl, rfl⟩
theorem Reps.length : ∀ {vs : List V} {ps : List PV}, Reps fr F vs ps → vs.length = ps.length
  | _, _, .nil => rfl
  | _, _, .cons _ r => by rw [List.length_cons, List.length_cons, Reps.length r]
theorem RepK.length : ∀ {vs : List (Key × V)} {ps : List (Key × PV)}, RepK fr F vs ps → vs.length = ps.length
  | _, _, .nil => rfl
  | _, _, .cons _ r => by rw [List.length_cons, List.length_cons, RepK.length r]
theorem RepT.length : ∀ {vs : List (List Key × V)} {ps : List (List Key × PV)}, RepT fr F vs ps → vs.length = ps.length
  | _, _, .nil => rfl
  | _, _, .cons _ r => by rw [List.length_cons, List.length_cons, RepT.length r]
theorem Reps.append : ∀ {vs ws : List V} {ps qs : List PV}, Reps fr F vs ps → Reps fr F ws qs → Reps fr F (vs ++ ws) (ps ++ qs)
  | _, _, _, _, .nil, s => s
  | _, _, _, _, .cons h r, s => .cons h (Reps.append r s)
theorem Reps.get : ∀ {vs : List V} {ps : List PV} {i : Nat} {p : PV}, Reps fr F vs ps → ps[i]? = some p → ∃ v, vs[i]? = some v ∧ Rep fr F v p
  | _, _, _, _, .nil, e => by simp at e
  | _, _, 0, _, .cons h _, e => by simp at e; subst e; exact ⟨_, rfl, h⟩
  | _, _, i + 1, p, .cons _ r, e => by
    obtain ⟨v, h1, h2⟩ := Reps.get (i := i) (p := p) r (by simpa using e)
    exact ⟨v, by simpa using h1, h2⟩
theorem Reps.get' : ∀ {vs : List V} {ps : List PV} {i : Nat} {v : V}, Reps fr F vs ps → vs[i]? = some v → ∃ p, ps[i]? = some p ∧ Rep fr F v p
  | _, _, _, _, .nil, e => by simp at e
  | _, _, 0, _, .cons h _, e => by simp at e; subst e; exact ⟨_, rfl, h⟩
  | _, _, i + 1, v, .cons _ r, e => by
    obtain ⟨p, h1, h2⟩ := Reps.get' (i := i) (v := v) r (by simpa using e)
    exact ⟨p, by simpa using h1, h2⟩
theorem Reps.take : ∀ {vs : List V} {ps : List PV} (n : Nat), Reps fr F vs ps → Reps fr F (vs.take n) (ps.take n)
  | _, _, 0, _ => by simp; exact .nil
  | _, _, _ + 1, .nil => by simp; exact .nil
  | _, _, n + 1, .cons h r => by rw [List.take_succ_cons, List.take_succ_cons]; exact .cons h (Reps.take n r)
theorem Reps.drop : ∀ {vs : List V} {ps : List PV} (n : Nat), Reps fr F vs ps → Reps fr F (vs.drop n) (ps.drop n)
  | _, _, 0, h => h
  | _, _, _ + 1, .nil => by simp; exact .nil
  | _, _, n + 1, .cons _ r => by rw [List.drop_succ_cons, List.drop_succ_cons]; exact Reps.drop n r
theorem Reps.reverse {vs : List V} {ps : List PV} (h : Reps fr F vs ps) : Reps fr F vs.reverse ps.reverse := by
  induction ps generalizing vs with
  | nil => cases h; exact .nil
  | cons p ps ih =>
    cases h with
    | cons h r =>
      rw [List.reverse_cons, List.reverse_cons]
      exact (ih r).append (.cons h .nil)
theorem Reps.set {v : V} {p : PV} (r : Rep fr F v p) : ∀ {vs : List V} {ps : List PV} (i : Nat), Reps fr F vs ps → Reps fr F (vs.set i v) (ps.set i p)
  | _, _, _, .nil => .nil
  | _, _, 0, .cons _ t => .cons r t
  | _, _, i + 1, .cons q t => .cons q (Reps.set r i t)
theorem Reps.rep {vs : List V} {ps : List PV} (h : Reps fr F vs ps) : ∀ k : Nat, Reps fr F (List.replicate k vs).flatten (List.replicate k ps).flatten
  | 0 => by simp; exact .nil
  | k + 1 => by rw [List.replicate_succ, List.replicate_succ, List.flatten_cons, List.flatten_cons]; exact h.append (Reps.rep h k)
theorem Reps.ints : ∀ (ns : List Int), Reps fr F (ns.map V.int) (ns.map PV.int)
  | [] => .nil
  | n :: r => .cons (.int n) (Reps.ints r)
theorem Reps.ints_of : ∀ {vs : List V} {ns : List Int}, Reps fr F vs (ns.map PV.int) → vs = ns.map V.int
  | _, [], .nil => rfl
  | _, _ :: r, .cons (.int n) t => by rw [Reps.ints_of t]; rfl
theorem Reps.bls_of : ∀ {vs : List V} {ns : List Bool}, Reps fr F vs (ns.map PV.bl) → vs = ns.map V.bl
  | _, [], .nil => rfl
  | _, _ :: r, .cons (.bl n) t => by rw [Reps.bls_of t]; rfl
theorem Reps.strs_of : ∀ {vs : List V} {ns : List Str}, Reps fr F vs (ns.map PV.str) → vs = ns.map V.str
  | _, [], .nil => rfl
  | _, _ :: r, .cons (.str n _) t => by rw [Reps.strs_of t]; rfl
theorem Reps.keys_of : ∀ {vs : List V} {ks : List Key}, Reps fr F vs (ks.map fun k => match k with | .inl i => PV.int i | .inr x => PV.str x) → vs = ks.map kV
  | _, [], .nil => rfl
  | _, .inl i :: r, .cons (.int _) t => by rw [Reps.keys_of (ks := r) t]; rfl
  | _, .inr x :: r, .cons (.str _ _) t => by rw [Reps.keys_of (ks := r) t]; rfl
end

/-- an object that a name owns -/
inductive RepO (fr : Fr) (F : Hp) : HO → PV → Prop
  | lst {vs : List V} {ps : List PV} (l : ps.length ≤ sizeLine) (r : Reps fr F vs ps) : RepO fr F (.lst vs) (.lst ps)
  | dic {vs : List (Key × V)} {ps : List (Key × PV)} (l : ps.length ≤ sizeLine) (r : RepK fr F vs ps) : RepO fr F (.dK vs) (.dic ps)
  | dit {vs : List (List Key × V)} {ps : List (List Key × PV)} (l : ps.length ≤ sizeLine) (r : RepT fr F vs ps) : RepO fr F (.dT vs) (.dit ps)
theorem RepO.up {fr : Fr} {F F' : Hp} {o : HO} {p : PV} (x : RepO fr F o p) (q : FLe F F') : RepO fr F' o p := by
  cases x with
  | lst l r => exact .lst l (r.mono q.toRLe rfl ⟨rfl, rfl, rfl⟩)
  | dic l r => exact .dic l (r.mono q.toRLe rfl ⟨rfl, rfl, rfl⟩)
  | dit l r => exact .dit l (r.mono q.toRLe rfl ⟨rfl, rfl, rfl⟩)
theorem RepO.rep {fr : Fr} {F : Hp} {a : Addr} {o : HO} {p : PV} (x : RepO fr F o p) (h : F a = some o) : Rep fr F (.ref a) p := by
  cases x with
  | lst l r => exact .lst h l r
  | dic l r => exact .dic (.inl h) l r
  | dit l r => exact .dit (.inl h) l r

inductive SlOk (fr : Fr) (F H : Hp) : Option V → Slot → Prop
  | un (o : Option V) : SlOk fr F H o .un
  | val {v : V} {p : PV} (h : Rep fr F v p) : SlOk fr F H (some v) (.val p)
  | own {a : Addr} {o : HO} {p : PV} (hF : F a = none) (hd : ¬ fr.dom a) (hH : H a = some o) (r : RepO fr F o p) : SlOk fr F H (some (.ref a)) (.own p)

def OwnAt (σ : St) (ρ : Rho) (i : Nat) (a : Addr) : Prop := (∃ p, ρ[i]? = some (.own p)) ∧ σ[i]? = some (some (.ref a))

structure StOk (fr : Fr) (F H : Hp) (σ : St) (ρ : Rho) : Prop where
  le : ∀ a o, F a = some o → H a = some o
  fok : fr.ok H
  fd : ∀ a, fr.dom a → F a = none
  len : σ.length = ρ.length
  sl : ∀ (i : Nat) (s : Slot), ρ[i]? = some s → ∃ o, σ[i]? = some o ∧ SlOk fr F H o s
  ap : ∀ i j a, OwnAt σ ρ i a → OwnAt σ ρ j a → i = j

section
variable {fr : Fr} {F F' H H' : Hp} {σ : St} {ρ : Rho} {p : Addr} {o : HO}
theorem StOk.nf (x : StOk fr F H σ ρ) (h : H p = none) : F p = none := by
  cases e : F p with
  | none => rfl
  | some o => rw [x.le _ _ e] at h; cases h
theorem StOk.nd (x : StOk fr F H σ ρ) (h : H p = none) : ¬ fr.dom p := fun d => fr.there H p x.fok d h
/-- a new frozen object -/
theorem StOk.new (x : StOk fr F H σ ρ) (h : H p = none) (o : HO) : StOk fr (upd F p o) (upd H p o) σ ρ := by
  have hF := x.nf h
  refine ⟨fun a u e => ?_, fr.loc H _ (fun a d => by rw [upd_ne]; rintro rfl; exact x.nd h d) x.fok, fun a d => ?_, x.len, fun i s e => ?_, x.ap⟩
  · by_cases q : a = p
    · subst q; rw [upd_same] at e ⊢; exact e
    · rw [upd_ne q] at e ⊢; exact x.le _ _ e
  · rw [upd_ne]
    · exact x.fd a d
    · rintro rfl; exact x.nd h d
  · obtain ⟨w, e1, e2⟩ := x.sl i s e
    refine ⟨w, e1, ?_⟩
    cases e2 with
    | un => exact .un _
    | val r => exact .val (r.up (FLe.new hF))
    | own q1 q2 q3 r =>
      have ne := ne_of_none q3 h
      exact .own (by rw [upd_ne ne]; exact q1) q2 (by rw [upd_ne ne]; exact q3) (r.up (FLe.new hF))
/-- a new object that nobody tracks in F -/
theorem StOk.alloc (x : StOk fr F H σ ρ) (h : H p = none) (o : HO) : StOk fr F (upd H p o) σ ρ := by
  refine ⟨fun a u e => ?_, fr.loc H _ (fun a d => by rw [upd_ne]; rintro rfl; exact x.nd h d) x.fok, x.fd, x.len, fun i s e => ?_, x.ap⟩
  · have q := x.le _ _ e
    rw [upd_ne (ne_of_none q h)]; exact q
  · obtain ⟨w, e1, e2⟩ := x.sl i s e
    refine ⟨w, e1, ?_⟩
    cases e2 with
    | un => exact .un _
    | val r => exact .val r
    | own q1 q2 q3 r => exact .own q1 q2 (by rw [upd_ne (ne_of_none q3 h)]; exact q3) r
/-- a name takes a frozen value -/
theorem StOk.set (x : StOk fr F H σ ρ) {v : V} {q : PV} (r : Rep fr F v q) (i : Nat) : StOk fr F H (σ.set i (some v)) (ρ.set i (.val q)) := by
  refine ⟨x.le, x.fok, x.fd, by simpa using x.len, fun j s e => ?_, fun j k a h1 h2 => ?_⟩
  · by_cases hj : i = j
    · subst hj
      have hi : i < ρ.length := by
        have := (List.getElem?_eq_some_iff.mp e).1
        simpa using this
      rw [List.getElem?_set_self hi] at e; cases e
      exact ⟨_, List.getElem?_set_self (by rw [x.len]; exact hi), .val r⟩
    · rw [List.getElem?_set_ne hj] at e
      obtain ⟨o, e1, e2⟩ := x.sl j s e
      exact ⟨o, by rw [List.getElem?_set_ne hj]; exact e1, e2⟩
  · have key : ∀ j a, OwnAt (σ.set i (some v)) (ρ.set i (.val q)) j a → OwnAt σ ρ j a := fun j a ⟨⟨p, h1⟩, h2⟩ => by
      by_cases hj : i = j
      · subst hj
        have hi : i < ρ.length := by
          have := (List.getElem?_eq_some_iff.mp h1).1
          simpa using this
        rw [List.getElem?_set_self hi] at h1; cases h1
      · rw [List.getElem?_set_ne hj] at h1 h2
        exact ⟨⟨p, h1⟩, h2⟩
    exact x.ap j k a (key j a h1) (key k a h2)
/-- a name takes a new object of its own -/
theorem StOk.setOwn (x : StOk fr F H σ ρ) {q : PV} (i : Nat) {a : Addr} (hF : F a = none) (hd : ¬ fr.dom a) (hH : H a = some o) (r : RepO fr F o q) (hn : ∀ j, ¬ OwnAt σ ρ j a) : StOk fr F H (σ.set i (some (.ref a))) (ρ.set i (.own q)) := by
  refine ⟨x.le, x.fok, x.fd, by simpa using x.len, fun j s e => ?_, fun j k b h1 h2 => ?_⟩
  · by_cases hj : i = j
    · subst hj
      have hi : i < ρ.length := by
        have := (List.getElem?_eq_some_iff.mp e).1
        simpa using this
      rw [List.getElem?_set_self hi] at e; cases e
      exact ⟨_, List.getElem?_set_self (by rw [x.len]; exact hi), .own hF hd hH r⟩
    · rw [List.getElem?_set_ne hj] at e
      obtain ⟨o, e1, e2⟩ := x.sl j s e
      exact ⟨o, by rw [List.getElem?_set_ne hj]; exact e1, e2⟩
  · have key : ∀ j b, OwnAt (σ.set i (some (.ref a))) (ρ.set i (.own q)) j b → (j = i ∧ b = a) ∨ (j ≠ i ∧ OwnAt σ ρ j b) := fun j b ⟨⟨p, h1⟩, h2⟩ => by
      by_cases hj : i = j
      · subst hj
        have hi : i < σ.length := by
          have := (List.getElem?_eq_some_iff.mp h2).1
          simpa using this
        rw [List.getElem?_set_self hi] at h2
        injection h2 with h2; injection h2 with h2; injection h2 with h2
        exact .inl ⟨rfl, h2.symm⟩
      · rw [List.getElem?_set_ne hj] at h1 h2
        exact .inr ⟨Ne.symm hj, ⟨p, h1⟩, h2⟩
    rcases key j b h1 with ⟨rfl, rfl⟩ | ⟨nj, o1⟩ <;> rcases key k b h2 with ⟨rfl, e⟩ | ⟨nk, o2⟩
    · rfl
    · exact absurd o2 (hn k)
    · subst e; exact absurd o1 (hn j)
    · exact x.ap j k b o1 o2
/-- an own object is written -/
theorem StOk.write (x : StOk fr F H σ ρ) {q q' : PV} {i : Nat} {a : Addr} (h1 : ρ[i]? = some (.own q)) (h2 : σ[i]? = some (some (.ref a))) {o' : HO} (r : RepO fr F o' q') : StOk fr F (upd H a o') σ (ρ.set i (.own q')) := by
  obtain ⟨_, e1, e2⟩ := x.sl i _ h1
  rw [h2] at e1; cases e1
  obtain ⟨hF, hd, hH⟩ : F a = none ∧ ¬ fr.dom a ∧ ∃ o, H a = some o := by
    cases e2 with
    | own q1 q2 q3 _ => exact ⟨q1, q2, _, q3⟩
  have ow : OwnAt σ ρ i a := ⟨⟨_, h1⟩, h2⟩
  have nea : ∀ b o, F b = some o → b ≠ a := fun b o e z => by rw [z, hF] at e; cases e
  refine ⟨fun b o e => ?_, fr.loc H _ (fun b d => by rw [upd_ne]; rintro rfl; exact hd d) x.fok, x.fd, by simpa using x.len, fun j s e => ?_, fun j k b g1 g2 => ?_⟩
  · rw [upd_ne (nea b o e)]; exact x.le _ _ e
  · by_cases hj : i = j
    · subst hj
      have hi : i < ρ.length := (List.getElem?_eq_some_iff.mp h1).1
      rw [List.getElem?_set_self hi] at e; cases e
      exact ⟨_, h2, .own hF hd upd_same r⟩
    · rw [List.getElem?_set_ne hj] at e
      obtain ⟨w, g1, g2⟩ := x.sl j s e
      refine ⟨w, g1, ?_⟩
      cases g2 with
      | un => exact .un _
      | val r => exact .val r
      | own q1 q2 q3 r' =>
        rename_i b ob pb
        have nb : b ≠ a := fun z => hj (x.ap i j a ow ⟨⟨_, e⟩, z ▸ g1⟩)
        exact .own q1 q2 (by rw [upd_ne nb]; exact q3) r'
  · have key : ∀ j b, OwnAt σ (ρ.set i (.own q')) j b → OwnAt σ ρ j b := fun j b ⟨⟨p, g1⟩, g2⟩ => by
      by_cases hj : i = j
      · subst hj; exact ⟨⟨_, h1⟩, g2⟩
      · rw [List.getElem?_set_ne hj] at g1
        exact ⟨⟨p, g1⟩, g2⟩
    exact x.ap j k b (key j b g1) (key k b g2)
/-- an own object is frozen -/
theorem StOk.freeze (x : StOk fr F H σ ρ) {q : PV} {i : Nat} (h1 : ρ[i]? = some (.own q)) : ∃ a F', σ[i]? = some (some (.ref a)) ∧ FLe F F' ∧ StOk fr F' H σ (ρ.set i (.val q)) ∧ Rep fr F' (.ref a) q := by
  obtain ⟨_, h2, e2⟩ := x.sl i _ h1
  cases e2 with
  | own q1 q2 q3 r =>
    rename_i a o
    have ow : OwnAt σ ρ i a := ⟨⟨_, h1⟩, h2⟩
    have fl : FLe F (upd F a o) := FLe.new q1
    have rp : Rep fr (upd F a o) (.ref a) q := (r.up fl).rep upd_same
    refine ⟨a, upd F a o, h2, fl, ⟨fun b u e => ?_, x.fok, fun b d => ?_, by simpa using x.len, fun j s e => ?_, fun j k b g1 g2 => ?_⟩, rp⟩
    · by_cases z : b = a
      · subst z; rw [upd_same] at e; rw [← e]; exact q3
      · rw [upd_ne z] at e; exact x.le _ _ e
    · rw [upd_ne (show b ≠ a from fun z => q2 (z ▸ d))]; exact x.fd b d
    · by_cases hj : i = j
      · subst hj
        have hi : i < ρ.length := (List.getElem?_eq_some_iff.mp h1).1
        rw [List.getElem?_set_self hi] at e; cases e
        exact ⟨_, h2, .val rp⟩
      · rw [List.getElem?_set_ne hj] at e
        obtain ⟨w, g1, g2⟩ := x.sl j s e
        refine ⟨w, g1, ?_⟩
        cases g2 with
        | un => exact .un _
        | val r => exact .val (r.up fl)
        | own p1 p2 p3 r' =>
          rename_i b ob pb
          have nb : b ≠ a := fun z => hj (x.ap i j a ow ⟨⟨_, e⟩, z ▸ g1⟩)
          exact .own (by rw [upd_ne nb]; exact p1) p2 p3 (r'.up fl)
    · have key : ∀ j b, OwnAt σ (ρ.set i (.val q)) j b → OwnAt σ ρ j b := fun j b ⟨⟨p, g1⟩, g2⟩ => by
        by_cases hj : i = j
        · subst hj
          have hi : i < ρ.length := (List.getElem?_eq_some_iff.mp h1).1
          rw [List.getElem?_set_self hi] at g1; cases g1
        · rw [List.getElem?_set_ne hj] at g1
          exact ⟨⟨p, g1⟩, g2⟩
      exact x.ap j k b (key j b g1) (key k b g2)
end
/-! ### more in the frame -/
def Fr.plus (fr : Fr) (S : Hp) (hS : ∀ a, S a ≠ none → ¬ fr.dom a) : Fr where
  dom a := fr.dom a ∨ S a ≠ none
  ok H := fr.ok H ∧ ∀ a o, S a = some o → H a = some o
  loc H H' q x := ⟨fr.loc H H' (fun a d => q a (.inl d)) x.1, fun a o e => by rw [q a (.inr (by rw [e]; simp))]; exact x.2 a o e⟩
  there H a x d := by
    rcases d with d | d
    · exact fr.there H a x.1 d
    · cases e : S a with
      | none => exact absurd e d
      | some o => rw [x.2 a o e]; simp
  tw := fr.tw
  sc := fr.sc
  kf := fr.kf
  ns := fr.ns
  twd := .inl fr.twd
  twg H x := fr.twg H x.1
  tws H p q x h1 h2 := ⟨fr.tws H p q x.1 h1 h2, fun a o e => by
    rw [upd_ne]
    · exact x.2 a o e
    · rintro rfl; exact hS _ (by rw [e]; simp) fr.twd⟩
  scg H x := fr.scg H x.1
  nsl := fr.nsl
section
variable {fr : Fr} {S : Hp} {hS : ∀ a, S a ≠ none → ¬ fr.dom a} {F H : Hp} {σ : St} {ρ : Rho}
theorem Rep.plus {v : V} {p : PV} (r : Rep fr F v p) : Rep (fr.plus S hS) F v p := Rep.mono (fr := fr) (fr' := fr.plus S hS) (RLe.refl F) rfl ⟨rfl, rfl, rfl⟩ r
theorem Reps.plus {v : List V} {p : List PV} (r : Reps fr F v p) : Reps (fr.plus S hS) F v p := Reps.mono (fr := fr) (fr' := fr.plus S hS) (RLe.refl F) rfl ⟨rfl, rfl, rfl⟩ r
theorem Rep.minus {v : V} {p : PV} (r : Rep (fr.plus S hS) F v p) : Rep fr F v p := Rep.mono (fr := fr.plus S hS) (fr' := fr) (RLe.refl F) rfl ⟨rfl, rfl, rfl⟩ r
theorem Reps.minus {v : List V} {p : List PV} (r : Reps (fr.plus S hS) F v p) : Reps fr F v p := Reps.mono (fr := fr.plus S hS) (fr' := fr) (RLe.refl F) rfl ⟨rfl, rfl, rfl⟩ r
theorem RepO.plus {o : HO} {p : PV} (x : RepO fr F o p) : RepO (fr.plus S hS) F o p := by
  cases x with
  | lst l r => exact .lst l (Reps.mono (fr := fr) (fr' := fr.plus S hS) (RLe.refl F) rfl ⟨rfl, rfl, rfl⟩ r)
  | dic l r => exact .dic l (RepK.mono (fr := fr) (fr' := fr.plus S hS) (RLe.refl F) rfl ⟨rfl, rfl, rfl⟩ r)
  | dit l r => exact .dit l (RepT.mono (fr := fr) (fr' := fr.plus S hS) (RLe.refl F) rfl ⟨rfl, rfl, rfl⟩ r)
theorem RepO.minus {o : HO} {p : PV} (x : RepO (fr.plus S hS) F o p) : RepO fr F o p := by
  cases x with
  | lst l r => exact .lst l (Reps.mono (fr := fr.plus S hS) (fr' := fr) (RLe.refl F) rfl ⟨rfl, rfl, rfl⟩ r)
  | dic l r => exact .dic l (RepK.mono (fr := fr.plus S hS) (fr' := fr) (RLe.refl F) rfl ⟨rfl, rfl, rfl⟩ r)
  | dit l r => exact .dit l (RepT.mono (fr := fr.plus S hS) (fr' := fr) (RLe.refl F) rfl ⟨rfl, rfl, rfl⟩ r)
theorem StOk.plus (x : StOk fr F H σ ρ) (h1 : ∀ a o, S a = some o → H a = some o) (h2 : ∀ a, S a ≠ none → F a = none) (h3 : ∀ a, S a ≠ none → ∀ j, ¬ OwnAt σ ρ j a) : StOk (fr.plus S hS) F H σ ρ := by
  refine ⟨x.le, ⟨x.fok, h1⟩, fun a d => d.elim (x.fd a) (h2 a), x.len, fun j s e => ?_, x.ap⟩
  obtain ⟨o, g1, g2⟩ := x.sl j s e
  refine ⟨o, g1, ?_⟩
  cases g2 with
  | un => exact .un _
  | val r => exact .val r.plus
  | own q1 q2 q3 r => exact .own q1 (fun d => d.elim q2 fun d => h3 _ d j ⟨⟨_, e⟩, g1⟩) q3 r.plus
theorem StOk.minus (x : StOk (fr.plus S hS) F H σ ρ) : StOk fr F H σ ρ ∧ (∀ a o, S a = some o → H a = some o) ∧ (∀ a, S a ≠ none → F a = none) ∧ ∀ a, S a ≠ none → ∀ j, ¬ OwnAt σ ρ j a := by
  refine ⟨⟨x.le, x.fok.1, fun a d => x.fd a (.inl d), x.len, fun j s e => ?_, x.ap⟩, x.fok.2, fun a d => x.fd a (.inr d), fun a d j q => ?_⟩
  · obtain ⟨o, g1, g2⟩ := x.sl j s e
    refine ⟨o, g1, ?_⟩
    cases g2 with
    | un => exact .un _
    | val r => exact .val r.minus
    | own q1 q2 q3 r => exact .own q1 (fun d => q2 (.inl d)) q3 r.minus
  · obtain ⟨⟨p, e⟩, e2⟩ := q
    obtain ⟨o, g1, g2⟩ := x.sl j _ e
    rw [e2] at g1; cases g1
    cases g2 with
    | own q1 q2 q3 r => exact q2 (.inr d)
/-- an object that nobody tracks is written -/
theorem StOk.poke (x : StOk fr F H σ ρ) {a : Addr} {o : HO} (hF : F a = none) (hd : ¬ fr.dom a) (hn : ∀ j, ¬ OwnAt σ ρ j a) : StOk fr F (upd H a o) σ ρ := by
  refine ⟨fun b u e => ?_, fr.loc H _ (fun b d => by rw [upd_ne]; rintro rfl; exact hd d) x.fok, x.fd, x.len, fun j s e => ?_, x.ap⟩
  · rw [upd_ne (show b ≠ a from fun z => by rw [z, hF] at e; cases e)]; exact x.le _ _ e
  · obtain ⟨w, g1, g2⟩ := x.sl j s e
    refine ⟨w, g1, ?_⟩
    cases g2 with
    | un => exact .un _
    | val r => exact .val r
    | own p1 p2 p3 r' =>
      rename_i b ob pb
      have nb : b ≠ a := fun z => hn j ⟨⟨_, e⟩, z ▸ g1⟩
      exact .own p1 p2 (by rw [upd_ne nb]; exact p3) r'
end
end PL

set_option Elab.async false
set_option linter.all false
set_option maxRecDepth 100000
set_option maxHeartbeats 4000000
/-! the judgements over pure values -/
namespace PL
open PySem PySem.Spec L2

abbrev DE := Rho → (PV → Rho → Prop) → Prop
abbrev DT := Rho → (Bool → Rho → Prop) → Prop
abbrev DA := Rho → (List PV → Rho → Prop) → Prop
abbrev DG := PV → Rho → (Rho → Prop) → Prop
abbrev DGs := List PV → Rho → (Rho → Prop) → Prop
structure PEnds where
  nx : Rho → Prop
  rt : PV → Rho → Prop
  bk : Rho → Prop := fun _ => False
  ct : Rho → Prop := fun _ => False
abbrev DS := PEnds → Rho → Prop

def SndE (t : TE) (d : DE) : Prop := ∀ (fr : Fr) (F : Hp) (σ : St) (H : Hp) (ρ : Rho) (Q : PV → Rho → Prop) (R : VK), StOk fr F H σ ρ → d ρ Q →
  (∀ v H' p ρ' F', FLe F F' → StOk fr F' H' σ ρ' → Rep fr F' v p → Q p ρ' → R v H') → t σ H R
def SndT (t : TT) (d : DT) : Prop := ∀ (fr : Fr) (F : Hp) (σ : St) (H : Hp) (ρ : Rho) (Q : Bool → Rho → Prop) (R : Bool → Hp → Prop), StOk fr F H σ ρ → d ρ Q →
  (∀ b H' ρ' F', FLe F F' → StOk fr F' H' σ ρ' → Q b ρ' → R b H') → t σ H R
def SndA (t : TA) (d : DA) : Prop := ∀ (fr : Fr) (F : Hp) (σ : St) (H : Hp) (ρ : Rho) (Q : List PV → Rho → Prop) (R : List V → Hp → Prop), StOk fr F H σ ρ → d ρ Q →
  (∀ vs H' ps ρ' F', FLe F F' → StOk fr F' H' σ ρ' → Reps fr F' vs ps → Q ps ρ' → R vs H') → t σ H R
structure EOk (fr : Fr) (F : Hp) (PD : PEnds) (D : Ends) : Prop where
  nx : ∀ F' H' σ' ρ', FLe F F' → StOk fr F' H' σ' ρ' → PD.nx ρ' → D.nx σ' H'
  rt : ∀ F' H' σ' ρ' v p, FLe F F' → StOk fr F' H' σ' ρ' → Rep fr F' v p → PD.rt p ρ' → D.rt v H'
  bk : ∀ F' H' σ' ρ', FLe F F' → StOk fr F' H' σ' ρ' → PD.bk ρ' → D.bk σ' H'
  ct : ∀ F' H' σ' ρ', FLe F F' → StOk fr F' H' σ' ρ' → PD.ct ρ' → D.ct σ' H'
theorem EOk.up {fr : Fr} {F F' : Hp} {PD : PEnds} {D : Ends} (x : EOk fr F PD D) (q : FLe F F') : EOk fr F' PD D :=
  ⟨fun _ _ _ _ h => x.nx _ _ _ _ (q.trans h), fun _ _ _ _ _ _ h => x.rt _ _ _ _ _ _ (q.trans h), fun _ _ _ _ h => x.bk _ _ _ _ (q.trans h), fun _ _ _ _ h => x.ct _ _ _ _ (q.trans h)⟩
def SndS (t : TS) (d : DS) : Prop := ∀ (fr : Fr) (F : Hp) (σ : St) (H : Hp) (ρ : Rho) (PD : PEnds) (D : Ends), StOk fr F H σ ρ → d PD ρ → EOk fr F PD D → t D σ H
def SndG (g : TG) (d : DG) : Prop := ∀ (fr : Fr) (F : Hp) (σ : St) (H : Hp) (ρ : Rho) (v : V) (p : PV) (Q : Rho → Prop) (R : St → Hp → Prop), StOk fr F H σ ρ → Rep fr F v p → d p ρ Q →
  (∀ F' H' σ' ρ', FLe F F' → StOk fr F' H' σ' ρ' → Q ρ' → R σ' H') → g v σ H R
def SndGs (g : TGs) (d : DGs) : Prop := ∀ (fr : Fr) (F : Hp) (σ : St) (H : Hp) (ρ : Rho) (vs : List V) (ps : List PV) (Q : Rho → Prop) (R : St → Hp → Prop), StOk fr F H σ ρ → Reps fr F vs ps → d ps ρ Q →
  (∀ F' H' σ' ρ', FLe F F' → StOk fr F' H' σ' ρ' → Q ρ' → R σ' H') → g vs σ H R

/-- the weakest reading that a denotation gives -/
def wE (d : DE) : TE := fun σ H R => ∃ fr F ρ Q, StOk fr F H σ ρ ∧ d ρ Q ∧ ∀ v H' p ρ' F', FLe F F' → StOk fr F' H' σ ρ' → Rep fr F' v p → Q p ρ' → R v H'
def wT (d : DT) : TT := fun σ H R => ∃ fr F ρ Q, StOk fr F H σ ρ ∧ d ρ Q ∧ ∀ b H' ρ' F', FLe F F' → StOk fr F' H' σ ρ' → Q b ρ' → R b H'
def wA (d : DA) : TA := fun σ H R => ∃ fr F ρ Q, StOk fr F H σ ρ ∧ d ρ Q ∧ ∀ vs H' ps ρ' F', FLe F F' → StOk fr F' H' σ ρ' → Reps fr F' vs ps → Q ps ρ' → R vs H'
def wS (d : DS) : TS := fun D σ H => ∃ fr F ρ PD, StOk fr F H σ ρ ∧ d PD ρ ∧ EOk fr F PD D
def wG (d : DG) : TG := fun v σ H R => ∃ fr F ρ p Q, StOk fr F H σ ρ ∧ Rep fr F v p ∧ d p ρ Q ∧ ∀ F' H' σ' ρ', FLe F F' → StOk fr F' H' σ' ρ' → Q ρ' → R σ' H'
def wGs (d : DGs) : TGs := fun vs σ H R => ∃ fr F ρ ps Q, StOk fr F H σ ρ ∧ Reps fr F vs ps ∧ d ps ρ Q ∧ ∀ F' H' σ' ρ', FLe F F' → StOk fr F' H' σ' ρ' → Q ρ' → R σ' H'
theorem sndE (d : DE) : SndE (wE d) d := fun fr F σ H ρ Q R a b c => ⟨fr, F, ρ, Q, a, b, c⟩
theorem sndT (d : DT) : SndT (wT d) d := fun fr F σ H ρ Q R a b c => ⟨fr, F, ρ, Q, a, b, c⟩
theorem sndA (d : DA) : SndA (wA d) d := fun fr F σ H ρ Q R a b c => ⟨fr, F, ρ, Q, a, b, c⟩
theorem sndS (d : DS) : SndS (wS d) d := fun fr F σ H ρ PD D a b c => ⟨fr, F, ρ, PD, a, b, c⟩
theorem sndG (d : DG) : SndG (wG d) d := fun fr F σ H ρ v p Q R a b c e => ⟨fr, F, ρ, p, Q, a, b, c, e⟩
theorem sndGs (d : DGs) : SndGs (wGs d) d := fun fr F σ H ρ v p Q R a b c e => ⟨fr, F, ρ, p, Q, a, b, c, e⟩

structure EX (X : Cx) (e : Expr) (d : DE) : Prop where
  run : PE X e (wE d)
structure TX (X : Cx) (e : Expr) (d : DT) : Prop where
  run : PT X e (wT d)
structure WX (X : Cx) (e : Expr) (d : DT) : Prop where
  run : PW X e (wT d)
structure AX (X : Cx) (es : List Expr) (d : DA) : Prop where
  run : PA X es (wA d)
structure SX (X : Cx) (st : Stmt) (d : DS) : Prop where
  run : PS X st (wS d)
structure BX (X : Cx) (st : List Stmt) (d : DS) : Prop where
  run : PSs X st (wS d)
structure GX (X : Cx) (e : Expr) (d : DG) : Prop where
  run : PG X e (wG d)
structure GsX (X : Cx) (es : List Expr) (d : DGs) : Prop where
  run : PGs X es (wGs d)
section
variable {X : Cx} {e : Expr} {es : List Expr} {st : Stmt} {sts : List Stmt}
theorem EX.mk' {t : TE} {d : DE} (p : PE X e t) (s : SndE t d) : EX X e d := ⟨⟨fun pins s0 σ H Q I ⟨fr, F, ρ, Q', a, b, c⟩ => p.run pins s0 σ H Q I (s fr F σ H ρ Q' Q a b c)⟩⟩
theorem TX.mk' {t : TT} {d : DT} (p : PT X e t) (s : SndT t d) : TX X e d := ⟨⟨fun pins s0 σ H Q I ⟨fr, F, ρ, Q', a, b, c⟩ => p.run pins s0 σ H Q I (s fr F σ H ρ Q' Q a b c)⟩⟩
theorem WX.mk' {t : TT} {d : DT} (p : PW X e t) (s : SndT t d) : WX X e d := ⟨⟨fun wh pins s0 σ H Q I ⟨fr, F, ρ, Q', a, b, c⟩ => p.run wh pins s0 σ H Q I (s fr F σ H ρ Q' Q a b c)⟩⟩
theorem AX.mk' {t : TA} {d : DA} (p : PA X es t) (s : SndA t d) : AX X es d := ⟨⟨fun pos pins s0 σ H Q I ⟨fr, F, ρ, Q', a, b, c⟩ => p.run pos pins s0 σ H Q I (s fr F σ H ρ Q' Q a b c)⟩⟩
theorem SX.mk' {t : TS} {d : DS} (p : PS X st t) (s : SndS t d) : SX X st d := ⟨⟨fun pins s0 σ H D I ⟨fr, F, ρ, PD, a, b, c⟩ => p.run pins s0 σ H D I (s fr F σ H ρ PD D a b c)⟩⟩
theorem BX.mk' {t : TS} {d : DS} (p : PSs X sts t) (s : SndS t d) : BX X sts d := ⟨⟨fun pins s0 σ H D I ⟨fr, F, ρ, PD, a, b, c⟩ => p.run pins s0 σ H D I (s fr F σ H ρ PD D a b c)⟩⟩
theorem GX.mk' {t : TG} {d : DG} (p : PG X e t) (s : SndG t d) : GX X e d := ⟨⟨fun pins s0 σ H v u Q I r ⟨fr, F, ρ, q, Q', a, b, c, k⟩ => p.run pins s0 σ H v u Q I r (s fr F σ H ρ v q Q' Q a b c k)⟩⟩
theorem GsX.mk' {t : TGs} {d : DGs} (p : PGs X es t) (s : SndGs t d) : GsX X es d := ⟨⟨fun pins s0 σ H v u Q I r ⟨fr, F, ρ, q, Q', a, b, c, k⟩ => p.run pins s0 σ H v u Q I r (s fr F σ H ρ v q Q' Q a b c k)⟩⟩
theorem EX.out {d : DE} (h : EX X e d) : PE X e (wE d) ∧ SndE (wE d) d := ⟨h.run, sndE d⟩
theorem TX.out {d : DT} (h : TX X e d) : PT X e (wT d) ∧ SndT (wT d) d := ⟨h.run, sndT d⟩
theorem WX.out {d : DT} (h : WX X e d) : PW X e (wT d) ∧ SndT (wT d) d := ⟨h.run, sndT d⟩
theorem AX.out {d : DA} (h : AX X es d) : PA X es (wA d) ∧ SndA (wA d) d := ⟨h.run, sndA d⟩
theorem SX.out {d : DS} (h : SX X st d) : PS X st (wS d) ∧ SndS (wS d) d := ⟨h.run, sndS d⟩
theorem BX.out {d : DS} (h : BX X sts d) : PSs X sts (wS d) ∧ SndS (wS d) d := ⟨h.run, sndS d⟩
theorem GX.out {d : DG} (h : GX X e d) : PG X e (wG d) ∧ SndG (wG d) d := ⟨h.run, sndG d⟩
theorem GsX.out {d : DGs} (h : GsX X es d) : PGs X es (wGs d) ∧ SndGs (wGs d) d := ⟨h.run, sndGs d⟩
end

section
variable {X : Cx} {pos : Pos}

/-! ### names and constants -/
def dVar (i : Nat) : DE := fun ρ Q => match ρ[i]? with
  | some (.val p) => Q p ρ
  | some (.own p) => Q p (ρ.set i (.val p))
  | _ => False
theorem ex_var (i : Nat) {x : Str} (hN : X.N[i]? = some x := by rfl) (hv : Vis X.env.scope x := by first | exact Or.inl rfl | exact Or.inr (Or.inl rfl) | exact Or.inr (Or.inr rfl)) (hd : (x == ("__debug__" : Str)) = false := by decide)
    (hcd : (x == ("__classdict__" : Str)) = false := by decide) : EX X (.Name x pos) (dVar i) := by
  refine .mk' (pe_var hN hv hd hcd) (fun fr F σ H ρ Q R ok h k => ?_)
  cases e : ρ[i]? with
  | none => simp only [dVar, e] at h
  | some s =>
    cases s with
    | un => simp only [dVar, e] at h
    | val p =>
      simp only [dVar, e] at h
      obtain ⟨o, e1, e2⟩ := ok.sl i _ e
      cases e2 with
      | val r => exact ⟨_, e1, k _ _ _ _ _ (FLe.refl F) ok r h⟩
    | own p =>
      simp only [dVar, e] at h
      obtain ⟨a, F', e1, fl, ok', r⟩ := ok.freeze e
      exact ⟨_, e1, k _ _ _ _ _ fl ok' r h⟩
def dC (p : PV) : DE := fun ρ Q => Q p ρ
theorem ex_int {i j} : EX X (.Constant (.int i) j pos) (dC (.int i)) := .mk' (pe_int) (fun _ F _ _ _ _ _ ok h k => k _ _ _ _ _ (FLe.refl F) ok (.int i) h)
theorem ex_bl {b j} : EX X (.Constant (.bool b) j pos) (dC (.bl b)) := .mk' (pe_bl) (fun _ F _ _ _ _ _ ok h k => k _ _ _ _ _ (FLe.refl F) ok (.bl b) h)
theorem ex_non {j} : EX X (.Constant .none j pos) (dC .non) := .mk' (pe_non) (fun _ F _ _ _ _ _ ok h k => k _ _ _ _ _ (FLe.refl F) ok .non h)
theorem ex_str {x j} (hx : Sok x := by decide +kernel) : EX X (.Constant (.str x) j pos) (dC (.str x)) := .mk' (pe_str) (fun _ F _ _ _ _ _ ok h k => k _ _ _ _ _ (FLe.refl F) ok (.str x hx) h)
/-- a module's constant: an int, a bool, None, a text -/
inductive Flat : V → PV → Prop
  | non : Flat .non .non
  | bl (b : Bool) : Flat (.bl b) (.bl b)
  | int (i : Int) : Flat (.int i) (.int i)
  | str (x : Str) (h : Sok x) : Flat (.str x) (.str x)
theorem Flat.rep {fr : Fr} {F : Hp} {v : V} {p : PV} (x : Flat v p) : Rep fr F v p := by
  cases x with
  | non => exact .non
  | bl b => exact .bl b
  | int i => exact .int i
  | str x h => exact .str x h
theorem ex_glob {x : Str} {v : V} {p : PV} {u : Value} (hg : Gl X x) (hm : X.mg x = some u) (r : RelV v u) (f : Flat v p) (hd : (x == ("__debug__" : Str)) = false := by decide) : EX X (.Name x pos) (dC p) :=
  .mk' (pe_glob hg hm r hd) (fun _ F _ _ _ _ _ ok h k => k _ _ _ _ _ (FLe.refl F) ok f.rep h)

/-! ### operators by their rule on values -/
abbrev D2 := PV → PV → (PV → Prop) → Prop
/-- a rule on two values, sound -/
def SndO (r : R2) (d : D2) : Prop := ∀ (fr : Fr) (F H : Hp) (σ : St) (ρ : Rho) (x y : V) (p q : PV) (Q : PV → Prop) (R : VK), StOk fr F H σ ρ → Rep fr F x p → Rep fr F y q → d p q Q →
  (∀ v H' z F', FLe F F' → StOk fr F' H' σ ρ → Rep fr F' v z → Q z → R v H') → r x y H R
def dOp (d : D2) (da db : DE) : DE := fun ρ Q => da ρ fun x ρ1 => db ρ1 fun y ρ2 => d x y fun z => Q z ρ2
theorem snd_op {r : R2} {d : D2} {ta tb : TE} {da db : DE} (ho : SndO r d) (ha : SndE ta da) (hb : SndE tb db) : SndE (tOp r ta tb) (dOp d da db) := by
  intro fr F σ H ρ Q R ok h k
  refine ha fr F σ H ρ _ _ ok h fun x H1 p ρ1 F1 f1 ok1 r1 h1 => ?_
  refine hb fr F1 σ H1 ρ1 _ _ ok1 h1 fun y H2 q ρ2 F2 f2 ok2 r2 h2 => ?_
  exact ho fr F2 H2 σ ρ2 x y p q _ _ ok2 (r1.up f2) r2 h2 fun v H3 z F3 f3 ok3 r3 h3 => k _ _ _ _ _ ((f1.trans f2).trans f3) ok3 r3 h3
theorem ex_op {op : Operator} {a b : Expr} {r : R2} {d : D2} {da db : DE} (ho : OpR X (binaryOp op) r) (hs : SndO r d) (ha : EX X a da) (hb : EX X b db) : EX X (.BinOp a op b pos) (dOp d da db) := by
  obtain ⟨pa, sa⟩ := ha.out
  obtain ⟨pb, sb⟩ := hb.out
  exact .mk' (pe_op ho pa pb) (snd_op hs sa sb)
theorem ex_cmp {op : CmpOp} {a b : Expr} {r : R2} {d : D2} {da db : DE} (ho : OpR X (compareOp op) r) (hs : SndO r d) (ha : EX X a da) (hb : EX X b db) (hm : behindInMarks op b = false := by first | exact nomark _ | rfl) : EX X (.Compare a [op] [b] pos) (dOp d da db) := by
  obtain ⟨pa, sa⟩ := ha.out
  obtain ⟨pb, sb⟩ := hb.out
  exact .mk' (pe_cmpR ho pa pb hm) (snd_op hs sa sb)
/-- a value as a test, it is a bool -/
def dB (d : DE) : DT := fun ρ Q => d ρ fun x ρ1 => match x with
  | .bl b => Q b ρ1
  | _ => False
theorem snd_b {t : TE} {d : DE} (h : SndE t d) : SndT (fun σ H Q => t σ H fun x H1 => ∃ c, x = .bl c ∧ Q c H1) (dB d) := by
  intro fr F σ H ρ Q R ok hd k
  refine h fr F σ H ρ _ _ ok hd fun x H1 p ρ1 F1 f1 ok1 r1 h1 => ?_
  cases r1 with
  | bl b => exact ⟨b, rfl, k _ _ _ _ f1 ok1 h1⟩
  | _ => exact h1.elim
theorem tx_cmp {op : CmpOp} {a b : Expr} {r : R2} {d : D2} {da db : DE} (ho : OpR X (compareOp op) r) (hs : SndO r d) (ha : EX X a da) (hb : EX X b db) (hm : behindInMarks op b = false := by first | exact nomark _ | rfl) : TX X (.Compare a [op] [b] pos) (dB (dOp d da db)) := by
  obtain ⟨pa, sa⟩ := ha.out
  obtain ⟨pb, sb⟩ := hb.out
  exact .mk' (pt_cmpR ho pa pb hm) (snd_b (snd_op hs sa sb))
/-- a < b < c -/
def dChain (d d' : D2) (da db dc : DE) : DE := fun ρ Q => da ρ fun x ρ1 => db ρ1 fun y ρ2 => d x y fun z => match z with
  | .bl k => if k = true then dc ρ2 fun w ρ3 => d' y w fun u => Q u ρ3 else Q (.bl false) ρ2
  | _ => False
theorem snd_chain {r r' : R2} {d d' : D2} {ta tb tc : TE} {da db dc : DE} (ho : SndO r d) (ho' : SndO r' d') (ha : SndE ta da) (hb : SndE tb db) (hc : SndE tc dc) : SndE (tChain r r' ta tb tc) (dChain d d' da db dc) := by
  intro fr F σ H ρ Q R ok h k
  refine ha fr F σ H ρ _ _ ok h fun x H1 p ρ1 F1 f1 ok1 r1 h1 => ?_
  refine hb fr F1 σ H1 ρ1 _ _ ok1 h1 fun y H2 q ρ2 F2 f2 ok2 r2 h2 => ?_
  refine ho fr F2 H2 σ ρ2 x y p q _ _ ok2 (r1.up f2) r2 h2 fun v H3 z F3 f3 ok3 r3 h3 => ?_
  cases r3 with
  | bl b =>
    refine ⟨b, rfl, ?_⟩
    cases b with
    | false => exact iteF (k _ _ _ _ _ ((f1.trans f2).trans f3) ok3 (.bl false) (by simpa using h3))
    | true =>
      refine iteT ?_
      refine hc fr F3 σ H3 ρ2 _ _ ok3 (by simpa using h3) fun w H4 w' ρ4 F4 f4 ok4 r4 h4 => ?_
      exact ho' fr F4 H4 σ ρ4 y w q w' _ _ ok4 (r2.up (f3.trans f4)) r4 h4 fun v H5 z F5 f5 ok5 r5 h5 => k _ _ _ _ _ ((((f1.trans f2).trans f3).trans f4).trans f5) ok5 r5 h5
  | _ => exact h3.elim
theorem ex_chain {op op' : CmpOp} {a b c : Expr} {r r' : R2} {d d' : D2} {da db dc : DE} (ho : OpR X (compareOp op) r) (hs : SndO r d) (ho' : OpR X (compareOp op') r') (hs' : SndO r' d') (ha : EX X a da) (hb : EX X b db) (hc : EX X c dc)
    (hm : lastMarks [op, op'] [b, c] = false := by with_unfolding_all rfl) : EX X (.Compare a [op, op'] [b, c] pos) (dChain d d' da db dc) := by
  obtain ⟨pa, sa⟩ := ha.out
  obtain ⟨pb, sb⟩ := hb.out
  obtain ⟨pc, sc⟩ := hc.out
  exact .mk' (pe_chain ho ho' pa pb pc hm) (snd_chain hs hs' sa sb sc)
theorem tx_chain {op op' : CmpOp} {a b c : Expr} {r r' : R2} {d d' : D2} {da db dc : DE} (ho : OpR X (compareOp op) r) (hs : SndO r d) (ho' : OpR X (compareOp op') r') (hs' : SndO r' d') (ha : EX X a da) (hb : EX X b db) (hc : EX X c dc)
    (hm : lastMarks [op, op'] [b, c] = false := by with_unfolding_all rfl) : TX X (.Compare a [op, op'] [b, c] pos) (dB (dChain d d' da db dc)) := by
  obtain ⟨pa, sa⟩ := ha.out
  obtain ⟨pb, sb⟩ := hb.out
  obtain ⟨pc, sc⟩ := hc.out
  exact .mk' (pt_chain ho ho' pa pb pc hm) (snd_b (snd_chain hs hs' sa sb sc))
theorem tx_val {e : Expr} {d : DE} (h : EX X e d) (he : ∀ whole, isTrue e X.env whole = (do let v ← whole; standAt e.pos; holding [v] (truthy v)) := by intro _; rfl) : TX X e (dB d) := by
  obtain ⟨p, s⟩ := h.out
  exact .mk' (pt_val p he) (snd_b s)

/-! ### and, or, not, if -/
def dAnd (a b : DT) : DT := fun ρ Q => a ρ fun c ρ1 => if c = true then b ρ1 Q else Q false ρ1
def dOr (a b : DT) : DT := fun ρ Q => a ρ fun c ρ1 => if c = true then Q true ρ1 else b ρ1 Q
def dNot (a : DT) : DT := fun ρ Q => a ρ fun c ρ1 => Q (!c) ρ1
theorem wx_and1 {a : Expr} {d : DT} (h : TX X a d) : WX X (.BoolOp .And [a] pos) d := by
  obtain ⟨p, s⟩ := h.out
  exact .mk' (pw_and1 p) (s)
theorem wx_or1 {a : Expr} {d : DT} (h : TX X a d) : WX X (.BoolOp .Or [a] pos) d := by
  obtain ⟨p, s⟩ := h.out
  exact .mk' (pw_or1 p) (s)
theorem wx_and {a b : Expr} {rest : List Expr} {d d' : DT} (h : TX X a d) (h' : WX X (.BoolOp .And (b :: rest) pos) d') : WX X (.BoolOp .And (a :: b :: rest) pos) (dAnd d d') := by
  obtain ⟨p, s⟩ := h.out
  obtain ⟨p', s'⟩ := h'.out
  refine .mk' (pw_and p p') (fun fr F σ H ρ Q R ok hd k => ?_)
  refine s fr F σ H ρ _ _ ok hd fun c H1 ρ1 F1 f1 ok1 h1 => ?_
  cases c with
  | true => exact iteT (s' fr F1 σ H1 ρ1 _ _ ok1 (by simpa using h1) fun b H2 ρ2 F2 f2 ok2 h2 => k _ _ _ _ (f1.trans f2) ok2 h2)
  | false => exact iteF (k _ _ _ _ f1 ok1 (by simpa using h1))
theorem wx_or {a b : Expr} {rest : List Expr} {d d' : DT} (h : TX X a d) (h' : WX X (.BoolOp .Or (b :: rest) pos) d') : WX X (.BoolOp .Or (a :: b :: rest) pos) (dOr d d') := by
  obtain ⟨p, s⟩ := h.out
  obtain ⟨p', s'⟩ := h'.out
  refine .mk' (pw_or p p') (fun fr F σ H ρ Q R ok hd k => ?_)
  refine s fr F σ H ρ _ _ ok hd fun c H1 ρ1 F1 f1 ok1 h1 => ?_
  cases c with
  | true => exact iteT (k _ _ _ _ f1 ok1 (by simpa using h1))
  | false => exact iteF (s' fr F1 σ H1 ρ1 _ _ ok1 (by simpa using h1) fun b H2 ρ2 F2 f2 ok2 h2 => k _ _ _ _ (f1.trans f2) ok2 h2)
theorem WX.tx {e : Expr} {d : DT} (h : WX X e d) : TX X e d := by
  obtain ⟨p, s⟩ := h.out
  exact .mk' (p.pt) (s)
theorem tx_not {a : Expr} {d : DT} (h : TX X a d) : TX X (.UnaryOp .Not a pos) (dNot d) := by
  obtain ⟨p, s⟩ := h.out
  exact .mk' (pt_not p) (fun fr F σ H ρ Q R ok hd k => s fr F σ H ρ _ _ ok hd fun c H1 ρ1 F1 f1 ok1 h1 => k _ _ _ _ f1 ok1 h1)
def dAndV (a b : DE) : DE := fun ρ Q => a ρ fun x ρ1 => match x with
  | .bl c => if c = true then b ρ1 Q else Q (.bl false) ρ1
  | _ => False
def dOrV (a b : DE) : DE := fun ρ Q => a ρ fun x ρ1 => match x with
  | .bl c => if c = true then Q (.bl true) ρ1 else b ρ1 Q
  | _ => False
def dNotV (a : DE) : DE := fun ρ Q => a ρ fun x ρ1 => match x with
  | .bl c => Q (.bl (!c)) ρ1
  | _ => False
theorem ex_one {a : Expr} {op} {d : DE} (h : EX X a d) : EX X (.BoolOp op [a] pos) d := by
  obtain ⟨p, s⟩ := h.out
  exact .mk' (pe_one p) (s)
theorem ex_and {a b : Expr} {rest : List Expr} {d d' : DE} (h : EX X a d) (h' : EX X (.BoolOp .And (b :: rest) pos) d') : EX X (.BoolOp .And (a :: b :: rest) pos) (dAndV d d') := by
  obtain ⟨p, s⟩ := h.out
  obtain ⟨p', s'⟩ := h'.out
  refine .mk' (pe_and p p') (fun fr F σ H ρ Q R ok hd k => ?_)
  refine s fr F σ H ρ _ _ ok hd fun v H1 x ρ1 F1 f1 ok1 r1 h1 => ?_
  cases r1 with
  | bl c =>
    refine ⟨c, rfl, ?_⟩
    cases c with
    | true => exact iteT (s' fr F1 σ H1 ρ1 _ _ ok1 (by simpa using h1) fun v H2 p ρ2 F2 f2 ok2 r2 h2 => k _ _ _ _ _ (f1.trans f2) ok2 r2 h2)
    | false => exact iteF (k _ _ _ _ _ f1 ok1 (.bl false) (by simpa using h1))
  | _ => exact h1.elim
theorem ex_or {a b : Expr} {rest : List Expr} {d d' : DE} (h : EX X a d) (h' : EX X (.BoolOp .Or (b :: rest) pos) d') : EX X (.BoolOp .Or (a :: b :: rest) pos) (dOrV d d') := by
  obtain ⟨p, s⟩ := h.out
  obtain ⟨p', s'⟩ := h'.out
  refine .mk' (pe_or p p') (fun fr F σ H ρ Q R ok hd k => ?_)
  refine s fr F σ H ρ _ _ ok hd fun v H1 x ρ1 F1 f1 ok1 r1 h1 => ?_
  cases r1 with
  | bl c =>
    refine ⟨c, rfl, ?_⟩
    cases c with
    | true => exact iteT (k _ _ _ _ _ f1 ok1 (.bl true) (by simpa using h1))
    | false => exact iteF (s' fr F1 σ H1 ρ1 _ _ ok1 (by simpa using h1) fun v H2 p ρ2 F2 f2 ok2 r2 h2 => k _ _ _ _ _ (f1.trans f2) ok2 r2 h2)
  | _ => exact h1.elim
theorem ex_not {a : Expr} {d : DE} (h : EX X a d) : EX X (.UnaryOp .Not a pos) (dNotV d) := by
  obtain ⟨p, s⟩ := h.out
  refine .mk' (pe_not p) (fun fr F σ H ρ Q R ok hd k => ?_)
  refine s fr F σ H ρ _ _ ok hd fun v H1 x ρ1 F1 f1 ok1 r1 h1 => ?_
  cases r1 with
  | bl c => exact ⟨c, rfl, k _ _ _ _ _ f1 ok1 (.bl _) h1⟩
  | _ => exact h1.elim
def dIf (c : DT) (a b : DE) : DE := fun ρ Q => c ρ fun k ρ1 => if k = true then a ρ1 Q else b ρ1 Q
theorem ex_if {c a b : Expr} {dc : DT} {da db : DE} (hc : TX X c dc) (ha : EX X a da) (hb : EX X b db) : EX X (.IfExp c a b pos) (dIf dc da db) := by
  obtain ⟨pc, sc⟩ := hc.out
  obtain ⟨pa, sa⟩ := ha.out
  obtain ⟨pb, sb⟩ := hb.out
  refine .mk' (pe_ifExp pc pa pb) (fun fr F σ H ρ Q R ok hd k => ?_)
  refine sc fr F σ H ρ _ _ ok hd fun c H1 ρ1 F1 f1 ok1 h1 => ?_
  cases c with
  | true => exact iteT (sa fr F1 σ H1 ρ1 _ _ ok1 (by simpa using h1) fun v H2 p ρ2 F2 f2 ok2 r2 h2 => k _ _ _ _ _ (f1.trans f2) ok2 r2 h2)
  | false => exact iteF (sb fr F1 σ H1 ρ1 _ _ ok1 (by simpa using h1) fun v H2 p ρ2 F2 f2 ok2 r2 h2 => k _ _ _ _ _ (f1.trans f2) ok2 r2 h2)

/-! ### arguments, displays -/
def dNil : DA := fun ρ Q => Q [] ρ
def dCons (a : DE) (r : DA) : DA := fun ρ Q => a ρ fun x ρ1 => r ρ1 fun xs ρ2 => Q (x :: xs) ρ2
theorem ax_nil : AX X [] dNil := .mk' (pa_nil) (fun _ F _ _ _ _ _ ok h k => k _ _ _ _ _ (FLe.refl F) ok .nil h)
theorem ax_cons {e : Expr} {es : List Expr} {d : DE} {ds : DA} (h : EX X e d) (hr : AX X es ds) (hs : starEach (e :: es) X.env = (false, eval e X.env) :: starEach es X.env := by rfl) : AX X (e :: es) (dCons d ds) := by
  obtain ⟨p, s⟩ := h.out
  obtain ⟨p', s'⟩ := hr.out
  refine .mk' (pa_cons p p' hs) (fun fr F σ H ρ Q R ok hd k => ?_)
  refine s fr F σ H ρ _ _ ok hd fun v H1 x ρ1 F1 f1 ok1 r1 h1 => ?_
  exact s' fr F1 σ H1 ρ1 _ _ ok1 h1 fun vs H2 xs ρ2 F2 f2 ok2 r2 h2 => k _ _ _ _ _ (f1.trans f2) ok2 (.cons (r1.up f2) r2) h2
def dTup (a : DA) : DE := fun ρ Q => a ρ fun xs ρ1 => xs.length ≤ sizeLine ∧ Q (.tup xs) ρ1
def dLst (a : DA) : DE := fun ρ Q => a ρ fun xs ρ1 => xs.length ≤ sizeLine ∧ Q (.lst xs) ρ1
theorem ex_tup {es : List Expr} {x1} {d : DA} (h : AX X es d) : EX X (.Tuple es x1 pos) (dTup d) := by
  obtain ⟨p, s⟩ := h.out
  refine .mk' (pe_tup p) (fun fr F σ H ρ Q R ok hd k => ?_)
  refine s fr F σ H ρ _ _ ok hd fun vs H1 xs ρ1 F1 f1 ok1 r1 h1 => ⟨by rw [r1.length]; exact h1.1, fun a ha => ?_⟩
  have fl : FLe F1 (upd F1 a (.tup vs)) := FLe.new (ok1.nf ha)
  exact k _ _ _ _ _ (f1.trans fl) (ok1.new ha _) (.tup upd_same h1.1 (r1.up fl)) h1.2
theorem ex_lst {es : List Expr} {d : DA} (h : AX X es d) : EX X (.List es pos) (dLst d) := by
  obtain ⟨p, s⟩ := h.out
  refine .mk' (pe_lst p) (fun fr F σ H ρ Q R ok hd k => ?_)
  refine s fr F σ H ρ _ _ ok hd fun vs H1 xs ρ1 F1 f1 ok1 r1 h1 => ⟨by rw [r1.length]; exact h1.1, fun a ha => ?_⟩
  have fl : FLe F1 (upd F1 a (.lst vs)) := FLe.new (ok1.nf ha)
  exact k _ _ _ _ _ (f1.trans fl) (ok1.new ha _) (.lst upd_same h1.1 (r1.up fl)) h1.2
end
end PL

set_option Elab.async false
set_option linter.all false
set_option maxRecDepth 100000
set_option maxHeartbeats 4000000
/-! statements, targets, loops -/
namespace PL
open PySem PySem.Spec L2

section
variable {X : Cx} {pos : Pos}
theorem EOk.nx' {fr : Fr} {F : Hp} {PD : PEnds} {D : Ends} (x : EOk fr F PD D) {N : Rho → Prop} {N' : St → Hp → Prop} (h : ∀ F' H' σ' ρ', FLe F F' → StOk fr F' H' σ' ρ' → N ρ' → N' σ' H') : EOk fr F { PD with nx := N } { D with nx := N' } :=
  ⟨h, x.rt, x.bk, x.ct⟩

/-! ### blocks -/
def dNext : DS := fun PD ρ => PD.nx ρ
def dSeq (a b : DS) : DS := fun PD ρ => a { PD with nx := b PD } ρ
theorem bx_nil : BX X [] dNext := .mk' pss_nil fun _ F _ _ _ _ _ ok h k => k.nx _ _ _ _ (FLe.refl F) ok h
theorem bx_cons {st : Stmt} {rest : List Stmt} {d d' : DS} (h : SX X st d) (h' : BX X rest d') : BX X (st :: rest) (dSeq d d') := by
  obtain ⟨p, s⟩ := h.out
  obtain ⟨p', s'⟩ := h'.out
  refine .mk' (pss_cons p p') fun fr F σ H ρ PD D ok hd k => ?_
  exact s fr F σ H ρ _ _ ok hd (k.nx' fun F1 H1 σ1 ρ1 f1 ok1 h1 => s' fr F1 σ1 H1 ρ1 PD D ok1 h1 (k.up f1))
theorem bx_one {st : Stmt} {d : DS} (h : SX X st d) : BX X [st] d := .mk' (pss_one h.run) (sndS d)
def dBreak : DS := fun PD ρ => PD.bk ρ
def dCont : DS := fun PD ρ => PD.ct ρ
theorem sx_pass : SX X (.Pass pos) dNext := .mk' ps_pass fun _ F _ _ _ _ _ ok h k => k.nx _ _ _ _ (FLe.refl F) ok h
theorem sx_break : SX X (.Break pos) dBreak := .mk' ps_break fun _ F _ _ _ _ _ ok h k => k.bk _ _ _ _ (FLe.refl F) ok h
theorem sx_continue : SX X (.Continue pos) dCont := .mk' ps_continue fun _ F _ _ _ _ _ ok h k => k.ct _ _ _ _ (FLe.refl F) ok h
def dDrop (d : DE) : DS := fun PD ρ => d ρ fun _ ρ1 => PD.nx ρ1
theorem sx_expr {e : Expr} {d : DE} (h : EX X e d) (hs : swapsWith e none pos.line X.env = pure false := by rfl) : SX X (.Expr e pos) (dDrop d) := by
  obtain ⟨p, s⟩ := h.out
  refine .mk' (ps_expr p hs) fun fr F σ H ρ PD D ok hd k => ?_
  exact s fr F σ H ρ _ _ ok hd fun v H1 x ρ1 F1 f1 ok1 r1 h1 => k.nx _ _ _ _ f1 ok1 h1
def dRet (d : DE) : DS := fun PD ρ => d ρ PD.rt
theorem sx_ret {e : Expr} {d : DE} (h : EX X e d) : SX X (.Return (some e) pos) (dRet d) := by
  obtain ⟨p, s⟩ := h.out
  refine .mk' (ps_ret p) fun fr F σ H ρ PD D ok hd k => ?_
  exact s fr F σ H ρ _ _ ok hd fun v H1 x ρ1 F1 f1 ok1 r1 h1 => k.rt _ _ _ _ _ _ f1 ok1 r1 h1
def dRetN : DS := fun PD ρ => PD.rt .non ρ
theorem sx_retN : SX X (.Return none pos) dRetN := .mk' ps_retN fun _ F _ _ _ _ _ ok h k => k.rt _ _ _ _ _ _ (FLe.refl F) ok .non h
def dIfS (c : DT) (a b : DS) : DS := fun PD ρ => c ρ fun k ρ1 => if k = true then a PD ρ1 else b PD ρ1
theorem sx_if {c : Expr} {a b : List Stmt} {dc : DT} {da db : DS} (hc : TX X c dc) (ha : BX X a da) (hb : BX X b db) : SX X (.If c a b pos) (dIfS dc da db) := by
  obtain ⟨pc, sc⟩ := hc.out
  obtain ⟨pa, sa⟩ := ha.out
  obtain ⟨pb, sb⟩ := hb.out
  refine .mk' (ps_if pc pa pb) fun fr F σ H ρ PD D ok hd k => ?_
  refine sc fr F σ H ρ _ _ ok hd fun c H1 ρ1 F1 f1 ok1 h1 => ?_
  cases c with
  | true => exact iteT (sa fr F1 σ H1 ρ1 _ _ ok1 (by simpa using h1) (k.up f1))
  | false => exact iteF (sb fr F1 σ H1 ρ1 _ _ ok1 (by simpa using h1) (k.up f1))
def dNever : DS := fun _ _ => False
theorem sx_never {st : Stmt} : SX X st dNever := .mk' ps_never fun _ _ _ _ _ _ _ _ h _ => h
theorem bx_never {st : List Stmt} : BX X st dNever := .mk' pss_never fun _ _ _ _ _ _ _ _ h _ => h

/-! ### targets -/
def dgName (i : Nat) : DG := fun p ρ Q => Q (ρ.set i (.val p))
theorem gx_name (i : Nat) {x : Str} (hN : X.N.Nodup) (hi : X.N[i]? = some x := by rfl) (hx : Loc X.env.scope x := by first | exact Or.inl rfl | exact Or.inr rfl) (hf : X.fn x = true ∨ X.env.scope.names.lookup x = some .local := by first | exact .inl rfl | exact .inr rfl) : GX X (.Name x pos) (dgName i) :=
  .mk' (pg_name (i := i) hN hi hx hf) fun fr F σ H ρ v p Q R ok r h k => k _ _ _ _ (FLe.refl F) (ok.set r i) h
def dgNil : DGs := fun ps ρ Q => match ps with
  | [] => Q ρ
  | _ => False
def dgCons (a : DG) (b : DGs) : DGs := fun ps ρ Q => match ps with
  | p :: r => a p ρ fun ρ1 => b r ρ1 Q
  | _ => False
theorem gsx_nil : GsX X [] dgNil := .mk' pgs_nil fun fr F σ H ρ vs ps Q R ok r h k => by
  cases r with
  | nil => exact ⟨rfl, k _ _ _ _ (FLe.refl F) ok h⟩
  | cons _ _ => exact h.elim
theorem gsx_cons {e : Expr} {es : List Expr} {a : DG} {b : DGs} (h : GX X e a) (h' : GsX X es b) (hs : (assignEach (e :: es) X.env).map (·.2) = assign e X.env :: (assignEach es X.env).map (·.2) := by rfl) : GsX X (e :: es) (dgCons a b) := by
  obtain ⟨p, s⟩ := h.out
  obtain ⟨p', s'⟩ := h'.out
  refine .mk' (pgs_cons p p' hs) fun fr F σ H ρ vs ps Q R ok r hd k => ?_
  cases r with
  | nil => exact hd.elim
  | cons r rr => exact ⟨_, _, rfl, s fr F σ H ρ _ _ _ _ ok r hd fun F1 H1 σ1 ρ1 f1 ok1 h1 => s' fr F1 σ1 H1 ρ1 _ _ _ _ ok1 (rr.up f1) h1 fun F2 H2 σ2 ρ2 f2 ok2 h2 => k _ _ _ _ (f1.trans f2) ok2 h2⟩
def dgTup (n : Nat) (d : DGs) : DG := fun p ρ Q => match p with
  | .tup ps => ps.length = n ∧ d ps ρ Q
  | _ => False
theorem gx_tup {es : List Expr} {k : Nat} {d : DGs} {n : Nat} (hc : X.calm = true) (h : GsX X es d)
    (hn : (assignEach es X.env).length = n := by rfl) (hst : (assignEach es X.env).findIdx? (·.1) = none := by rfl) : GX X (.Tuple es k pos) (dgTup n d) := by
  obtain ⟨p, s⟩ := h.out
  refine .mk' (pg_tup hc p hn hst) fun fr F σ H ρ v p Q R ok r hd k => ?_
  cases r with
  | tup e l r => exact ⟨_, _, rfl, .of (ok.le _ _ e), by rw [r.length]; exact hd.1, s fr F σ H ρ _ _ _ _ ok r hd.2 k⟩
  | _ => exact hd.elim
/-- target = value -/
def dAsg (d : DE) (g : DG) : DS := fun PD ρ => d ρ fun p ρ1 => g p ρ1 PD.nx
theorem sx_asg {tg e : Expr} {d : DE} {g : DG} (h : EX X e d) (hg : GX X tg g) (hs : swapsWithSole [tg] e pos.line X.env = pure false := by rfl) (hw : swappedStores [tg] e X.env = pure none := by rfl)
    (h1 : (assignEach [tg] X.env).map (·.2) = [assign tg X.env] := by rfl) : SX X (.Assign [tg] e pos) (dAsg d g) := by
  obtain ⟨p, s⟩ := h.out
  obtain ⟨p', s'⟩ := hg.out
  refine .mk' (ps_asg p p' hs hw h1) fun fr F σ H ρ PD D ok hd k => ?_
  exact s fr F σ H ρ _ _ ok hd fun v H1 x ρ1 F1 f1 ok1 r1 h1 => s' fr F1 σ H1 ρ1 _ _ _ _ ok1 r1 h1 fun F2 H2 σ2 ρ2 f2 ok2 h2 => k.nx _ _ _ _ (f1.trans f2) ok2 h2
/-- name = value -/
def dSet (i : Nat) (d : DE) : DS := fun PD ρ => d ρ fun p ρ1 => PD.nx (ρ1.set i (.val p))
theorem sx_set (i : Nat) {x : Str} {e : Expr} {d : DE} {pos' : Pos} (hN : X.N.Nodup) (h : EX X e d) (hi : X.N[i]? = some x := by rfl) (hx : Loc X.env.scope x := by first | exact Or.inl rfl | exact Or.inr rfl) (hs : swapsWith e (some (.Name x pos')) pos.line X.env = pure false := by rfl)
    (hf : X.fn x = true ∨ X.env.scope.names.lookup x = some .local := by first | exact .inl rfl | exact .inr rfl) : SX X (.Assign [.Name x pos'] e pos) (dSet i d) := by
  obtain ⟨p, s⟩ := h.out
  refine .mk' (ps_set (i := i) hN hi hx p hs hf) fun fr F σ H ρ PD D ok hd k => ?_
  exact s fr F σ H ρ _ _ ok hd fun v H1 x ρ1 F1 f1 ok1 r1 h1 => k.nx _ _ _ _ f1 (ok1.set r1 i) h1
/-- a, b = e, e' with two local names -/
def dPar (i j : Nat) (d : DA) : DS := fun PD ρ => d ρ fun ps ρ1 => match ps with
  | [p, q] => PD.nx ((ρ1.set i (.val p)).set j (.val q))
  | _ => False
theorem sx_par (i j : Nat) {x y : Str} {a b : Expr} {d : DA} {px py pt : Pos} {kt k2 pt2} (hc : X.calm = true) (hN : X.N.Nodup) (ha : AX X [a, b] d) (hi : X.N[i]? = some x := by rfl) (hj : X.N[j]? = some y := by rfl) (hij : i ≠ j := by decide)
    (hx : X.env.scope.names.lookup x = some .local := by rfl) (hy : X.env.scope.names.lookup y = some .local := by rfl)
    (hw : swappedStores [.Tuple [.Name x px, .Name y py] kt pt] (.Tuple [a, b] k2 pt2) X.env = pure (some [x, y]) := by rfl)
    (hs : swapsWithSole [.Tuple [.Name x px, .Name y py] kt pt] (.Tuple [a, b] k2 pt2) pos.line X.env = pure false := by rfl) :
    SX X (.Assign [.Tuple [.Name x px, .Name y py] kt pt] (.Tuple [a, b] k2 pt2) pos) (dPar i j d) := by
  obtain ⟨p, s⟩ := ha.out
  refine .mk' (ps_par hc hN hi hj hij hx hy p hw hs) fun fr F σ H ρ PD D ok hd k => ?_
  refine s fr F σ H ρ _ _ ok hd fun vs H1 xs ρ1 F1 f1 ok1 r1 h1 => ?_
  cases r1 with
  | nil => exact h1.elim
  | cons r1 rr =>
    cases rr with
    | nil => exact h1.elim
    | cons r2 rr =>
      cases rr with
      | nil => exact ⟨_, _, rfl, k.nx _ _ _ _ f1 ((ok1.set r1 i).set r2 j) h1⟩
      | cons _ _ => exact h1.elim
/-- name op= e -/
def dAug (i : Nat) (o : D2) (d : DE) : DS := fun PD ρ => match ρ[i]? with
  | some (.val x) => d ρ fun y ρ1 => o x y fun z => PD.nx (ρ1.set i (.val z))
  | _ => False
theorem sx_aug (i : Nat) {x : Str} {e : Expr} {d : DE} {op : Operator} {r : R2} {o : D2} {pos' : Pos} (hN : X.N.Nodup) (ho : OpR X (inplaceOp op) r) (hs : SndO r o) (he : EX X e d) (hi : X.N[i]? = some x := by rfl) (hx : Loc X.env.scope x := by first | exact Or.inl rfl | exact Or.inr rfl)
    (hf : X.fn x = true ∨ X.env.scope.names.lookup x = some .local := by first | exact .inl rfl | exact .inr rfl) : SX X (.AugAssign (.Name x pos') op e pos) (dAug i o d) := by
  obtain ⟨p, s⟩ := he.out
  refine .mk' (ps_aug (i := i) (ti := r) hN hi hx p ho hf) fun fr F σ H ρ PD D ok hd k => ?_
  cases e : ρ[i]? with
  | none => simp only [dAug, e] at hd
  | some sl =>
    cases sl with
    | un => simp only [dAug, e] at hd
    | own p => simp only [dAug, e] at hd
    | val x =>
      simp only [dAug, e] at hd
      obtain ⟨w, e1, e2⟩ := ok.sl i _ e
      cases e2 with
      | val rx =>
        refine ⟨_, e1, s fr F σ H ρ _ _ ok hd fun v H1 y ρ1 F1 f1 ok1 r1 h1 => ?_⟩
        exact hs fr F1 H1 σ ρ1 _ _ _ _ _ _ ok1 (rx.up f1) r1 h1 fun v2 H2 z F2 f2 ok2 r2 h2 => k.nx _ _ _ _ (f1.trans f2) (ok2.set r2 i) h2

/-! ### what a loop walks -/
/-- one item comes: as it stands, or as a new tuple -/
def YldAt (fr : Fr) (F H : Hp) (p : PV) (x : V) (H' : Hp) : Prop :=
  (H' = H ∧ Rep fr F x p) ∨ ∃ T vs ps, x = .ref T ∧ H T = none ∧ H' = upd H T (.tup vs) ∧ p = .tup ps ∧ ps.length ≤ sizeLine ∧ Reps fr F vs ps
theorem YldAt.get {fr : Fr} {F H H' : Hp} {σ : St} {ρ : Rho} {p : PV} {x : V} (y : YldAt fr F H p x H') (ok : StOk fr F H σ ρ) : ∃ F', FLe F F' ∧ StOk fr F' H' σ ρ ∧ Rep fr F' x p ∧ (∀ a o, H a = some o → H' a = some o) ∧ ∀ a o, F' a = some o → F a = some o ∨ H a = none := by
  rcases y with ⟨rfl, r⟩ | ⟨T, vs, ps, rfl, nT, rfl, rfl, hl, r⟩
  · exact ⟨F, FLe.refl F, ok, r, fun _ _ h => h, fun _ _ h => .inl h⟩
  · have fl : FLe F (upd F T (.tup vs)) := FLe.new (ok.nf nT)
    refine ⟨_, fl, ok.new nT _, .tup upd_same hl (r.up fl), fun a o h => by rw [upd_ne (ne_of_none h nT)]; exact h, fun a o h => ?_⟩
    by_cases z : a = T
    · subst z; exact .inr nT
    · rw [upd_ne z] at h; exact .inl h
structure Ylds (fr : Fr) (F0 : Hp) (J : It) (xs : List PV) : Prop where
  go : ∀ i F H σ ρ, FLe F0 F → StOk fr F H σ ρ → i < xs.length → J.go i H
  yl : ∀ i p F H σ ρ x H', FLe F0 F → StOk fr F H σ ρ → xs[i]? = some p → J.yld i H x H' → YldAt fr F H p x H'
  st : ∀ F H σ ρ, FLe F0 F → StOk fr F H σ ρ → J.stop xs.length H
def SndI (wi : TI) (d : DA) : Prop := ∀ (fr : Fr) (F : Hp) (σ : St) (H : Hp) (ρ : Rho) (Q : List PV → Rho → Prop) (R : It → Hp → Prop), StOk fr F H σ ρ → d ρ Q →
  (∀ J H' xs ρ' F', FLe F F' → StOk fr F' H' σ ρ' → Ylds fr F' J xs → Q xs ρ' → R J H') → wi σ H R
def wI (d : DA) : TI := fun σ H R => ∃ fr F ρ Q, StOk fr F H σ ρ ∧ d ρ Q ∧ ∀ J H' xs ρ' F', FLe F F' → StOk fr F' H' σ ρ' → Ylds fr F' J xs → Q xs ρ' → R J H'
structure IX (X : Cx) (tg e : Expr) (d : DA) : Prop where
  run : PI X tg e (wI d)
theorem IX.mk' {tg e : Expr} {t : TI} {d : DA} (p : PI X tg e t) (s : SndI t d) : IX X tg e d := ⟨⟨fun pins s0 σ H Q I ⟨fr, F, ρ, Q', a, b, c⟩ => p.run pins s0 σ H Q I (s fr F σ H ρ Q' Q a b c)⟩⟩
theorem sndI (d : DA) : SndI (wI d) d := fun fr F σ H ρ Q R a b c => ⟨fr, F, ρ, Q, a, b, c⟩
theorem IX.out {tg e : Expr} {d : DA} (h : IX X tg e d) : PI X tg e (wI d) ∧ SndI (wI d) d := ⟨h.run, sndI d⟩

def dLoop (g : DG) (b : DS) (PD : PEnds) : List PV → Rho → Prop
  | [], ρ => PD.nx ρ
  | x :: xs, ρ => g x ρ fun ρ1 => b { PD with nx := dLoop g b PD xs, ct := dLoop g b PD xs, bk := PD.nx } ρ1
def dFor (di : DA) (g : DG) (b : DS) : DS := fun PD ρ => di ρ fun xs ρ1 => dLoop g b PD xs ρ1
theorem sx_for {tg iter : Expr} {body : List Stmt} {di : DA} {g : DG} {b : DS} (hp : PassesOwn (model X.prog X.w) X.A X.env X.xe) (hc : X.calm = true) (hi : IX X tg iter di) (hg : GX X tg g) (hb : BX X body b)
    (hs : ∀ x, foldedSetIterable iter X.env x = pure x := by intro _; rfl) : SX X (.For tg iter body [] pos) (dFor di g b) := by
  obtain ⟨pi, si⟩ := hi.out
  obtain ⟨pg, sg⟩ := hg.out
  obtain ⟨pb, sb⟩ := hb.out
  refine .mk' (ps_for hp hc pi pg pb hs) fun fr F σ H ρ PD D ok hd k => ?_
  refine si fr F σ H ρ _ _ ok hd fun J H1 xs ρ1 F1 f1 ok1 yl h1 => ?_
  refine ⟨fun i m σ' H' => m = xs.length - i ∧ i ≤ xs.length ∧ ∃ F' ρ', FLe F1 F' ∧ StOk fr F' H' σ' ρ' ∧ dLoop g b PD (xs.drop i) ρ', ⟨xs.length, by simp, Nat.zero_le _, F1, ρ1, FLe.refl _, ok1, by simpa using h1⟩, ?_⟩
  rintro i m σ2 H2 ⟨rfl, hi, F2, ρ2, f2, ok2, h2⟩
  by_cases hlt : i < xs.length
  · rw [List.drop_eq_getElem_cons hlt] at h2
    refine .inr ⟨yl.go i F2 H2 σ2 ρ2 f2 ok2 hlt, fun σ' H' => ∃ F' ρ', FLe F1 F' ∧ StOk fr F' H' σ' ρ' ∧ dLoop g b PD (xs.drop (i + 1)) ρ', fun σ' H' n => ⟨xs.length - (i + 1), by omega, rfl, hlt, n⟩, fun x H' y => ?_⟩
    obtain ⟨F3, f3, ok3, r3, _⟩ := (yl.yl i xs[i] F2 H2 σ2 ρ2 x H' f2 ok2 (List.getElem?_eq_getElem hlt) y).get ok2
    refine sg fr F3 σ2 H' ρ2 x _ _ _ ok3 r3 h2 fun F4 H4 σ4 ρ4 f4 ok4 h4 => ?_
    have f14 := (f2.trans f3).trans f4
    refine sb fr F4 σ4 H4 ρ4 _ _ ok4 h4 ⟨fun F5 H5 σ5 ρ5 f5 ok5 h5 => ⟨F5, ρ5, f14.trans f5, ok5, h5⟩, fun F5 H5 σ5 ρ5 v p f5 ok5 r5 h5 => k.rt _ _ _ _ _ _ ((f1.trans f14).trans f5) ok5 r5 h5,
      fun F5 H5 σ5 ρ5 f5 ok5 h5 => k.nx _ _ _ _ ((f1.trans f14).trans f5) ok5 h5, fun F5 H5 σ5 ρ5 f5 ok5 h5 => ⟨F5, ρ5, f14.trans f5, ok5, h5⟩⟩
  · have e : i = xs.length := by omega
    subst e
    rw [List.drop_length] at h2
    exact .inl ⟨yl.st F2 H2 σ2 ρ2 f2 ok2, k.nx _ _ _ _ (f1.trans f2) ok2 h2⟩
def dWhileN (c : DT) (b : DS) (PD : PEnds) : Nat → Rho → Prop
  | 0, _ => False
  | n + 1, ρ => c ρ fun k ρ1 => if k = true then b { PD with nx := dWhileN c b PD n, ct := dWhileN c b PD n, bk := PD.nx } ρ1 else PD.nx ρ1
def dWhile (c : DT) (b : DS) : DS := fun PD ρ => ∃ n, dWhileN c b PD n ρ
theorem sx_while {c : Expr} {body : List Stmt} {dc : DT} {b : DS} (hp : PassesOwn (model X.prog X.w) X.A X.env X.xe) (hc : TX X c dc) (hb : BX X body b) : SX X (.While c body [] pos) (dWhile dc b) := by
  obtain ⟨pc, sc⟩ := hc.out
  obtain ⟨pb, sb⟩ := hb.out
  refine .mk' (ps_while hp pc pb) fun fr F σ H ρ PD D ok hd k => ?_
  obtain ⟨n, hd⟩ := hd
  refine ⟨fun m σ' H' => ∃ F' ρ', FLe F F' ∧ StOk fr F' H' σ' ρ' ∧ dWhileN dc b PD m ρ', ⟨n, F, ρ, FLe.refl F, ok, hd⟩, ?_⟩
  rintro m σ1 H1 ⟨F1, ρ1, f1, ok1, h1⟩
  cases m with
  | zero => exact h1.elim
  | succ m =>
    refine sc fr F1 σ1 H1 ρ1 _ _ ok1 h1 fun t H2 ρ2 F2 f2 ok2 h2 => ?_
    have f12 := f1.trans f2
    cases t with
    | false => exact iteF (k.nx _ _ _ _ f12 ok2 (by simpa using h2))
    | true =>
      refine iteT ⟨fun σ' H' => ∃ F' ρ', FLe F F' ∧ StOk fr F' H' σ' ρ' ∧ dWhileN dc b PD m ρ', fun σ' H' q => ⟨m, Nat.lt_succ_self _, q⟩, ?_⟩
      have h2' := (if_pos rfl : (if true = true then _ else _) = _) ▸ h2
      refine sb fr F2 σ1 H2 ρ2 _ _ ok2 h2' ⟨fun F5 H5 σ5 ρ5 f5 ok5 h5 => ⟨F5, ρ5, f12.trans f5, ok5, h5⟩, fun F5 H5 σ5 ρ5 v p f5 ok5 r5 h5 => k.rt _ _ _ _ _ _ (f12.trans f5) ok5 r5 h5,
        fun F5 H5 σ5 ρ5 f5 ok5 h5 => k.nx _ _ _ _ (f12.trans f5) ok5 h5, fun F5 H5 σ5 ρ5 f5 ok5 h5 => ⟨F5, ρ5, f12.trans f5, ok5, h5⟩⟩
end
end PL

set_option Elab.async false
set_option linter.all false
set_option maxRecDepth 100000
set_option maxHeartbeats 4000000
/-! what loops walk: lists, tuples, texts, ranges, zip and enumerate over any of these -/
namespace PL
open PySem PySem.Spec L2

/-! ### sources -/
inductive Src where
  | lst (a : Addr) | tup (a : Addr) | txt (x : Str) (t : Tok)
def signsV (x : Str) : List V := x.cps.toList.map fun c => V.str ⟨#[c]⟩
def Src.At (S : Src) (H : Hp) (xs : List V) : Prop := match S with
  | .lst a => H a = some (.lst xs)
  | .tup a => H a = some (.tup xs)
  | .txt x _ => xs = signsV x
def Src.u : Src → Value
  | .lst a => .ref a
  | .tup a => .ref a
  | .txt x t => .str x t
def Src.obj : Src → Obj
  | .lst a => { cls := .type "list_iterator", data := .fields #[.ref a, .int 0 0] }
  | .tup a => { cls := .type "tuple_iterator", data := .fields #[.ref a, .int 0 0] }
  | .txt x t => { cls := .type (strIterType x), data := .fields #[.str x t, .int 0 0] }
def Src.It (S : Src) (it : Addr) (i : Nat) (h : Heap) : Prop := match S with
  | .lst a => h.IsListIter it a i
  | .tup a => h.IsTupleIter it a i
  | .txt x t => h.IsStrIter it (strIterType x) x t i
def Src.Has (S : Src) (h : Heap) : Prop := match S with
  | .lst a => ∃ its, h.IsList a its
  | .tup a => ∃ its, h.IsTuple a its
  | .txt _ _ => True
theorem Src.At.inj {S : Src} {H : Hp} {xs ys : List V} (h : S.At H xs) (h' : S.At H ys) : xs = ys := by
  cases S with
  | lst a => have e := h.symm.trans h'; cases e; rfl
  | tup a => have e := h.symm.trans h'; cases e; rfl
  | txt x t => exact (show xs = _ from h).trans (show ys = _ from h').symm
theorem Src.It.at {S : Src} {it : Addr} {i : Nat} {h h' : Heap} (x : S.It it i h) (k : ∀ o, h.get? it = some o → h'.get? it = some o) : S.It it i h' := by
  cases S with
  | lst a => exact Heap.IsListIter.at x k
  | tup a => obtain ⟨o, ho, r⟩ := x; exact ⟨o, k o ho, r⟩
  | txt y t => obtain ⟨o, ho, r⟩ := x; exact ⟨o, k o ho, r⟩
theorem Src.It.obj {S : Src} {it : Addr} {i : Nat} {h : Heap} (x : S.It it i h) : ∃ o, h.get? it = some o ∧ ∀ v, o.data ≠ .cell v := by
  cases S with
  | lst a => obtain ⟨o, ho, _, d⟩ := x; exact ⟨o, ho, fun v q => by rw [d] at q; cases q⟩
  | tup a => obtain ⟨o, ho, _, d⟩ := x; exact ⟨o, ho, fun v q => by rw [d] at q; cases q⟩
  | txt y t => obtain ⟨o, ho, _, d⟩ := x; exact ⟨o, ho, fun v q => by rw [d] at q; cases q⟩
theorem Src.It.of_obj {S : Src} {it : Addr} {h : Heap} (x : h.get? it = some S.obj) : S.It it 0 h := by
  cases S with
  | lst a => exact ⟨_, x, rfl, rfl⟩
  | tup a => exact ⟨_, x, rfl, rfl⟩
  | txt y t => exact ⟨_, x, rfl, rfl⟩
theorem Src.begins (S : Src) : Begins S.u S.obj S.Has := by
  cases S with
  | lst a => exact ⟨fun prog w A E s Q ⟨its, hl⟩ h => wpAny_pyIter_list hl h, fun h h' ⟨its, x⟩ hk => ⟨its, x.at fun o e => hk a o e⟩, rfl⟩
  | tup a => exact ⟨fun prog w A E s Q ⟨its, hl⟩ h => wpAny_pyIter_tuple hl h, fun h h' ⟨its, x⟩ hk => ⟨its, x.at fun o e => hk a o e⟩, rfl⟩
  | txt y t => exact begins_text y t
section
variable {X : Cx} {pins : List (Addr × Obj)} {σ : St} {H : Hp} {s : Shared}
theorem Src.At.has {S : Src} {xs : List V} (I : Inv X pins σ H s) (h : S.At H xs) : S.Has s.heap := by
  cases S with
  | lst a => obtain ⟨its, _, p, _⟩ := I.list (.of h); exact ⟨_, p.isList⟩
  | tup a => obtain ⟨its, _, p, _⟩ := I.tuple (.of h); exact ⟨_, p⟩
  | txt y t => trivial
theorem signs_get {x : Str} {i : Nat} {v : V} (h : (signsV x)[i]? = some v) : ∃ c, x.cps[i]? = some c ∧ v = .str ⟨#[c]⟩ := by
  unfold signsV at h
  rw [List.getElem?_map, Array.getElem?_toList] at h
  cases e : x.cps[i]? with
  | none => rw [e] at h; cases h
  | some c => rw [e] at h; cases h; exact ⟨c, rfl, rfl⟩
theorem Src.draw (I : Inv X pins σ H s) (hh : X.A.handled = none) (S : Src) {xs : List V} (h : S.At H xs) {it : Addr} (hit : H it = none) :
    ∃ (fp : List Addr) (P : Nat → Value → Prop) (St : Nat → Heap → Prop), Draws X.prog X.w X.A.in1 it (it :: fp) xs.length P St ∧ (∀ i, S.It it i s.heap → St i s.heap) ∧ (∀ i h', St i h' → S.It it i h') ∧
      (∀ i u x, P i u → xs[i]? = some x → RelV x u) ∧ ∀ b ∈ fp, H b ≠ none := by
  cases S with
  | lst a =>
    have h : H a = some (.lst xs) := h
    obtain ⟨its, rv, p, _⟩ := I.list (.of h)
    have ne : a ≠ it := fun z => by rw [z, hit] at h; cases h
    have D := Draws.list (prog := X.prog) (w := X.w) (A := X.A.in1) hh it a ne its.toArray
    rw [show its.toArray.size = xs.length by rw [List.size_toArray, rv.length]] at D
    refine ⟨[a], _, _, D, fun i st => ⟨st, p.isList⟩, fun i h' st => st.1, fun i u x hp hx => ?_, fun b hb => ?_⟩
    · obtain ⟨u', hu, r⟩ := rv.get hx
      rw [List.getElem?_toArray, hu] at hp
      cases hp; exact r
    · rw [List.mem_singleton.mp hb, h]; simp
  | tup a =>
    have h : H a = some (.tup xs) := h
    obtain ⟨its, rv, p, _⟩ := I.tuple (.of h)
    have ne : a ≠ it := fun z => by rw [z, hit] at h; cases h
    have D := Draws.tuple (prog := X.prog) (w := X.w) (A := X.A.in1) hh it a ne its.toArray
    rw [show its.toArray.size = xs.length by rw [List.size_toArray, rv.length]] at D
    refine ⟨[a], _, _, D, fun i st => ⟨st, p⟩, fun i h' st => st.1, fun i u x hp hx => ?_, fun b hb => ?_⟩
    · obtain ⟨u', hu, r⟩ := rv.get hx
      rw [List.getElem?_toArray, hu] at hp
      cases hp; exact r
    · rw [List.mem_singleton.mp hb, h]; simp
  | txt y t =>
    have h : xs = signsV y := h
    subst h
    have D := Draws.text (prog := X.prog) (w := X.w) (A := X.A.in1) hh it y t
    rw [show y.cps.size = (signsV y).length by simp [signsV]] at D
    refine ⟨[], _, _, D, fun i st => st, fun i h' st => st, fun i u x hp hx => ?_, fun b hb => nomatch hb⟩
    obtain ⟨c, hc, rfl⟩ := signs_get hx
    obtain ⟨c', u', hc', rfl⟩ := hp
    rw [hc] at hc'; cases hc'
    exact ⟨_, rfl⟩
end

/-! ### zip -/
def ItzA (S1 S2 : Src) : It :=
  ⟨fun i H => ∃ xs ys x y, S1.At H xs ∧ S2.At H ys ∧ xs[i]? = some x ∧ ys[i]? = some y,
    fun i H v H' => ∃ T x y, v = .ref T ∧ H T = none ∧ H' = upd H T (.tup [x, y]) ∧ (∀ xs, S1.At H xs → xs[i]? = some x) ∧ ∀ ys, S2.At H ys → ys[i]? = some y,
    fun i H => ∃ xs ys, S1.At H xs ∧ S2.At H ys ∧ i ≤ xs.length ∧ i ≤ ys.length ∧ (i = xs.length ∨ i = ys.length)⟩
theorem turn_zipA {P : Program} {w : World} {K : PySem.W.Frag} {elts : List Expr} {kk : Nat} {tpos : Pos} (S1 S2 : Src) {z TI TO i1 i2 : Addr} (nd : [z, TI, TO, i1, i2].Nodup) :
    Turn P w K (.Tuple elts kk tpos) (ItzA S1 S2) [z, TI, TO, i1, i2] z (fun i h => IsZip h z TI TO .none ∧ IsTupOf2 h TI (.ref i1) (.ref i2) ∧ (∃ x y, IsTupOf2 h TO x y) ∧ S1.It i1 i h ∧ S2.It i2 i h) := by
  simp only [List.nodup_cons, List.mem_cons, List.not_mem_nil, or_false, not_or, not_false_eq_true, List.nodup_nil, and_true] at nd
  obtain ⟨⟨nzI, nzO, nz1, nz2⟩, ⟨nIO, nI1, nI2⟩, ⟨nO1, nO2⟩, n12⟩ := nd
  have sep : ∀ {H : Hp} {fp1 fp2 : List Addr}, (∀ b ∈ [z, TI, TO, i1, i2], H b = none) → (∀ b ∈ fp1, H b ≠ none) → (∀ b ∈ fp2, H b ≠ none) → ZipSep2 z TI TO i1 i2 (i1 :: fp1) (i2 :: fp2) := fun {H fp1 fp2} hn h1 h2 => by
    have no : ∀ {b : Addr} {fp : List Addr}, b ∈ [z, TI, TO, i1, i2] → (∀ b ∈ fp, H b ≠ none) → b ∉ fp := fun hb hf hm => hf _ hm (hn _ hb)
    exact ⟨Ne.symm nzI, Ne.symm nzO, nIO, nI1, List.mem_cons_self, fun m => (List.mem_cons.mp m).elim nz1 (no (by simp) h1), fun m => (List.mem_cons.mp m).elim nO1 (no (by simp) h1),
      nI2, List.mem_cons_self, fun m => (List.mem_cons.mp m).elim nz2 (no (by simp) h2), fun m => (List.mem_cons.mp m).elim nO2 (no (by simp) h2),
      fun m => (List.mem_cons.mp m).elim n12 (no (by simp) h2), fun m => (List.mem_cons.mp m).elim (Ne.symm n12) (no (by simp) h1)⟩
  refine ⟨by simp, fun i h st c hc => ?_, fun i h h' st k => ?_, ?_, ?_, fun A i s Q E st h => wpAny_pyIter_zip st.1 h⟩
  · obtain ⟨hz, hTI, ⟨x, y, hTO⟩, h1, h2⟩ := st
    have e' : c = z ∨ c = TI ∨ c = TO ∨ c = i1 ∨ c = i2 := by simpa using hc
    rcases e' with q | q | q | q | q
    · subst q; exact ⟨_, hz, fun v q => nomatch q⟩
    · subst q; exact ⟨_, hTI, fun v q => nomatch q⟩
    · subst q; exact ⟨_, hTO, fun v q => nomatch q⟩
    · subst q; exact h1.obj
    · subst q; exact h2.obj
  · obtain ⟨hz, hTI, ⟨x, y, hTO⟩, h1, h2⟩ := st
    exact ⟨k z (by simp) _ hz, k TI (by simp) _ hTI, ⟨x, y, k TO (by simp) _ hTO⟩, h1.at fun o q => k i1 (by simp) o q, h2.at fun o q => k i2 (by simp) o q⟩
  · intro X hP hw hK hc i pins s σ H E I hf st hg
    subst hP hw hK
    obtain ⟨hz, hTI, ⟨x0, y0, hTO⟩, h1, h2⟩ := st
    obtain ⟨xs, ys, x, y, a1, a2, hx, hy⟩ := hg
    have hn : ∀ b ∈ [z, TI, TO, i1, i2], H b = none := fun b hb => (hf b hb).1
    obtain ⟨fp1, P1, St1, D1, t1, b1, r1, f1⟩ := Src.draw I (I.ok.hd hc) S1 a1 (hn i1 (by simp))
    obtain ⟨fp2, P2, St2, D2, t2, b2, r2, f2⟩ := Src.draw I (I.ok.hd hc) S2 a2 (hn i2 (by simp))
    have S := sep hn f1 f2
    have hzl : z < s.heap.objs.size := Heap.lt_size hz
    refine wpAny_pyNext_zipD2_item S D1 D2 hz hTI hTO (t1 i h1) (t2 i h2) (List.getElem?_eq_some_iff.mp hx).1 (List.getElem?_eq_some_iff.mp hy).1 fun u1 u2 h' tk p1 p2 z' TO' s1 s2 hT hsz hk => ?_
    refine ⟨_, rfl, wpAny_letOwnedTupleGo_zip (s := { s with heap := h', toks := tk }) z' fun h'' z'' sb => ?_⟩
    have hT2 : h''.get? s.heap.objs.size = some { cls := .type "tuple", data := .seq #[u1, u2] } := (sb.2 _ (Nat.ne_of_gt hzl)).trans hT
    have new : ObjOk X.prog X.w (upd H s.heap.objs.size (.tup [x, y])) h'' s.heap.objs.size (.tup [x, y]) :=
      ⟨by show 2 ≤ sizeLine; decide, [u1, u2], .cons (r1 i u1 x p1 hx) (.cons (r2 i u2 y p2 hy) .nil), ⟨_, hT2, rfl, _, rfl⟩⟩
    have hk' : ∀ c o, c ∉ [z, TI, TO, i1, i2] → s.heap.get? c = some o → h''.get? c = some o := fun c o hb q => (sb.2 c (fun q' => hb (by simp [q']))).trans (hk c o (fun q' => hb (by simp [q'])) (fun q' => hb (by simp [q'])) (fun q' => hb (by simp [q'])) (fun q' => hb (by simp [q'])) q)
    refine ⟨.ref s.heap.objs.size, _, I.turnedNew (t' := tk) (ch := [z, TI, TO, i1, i2]) hk' hf (Nat.le_refl _) new, rfl, ⟨_, x, y, rfl, I.hok.fresh (Nat.le_refl _), rfl, fun l hl => by rw [hl.inj a1]; exact hx, fun l hl => by rw [hl.inj a2]; exact hy⟩, ⟨z'', ?_, ⟨u1, u2, ?_⟩, ?_, ?_⟩, fun c hcm => ?_⟩
    · exact (sb.2 _ (Ne.symm nzI)).trans (hk _ _ (Ne.symm nzI) nIO nI1 nI2 hTI)
    · exact (sb.2 _ (Ne.symm nzO)).trans TO'
    · exact (b1 _ _ s1).at fun o q => (sb.2 _ (Ne.symm nz1)).trans q
    · exact (b2 _ _ s2).at fun o q => (sb.2 _ (Ne.symm nz2)).trans q
    · have hlt : c < s.heap.objs.size := by
        have e' : c = z ∨ c = TI ∨ c = TO ∨ c = i1 ∨ c = i2 := by simpa using hcm
        rcases e' with q | q | q | q | q
        · subst q; exact hzl
        · subst q; exact Heap.lt_size hTI
        · subst q; exact Heap.lt_size hTO
        · subst q; obtain ⟨_, e1, _⟩ := h1.obj; exact Heap.lt_size e1
        · subst q; obtain ⟨_, e1, _⟩ := h2.obj; exact Heap.lt_size e1
      rw [upd_ne (Nat.ne_of_lt hlt)]
      exact hn c hcm
  · intro X hP hw hK hc i pins s σ H E I hf st hg
    subst hP hw hK
    obtain ⟨hz, hTI, ⟨x0, y0, hTO⟩, h1, h2⟩ := st
    obtain ⟨xs, ys, a1, a2, l1, l2, hend⟩ := hg
    have hn : ∀ b ∈ [z, TI, TO, i1, i2], H b = none := fun b hb => (hf b hb).1
    obtain ⟨fp1, P1, St1, D1, t1, b1, r1, f1⟩ := Src.draw I (I.ok.hd hc) S1 a1 (hn i1 (by simp))
    obtain ⟨fp2, P2, St2, D2, t2, b2, r2, f2⟩ := Src.draw I (I.ok.hd hc) S2 a2 (hn i2 (by simp))
    refine wpAny_pyNext_zipD2_end (sep hn f1 f2) D1 D2 hz hTI hTO (t1 i h1) (t2 i h2) l1 l2 hend fun h' tk hk => ⟨rfl, I.turnedL (t' := tk) (ch := [z, TI, TO, i1, i2]) (fun c o hb q =>
      hk c o (fun q' => hb (by simp [q'])) (fun q' => hb (by simp [q'])) (fun q' => hb (by simp [q'])) (fun q' => hb (by simp [q'])) q) hf⟩

/-! ### enumerate -/
def IteA (S : Src) : It :=
  ⟨fun i H => ∃ xs x, S.At H xs ∧ xs[i]? = some x, fun i H v H' => ∃ T x, v = .ref T ∧ H T = none ∧ H' = upd H T (.tup [.int (i : Nat), x]) ∧ ∀ xs, S.At H xs → xs[i]? = some x, fun i H => ∃ xs : List V, S.At H xs ∧ xs.length = i⟩
theorem turn_enumA {P : Program} {w : World} {K : PySem.W.Frag} {elts : List Expr} {kk : Nat} {tpos : Pos} (S : Src) {e it : Addr} (hne : e ≠ it) :
    Turn P w K (.Tuple elts kk tpos) (IteA S) [e, it] e (fun i h => (∃ old, IsEnum h e it ((i : Nat) : Int) old) ∧ S.It it i h) := by
  refine ⟨by simp, fun i h st b hb => ?_, fun i h h' st k => let ⟨⟨old, he⟩, hi⟩ := st; ⟨⟨old, k e (by simp) _ he⟩, hi.at fun o q => k it (by simp) o q⟩, ?_, ?_, fun A i s Q E st h => let ⟨⟨_, he⟩, _⟩ := st; wpAny_pyIter_enum he h⟩
  · obtain ⟨⟨old, he⟩, hi⟩ := st
    have e' : b = e ∨ b = it := by simpa using hb
    rcases e' with q | q
    · subst q; exact ⟨_, he, fun v q => nomatch q⟩
    · subst q; exact hi.obj
  · intro X hP hw hK hc i pins s σ H E I hf st hg
    subst hP hw hK
    obtain ⟨⟨old, he⟩, hi⟩ := st
    obtain ⟨xs, x, a1, hx⟩ := hg
    obtain ⟨fp, P, St, D, t1, b1, r1, f1⟩ := Src.draw I (I.ok.hd hc) S a1 (hf it (by simp)).1
    have hef : e ∉ it :: fp := fun m => (List.mem_cons.mp m).elim hne fun m => f1 _ m (hf e (by simp)).1
    have hel : e < s.heap.objs.size := Heap.lt_size he
    have hil : it < s.heap.objs.size := by obtain ⟨_, q, _⟩ := hi.obj; exact Heap.lt_size q
    refine wpAny_pyNext_enum_itemC D he (t1 i hi) (List.getElem?_eq_some_iff.mp hx).1 hne hef fun u h' tk p1 ho hs' hT hsz hk => ?_
    refine ⟨_, rfl, wpAny_letOwnedTupleGo_enum (s := { s with heap := h', toks := tk + 1 }) ho fun h'' he' sb => ?_⟩
    have hT2 : h''.get? s.heap.objs.size = some { cls := .type "tuple", data := .seq #[.int i tk, u] } := (sb.2 _ (Nat.ne_of_gt hel)).trans hT
    have new : ObjOk X.prog X.w (upd H s.heap.objs.size (.tup [.int (i : Nat), x])) h'' s.heap.objs.size (.tup [.int (i : Nat), x]) :=
      ⟨by show 2 ≤ sizeLine; decide, [.int i tk, u], .cons ⟨_, rfl⟩ (.cons (r1 i u x p1 hx) .nil), ⟨_, hT2, rfl, _, rfl⟩⟩
    have hk' : ∀ c o, c ∉ [e, it] → s.heap.get? c = some o → h''.get? c = some o := fun c o hb q => (sb.2 c (fun q' => hb (by simp [q']))).trans (hk c o (fun q' => hb (by simp [q'])) (fun q' => hb (by simp [q'])) q)
    refine ⟨.ref s.heap.objs.size, _, I.turnedNew (t' := tk + 1) (ch := [e, it]) hk' hf (Nat.le_refl _) new, rfl, ⟨_, x, rfl, I.hok.fresh (Nat.le_refl _), rfl, fun l hl => by rw [hl.inj a1]; exact hx⟩, ⟨⟨u, ?_⟩, ?_⟩, fun c hcm => ?_⟩
    · have e1 : ((i + 1 : Nat) : Int) = (i : Int) + 1 := by omega
      rw [e1]; exact he'
    · exact (b1 _ _ hs').at fun o q => (sb.2 _ (Ne.symm hne)).trans q
    · have hlt : c < s.heap.objs.size := by
        have e' : c = e ∨ c = it := by simpa using hcm
        rcases e' with q | q
        · subst q; exact hel
        · subst q; exact hil
      rw [upd_ne (Nat.ne_of_lt hlt)]
      exact (hf c hcm).1
  · intro X hP hw hK hc i pins s σ H E I hf st hg
    subst hP hw hK
    obtain ⟨⟨old, he⟩, hi⟩ := st
    obtain ⟨xs, a1, hx⟩ := hg
    subst hx
    obtain ⟨fp, P, St, D, t1, b1, r1, f1⟩ := Src.draw I (I.ok.hd hc) S a1 (hf it (by simp)).1
    obtain ⟨f0, f1, f2, f3, f4, f5⟩ := hf it (by simp)
    exact wpAny_pyNext_enum_endD D he (t1 _ hi) fun h' eb => ⟨rfl, I.turned (t' := s.toks) (fun b o hb q => eb b o hb q) f0 f1 f3 f4 f5⟩
set_option maxHeartbeats 1000000 in
theorem meets_enumerate_new1 {v : Value} {o : Obj} {Hh : Heap → Prop} (B : Begins v o Hh) :
    Meets (Builtin.«enumerate.__new__» ⟨[.type "enumerate", v], []⟩) (fun _ R s => Hh s.heap ∧
      R (.ok (.ret (.ref (s.heap.push o).objs.size))) { s with heap := (s.heap.push o).push { cls := .type "enumerate", data := .fields #[.none, .bool false, .ref s.heap.objs.size, rawInt 0, .none, .none] } }) :=
  .of_wp fun prog w A R s h => by
    obtain ⟨hp, g, d, tk, os⟩ := s
    obtain ⟨h1, h⟩ := h
    have hsub := sub_enumerate
    have q1 : ∀ {A' : Around} {E : Value → Shared → Prop} {Q : Value → Shared → Prop}, Q (.ref hp.objs.size) ⟨hp.push o, g, d, tk, os⟩ → wpAny (model prog w) A' (pyIter v) Q E ⟨hp, g, d, tk, os⟩ :=
      fun q => B.iter prog w _ _ ⟨hp, g, d, tk, os⟩ _ h1 q
    wp_walk using q1
    refine wpAny_stack_any fun st => wpAny_pure ?_
    split
    · rename_i c _ _ _ _ _
      cases (c == Value.type "enumerate")
      · wp_walk using q1
        exact ⟨_, rfl, h⟩
      · wp_walk using q1
        exact ⟨_, rfl, h⟩
    · wp_walk using q1
      exact ⟨_, rfl, h⟩
theorem enum_begins1 {prog : Program} {w : World} {A : Around} {E : Value → Shared → Prop} {s : Shared} {v : Value} {o : Obj} {Hh : Heap → Prop} {Q : Value → Shared → Prop} (B : Begins v o Hh) (h1 : Hh s.heap)
    (h : ∀ h', IsEnum h' (s.heap.objs.size + 1) s.heap.objs.size 0 .none → h'.get? s.heap.objs.size = some o →
      (∀ b o, s.heap.get? b = some o → h'.get? b = some o) → Q (.ref (s.heap.objs.size + 1)) { s with heap := h' }) :
    wpAny (model prog w) A (call (.type "enumerate") [v]) Q E s := by
  refine callType_new F.called_enumerate (by decide) (F.typeCall_enumerate_1 _) (F.newCall_enumerate_1 _) (fun obj => F.args_object_init_2 obj _) F.entry_enumerate_new
    (meets_enumerate_new1 B) ⟨h1, ?_⟩
  have hz : (s.heap.push o).objs.size = s.heap.objs.size + 1 := Heap.size_push ..
  show _ ∧ _
  rw [hz]
  have he : IsEnum ((s.heap.push o).push { cls := .type "enumerate", data := .fields #[.none, .bool false, .ref s.heap.objs.size, rawInt 0, .none, .none] }) (s.heap.objs.size + 1) s.heap.objs.size 0 .none := by
    have := Heap.get?_push_size (s.heap.push o) (o := { cls := .type "enumerate", data := .fields #[.none, .bool false, .ref s.heap.objs.size, rawInt 0, .none, .none] }) rfl
    rw [hz] at this; exact this
  exact ⟨⟨_, he, rfl⟩, h _ he (Heap.get?_push_of_some _ (Heap.get?_push_size _ B.free)) fun b o x => Heap.get?_push_of_some _ (Heap.get?_push_of_some _ x)⟩
end PL

set_option Elab.async false
set_option linter.all false
set_option maxRecDepth 100000
set_option maxHeartbeats 4000000
/-! walked things as rules -/
namespace PL
open PySem PySem.Spec L2
section
variable {P : Program} {w : World} {K : PySem.W.Frag} {tg : Expr} {J J' : It} {fp : List Addr} {it : Addr} {tn : Nat → Heap → Prop}
theorem Turn.imp' (T : Turn P w K tg J fp it tn) (hgo : ∀ i H, J'.go i H → J.go i H) (hy : ∀ i H x H', J'.go i H → J.yld i H x H' → J'.yld i H x H') (hs : ∀ i H, J'.stop i H → J.stop i H) : Turn P w K tg J' fp it tn where
  mem := T.mem
  obj := T.obj
  keep := T.keep
  item := fun X h1 h2 h3 h4 i pins s σ H E I hf st hg => thn (T.item X h1 h2 h3 h4 i pins s σ H E I hf st (hgo i H hg)) fun r s1 ⟨u, e, q⟩ => ⟨u, e, thn q fun _ s2 ⟨x, H', I', r', y, z⟩ => ⟨x, H', I', r', hy i H x H' hg y, z⟩⟩
  done := fun X h1 h2 h3 h4 i pins s σ H E I hf st hg => T.done X h1 h2 h3 h4 i pins s σ H E I hf st (hs i H hg)
  self := T.self
end
def SrcOk (v : V) (H : Hp) : Prop := (∃ a xs, v = .ref a ∧ (H a = some (.lst xs) ∨ H a = some (.tup xs))) ∨ ∃ x, v = .str x
def IsSrc (v : V) (H : Hp) (S : Src) : Prop := match S with
  | .lst a => v = .ref a ∧ ∃ xs, H a = some (.lst xs)
  | .tup a => v = .ref a ∧ ∃ xs, H a = some (.tup xs)
  | .txt x _ => v = .str x
theorem srcOk_get {v : V} {H : Hp} {u : Value} (h : SrcOk v H) (r : RelV v u) : ∃ S : Src, IsSrc v H S ∧ u = S.u ∧ ∃ xs, S.At H xs := by
  rcases h with ⟨a, xs, rfl, h | h⟩ | ⟨x, rfl⟩
  · cases r; exact ⟨.lst a, ⟨rfl, xs, h⟩, rfl, xs, h⟩
  · cases r; exact ⟨.tup a, ⟨rfl, xs, h⟩, rfl, xs, h⟩
  · obtain ⟨t, rfl⟩ := r; exact ⟨.txt x t, rfl, rfl, _, rfl⟩
def ItA (S : Src) : It :=
  ⟨fun i H => ∃ xs x, S.At H xs ∧ xs[i]? = some x, fun i H x H' => H' = H ∧ ∀ xs, S.At H xs → xs[i]? = some x, fun i H => ∃ xs : List V, S.At H xs ∧ xs.length = i⟩
theorem turn_A {P : Program} {w : World} {K : PySem.W.Frag} {tg : Expr} (S : Src) (it : Addr) : Turn P w K tg (ItA S) [it] it (fun i h => S.It it i h) := by
  cases S with
  | lst a =>
    refine Turn.imp' (turn_list (K := K) a it) (fun i H ⟨xs, x, h, e⟩ => ⟨xs, x, .of h, e⟩) (fun i H x H' _ ⟨e, y⟩ => ⟨e, fun xs h => y xs (.of h)⟩) (fun i H ⟨xs, h, e⟩ => ⟨xs, .of h, Nat.le_of_eq e⟩)
  | tup a =>
    refine Turn.imp' (turn_tuple (K := K) a it) (fun i H ⟨xs, x, h, e⟩ => ⟨xs, x, .of h, e⟩) (fun i H x H' _ ⟨e, y⟩ => ⟨e, fun xs h => y xs (.of h)⟩) (fun i H ⟨xs, h, e⟩ => ⟨xs, .of h, Nat.le_of_eq e⟩)
  | txt y t =>
    have hty : strIterType y = "str_ascii_iterator" ∨ strIterType y = "str_iterator" := by
      unfold strIterType; split
      · exact .inl rfl
      · exact .inr rfl
    have hl : (signsV y).length = y.cps.size := by simp [signsV]
    refine Turn.imp' (turn_str (K := K) it y t (strIterType y) hty) (fun i H ⟨xs, x, h, e⟩ => ?_) (fun i H x H' _ ⟨e, c, y1, y2⟩ => ⟨e, fun xs h => ?_⟩) (fun i H ⟨xs, h, e⟩ => ?_)
    · have h : xs = signsV y := h
      subst h
      have := (List.getElem?_eq_some_iff.mp e).1
      show i < y.cps.size
      rw [← hl]; exact this
    · have h : xs = signsV y := h
      subst h; subst y2
      unfold signsV
      rw [List.getElem?_map, Array.getElem?_toList, y1]; rfl
    · have h : xs = signsV y := h
      subst h
      show y.cps.size ≤ i
      rw [← hl, e]; exact Nat.le_refl _
section
variable {X : Cx} {tg : Expr} {pos : Pos}
def iAny (te : TE) : TI := fun σ H R => te σ H fun v H1 => SrcOk v H1 ∧ ∀ S, IsSrc v H1 S → R (ItA S) H1
theorem pi_any {e : Expr} {te : TE} (he : PE X e te) : PI X tg e (iAny te) := by
  refine ⟨fun pins s σ H R I h => ?_⟩
  refine thn (he.run pins s σ H _ I h) fun u s1 ⟨v, H1, I1, r1, ok, q⟩ => ?_
  obtain ⟨S, hS, rfl, xs, hA⟩ := srcOk_get ok r1
  refine S.begins.iter _ _ _ _ _ _ (hA.has I1) ?_
  refine ⟨s1.heap.objs.size, [s1.heap.objs.size], _, _, H1, rfl, I1.kept (t' := s1.toks) fun b o e => Heap.get?_push_of_some _ e, turn_A S _, Src.It.of_obj (Heap.get?_push_size _ S.begins.free), fun b hb => ?_, q S hS⟩
  have e : b = s1.heap.objs.size := by simpa using hb
  subst e
  exact I1.fpOk (Nat.le_refl _) (I1.hok.fresh (Nat.le_refl _))
def iZipB (ta : TA) : TI := fun σ H R => ta σ H fun vs H1 => ∃ x y, vs = [x, y] ∧ SrcOk x H1 ∧ SrcOk y H1 ∧ ∀ S1 S2, IsSrc x H1 S1 → IsSrc y H1 S2 → R (ItzA S1 S2) H1
theorem pi_zipB {e e2 : Expr} {ta : TA} {p tpos : Pos} {elts : List Expr} {kk : Nat} (hg : Gl X "zip") (hm : X.mg "zip" = none) (ha : PA X [e, e2] ta)
    (hs : starEach [e, e2] X.env = (false, eval e X.env) :: starEach [e2] X.env := by rfl) (hpl : (backTo pos (starEach [e2] X.env)).any (·.1) = false := by rfl) :
    PI X (.Tuple elts kk tpos) (.Call (.Name "zip" p) [e, e2] [] pos) (iZipB ta) := by
  refine ⟨fun pins s σ H R I h => ?_⟩
  refine PyProof.Rows.Call_ (ld_blt I hg hm PyProof.Rows.boot_zip (PyProof.Rows.callWith_type1 (thn (ha.run pos pins s σ H _ I h) fun us s1 ⟨vs, H1, I1, r1, x, y, ex, o1, o2, q⟩ => ?_) hs hpl))
  subst ex
  obtain ⟨u1, u2, rfl, rx, ry⟩ := vals2 r1
  obtain ⟨S1, hS1, rfl, xs, hA1⟩ := srcOk_get o1 rx
  obtain ⟨S2, hS2, rfl, ys, hA2⟩ := srcOk_get o2 ry
  refine zip_begins2 S1.begins S2.begins (hA1.has I1) (hA2.has I1) fun h' hz hTI hTO h1 h2 hsz hk => wpAny_pyIter_zip hz ?_
  have nd : [s1.heap.objs.size + 4, s1.heap.objs.size + 2, s1.heap.objs.size + 3, s1.heap.objs.size, s1.heap.objs.size + 1].Nodup := by
    simp only [List.nodup_cons, List.mem_cons, List.not_mem_nil, or_false, not_or, not_false_eq_true, List.nodup_nil, and_true]
    generalize s1.heap.objs.size = n
    refine ⟨⟨?_, ?_, ?_, ?_⟩, ⟨?_, ?_, ?_⟩, ⟨?_, ?_⟩, ?_⟩ <;> (show ¬ ((_ : Nat) = _); omega)
  refine ⟨s1.heap.objs.size + 4, _, _, _, H1, rfl, I1.kept (t' := s1.toks) hk, turn_zipA S1 S2 nd, ⟨hz, hTI, ⟨_, _, hTO⟩, Src.It.of_obj h1, Src.It.of_obj h2⟩, fun c hcm => ?_, q S1 S2 hS1 hS2⟩
  have e' : c = s1.heap.objs.size + 4 ∨ c = s1.heap.objs.size + 2 ∨ c = s1.heap.objs.size + 3 ∨ c = s1.heap.objs.size ∨ c = s1.heap.objs.size + 1 := by simpa using hcm
  have hle : s1.heap.objs.size ≤ c := by
    rcases e' with z | z | z | z | z
    · rw [z]; exact Nat.le_add_right _ _
    · rw [z]; exact Nat.le_add_right _ _
    · rw [z]; exact Nat.le_add_right _ _
    · rw [z]; exact Nat.le_refl _
    · rw [z]; exact Nat.le_add_right _ _
  exact I1.fpOk hle (I1.hok.fresh hle)
def iEnumB (ta : TA) : TI := fun σ H R => ta σ H fun vs H1 => ∃ x, vs = [x] ∧ SrcOk x H1 ∧ ∀ S, IsSrc x H1 S → R (IteA S) H1
theorem pi_enumB {e : Expr} {ta : TA} {p tpos : Pos} {elts : List Expr} {kk : Nat} (hg : Gl X "enumerate") (hm : X.mg "enumerate" = none) (ha : PA X [e] ta) (hs : starEach [e] X.env = [(false, eval e X.env)] := by rfl) :
    PI X (.Tuple elts kk tpos) (.Call (.Name "enumerate" p) [e] [] pos) (iEnumB ta) := by
  refine ⟨fun pins s σ H R I h => ?_⟩
  refine PyProof.Rows.Call_ (ld_blt I hg hm PyProof.Rows.boot_enumerate (PyProof.Rows.callWith_type1 (thn (ha.run pos pins s σ H _ I h) fun us s1 ⟨vs, H1, I1, r1, x, ex, o1, q⟩ => ?_) hs rfl))
  subst ex
  obtain ⟨u1, rfl, rx⟩ := vals1 r1
  obtain ⟨S, hS, rfl, xs, hA⟩ := srcOk_get o1 rx
  refine enum_begins1 S.begins (hA.has I1) fun h' he h1 hk => wpAny_pyIter_enum he ?_
  have hne : s1.heap.objs.size + 1 ≠ s1.heap.objs.size := Nat.succ_ne_self _
  refine ⟨s1.heap.objs.size + 1, _, _, _, H1, rfl, I1.kept (t' := s1.toks) hk, turn_enumA S hne, ⟨⟨.none, he⟩, Src.It.of_obj h1⟩, fun b hb => ?_, q S hS⟩
  have e' : b = s1.heap.objs.size + 1 ∨ b = s1.heap.objs.size := by simpa using hb
  have hle : s1.heap.objs.size ≤ b := by
    rcases e' with z | z
    · rw [z]; exact Nat.le_add_right _ _
    · rw [z]; exact Nat.le_refl _
  exact I1.fpOk hle (I1.hok.fresh hle)

/-! ### over pure values -/
def signs (x : Str) : List PV := x.cps.toList.map fun c => PV.str ⟨#[c]⟩
def itemsQ (p : PV) (Q : List PV → Prop) : Prop := match p with
  | .lst xs => Q xs
  | .tup xs => Q xs
  | .str x => Q (signs x)
  | _ => False
theorem one_small : (1 : Nat) ≤ sizeLine := by decide
theorem sok_one {c : Nat} (h : c < 0x110000) : Sok ⟨#[c]⟩ := ⟨one_small, by simp [PyData.strOk, h]⟩
theorem sok_mem {x : Str} (h : Sok x) : ∀ c ∈ x.cps.toList, c < 0x110000 := by
  have h2 := h.2
  unfold PyData.strOk at h2
  rw [← Array.all_toList, List.all_eq_true] at h2
  intro c hc
  simpa using h2 c hc
theorem rep_signs {fr : Fr} {F : Hp} (x : Str) (h : Sok x) : Reps fr F (signsV x) (signs x) := by
  unfold signsV signs
  have hm := sok_mem h
  clear h
  generalize x.cps.toList = l at hm
  induction l with
  | nil => exact .nil
  | cons c r ih => rw [List.map_cons, List.map_cons]; exact .cons (.str _ (sok_one (hm c List.mem_cons_self))) (ih fun d hd => hm d (List.mem_cons_of_mem _ hd))
/-- a source stands for its items -/
def SrcRep (fr : Fr) (F : Hp) (S : Src) (ps : List PV) : Prop := match S with
  | .lst a => ∃ xs, F a = some (.lst xs) ∧ Reps fr F xs ps
  | .tup a => ∃ xs, F a = some (.tup xs) ∧ Reps fr F xs ps
  | .txt x _ => ps = signs x ∧ Sok x
theorem SrcRep.up {fr : Fr} {F F' : Hp} {S : Src} {ps : List PV} (h : SrcRep fr F S ps) (f : FLe F F') : SrcRep fr F' S ps := by
  cases S with
  | lst a => obtain ⟨xs, h, r⟩ := h; exact ⟨xs, f.l _ _ h, r.up f⟩
  | tup a => obtain ⟨xs, h, r⟩ := h; exact ⟨xs, f.t _ _ h, r.up f⟩
  | txt x t => exact h
theorem SrcRep.at {fr : Fr} {F H : Hp} {σ : St} {ρ : Rho} {S : Src} {ps : List PV} (h : SrcRep fr F S ps) (ok : StOk fr F H σ ρ) : ∃ xs, S.At H xs ∧ Reps fr F xs ps := by
  cases S with
  | lst a => obtain ⟨xs, h, r⟩ := h; exact ⟨xs, ok.le _ _ h, r⟩
  | tup a => obtain ⟨xs, h, r⟩ := h; exact ⟨xs, ok.le _ _ h, r⟩
  | txt x t => exact ⟨_, rfl, by rw [(show ps = signs x ∧ Sok x from h).1]; exact rep_signs x h.2⟩
theorem rep_src {fr : Fr} {F H : Hp} {σ : St} {ρ : Rho} {v : V} {p : PV} {Q : List PV → Prop} (ok : StOk fr F H σ ρ) (r : Rep fr F v p) (h : itemsQ p Q) : SrcOk v H ∧ ∃ ps, Q ps ∧ ∀ S, IsSrc v H S → SrcRep fr F S ps := by
  cases r with
  | lst e l r =>
    rename_i a vs ps
    refine ⟨.inl ⟨_, _, rfl, .inl (ok.le _ _ e)⟩, _, h, fun S hS => ?_⟩
    cases S with
    | lst b => obtain ⟨q, _⟩ := hS; cases q; exact ⟨_, e, r⟩
    | tup b => obtain ⟨q, xs, q2⟩ := hS; cases q; rw [ok.le _ _ e] at q2; cases q2
    | txt x t => exact nomatch (show V.ref _ = V.str _ from hS)
  | tup e l r =>
    rename_i a vs ps
    refine ⟨.inl ⟨_, _, rfl, .inr (ok.le _ _ e)⟩, _, h, fun S hS => ?_⟩
    cases S with
    | tup b => obtain ⟨q, _⟩ := hS; cases q; exact ⟨_, e, r⟩
    | lst b => obtain ⟨q, xs, q2⟩ := hS; cases q; rw [ok.le _ _ e] at q2; cases q2
    | txt x t => exact nomatch (show V.ref _ = V.str _ from hS)
  | str x hx =>
    refine ⟨.inr ⟨x, rfl⟩, _, h, fun S hS => ?_⟩
    cases S with
    | tup b => obtain ⟨q, _⟩ := hS; cases q
    | lst b => obtain ⟨q, _⟩ := hS; cases q
    | txt y t => cases (show V.str x = V.str y from hS); exact ⟨rfl, hx⟩
  | _ => exact h.elim
def dIt (d : DE) : DA := fun ρ Q => d ρ fun p ρ1 => itemsQ p fun xs => Q xs ρ1
theorem ix_any {e : Expr} {d : DE} (h : EX X e d) : IX X tg e (dIt d) := by
  obtain ⟨p, s⟩ := h.out
  refine .mk' (pi_any p) fun fr F σ H ρ Q R ok hd k => ?_
  refine s fr F σ H ρ _ _ ok hd fun v H1 x ρ1 F1 f1 ok1 r1 h1 => ?_
  obtain ⟨so, ps, q, hS⟩ := rep_src ok1 r1 h1
  refine ⟨so, fun S iS => k _ _ _ _ _ f1 ok1 ⟨fun i F H σ ρ f ok hi => ?_, fun i p F H σ ρ x H' f ok e y => ?_, fun F H σ ρ f ok => ?_⟩ q⟩
  · obtain ⟨xs, a, r⟩ := ((hS S iS).up f).at ok
    exact ⟨xs, xs[i]'(by rw [r.length]; exact hi), a, List.getElem?_eq_getElem _⟩
  · obtain ⟨xs, a, r⟩ := ((hS S iS).up f).at ok
    obtain ⟨rfl, y⟩ := y
    obtain ⟨p', e', r'⟩ := r.get' (y xs a)
    rw [e] at e'; cases e'
    exact .inl ⟨rfl, r'⟩
  · obtain ⟨xs, a, r⟩ := ((hS S iS).up f).at ok
    exact ⟨xs, a, r.length⟩
def zipP : List PV → List PV → List PV
  | x :: xs, y :: ys => .tup [x, y] :: zipP xs ys
  | _, _ => []
theorem zipP_length : ∀ xs ys : List PV, (zipP xs ys).length = min xs.length ys.length
  | [], ys => by simp [zipP]
  | x :: xs, [] => by simp [zipP]
  | x :: xs, y :: ys => by rw [zipP, List.length_cons, zipP_length xs ys, List.length_cons, List.length_cons]; omega
theorem zipP_get : ∀ {xs ys : List PV} {i : Nat} {p : PV}, (zipP xs ys)[i]? = some p → ∃ x y, xs[i]? = some x ∧ ys[i]? = some y ∧ p = .tup [x, y]
  | [], ys, i, p, h => by simp [zipP] at h
  | x :: xs, [], i, p, h => by simp [zipP] at h
  | x :: xs, y :: ys, 0, p, h => by simp [zipP] at h; exact ⟨x, y, rfl, rfl, h.symm⟩
  | x :: xs, y :: ys, i + 1, p, h => by
    obtain ⟨a, b, h1, h2, h3⟩ := zipP_get (xs := xs) (ys := ys) (i := i) (p := p) (by simpa [zipP] using h)
    exact ⟨a, b, by simpa using h1, by simpa using h2, h3⟩
theorem two_small : (2 : Nat) ≤ sizeLine := by decide
def dZip (d : DA) : DA := fun ρ Q => d ρ fun ps ρ1 => match ps with
  | [p, q] => itemsQ p fun xs => itemsQ q fun ys => Q (zipP xs ys) ρ1
  | _ => False
theorem ix_zip {e e2 : Expr} {d : DA} {p tpos : Pos} {elts : List Expr} {kk : Nat} (hm : X.mg "zip" = none) (ha : AX X [e, e2] d) (hg : Gl X "zip" := by rfl)
    (hs : starEach [e, e2] X.env = (false, eval e X.env) :: starEach [e2] X.env := by rfl) (hpl : (backTo pos (starEach [e2] X.env)).any (·.1) = false := by rfl) :
    IX X (.Tuple elts kk tpos) (.Call (.Name "zip" p) [e, e2] [] pos) (dZip d) := by
  obtain ⟨pa, sa⟩ := ha.out
  refine .mk' (pi_zipB hg hm pa hs hpl) fun fr F σ H ρ Q R ok hd k => ?_
  refine sa fr F σ H ρ _ _ ok hd fun vs H1 ps ρ1 F1 f1 ok1 r1 h1 => ?_
  cases r1 with
  | nil => exact h1.elim
  | cons ra rr =>
    cases rr with
    | nil => exact h1.elim
    | cons rb rr =>
      cases rr with
      | cons _ _ => exact h1.elim
      | nil =>
        obtain ⟨so1, xs, h2, hS1⟩ := rep_src ok1 ra h1
        obtain ⟨so2, ys, h3, hS2⟩ := rep_src ok1 rb h2
        refine ⟨_, _, rfl, so1, so2, fun S1 S2 i1 i2 => k _ _ _ _ _ f1 ok1 ⟨fun i F H σ ρ f ok hi => ?_, fun i p F H σ ρ x H' f ok e y => ?_, fun F H σ ρ f ok => ?_⟩ h3⟩
        · obtain ⟨vs1, a1, r1⟩ := ((hS1 S1 i1).up f).at ok
          obtain ⟨vs2, a2, r2⟩ := ((hS2 S2 i2).up f).at ok
          rw [zipP_length] at hi
          exact ⟨vs1, vs2, vs1[i]'(by rw [r1.length]; omega), vs2[i]'(by rw [r2.length]; omega), a1, a2, List.getElem?_eq_getElem _, List.getElem?_eq_getElem _⟩
        · obtain ⟨vs1, a1, r1⟩ := ((hS1 S1 i1).up f).at ok
          obtain ⟨vs2, a2, r2⟩ := ((hS2 S2 i2).up f).at ok
          obtain ⟨T, x1, x2, rfl, nT, rfl, y1, y2⟩ := y
          obtain ⟨q1, q2, e1, e2, rfl⟩ := zipP_get e
          obtain ⟨p1, e1', r1'⟩ := r1.get' (y1 _ a1)
          obtain ⟨p2, e2', r2'⟩ := r2.get' (y2 _ a2)
          rw [e1] at e1'; cases e1'
          rw [e2] at e2'; cases e2'
          exact .inr ⟨T, _, _, rfl, nT, rfl, rfl, two_small, .cons r1' (.cons r2' .nil)⟩
        · obtain ⟨vs1, a1, r1⟩ := ((hS1 S1 i1).up f).at ok
          obtain ⟨vs2, a2, r2⟩ := ((hS2 S2 i2).up f).at ok
          rw [zipP_length]
          exact ⟨vs1, vs2, a1, a2, by rw [r1.length]; omega, by rw [r2.length]; omega, by rw [r1.length, r2.length]; omega⟩
def enumP : Nat → List PV → List PV
  | _, [] => []
  | i, x :: xs => .tup [.int i, x] :: enumP (i + 1) xs
theorem enumP_length : ∀ (xs : List PV) (i : Nat), (enumP i xs).length = xs.length
  | [], _ => rfl
  | x :: xs, i => by rw [enumP, List.length_cons, enumP_length xs, List.length_cons]
theorem enumP_get : ∀ {xs : List PV} {j i : Nat} {p : PV}, (enumP j xs)[i]? = some p → ∃ x, xs[i]? = some x ∧ p = .tup [.int ((j + i : Nat) : Int), x]
  | [], j, i, p, h => by simp [enumP] at h
  | x :: xs, j, 0, p, h => by simp [enumP] at h; exact ⟨x, rfl, h.symm⟩
  | x :: xs, j, i + 1, p, h => by
    obtain ⟨a, h1, h3⟩ := enumP_get (xs := xs) (j := j + 1) (i := i) (p := p) (by simpa [enumP] using h)
    exact ⟨a, by simpa using h1, by rw [h3, show j + 1 + i = j + (i + 1) by omega]⟩
def dEnum (d : DA) : DA := fun ρ Q => d ρ fun ps ρ1 => match ps with
  | [p] => itemsQ p fun xs => Q (enumP 0 xs) ρ1
  | _ => False
theorem ix_enum {e : Expr} {d : DA} {p tpos : Pos} {elts : List Expr} {kk : Nat} (hm : X.mg "enumerate" = none) (ha : AX X [e] d) (hg : Gl X "enumerate" := by rfl) (hs : starEach [e] X.env = [(false, eval e X.env)] := by rfl) :
    IX X (.Tuple elts kk tpos) (.Call (.Name "enumerate" p) [e] [] pos) (dEnum d) := by
  obtain ⟨pa, sa⟩ := ha.out
  refine .mk' (pi_enumB hg hm pa hs) fun fr F σ H ρ Q R ok hd k => ?_
  refine sa fr F σ H ρ _ _ ok hd fun vs H1 ps ρ1 F1 f1 ok1 r1 h1 => ?_
  cases r1 with
  | nil => exact h1.elim
  | cons ra rr =>
    cases rr with
    | cons _ _ => exact h1.elim
    | nil =>
      obtain ⟨so1, xs, h2, hS1⟩ := rep_src ok1 ra h1
      refine ⟨_, rfl, so1, fun S i1 => k _ _ _ _ _ f1 ok1 ⟨fun i F H σ ρ f ok hi => ?_, fun i p F H σ ρ x H' f ok e y => ?_, fun F H σ ρ f ok => ?_⟩ h2⟩
      · obtain ⟨vs1, a1, r1⟩ := ((hS1 S i1).up f).at ok
        rw [enumP_length] at hi
        exact ⟨vs1, vs1[i]'(by rw [r1.length]; omega), a1, List.getElem?_eq_getElem _⟩
      · obtain ⟨vs1, a1, r1⟩ := ((hS1 S i1).up f).at ok
        obtain ⟨T, x1, rfl, nT, rfl, y1⟩ := y
        obtain ⟨q1, e1, rfl⟩ := enumP_get e
        obtain ⟨p1, e1', r1'⟩ := r1.get' (y1 _ a1)
        rw [e1] at e1'; cases e1'
        refine .inr ⟨T, _, _, rfl, nT, rfl, rfl, two_small, .cons ?_ (.cons r1' .nil)⟩
        rw [Nat.zero_add]
        exact .int _
      · obtain ⟨vs1, a1, r1⟩ := ((hS1 S i1).up f).at ok
        rw [enumP_length]
        exact ⟨vs1, a1, r1.length⟩
def rngP (lo : Int) : Nat → List PV
  | 0 => []
  | n + 1 => .int lo :: rngP (lo + 1) n
theorem rngP_length : ∀ (n : Nat) (lo : Int), (rngP lo n).length = n
  | 0, _ => rfl
  | n + 1, lo => by rw [rngP, List.length_cons, rngP_length n]
theorem rngP_get : ∀ {n i : Nat} {lo : Int} {p : PV}, (rngP lo n)[i]? = some p → p = .int (lo + (i : Nat))
  | 0, i, lo, p, h => by simp [rngP] at h
  | n + 1, 0, lo, p, h => by simp [rngP] at h; rw [← h]; simp
  | n + 1, i + 1, lo, p, h => by
    rw [rngP_get (n := n) (i := i) (lo := lo + 1) (p := p) (by simpa [rngP] using h)]
    congr 1
    omega
theorem ylds_rng {fr : Fr} {F : Hp} (lo : Int) (n : Nat) : Ylds fr F (Itr lo n) (rngP lo n) :=
  ⟨fun i F H σ ρ f ok hi => by rw [rngP_length] at hi; exact hi, fun i p F H σ ρ x H' f ok e y => by
    obtain ⟨rfl, rfl⟩ := y
    rw [rngP_get e]
    exact .inl ⟨rfl, .int _⟩, fun F H σ ρ f ok => by rw [rngP_length]; exact Nat.le_refl _⟩
def dRange1 (d : DA) : DA := fun ρ Q => d ρ fun ps ρ1 => match ps with
  | [.int j] => j < 2 ^ 62 ∧ -(2 ^ 62) ≤ j ∧ Q (rngP 0 j.toNat) ρ1
  | _ => False
theorem ix_range1 {a : Expr} {d : DA} {p : Pos} (hm : X.mg "range" = none) (ha : AX X [a] d) (hg : Gl X "range" := by rfl) (hs : starEach [a] X.env = [(false, eval a X.env)] := by rfl) : IX X tg (.Call (.Name "range" p) [a] [] pos) (dRange1 d) := by
  obtain ⟨pa, sa⟩ := ha.out
  refine .mk' (pi_range1 hg hm pa hs) fun fr F σ H ρ Q R ok hd k => ?_
  refine sa fr F σ H ρ _ _ ok hd fun vs H1 ps ρ1 F1 f1 ok1 r1 h1 => ?_
  cases r1 with
  | nil => exact h1.elim
  | cons ra rr =>
    cases rr with
    | cons _ _ => cases ra <;> exact h1.elim
    | nil =>
      cases ra with
      | int j => exact ⟨j, rfl, h1.2.1, h1.1, k _ _ _ _ _ f1 ok1 (ylds_rng 0 j.toNat) h1.2.2⟩
      | _ => exact h1.elim
def dRange2 (d : DA) : DA := fun ρ Q => d ρ fun ps ρ1 => match ps with
  | [.int i, .int j] => -(2 ^ 62) ≤ i ∧ i < 2 ^ 62 ∧ -(2 ^ 62) ≤ j ∧ j < 2 ^ 62 ∧ Q (rngP i (j - i).toNat) ρ1
  | _ => False
theorem ix_range2 {a b : Expr} {d : DA} {p : Pos} (hm : X.mg "range" = none) (ha : AX X [a, b] d) (hg : Gl X "range" := by rfl) (hs : starEach [a, b] X.env = [(false, eval a X.env), (false, eval b X.env)] := by rfl)
    (hs2 : starEach [b] X.env = [(false, eval b X.env)] := by rfl) : IX X tg (.Call (.Name "range" p) [a, b] [] pos) (dRange2 d) := by
  obtain ⟨pa, sa⟩ := ha.out
  refine .mk' (pi_range2 hg hm pa hs hs2) fun fr F σ H ρ Q R ok hd k => ?_
  refine sa fr F σ H ρ _ _ ok hd fun vs H1 ps ρ1 F1 f1 ok1 r1 h1 => ?_
  cases r1 with
  | nil => exact h1.elim
  | cons ra rr =>
    cases rr with
    | nil => cases ra <;> exact h1.elim
    | cons rb rr =>
      cases rr with
      | cons _ _ => cases ra <;> cases rb <;> exact h1.elim
      | nil =>
        cases ra with
        | int i =>
          cases rb with
          | int j => exact ⟨i, j, rfl, ⟨h1.1, h1.2.1, h1.2.2.1, h1.2.2.2.1⟩, k _ _ _ _ _ f1 ok1 (ylds_rng i _) h1.2.2.2.2⟩
          | _ => exact h1.elim
        | _ => cases rb <;> exact h1.elim
end
end PL

set_option Elab.async false
set_option linter.all false
set_option maxRecDepth 100000
set_option maxHeartbeats 4000000
/-! comprehensions; new objects of one's own; their stores; calls of defs -/
namespace PL
open PySem PySem.Spec L2

/-! ### list comprehensions -/
def isOwn : Slot → Bool
  | .own _ => true
  | _ => false
def wipeR (ρ : Rho) : List Nat → Rho
  | [] => ρ
  | v :: vs => (wipeR ρ vs).set v .un
theorem wipeR_length (ρ : Rho) : ∀ vs : List Nat, (wipeR ρ vs).length = ρ.length
  | [] => rfl
  | v :: vs => by rw [wipeR, List.length_set, wipeR_length ρ vs]
theorem wipeR_get {ρ : Rho} {i : Nat} {s : Slot} : ∀ {vs : List Nat}, (wipeR ρ vs)[i]? = some s → s = .un ∨ (ρ[i]? = some s ∧ i ∉ vs)
  | [], h => .inr ⟨h, by simp⟩
  | v :: vs, h => by
    rw [wipeR] at h
    by_cases hi : v = i
    · subst hi
      by_cases hv : v < (wipeR ρ vs).length
      · rw [List.getElem?_set_self hv] at h; cases h; exact .inl rfl
      · rw [List.getElem?_eq_none (by simpa using hv)] at h; cases h
    · rw [List.getElem?_set_ne hi] at h
      rcases wipeR_get h with e | ⟨e, n⟩
      · exact .inl e
      · exact .inr ⟨e, by simp only [List.mem_cons, not_or]; exact ⟨fun z => hi z.symm, n⟩⟩
theorem wipe_get {σ : St} {i : Nat} {o : Option V} : ∀ {vs : List Nat}, σ[i]? = some o → i ∉ vs → (wipe σ vs)[i]? = some o
  | [], h, _ => h
  | v :: vs, h, n => by
    have n' : i ≠ v ∧ i ∉ vs := by simpa using n
    rw [wipe, List.getElem?_set_ne (Ne.symm n'.1)]
    exact wipe_get h n'.2
section
variable {fr : Fr} {F H : Hp} {σ : St} {ρ : Rho}
/-- a block's own names forgotten -/
theorem StOk.wipe (x : StOk fr F H σ ρ) (vs : List Nat) : StOk fr F H (L2.wipe σ vs) (wipeR ρ vs) := by
  refine ⟨x.le, x.fok, x.fd, by rw [L2.wipe_length, wipeR_length]; exact x.len, fun i s e => ?_, fun i j a h1 h2 => ?_⟩
  · rcases wipeR_get e with rfl | ⟨e', n⟩
    · have hi : i < (L2.wipe σ vs).length := by
        rw [L2.wipe_length, x.len, ← wipeR_length ρ vs]
        exact (List.getElem?_eq_some_iff.mp e).1
      exact ⟨_, List.getElem?_eq_getElem hi, .un _⟩
    · obtain ⟨o, e1, e2⟩ := x.sl i s e'
      exact ⟨o, wipe_get e1 n, e2⟩
  · have key : ∀ i, OwnAt (L2.wipe σ vs) (wipeR ρ vs) i a → OwnAt σ ρ i a := fun i ⟨⟨p, h1⟩, h2⟩ => by
      rcases wipeR_get h1 with e | ⟨e, n⟩
      · cases e
      · obtain ⟨o, e1, _⟩ := x.sl i _ e
        have e3 := wipe_get e1 n
        rw [h2] at e3; cases e3
        exact ⟨⟨p, e⟩, e1⟩
    exact x.ap i j a (key i h1) (key j h2)
/-- back behind the block: the state of the names as it was, the heap as it is now -/
theorem StOk.unwipe {F' H' : Hp} (x : StOk fr F H σ ρ) (f : FLe F F') {vs : List Nat} (y : StOk fr F' H' (L2.wipe σ vs) (wipeR ρ vs)) (hv : ∀ i ∈ vs, ∀ s, ρ[i]? = some s → isOwn s = false) : StOk fr F' H' σ ρ := by
  refine ⟨y.le, y.fok, y.fd, x.len, fun i s e => ?_, x.ap⟩
  obtain ⟨o, e1, e2⟩ := x.sl i s e
  refine ⟨o, e1, ?_⟩
  cases e2 with
  | un => exact .un _
  | val r => exact .val (r.up f)
  | own q1 q2 q3 r =>
    have n : i ∉ vs := fun z => by have := hv i z _ e; cases this
    rename_i a ob pb
    have e3 : (wipeR ρ vs)[i]? = some (.own pb) := by
      clear q3 r e1 y
      induction vs with
      | nil => exact e
      | cons v vs ih =>
        have n' : i ≠ v ∧ i ∉ vs := by simpa using n
        rw [wipeR, List.getElem?_set_ne (Ne.symm n'.1)]
        exact ih (fun i h => hv i (List.mem_cons_of_mem _ h)) n'.2
    obtain ⟨o', g1, g2⟩ := y.sl i _ e3
    rw [wipe_get e1 n] at g1; cases g1
    exact g2
end
/-- a target, with what it leaves of the other names -/
def SndGK (vs : List Nat) (g : TG) (d : DG) : Prop := ∀ (fr : Fr) (F : Hp) (σ : St) (H : Hp) (ρ : Rho) (v : V) (p : PV) (Q : Rho → Prop) (R : St → Hp → Prop), StOk fr F H σ ρ → Rep fr F v p → d p ρ Q →
  (∀ F' H' σ' ρ', FLe F F' → StOk fr F' H' σ' ρ' → wipe σ' vs = wipe σ vs → Q ρ' → R σ' H') → g v σ H R
def SndGsK (vs : List Nat) (g : TGs) (d : DGs) : Prop := ∀ (fr : Fr) (F : Hp) (σ : St) (H : Hp) (ρ : Rho) (ws : List V) (ps : List PV) (Q : Rho → Prop) (R : St → Hp → Prop), StOk fr F H σ ρ → Reps fr F ws ps → d ps ρ Q →
  (∀ F' H' σ' ρ', FLe F F' → StOk fr F' H' σ' ρ' → wipe σ' vs = wipe σ vs → Q ρ' → R σ' H') → g ws σ H R
def wGK (vs : List Nat) (d : DG) : TG := fun v σ H R => ∃ fr F ρ p Q, StOk fr F H σ ρ ∧ Rep fr F v p ∧ d p ρ Q ∧ ∀ F' H' σ' ρ', FLe F F' → StOk fr F' H' σ' ρ' → wipe σ' vs = wipe σ vs → Q ρ' → R σ' H'
def wGsK (vs : List Nat) (d : DGs) : TGs := fun v σ H R => ∃ fr F ρ p Q, StOk fr F H σ ρ ∧ Reps fr F v p ∧ d p ρ Q ∧ ∀ F' H' σ' ρ', FLe F F' → StOk fr F' H' σ' ρ' → wipe σ' vs = wipe σ vs → Q ρ' → R σ' H'
structure GKX (vs : List Nat) (X : Cx) (e : Expr) (d : DG) : Prop where
  run : PG X e (wGK vs d)
structure GsKX (vs : List Nat) (X : Cx) (es : List Expr) (d : DGs) : Prop where
  run : PGs X es (wGsK vs d)
theorem wipe_set {σ : St} {i : Nat} {o : Option V} : ∀ {vs : List Nat}, i ∈ vs → wipe (σ.set i o) vs = wipe σ vs
  | v :: vs, h => by
    by_cases hi : i ∈ vs
    · rw [wipe, wipe, wipe_set hi]
    · have hv : i = v := by rcases List.mem_cons.mp h with e | e; exact e; exact absurd e hi
      subst hv
      rw [wipe, wipe]
      apply List.ext_getElem?
      intro j
      by_cases hj : i = j
      · subst hj
        by_cases hl : i < σ.length
        · rw [List.getElem?_set_self (by rw [L2.wipe_length]; simpa using hl), List.getElem?_set_self (by rw [L2.wipe_length]; exact hl)]
        · rw [List.getElem?_eq_none (by rw [List.length_set, L2.wipe_length]; simpa using hl), List.getElem?_eq_none (by rw [List.length_set, L2.wipe_length]; simpa using hl)]
      · rw [List.getElem?_set_ne hj, List.getElem?_set_ne hj]
        have aux : ∀ ws : List Nat, (wipe (σ.set i o) ws)[j]? = (wipe σ ws)[j]? := fun ws => by
          induction ws with
          | nil => exact List.getElem?_set_ne hj
          | cons w ws ih =>
            rw [wipe, wipe]
            by_cases hw : w = j
            · subst hw
              by_cases hl : w < σ.length
              · rw [List.getElem?_set_self (by rw [L2.wipe_length]; simpa using hl), List.getElem?_set_self (by rw [L2.wipe_length]; exact hl)]
              · rw [List.getElem?_eq_none (by rw [List.length_set, L2.wipe_length]; simpa using hl), List.getElem?_eq_none (by rw [List.length_set, L2.wipe_length]; simpa using hl)]
            · rw [List.getElem?_set_ne hw, List.getElem?_set_ne hw]; exact ih
        exact aux vs
section
variable {X : Cx} {pos : Pos} {vs : List Nat}
theorem gkx_name (i : Nat) {x : Str} (hN : X.N.Nodup) (hi : X.N[i]? = some x := by rfl) (hm : i ∈ vs := by decide) (hx : Loc X.env.scope x := by first | exact Or.inl rfl | exact Or.inr rfl) (hf : X.fn x = true ∨ X.env.scope.names.lookup x = some .local := by first | exact .inl rfl | exact .inr rfl) : GKX vs X (.Name x pos) (dgName i) :=
  ⟨⟨fun pins s σ H v u Q I r ⟨fr, F, ρ, p, Q', ok, rp, h, k⟩ => (pg_name (i := i) hN hi hx hf).run pins s σ H v u Q I r (k _ _ _ _ (FLe.refl F) (ok.set rp i) (wipe_set hm) h)⟩⟩
theorem gskx_nil : GsKX vs X [] dgNil := ⟨⟨fun pins s σ H ws us Q I r ⟨fr, F, ρ, ps, Q', ok, rp, h, k⟩ => by
  refine pgs_nil.run pins s σ H ws us Q I r ?_
  cases rp with
  | nil => exact ⟨rfl, k _ _ _ _ (FLe.refl F) ok rfl h⟩
  | cons _ _ => exact h.elim⟩⟩
theorem gskx_cons {e : Expr} {es : List Expr} {a : DG} {b : DGs} (h : GKX vs X e a) (h' : GsKX vs X es b) (hs : (assignEach (e :: es) X.env).map (·.2) = assign e X.env :: (assignEach es X.env).map (·.2) := by rfl) : GsKX vs X (e :: es) (dgCons a b) := by
  refine ⟨⟨fun pins s σ H ws us Q I r ⟨fr, F, ρ, ps, Q', ok, rp, hd, k⟩ => ?_⟩⟩
  refine (pgs_cons h.run h'.run hs).run pins s σ H ws us Q I r ?_
  cases rp with
  | nil => exact hd.elim
  | cons r1 rr => exact ⟨_, _, rfl, fr, F, ρ, _, _, ok, r1, hd, fun F1 H1 σ1 ρ1 f1 ok1 w1 h1 => ⟨fr, F1, ρ1, _, _, ok1, rr.up f1, h1, fun F2 H2 σ2 ρ2 f2 ok2 w2 h2 => k _ _ _ _ (f1.trans f2) ok2 (w2.trans w1) h2⟩⟩
theorem gkx_tup {es : List Expr} {k : Nat} {d : DGs} {n : Nat} (hc : X.calm = true) (h : GsKX vs X es d)
    (hn : (assignEach es X.env).length = n := by rfl) (hst : (assignEach es X.env).findIdx? (·.1) = none := by rfl) : GKX vs X (.Tuple es k pos) (dgTup n d) := by
  refine ⟨⟨fun pins s σ H v u Q I r ⟨fr, F, ρ, p, Q', ok, rp, hd, k⟩ => ?_⟩⟩
  refine (pg_tup hc h.run hn hst).run pins s σ H v u Q I r ?_
  cases rp with
  | tup e l rs => exact ⟨_, _, rfl, .of (ok.le _ _ e), by rw [rs.length]; exact hd.1, fr, F, ρ, _, _, ok, rs, hd.2, k⟩
  | _ => exact hd.elim
/-- a clause's tests -/
structure TsX (X : Cx) (ifs : List Expr) (d : DT) : Prop where
  run : PTs X ifs (wT d)
def dYes : DT := fun ρ Q => Q true ρ
theorem tsx_nil : TsX X [] dYes := ⟨⟨fun pins s σ H Q I ⟨fr, F, ρ, Q', ok, h, k⟩ => pts_nil.run pins s σ H Q I (k _ _ _ _ (FLe.refl F) ok h)⟩⟩
theorem tsx_one {c : Expr} {d : DT} (h : TX X c d) : TsX X [c] d := ⟨pts_one h.run⟩
/-- the turns of a comprehension: each leaves the names as they were -/
def lcLoop (g : DG) (tt : DT) (te : DE) (vs : List Nat) (ρ : Rho) : List PV → (List PV → Prop) → Prop
  | [], Q => Q []
  | x :: xs, Q => g x ρ fun ρ2 => tt ρ2 fun b ρ3 => if b = true then te ρ3 fun y ρ4 => wipeR ρ4 vs = ρ ∧ lcLoop g tt te vs ρ xs fun ys => Q (y :: ys) else wipeR ρ3 vs = ρ ∧ lcLoop g tt te vs ρ xs Q
def dLc (di : DA) (g : DG) (tt : DT) (te : DE) (vs : List Nat) : DE := fun ρ Q => di ρ fun xs ρ1 => (∀ i ∈ vs, ∀ s, ρ1[i]? = some s → isOwn s = false) ∧ xs.length ≤ sizeLine ∧ lcLoop g tt te vs (wipeR ρ1 vs) xs fun ys => Q (.lst ys) ρ1
/-- an expression that gives a new object of one's own -/
def SndN (t : TE) (d : DE) : Prop := ∀ (fr : Fr) (F : Hp) (σ : St) (H : Hp) (ρ : Rho) (Q : PV → Rho → Prop) (R : VK), StOk fr F H σ ρ → d ρ Q →
  (∀ a o H' p ρ' F', FLe F F' → StOk fr F' H' σ ρ' → F' a = none → ¬ fr.dom a → H' a = some o → RepO fr F' o p → (∀ j, ¬ OwnAt σ ρ' j a) → Q p ρ' → R (.ref a) H') → t σ H R
def wN (d : DE) : TE := fun σ H R => ∃ fr F ρ Q, StOk fr F H σ ρ ∧ d ρ Q ∧ ∀ a o H' p ρ' F', FLe F F' → StOk fr F' H' σ ρ' → F' a = none → ¬ fr.dom a → H' a = some o → RepO fr F' o p → (∀ j, ¬ OwnAt σ ρ' j a) → Q p ρ' → R (.ref a) H'
structure NX (X : Cx) (e : Expr) (d : DE) : Prop where
  run : PE X e (wN d)
theorem NX.mk' {e : Expr} {t : TE} {d : DE} (p : PE X e t) (s : SndN t d) : NX X e d := ⟨⟨fun pins s0 σ H Q I ⟨fr, F, ρ, Q', a, b, c⟩ => p.run pins s0 σ H Q I (s fr F σ H ρ Q' Q a b c)⟩⟩
theorem sndN (d : DE) : SndN (wN d) d := fun fr F σ H ρ Q R a b c => ⟨fr, F, ρ, Q, a, b, c⟩
theorem StOk.frz {fr : Fr} {F H : Hp} {σ : St} {ρ : Rho} (x : StOk fr F H σ ρ) {a : Addr} {o : HO} (hF : F a = none) (hd : ¬ fr.dom a) (hH : H a = some o) (hn : ∀ j, ¬ OwnAt σ ρ j a) : StOk fr (upd F a o) H σ ρ := by
  have fl : FLe F (upd F a o) := FLe.new hF
  refine ⟨fun b u e => ?_, x.fok, fun b d => ?_, x.len, fun j s e => ?_, x.ap⟩
  · by_cases z : b = a
    · subst z; rw [upd_same] at e; rw [← e]; exact hH
    · rw [upd_ne z] at e; exact x.le _ _ e
  · rw [upd_ne (show b ≠ a from fun z => hd (z ▸ d))]; exact x.fd b d
  · obtain ⟨w, g1, g2⟩ := x.sl j s e
    refine ⟨w, g1, ?_⟩
    cases g2 with
    | un => exact .un _
    | val r => exact .val (r.up fl)
    | own p1 p2 p3 r' =>
      rename_i b ob pb
      have nb : b ≠ a := fun z => hn j ⟨⟨_, e⟩, z ▸ g1⟩
      exact .own (by rw [upd_ne nb]; exact p1) p2 p3 (r'.up fl)
theorem NX.ex {e : Expr} {d : DE} (h : NX X e d) : EX X e d := by
  refine .mk' h.run fun fr F σ H ρ Q R ok hd k => ?_
  refine sndN d fr F σ H ρ Q R ok hd fun a o H1 p ρ1 F1 f1 ok1 n1 n2 e1 r1 n3 h1 => ?_
  have fl : FLe F1 (upd F1 a o) := FLe.new n1
  exact k _ _ _ _ _ (f1.trans fl) (ok1.frz n1 n2 e1 n3) ((r1.up fl).rep upd_same) h1
/-- t makes a new object o of what it has reckoned -/
theorem StOk.fresh {fr : Fr} {F H : Hp} {σ : St} {ρ : Rho} (x : StOk fr F H σ ρ) {a : Addr} (h : H a = none) : (∀ j, ¬ OwnAt σ ρ j a) := fun j ⟨⟨p, e1⟩, e2⟩ => by
  obtain ⟨o, g1, g2⟩ := x.sl j _ e1
  rw [e2] at g1; cases g1
  cases g2 with
  | own q1 q2 q3 r => rw [h] at q3; cases q3
theorem nx_lst {es : List Expr} {d : DA} (h : AX X es d) : NX X (.List es pos) (dLst d) := by
  obtain ⟨p, s⟩ := h.out
  refine .mk' (pe_lst p) fun fr F σ H ρ Q R ok hd k => ?_
  refine s fr F σ H ρ _ _ ok hd fun vs H1 xs ρ1 F1 f1 ok1 r1 h1 => ⟨by rw [r1.length]; exact h1.1, fun a ha => ?_⟩
  exact k a _ _ _ _ F1 f1 (ok1.alloc ha _) (ok1.nf ha) (ok1.nd ha) upd_same (.lst h1.1 r1) (ok1.fresh ha) h1.2
theorem wipe_wipe (σ : St) (vs : List Nat) : wipe (wipe σ vs) vs = wipe σ vs := by
  have aux : ∀ (us ws : List Nat), (∀ u ∈ ws, u ∈ us) → wipe (wipe σ us) ws = wipe σ us := fun us ws => by
    induction ws with
    | nil => intro _; rfl
    | cons w ws ih =>
      intro h
      rw [wipe, ih fun u hu => h u (List.mem_cons_of_mem _ hu)]
      have hw := h w List.mem_cons_self
      clear ih h
      induction us with
      | nil => cases hw
      | cons u us ih =>
        rw [wipe]
        by_cases e : w = u
        · subst e; rw [List.set_set]
        · rw [List.set_comm _ _ (Ne.symm e)]
          have hu : w ∈ us := (List.mem_cons.mp hw).resolve_left e
          rw [ih hu]
  exact aux vs vs fun _ h => h
theorem lc_go {g : TG} {tt : TT} {te : TE} {dg : DG} {dt : DT} {de : DE} (sg : SndGK vs g dg) (st : SndT tt dt) (se : SndE te de) {fr : Fr} {F1 H1 : Hp} {σ : St} {ρ1 : Rho} {J : It} {xs : List PV} {Q : PV → Rho → Prop} {R : VK}
    (ok1 : StOk fr F1 H1 σ ρ1) (yl : Ylds fr F1 J xs) (h1 : (∀ i ∈ vs, ∀ s, ρ1[i]? = some s → isOwn s = false) ∧ xs.length ≤ sizeLine ∧ lcLoop dg dt de vs (wipeR ρ1 vs) xs fun ys => Q (.lst ys) ρ1)
    (k : ∀ a o H' p ρ' F', FLe F1 F' → StOk fr F' H' σ ρ' → F' a = none → ¬ fr.dom a → H' a = some o → RepO fr F' o p → (∀ j, ¬ OwnAt σ ρ' j a) → Q p ρ' → R (.ref a) H') :
    ∀ D, H1 D = none → ∃ W : Nat → Nat → Hp → Prop, (∃ m, W 0 m (upd H1 D (.lst []))) ∧ ∀ i m H, W i m H → (J.stop i H ∧ R (.ref D) H) ∨ (J.go i H ∧ ∃ Nx : Hp → Prop, (∀ H', Nx H' → ∃ m', m' < m ∧ W (i + 1) m' H') ∧ ∀ x H', J.yld i H x H' →
      g x (wipe σ vs) H' fun σ2 H2 => wipe σ2 vs = wipe σ vs ∧ tt σ2 H2 fun b H3 => if b = true then te σ2 H3 fun y H4 => ∃ acc, H4 D = some (.lst acc) ∧ acc.length < sizeLine ∧ Nx (upd H4 D (.lst (acc ++ [y]))) else Nx H3) := by
  intro D hD
  obtain ⟨hv, hz, h1⟩ := h1
  have nF := ok1.nf hD
  have nd := ok1.nd hD
  have no1 : ∀ j, ¬ OwnAt σ ρ1 j D := ok1.fresh hD
  have no2 : ∀ j, ¬ OwnAt (wipe σ vs) (wipeR ρ1 vs) j D := (ok1.wipe vs).fresh hD
  let T : Nat → Hp → Prop := fun i H' => ∃ F' acc ys, FLe F1 F' ∧ StOk fr F' H' (wipe σ vs) (wipeR ρ1 vs) ∧ F' D = none ∧ H' D = some (.lst acc) ∧ Reps fr F' acc ys ∧ ys.length ≤ i ∧
    lcLoop dg dt de vs (wipeR ρ1 vs) (xs.drop i) fun zs => Q (.lst (ys ++ zs)) ρ1
  refine ⟨fun i m H' => m = xs.length - i ∧ i ≤ xs.length ∧ T i H', ⟨xs.length, by simp, Nat.zero_le _, F1, [], [], FLe.refl _, (ok1.alloc hD _).wipe vs, nF, upd_same, .nil, Nat.le_refl _, by simpa using h1⟩, ?_⟩
  rintro i m H2 ⟨rfl, hi, F2, acc, ys, f2, ok2, n2, e2, r2, l2, h2⟩
  by_cases hlt : i < xs.length
  · rw [List.drop_eq_getElem_cons hlt] at h2
    refine .inr ⟨yl.go i F2 H2 _ _ f2 ok2 hlt, T (i + 1), fun H' n => ⟨xs.length - (i + 1), by omega, rfl, hlt, n⟩, fun x H' y => ?_⟩
    obtain ⟨F3, f3, ok3, r3, keep, hnew⟩ := (yl.yl i xs[i] F2 H2 _ _ x H' f2 ok2 (List.getElem?_eq_getElem hlt) y).get ok2
    have e3 := keep _ _ e2
    have n3 : F3 D = none := by
      cases e : F3 D with
      | none => rfl
      | some o =>
        rcases hnew D o e with z | z
        · rw [n2] at z; cases z
        · rw [e2] at z; cases z
    -- the list in the making stands in the frame
    let S : Hp := upd (fun _ => none) D (.lst acc)
    have hSD : ∀ a, S a ≠ none → a = D := fun a h => Classical.byContradiction fun z => h (upd_ne z)
    have hS : ∀ a, S a ≠ none → ¬ fr.dom a := fun a h => by rw [hSD a h]; exact nd
    have okp : StOk (fr.plus S hS) F3 H' (wipe σ vs) (wipeR ρ1 vs) := ok3.plus (fun a o h => by
      have z := hSD a (by rw [h]; simp)
      subst z
      have h' : (upd (fun _ => none) a (HO.lst acc) : Hp) a = some o := h
      rw [upd_same] at h'; rw [← h']; exact e3) (fun a h => by rw [hSD a h]; exact n3) (fun a h j q => no2 j (hSD a h ▸ q))
    have back : ∀ {F5 H5 σ5 ρ5}, StOk (fr.plus S hS) F5 H5 σ5 ρ5 → StOk fr F5 H5 σ5 ρ5 ∧ H5 D = some (.lst acc) ∧ F5 D = none ∧ ∀ j, ¬ OwnAt σ5 ρ5 j D := fun {F5 H5 σ5 ρ5} o =>
      have ⟨a, b, c, d⟩ := o.minus
      have hD' : S D ≠ none := by show (upd (fun _ => none) D (HO.lst acc) : Hp) D ≠ none; rw [upd_same]; simp
      ⟨a, b D _ upd_same, c D hD', d D hD'⟩
    refine sg (fr.plus S hS) F3 (wipe σ vs) H' (wipeR ρ1 vs) x _ _ _ okp r3.plus h2 fun F4 H4 σ4 ρ4 f4 ok4 w4 h4 => ⟨w4.trans (wipe_wipe σ vs), ?_⟩
    have w4' : wipe σ4 vs = wipe σ vs := w4.trans (wipe_wipe σ vs)
    refine st (fr.plus S hS) F4 σ4 H4 ρ4 _ _ ok4 h4 fun b H5 ρ5 F5 f5 ok5 h5 => ?_
    have f25 := ((f2.trans f3).trans f4).trans f5
    cases b with
    | false =>
      have h5 : wipeR ρ5 vs = wipeR ρ1 vs ∧ lcLoop dg dt de vs (wipeR ρ1 vs) (xs.drop (i + 1)) (fun zs => Q (.lst (ys ++ zs)) ρ1) := by simpa using h5
      obtain ⟨o5, e5, n5, no5⟩ := back ok5
      have o5' := o5.wipe vs
      rw [w4', h5.1] at o5'
      exact iteF ⟨F5, acc, ys, f25, o5', n5, e5, r2.up ((f3.trans f4).trans f5), Nat.le_succ_of_le l2, h5.2⟩
    | true =>
      have h5 := (if_pos rfl : (if true = true then _ else _) = _) ▸ h5
      refine iteT (se (fr.plus S hS) F5 σ4 H5 ρ5 _ _ ok5 h5 fun v H6 p ρ6 F6 f6 ok6 r6 h6 => ?_)
      obtain ⟨o6, e6, n6, no6⟩ := back ok6
      have la : acc.length = ys.length := r2.length
      have o6' := (o6.wipe vs)
      rw [w4', h6.1] at o6'
      refine ⟨acc, e6, by omega, F6, acc ++ [v], ys ++ [p], f25.trans f6, o6'.poke n6 nd no2, n6, upd_same, (r2.up (((f3.trans f4).trans f5).trans f6)).append (.cons r6.minus .nil), by rw [List.length_append]; simpa using l2, ?_⟩
      have h7 := h6.2
      have e : (fun zs => Q (.lst (ys ++ [p] ++ zs)) ρ1) = fun zs => Q (.lst (ys ++ (p :: zs))) ρ1 := by
        funext zs; rw [List.append_assoc]; rfl
      rw [e]; exact h7
  · have e : i = xs.length := by omega
    subst e
    rw [List.drop_length] at h2
    have h2 : Q (.lst (ys ++ [])) ρ1 := h2
    rw [List.append_nil] at h2
    exact .inl ⟨yl.st F2 H2 _ _ f2 ok2, k D _ _ _ _ F2 f2 (ok1.unwipe f2 ok2 hv) n2 nd e2 (.lst (Nat.le_trans l2 hz) r2) no1 h2⟩
theorem lc_snd {wi : TI} {g : TG} {tt : TT} {te : TE} {di : DA} {dg : DG} {dt : DT} {de : DE} (si : SndI wi di) (sg : SndGK vs g dg) (st : SndT tt dt) (se : SndE te de) : SndN (tLc wi g tt te vs) (dLc di dg dt de vs) := by
  intro fr F σ H ρ Q R ok hd k
  refine si fr F σ H ρ _ _ ok hd fun J H1 xs ρ1 F1 f1 ok1 yl h1 => lc_go sg st se ok1 yl h1 fun a o H' p ρ' F' f2 => k a o H' p ρ' F' (f1.trans f2)
theorem sndGK (vs : List Nat) (d : DG) : SndGK vs (wGK vs d) d := fun fr F σ H ρ v p Q R a b c e => ⟨fr, F, ρ, p, Q, a, b, c, e⟩
/-- [e for target in iter if ..] -/
theorem nx_lc {elt tg iter : Expr} {ifs : List Expr} {scope : Scope} {di : DA} {dg : DG} {dt : DT} {de : DE} (own : List (Str × Nat)) (hc : X.calm = true) (hN : X.N.Nodup) (hi : IX X tg iter di) (ok : BlkOk X.N X.env.scope scope own)
    (hg : ∀ (s : Shared) (H : Hp) (C : Addr) (cl : List (Str × Addr)) (fp : List Addr), GKX (own.map (·.2)) (X.blk s H scope (compEnvC scope cl C X.env) fp) tg dg)
    (ht : ∀ (s : Shared) (H : Hp) (C : Addr) (cl : List (Str × Addr)) (fp : List Addr), TsX (X.blk s H scope (compEnvC scope cl C X.env) fp) ifs dt)
    (he : ∀ (s : Shared) (H : Hp) (C : Addr) (cl : List (Str × Addr)) (fp : List Addr), EX (X.blk s H scope (compEnvC scope cl C X.env) fp) elt de) (hs : ∀ x, foldedSetIterable iter X.env x = pure x := by intro _; rfl) :
    NX X (.ListComp elt [⟨tg, iter, ifs, 0⟩] scope pos) (dLc di dg dt de (own.map (·.2))) :=
  .mk' (pe_lc hc hN hi.run ok (fun s H C cl fp => (hg s H C cl fp).run) (fun s H C cl fp => (ht s H C cl fp).run) (fun s H C cl fp => (he s H C cl fp).run) hs) (lc_snd (sndI di) (sndGK _ dg) (sndT dt) (sndE de))
/-- name = [..] on one line -/
theorem sx_setLc (i : Nat) {y : Str} {py spos : Pos} {elt tg iter : Expr} {ifs : List Expr} {scope : Scope} {di : DA} {dg : DG} {dt : DT} {de : DE} (own : List (Str × Nat)) (hc : X.calm = true) (hN : X.N.Nodup)
    (hi : IX X tg iter di) (ok : BlkOk X.N X.env.scope scope own)
    (hg : ∀ (s : Shared) (H : Hp) (C : Addr) (cl : List (Str × Addr)) (fp : List Addr), GKX (own.map (·.2)) (X.blk s H scope (compEnvC scope cl C X.env) fp) tg dg)
    (ht : ∀ (s : Shared) (H : Hp) (C : Addr) (cl : List (Str × Addr)) (fp : List Addr), TsX (X.blk s H scope (compEnvC scope cl C X.env) fp) ifs dt)
    (he : ∀ (s : Shared) (H : Hp) (C : Addr) (cl : List (Str × Addr)) (fp : List Addr), EX (X.blk s H scope (compEnvC scope cl C X.env) fp) elt de)
    (hsw : swapsWith (.ListComp elt [⟨tg, iter, ifs, 0⟩] scope pos) (some (.Name y py)) spos.line X.env = pure true := by exact sw_true rfl rfl rfl (by decide +kernel))
    (hy : X.N[i]? = some y := by rfl) (hyl : X.env.scope.names.lookup y = some .local := by rfl) (hs : ∀ x, foldedSetIterable iter X.env x = pure x := by intro _; rfl) :
    SX X (.Assign [.Name y py] (.ListComp elt [⟨tg, iter, ifs, 0⟩] scope pos) spos) (dSet i (dLc di dg dt de (own.map (·.2)))) := by
  refine .mk' (ps_setLc hc hN hy hyl hsw hi.run ok (fun s H C cl fp => (hg s H C cl fp).run) (fun s H C cl fp => (ht s H C cl fp).run) (fun s H C cl fp => (he s H C cl fp).run) hs) fun fr F σ H ρ PD D okk hd k => ?_
  refine lc_snd (sndI di) (sndGK _ dg) (sndT dt) (sndE de) fr F σ H ρ _ _ okk hd fun a o H1 p ρ1 F1 f1 ok1 n1 n2 e1 r1 n3 h1 => ?_
  have fl : FLe F1 (upd F1 a o) := FLe.new n1
  exact k.nx _ _ _ _ (f1.trans fl) ((ok1.frz n1 n2 e1 n3).set ((r1.up fl).rep upd_same) i) h1
/-- name = a new object of its own -/
def dOwn (i : Nat) (d : DE) : DS := fun PD ρ => d ρ fun p ρ1 => PD.nx (ρ1.set i (.own p))
theorem sx_own (i : Nat) {x : Str} {e : Expr} {d : DE} {pos' : Pos} (hN : X.N.Nodup) (h : NX X e d) (hi : X.N[i]? = some x := by rfl) (hx : Loc X.env.scope x := by first | exact Or.inl rfl | exact Or.inr rfl) (hs : swapsWith e (some (.Name x pos')) pos.line X.env = pure false := by rfl)
    (hf : X.fn x = true ∨ X.env.scope.names.lookup x = some .local := by first | exact .inl rfl | exact .inr rfl) : SX X (.Assign [.Name x pos'] e pos) (dOwn i d) := by
  refine .mk' (ps_set (i := i) hN hi hx h.run hs hf) fun fr F σ H ρ PD D ok hd k => ?_
  exact sndN d fr F σ H ρ _ _ ok hd fun a o H1 p ρ1 F1 f1 ok1 n1 n2 e1 r1 n3 h1 => k.nx _ _ _ _ f1 (ok1.setOwn i n1 n2 e1 r1 n3) h1
end
end PL

set_option Elab.async false
set_option linter.all false
set_option maxRecDepth 100000
set_option maxHeartbeats 4000000
/-! stores into what a name owns; calls of defs -/
namespace PL
open PySem PySem.Spec L2
open PyProof.Rows (envOfC)

/-! ### defs -/
abbrev PSp := List PV → (PV → Prop) → Prop
def MonoP (f : PSp) : Prop := ∀ ps Q Q', (∀ r, Q r → Q' r) → f ps Q → f ps Q'
def spL (n : Nat) (f : PSp) : Sp := fun vs H Q _ => ∃ fr F ps, StOk fr F H [] [] ∧ Reps fr F vs ps ∧ ps.length = n ∧ f ps fun r => ∀ v H' F', FLe F F' → StOk fr F' H' [] [] → Rep fr F' v r → Q v H'
/-- by a function of the arguments -/
def fD (g : List PV → Option PV) : PSp := fun ps Q => match g ps with
  | some r => Q r
  | none => False
theorem fD_mono (g : List PV → Option PV) : MonoP (fD g) := fun ps Q Q' h x => by
  unfold fD at x ⊢
  cases e : g ps with
  | none => rw [e] at x; exact x
  | some r => rw [e] at x; exact h r x
def startR (m : Nat) (ps : List PV) : Rho := ps.map .val ++ List.replicate (m - ps.length) .un
def endsOf (post : PV → Prop) : PEnds where
  nx := fun _ => post .non
  rt := fun r _ => post r
theorem StOk.bare {fr : Fr} {F H : Hp} {σ : St} {ρ : Rho} (x : StOk fr F H σ ρ) : StOk fr F H [] [] :=
  ⟨x.le, x.fok, x.fd, rfl, fun i s e => by simp at e, fun i j a h _ => by obtain ⟨⟨p, e⟩, _⟩ := h; simp at e⟩
theorem startOk {fr : Fr} {F H : Hp} {N : List Str} {vs : List V} {ps : List PV} (x : StOk fr F H [] []) (r : Reps fr F vs ps) : StOk fr F H (L2.start N vs) (startR N.length ps) := by
  have hl := r.length
  refine ⟨x.le, x.fok, x.fd, by unfold L2.start startR; simp [hl], fun i s e => ?_, fun i j a h _ => ?_⟩
  · unfold startR at e
    unfold L2.start
    by_cases hi : i < ps.length
    · rw [List.getElem?_append_left (by simpa using hi), List.getElem?_map] at e
      rw [List.getElem?_append_left (by simpa [hl] using hi), List.getElem?_map]
      cases e1 : ps[i]? with
      | none => rw [e1] at e; cases e
      | some p =>
        rw [e1] at e; cases e
        obtain ⟨v, h1, h2⟩ := r.get e1
        exact ⟨some v, by rw [h1]; rfl, .val h2⟩
    · rw [List.getElem?_append_right (by simpa using hi), List.getElem?_replicate] at e
      split at e
      · cases e
        rename_i h
        refine ⟨none, ?_, .un _⟩
        rw [List.getElem?_append_right (by simpa [hl] using hi), List.getElem?_replicate, if_pos (by simpa [hl] using h)]
      · cases e
  · obtain ⟨⟨p, e⟩, _⟩ := h
    unfold startR at e
    by_cases hi : i < ps.length
    · rw [List.getElem?_append_left (by simpa using hi), List.getElem?_map] at e
      cases e1 : ps[i]? with
      | none => rw [e1] at e; cases e
      | some p => rw [e1] at e; cases e
    · rw [List.getElem?_append_right (by simpa using hi), List.getElem?_replicate] at e
      split at e <;> cases e
/-- THE RULE for a def -/
theorem fn_ok {P : Program} {w : World} {K : PySem.W.Frag} {mg : Str → Option Value} {base : Heap} {x qual : Str} {st : Stmt} {f : Addr} {fd : FuncData} {N ps : List Str} {k n : Nat} {g : PSp} {d : DS} (Fu : Fun K x qual st f fd) (S : FnScope N ps (defScope st)) (hn : ps.length = n) (hm : MonoP g)
    (hb : ∀ (cdv : Value) (A : Around) (outer : List Env) (s : Shared) (H : Hp) (E : XK), Room k (A.deeper (envOfC qual (defScope st) s.heap.objs.size f cdv)) → BX (cxOf CX0 P w K mg base N qual (defScope st) f cdv A outer s H E).nox (defBody st) d)
    (hp : ∀ (as : List PV) (post : PV → Prop), as.length = n → g as post → d (endsOf post) (startR N.length as)) : FnOk P w K mg base CX0 (k + 1) f fd ps (spL n g) := by
  refine Fu.ok S (fun vs H Q E h => ?_) (fun cdv A outer s H vs Q E hr h => ?_)
  · obtain ⟨fr, F, as, _, r, e, _⟩ := h
    rw [r.length, e, hn]
  · obtain ⟨fr, F, as, ok, r, e, h⟩ := h
    refine ⟨_, (hb cdv A outer s H E hr).run, fr, F, startR N.length as, endsOf _, startOk ok r, hp as _ e h, ⟨fun F' H' σ' ρ' f ok q => q _ H' F' f ok.bare .non, fun F' H' σ' ρ' v p f ok r q => q v H' F' f ok.bare r, fun _ _ _ _ _ _ q => q.elim, fun _ _ _ _ _ _ q => q.elim⟩⟩
/-- what the names own -/
noncomputable def ownS (σ : St) (ρ : Rho) (H : Hp) : Hp := fun a => open Classical in if ∃ j, OwnAt σ ρ j a then H a else none
def dCall (n : Nat) (f : PSp) (da : DA) : DE := fun ρ Q => da ρ fun ps ρ1 => ps.length = n ∧ f ps fun r => Q r ρ1
theorem call_snd {n : Nat} {f : PSp} {ta : TA} {da : DA} (hm : MonoP f) (sa : SndA ta da) : SndE (tCall (spL n f) [] E0 ta) (dCall n f da) := by
  intro fr F σ H ρ Q R ok hd k
  refine sa fr F σ H ρ _ _ ok hd fun vs H1 ps ρ1 F1 f1 ok1 r1 h1 => ?_
  obtain ⟨hl, h1⟩ := h1
  have own : ∀ a, ownS σ ρ1 H1 a ≠ none → ∃ j, OwnAt σ ρ1 j a := fun a h => Classical.byContradiction fun z => h (by unfold ownS; rw [if_neg z])
  have ownH : ∀ j a, OwnAt σ ρ1 j a → ownS σ ρ1 H1 a = H1 a := fun j a h => by unfold ownS; rw [if_pos ⟨j, h⟩]
  have ownF : ∀ j a, OwnAt σ ρ1 j a → F1 a = none ∧ ¬ fr.dom a ∧ H1 a ≠ none := fun j a ⟨⟨p, e⟩, e2⟩ => by
    obtain ⟨o, g1, g2⟩ := ok1.sl j _ e
    rw [e2] at g1; cases g1
    cases g2 with
    | own q1 q2 q3 r => exact ⟨q1, q2, by rw [q3]; simp⟩
  have hS : ∀ a, ownS σ ρ1 H1 a ≠ none → ¬ fr.dom a := fun a h => let ⟨j, o⟩ := own a h; (ownF j a o).2.1
  have okb : StOk fr F1 H1 [] [] := ok1.bare
  have okp : StOk (fr.plus (ownS σ ρ1 H1) hS) F1 H1 [] [] := okb.plus (fun a o h => by
    obtain ⟨j, oj⟩ := own a (by rw [h]; simp)
    rw [ownH j a oj] at h; exact h) (fun a h => let ⟨j, o⟩ := own a h; (ownF j a o).1) (fun a _ j q => by obtain ⟨⟨p, e⟩, _⟩ := q; simp at e)
  refine ⟨fr.plus (ownS σ ρ1 H1) hS, F1, ps, okp, by rw [List.append_nil]; exact r1.plus, hl, hm ps _ _ (fun r q v H2 F2 f2 ok2 r2 => ?_) h1⟩
  obtain ⟨ok2', keep, nF, _⟩ := ok2.minus
  refine k v H2 r ρ1 F2 (f1.trans f2) ⟨ok2'.le, ok2'.fok, ok2'.fd, ok1.len, fun j s e => ?_, ok1.ap⟩ r2.minus q
  obtain ⟨o, g1, g2⟩ := ok1.sl j s e
  refine ⟨o, g1, ?_⟩
  cases g2 with
  | un => exact .un _
  | val r => exact .val (r.up f2)
  | own q1 q2 q3 r =>
    have oa : OwnAt σ ρ1 j _ := ⟨⟨_, e⟩, g1⟩
    have hs := ownH j _ oa
    exact .own (nF _ (by rw [hs, q3]; simp)) q2 (keep _ _ (by rw [hs]; exact q3)) (r.up f2)
section
variable {X : Cx} {pos : Pos}
theorem ex_call {f : Addr} {fd : FuncData} {ps : List Str} {k n : Nat} {g : PSp} {x : Str} {p : Pos} {e : Expr} {es : List Expr} {da : DA} (F : FnOk X.prog X.w X.K X.mg X.base CX0 k f fd ps (spL n g)) (mono : MonoP g) (hr : Room k X.A) (hm : X.mg x = some (.ref f)) (hk : PySem.W.keepIn X.K (.ref f) = true) (hb : Binds X.K fd ps [])
    (ha : AX X (e :: es) da) (hg : Gl X x := by rfl) (hdb : (x == ("__debug__" : Str)) = false := by decide) (he : starEach (e :: es) X.env = (false, eval e X.env) :: starEach es X.env := by rfl) (hpl : (backTo pos (starEach es X.env)).any (·.1) = false := by rfl) :
    EX X (.Call (.Name x p) (e :: es) [] pos) (dCall n g da) :=
  .mk' (pe_call F hr hg hm hk hb .nil pass0 ha.run hdb he hpl) (call_snd mono (sndA da))
theorem ex_call0 {f : Addr} {fd : FuncData} {ps : List Str} {k n : Nat} {g : PSp} {x : Str} {p : Pos} (F : FnOk X.prog X.w X.K X.mg X.base CX0 k f fd ps (spL n g)) (mono : MonoP g) (hr : Room k X.A) (hm : X.mg x = some (.ref f)) (hk : PySem.W.keepIn X.K (.ref f) = true) (hb : Binds X.K fd ps [])
    (hg : Gl X x := by rfl) (hdb : (x == ("__debug__" : Str)) = false := by decide) : EX X (.Call (.Name x p) [] [] pos) (dCall n g dNil) :=
  .mk' (pe_call0 F hr hg hm hk hb .nil pass0 hdb) (call_snd mono (fun _ F _ _ _ _ _ ok h k => k _ _ _ _ _ (FLe.refl F) ok .nil h))

/-! ### a name that owns, lent for one reckoning -/
mutual
def PV.imm : PV → Bool
  | .non => true
  | .bl _ => true
  | .int _ => true
  | .str _ => true
  | .tup xs => immAll xs
  | .lst _ => false
  | .dic _ => false
  | .dit _ => false
  | .town => true
  | .scr _ _ => true
  | .ref _ => true
def immAll : List PV → Bool
  | [] => true
  | x :: xs => x.imm && immAll xs
end
mutual
theorem Rep.still {fr : Fr} {F F' : Hp} (h : ∀ b vs, F b = some (.tup vs) → F' b = some (.tup vs)) : ∀ {v : V} {p : PV}, Rep fr F v p → p.imm = true → Rep fr F' v p
  | _, _, .non, _ => .non
  | _, _, .bl b, _ => .bl b
  | _, _, .int i, _ => .int i
  | _, _, .str x l, _ => .str x l
  | _, _, .tup e l r, i => .tup (h _ _ e) l (Reps.still h r (by simpa [PV.imm] using i))
  | _, _, .lst e l r, i => by simp [PV.imm] at i
  | _, _, .dic e l r, i => by simp [PV.imm] at i
  | _, _, .dit e l r, i => by simp [PV.imm] at i
  | _, _, .town, _ => .town
  | _, _, .scr, _ => .scr
  | _, _, .ref a, _ => .ref a
theorem Reps.still {fr : Fr} {F F' : Hp} (h : ∀ b vs, F b = some (.tup vs) → F' b = some (.tup vs)) : ∀ {v : List V} {p : List PV}, Reps fr F v p → immAll p = true → Reps fr F' v p
  | _, _, .nil, _ => .nil
  | _, _, .cons r rr, i => by
    rw [immAll, Bool.and_eq_true] at i
    have i' := i
    exact .cons (Rep.still h r i'.1) (Reps.still h rr i'.2)
end
def noOwn (ρ : Rho) : Bool := ρ.all fun s => !isOwn s
/-- names i, that own a thing, read without being frozen; nothing else is owned, the answer holds no list or dict -/
def dLend (i : Nat) (d : DE) : DE := fun ρ Q => match ρ[i]? with
  | some (.own p) => noOwn (ρ.set i .un) = true ∧ d (ρ.set i (.val p)) fun r ρ' => ρ' = ρ.set i (.val p) ∧ r.imm = true ∧ Q r ρ
  | _ => False
theorem lend_core {fr : Fr} {F H : Hp} {σ : St} {ρ : Rho} {i : Nat} {p : PV} (ok : StOk fr F H σ ρ) (e : ρ[i]? = some (.own p)) (hn : noOwn (ρ.set i .un) = true) :
    ∃ F1, FLe F F1 ∧ StOk fr F1 H σ (ρ.set i (.val p)) ∧ ∀ F2 H2, FLe F1 F2 → StOk fr F2 H2 σ (ρ.set i (.val p)) → ∃ F3, FLe F F3 ∧ StOk fr F3 H2 σ ρ ∧ ∀ b vs, F2 b = some (.tup vs) → F3 b = some (.tup vs) := by
  obtain ⟨_, h2, e2⟩ := ok.sl i _ e
  cases e2 with
  | own q1 q2 q3 r =>
    rename_i a o
    obtain ⟨a', F1, e1, fl, ok1, _⟩ := ok.freeze e
    rw [h2] at e1
    injection e1 with e1; injection e1 with e1; injection e1 with e1
    subst e1
    refine ⟨upd F a o, FLe.new q1, ?_, fun F2 H2 f2 ok2 => ?_⟩
    · -- as freeze does it
      have fl2 : FLe F (upd F a o) := FLe.new q1
      refine ⟨fun b u e => ?_, ok.fok, fun b d => ?_, by simpa using ok.len, fun j s e' => ?_, fun j k b g1 g2 => ok1.ap j k b g1 g2⟩
      · by_cases z : b = a
        · subst z; rw [upd_same] at e; rw [← e]; exact q3
        · rw [upd_ne z] at e; exact ok.le _ _ e
      · rw [upd_ne (show b ≠ a from fun z => q2 (z ▸ d))]; exact ok.fd b d
      · by_cases hj : i = j
        · subst hj
          have hi : i < ρ.length := (List.getElem?_eq_some_iff.mp e).1
          rw [List.getElem?_set_self hi] at e'; cases e'
          exact ⟨_, h2, .val ((r.up fl2).rep upd_same)⟩
        · rw [List.getElem?_set_ne hj] at e'
          obtain ⟨w, g1, g2⟩ := ok.sl j s e'
          refine ⟨w, g1, ?_⟩
          cases g2 with
          | un => exact .un _
          | val r => exact .val (r.up fl2)
          | own p1 p2 p3 r' =>
            rename_i b ob pb
            have nb : b ≠ a := fun z => hj (ok.ap i j a ⟨⟨_, e⟩, h2⟩ ⟨⟨_, e'⟩, z ▸ g1⟩)
            exact .own (by rw [upd_ne nb]; exact p1) p2 p3 (r'.up fl2)
    · have ha2 : F2 a = some o := f2.z _ _ upd_same
      have fl3 : FLe F (fun b => if b = a then none else F2 b) := FLe.of_le fun b u e' => by
        have nb : b ≠ a := fun z => by rw [z, q1] at e'; cases e'
        show (if b = a then none else F2 b) = some u
        rw [if_neg nb]
        exact f2.z _ _ (by rw [upd_ne nb]; exact e')
      refine ⟨fun b => if b = a then none else F2 b, fl3, ⟨fun b u e' => ?_, ok2.fok, fun b d => ?_, ok.len, fun j s e' => ?_, ok.ap⟩, fun b vs e' => ?_⟩
      · have e' : (if b = a then none else F2 b) = some u := e'
        by_cases z : b = a
        · rw [if_pos z] at e'; cases e'
        · rw [if_neg z] at e'; exact ok2.le _ _ e'
      · show (if b = a then none else F2 b) = none
        by_cases z : b = a
        · rw [if_pos z]
        · rw [if_neg z]; exact ok2.fd b d
      · by_cases hj : i = j
        · subst hj
          rw [e] at e'; cases e'
          exact ⟨_, h2, .own (by show (if a = a then none else F2 a) = none; rw [if_pos rfl]) q2 (ok2.le _ _ ha2) (r.up fl3)⟩
        · obtain ⟨w, g1, g2⟩ := ok.sl j s e'
          refine ⟨w, g1, ?_⟩
          cases g2 with
          | un => exact .un _
          | val r => exact .val (r.up fl3)
          | own p1 p2 p3 r' =>
            exfalso
            rename_i b ob pb
            have hm : (ρ.set i .un)[j]? = some (.own pb) := by rw [List.getElem?_set_ne hj]; exact e'
            have := List.all_eq_true.mp hn _ (List.mem_of_getElem? hm)
            simp [isOwn] at this
      · show (if b = a then none else F2 b) = some (.tup vs)
        have nb : b ≠ a := fun z => by
          rw [z, ha2] at e'
          cases r <;> cases e'
        rw [if_neg nb]; exact e'
theorem ex_lend (i : Nat) {e : Expr} {d : DE} (h : EX X e d) : EX X e (dLend i d) := by
  refine .mk' h.run fun fr F σ H ρ Q R ok hd k => ?_
  cases e : ρ[i]? with
  | none => simp only [dLend, e] at hd
  | some s =>
    cases s with
    | un => simp only [dLend, e] at hd
    | val p => simp only [dLend, e] at hd
    | own p =>
      simp only [dLend, e] at hd
      obtain ⟨F1, f1, ok1, fin⟩ := lend_core ok e hd.1
      refine sndE d fr F1 σ H _ _ _ ok1 hd.2 fun v H2 r ρ2 F2 f2 ok2 r2 h2 => ?_
      obtain ⟨rfl, im, q⟩ := h2
      obtain ⟨F3, f3, ok3, st⟩ := fin F2 H2 f2 ok2
      exact k v H2 r ρ F3 f3 ok3 (r2.still st im) q
def dLendT (i : Nat) (d : DT) : DT := fun ρ Q => match ρ[i]? with
  | some (.own p) => noOwn (ρ.set i .un) = true ∧ d (ρ.set i (.val p)) fun b ρ' => ρ' = ρ.set i (.val p) ∧ Q b ρ
  | _ => False
theorem tx_lend (i : Nat) {e : Expr} {d : DT} (h : TX X e d) : TX X e (dLendT i d) := by
  refine .mk' h.run fun fr F σ H ρ Q R ok hd k => ?_
  cases e : ρ[i]? with
  | none => simp only [dLendT, e] at hd
  | some s =>
    cases s with
    | un => simp only [dLendT, e] at hd
    | val p => simp only [dLendT, e] at hd
    | own p =>
      simp only [dLendT, e] at hd
      obtain ⟨F1, f1, ok1, fin⟩ := lend_core ok e hd.1
      refine sndT d fr F1 σ H _ _ _ ok1 hd.2 fun b H2 ρ2 F2 f2 ok2 h2 => ?_
      obtain ⟨rfl, q⟩ := h2
      obtain ⟨F3, f3, ok3, st⟩ := fin F2 H2 f2 ok2
      exact k b H2 ρ F3 f3 ok3 q

/-! ### lists that a name owns -/
def ownL (ρ : Rho) (i : Nat) (P : List PV → Prop) : Prop := match ρ[i]? with
  | some (.own (.lst ps)) => P ps
  | _ => False
theorem ownL_get {fr : Fr} {F H : Hp} {σ : St} {ρ : Rho} {i : Nat} {P : List PV → Prop} (ok : StOk fr F H σ ρ) (h : ownL ρ i P) : ∃ a vs ps, ρ[i]? = some (.own (.lst ps)) ∧ σ[i]? = some (some (.ref a)) ∧ H a = some (.lst vs) ∧ ps.length ≤ sizeLine ∧ Reps fr F vs ps ∧ P ps := by
  unfold ownL at h
  split at h
  · rename_i ps e
    obtain ⟨o, e1, e2⟩ := ok.sl i _ e
    cases e2 with
    | own q1 q2 q3 r =>
      cases r with
      | lst l r => exact ⟨_, _, _, e, e1, q3, l, r, h⟩
  · exact h.elim
theorem some_ref {a b : Addr} (h : some (some (V.ref a)) = some (some (V.ref b))) : a = b := by
  injection h with h; injection h with h; injection h
def dApp (i : Nat) (d : DE) : DS := fun PD ρ => ownL ρ i (fun _ => True) ∧ d ρ fun p ρ1 => ownL ρ1 i fun ps => ps.length < sizeLine ∧ PD.nx (ρ1.set i (.own (.lst (ps ++ [p]))))
theorem sx_append (i : Nat) {x : Str} {e : Expr} {d : DE} {px apos cpos : Pos} (h : EX X e d) (hN : X.N[i]? = some x := by rfl) (hv : Vis X.env.scope x := by first | exact Or.inl rfl | exact Or.inr (Or.inl rfl) | exact Or.inr (Or.inr rfl)) (hd : (x == ("__debug__" : Str)) = false := by decide) (hcd : (x == ("__classdict__" : Str)) = false := by decide)
    (hbase : attributeBase (.Name x px) "append" X.env (eval (.Name x px) X.env) = eval (.Name x px) X.env := by rfl)
    (hfew : ((backTo cpos (starEach [e] X.env)).all (fun x => !x.1) && (backToKw cpos (keywordEach [] X.env)).all (fun x => x.1.isSome)
      && decide (([e] : List Expr).length + ([] : List Keyword).length + (if ([] : List Keyword).isEmpty then 0 else 1) < 30)) = true := by rfl)
    (hline : (apos.endLine == cpos.line) = true := by rfl) (hs : starEach [e] X.env = (false, eval e X.env) :: starEach [] X.env := by rfl) (hplain : (backTo cpos (starEach [] X.env)).any (·.1) = false := by rfl)
    (hsw : swapsWith (.Call (.Attribute (.Name x px) "append" apos) [e] [] cpos) none pos.line X.env = pure false := by rfl) :
    SX X (.Expr (.Call (.Attribute (.Name x px) "append" apos) [e] [] cpos) pos) (dApp i d) := by
  refine .mk' (ps_expr (pe_bm PySem.F.plainAttrs_list PySem.F.slot_list_append PySem.F.type_list_append mt_append (pe_var hN hv hd hcd) (pa_cons h.run pa_nil hs) hbase hfew hline hs hplain) hsw) fun fr F σ H ρ PD D ok hd k => ?_
  obtain ⟨a, vs, ps, g1, g2, g3, g4, g5, _⟩ := ownL_get ok hd.1
  refine ⟨_, g2, .inl ⟨rfl, _, .of g3⟩, ?_⟩
  refine sndE d fr F σ H ρ _ _ ok hd.2 fun v H1 p ρ1 F1 f1 ok1 r1 h1 => ?_
  obtain ⟨b, ws, qs, k1, k2, k3, k4, k5, hl, hn⟩ := ownL_get ok1 h1
  cases some_ref (g2.symm.trans k2)
  exact ⟨a, ws, v, rfl, rfl, k3, by rw [k5.length]; exact hl, k.nx _ _ _ _ f1 (ok1.write k1 k2 (.lst (by rw [List.length_append]; exact hl) (k5.append (.cons r1 .nil)))) hn⟩
def dExt (i : Nat) (d : DE) : DS := fun PD ρ => ownL ρ i (fun _ => True) ∧ d ρ fun p ρ1 => match p with
  | .lst qs => ownL ρ1 i fun ps => ps.length + qs.length ≤ sizeLine ∧ PD.nx (ρ1.set i (.own (.lst (ps ++ qs))))
  | _ => False
theorem sx_extend (i : Nat) {x : Str} {e : Expr} {d : DE} {px apos cpos : Pos} (h : EX X e d) (hN : X.N[i]? = some x := by rfl) (hv : Vis X.env.scope x := by first | exact Or.inl rfl | exact Or.inr (Or.inl rfl) | exact Or.inr (Or.inr rfl)) (hd : (x == ("__debug__" : Str)) = false := by decide) (hcd : (x == ("__classdict__" : Str)) = false := by decide)
    (hbase : attributeBase (.Name x px) "extend" X.env (eval (.Name x px) X.env) = eval (.Name x px) X.env := by rfl)
    (hfew : ((backTo cpos (starEach [e] X.env)).all (fun x => !x.1) && (backToKw cpos (keywordEach [] X.env)).all (fun x => x.1.isSome)
      && decide (([e] : List Expr).length + ([] : List Keyword).length + (if ([] : List Keyword).isEmpty then 0 else 1) < 30)) = true := by rfl)
    (hline : (apos.endLine == cpos.line) = true := by rfl) (hs : starEach [e] X.env = (false, eval e X.env) :: starEach [] X.env := by rfl) (hplain : (backTo cpos (starEach [] X.env)).any (·.1) = false := by rfl)
    (hsw : swapsWith (.Call (.Attribute (.Name x px) "extend" apos) [e] [] cpos) none pos.line X.env = pure false := by rfl) :
    SX X (.Expr (.Call (.Attribute (.Name x px) "extend" apos) [e] [] cpos) pos) (dExt i d) := by
  refine .mk' (ps_expr (pe_bm PySem.F.plainAttrs_list PySem.F.slot_list_extend PySem.F.type_list_extend mt_extend (pe_var hN hv hd hcd) (pa_cons h.run pa_nil hs) hbase hfew hline hs hplain) hsw) fun fr F σ H ρ PD D ok hd k => ?_
  obtain ⟨a, vs, ps, g1, g2, g3, g4, g5, _⟩ := ownL_get ok hd.1
  refine ⟨_, g2, .inl ⟨rfl, _, .of g3⟩, ?_⟩
  refine sndE d fr F σ H ρ _ _ ok hd.2 fun v H1 p ρ1 F1 f1 ok1 r1 h1 => ?_
  cases r1 with
  | lst e l r1 =>
    obtain ⟨b, ws, qs, k1, k2, k3, k4, k5, hl, hn⟩ := ownL_get ok1 h1
    cases some_ref (g2.symm.trans k2)
    exact ⟨a, _, ws, _, rfl, rfl, k3, ok1.le _ _ e, by rw [k5.length, r1.length]; exact hl, k.nx _ _ _ _ f1 (ok1.write k1 k2 (.lst (by rw [List.length_append]; exact hl) (k5.append r1))) hn⟩
  | _ => exact h1.elim
/-- xs[i] = e -/
def dSetIx (i : Nat) (dx d : DE) : DS := fun PD ρ => d ρ fun p ρ1 => ownL ρ1 i (fun _ => True) ∧ dx ρ1 fun q ρ2 => match q with
  | .int k => ownL ρ2 i fun ps => ∃ j, ixN ps.length k = some j ∧ PD.nx (ρ2.set i (.own (.lst (ps.set j p))))
  | _ => False
theorem sx_setix (i : Nat) {x : Str} {e ie : Expr} {d dx : DE} {px spos : Pos} (hi : EX X ie dx) (h : EX X e d) (hN : X.N[i]? = some x := by rfl) (hv : Vis X.env.scope x := by first | exact Or.inl rfl | exact Or.inr (Or.inl rfl) | exact Or.inr (Or.inr rfl)) (hd : (x == ("__debug__" : Str)) = false := by decide) (hcd : (x == ("__classdict__" : Str)) = false := by decide)
    (ha : ∀ v, assign (.Subscript (.Name x px) ie spos) X.env v = (do
      let ov ← holding [v] (eval (.Name x px) X.env)
      let iv ← holding [v, ov] (eval ie X.env)
      standAt spos
      holding [v, ov, iv] (setItem ov iv v)
      release [v, ov, iv] []) := by intro _; rfl)
    (hs : swapsWithSole [.Subscript (.Name x px) ie spos] e pos.line X.env = pure false := by rfl) (hw : swappedStores [.Subscript (.Name x px) ie spos] e X.env = pure none := by rfl)
    (h1 : (assignEach [.Subscript (.Name x px) ie spos] X.env).map (·.2) = [assign (.Subscript (.Name x px) ie spos) X.env] := by rfl) :
    SX X (.Assign [.Subscript (.Name x px) ie spos] e pos) (dSetIx i dx d) := by
  refine .mk' (ps_asg h.run (pg_sub (pe_var hN hv hd hcd) hi.run set_list ha) hs hw h1) fun fr F σ H ρ PD D ok hd k => ?_
  refine sndE d fr F σ H ρ _ _ ok hd fun v H1 p ρ1 F1 f1 ok1 r1 hd1 => ?_
  obtain ⟨a, vs, ps, g1, g2, g3, g4, g5, _⟩ := ownL_get ok1 hd1.1
  refine ⟨_, g2, ?_⟩
  refine sndE dx fr F1 σ H1 ρ1 _ _ ok1 hd1.2 fun w H2 q ρ2 F2 f2 ok2 r2 h2 => ?_
  cases r2 with
  | int n =>
    obtain ⟨b, ws, qs, k1, k2, k3, k4, k5, j, hj, hn⟩ := ownL_get ok2 h2
    cases some_ref (g2.symm.trans k2)
    exact ⟨a, ws, n, j, rfl, rfl, k3, by rw [k5.length]; exact hj, k.nx _ _ _ _ (f1.trans f2) (ok2.write k1 k2 (.lst (by rw [List.length_set]; exact k4) (k5.set (r1.up f2) j))) hn⟩
  | _ => exact h2.elim

/-! ### dicts -/
def keyOf : PV → Option Key
  | .int i => some (.inl i)
  | .str x => some (.inr x)
  | _ => none
def keysOf : List PV → Option (List Key)
  | [] => some []
  | p :: ps => match keyOf p, keysOf ps with
    | some k, some ks => some (k :: ks)
    | _, _ => none
theorem keyOf_rep {fr : Fr} {F : Hp} {v : V} {p : PV} {k : Key} (r : Rep fr F v p) (h : keyOf p = some k) : v = kV k := by
  cases r with
  | int i => cases h; rfl
  | str x l => cases h; rfl
  | _ => cases h
theorem keysOf_rep {fr : Fr} {F : Hp} : ∀ {vs : List V} {ps : List PV} {ks : List Key}, Reps fr F vs ps → keysOf ps = some ks → vs = ks.map kV
  | _, _, ks, .nil, h => by cases h; rfl
  | _, _, ks, .cons r rr, h => by
    rename_i v p vs ps
    unfold keysOf at h
    cases e1 : keyOf p with
    | none => rw [e1] at h; cases h
    | some k =>
      cases e2 : keysOf ps with
      | none => rw [e1, e2] at h; cases h
      | some kr => rw [e1, e2] at h; cases h; rw [keyOf_rep r e1, keysOf_rep rr e2]; rfl
def getP {κ : Type} [DecidableEq κ] : List (κ × PV) → κ → Option PV
  | [], _ => none
  | (k, p) :: r, j => if k = j then some p else getP r j
def putP {κ : Type} [DecidableEq κ] (ks : List (κ × PV)) (j : κ) (p : PV) : List (κ × PV) :=
  if (ks.any fun kv => decide (kv.1 = j)) = true then ks.map fun kv => if kv.1 = j then (kv.1, p) else kv else ks ++ [(j, p)]
theorem putP_length {κ : Type} [DecidableEq κ] (ks : List (κ × PV)) (j : κ) (p : PV) : (putP ks j p).length ≤ ks.length + 1 := by
  unfold putP; split <;> simp
section
variable {fr : Fr} {F : Hp}
theorem RepK.get : ∀ {vs : List (Key × V)} {ps : List (Key × PV)}, RepK fr F vs ps → ∀ k, (∃ v p, valV vs k = some v ∧ getP ps k = some p ∧ Rep fr F v p) ∨ (valV vs k = none ∧ getP ps k = none)
  | _, _, .nil, k => .inr ⟨rfl, rfl⟩
  | _, _, .cons (k := k') h r, k => by
    by_cases e : k' = k
    · exact .inl ⟨_, _, valV_pos e, by rw [getP, if_pos e], h⟩
    · rw [valV_neg (p := (k', _)) e, getP, if_neg e]; exact RepK.get r k
theorem RepT.get : ∀ {vs : List (List Key × V)} {ps : List (List Key × PV)}, RepT fr F vs ps → ∀ k, (∃ v p, valV vs k = some v ∧ getP ps k = some p ∧ Rep fr F v p) ∨ (valV vs k = none ∧ getP ps k = none)
  | _, _, .nil, k => .inr ⟨rfl, rfl⟩
  | _, _, .cons (k := k') h r, k => by
    by_cases e : k' = k
    · exact .inl ⟨_, _, valV_pos e, by rw [getP, if_pos e], h⟩
    · rw [valV_neg (p := (k', _)) e, getP, if_neg e]; exact RepT.get r k
theorem RepK.any : ∀ {vs : List (Key × V)} {ps : List (Key × PV)}, RepK fr F vs ps → ∀ k, (vs.any fun kv => decide (kv.1 = k)) = ps.any fun kv => decide (kv.1 = k)
  | _, _, .nil, k => rfl
  | _, _, .cons h r, k => by rw [List.any_cons, List.any_cons, RepK.any r k]
theorem RepT.any : ∀ {vs : List (List Key × V)} {ps : List (List Key × PV)}, RepT fr F vs ps → ∀ k, (vs.any fun kv => decide (kv.1 = k)) = ps.any fun kv => decide (kv.1 = k)
  | _, _, .nil, k => rfl
  | _, _, .cons h r, k => by rw [List.any_cons, List.any_cons, RepT.any r k]
theorem RepK.repl {v : V} {p : PV} (q : Rep fr F v p) (k : Key) : ∀ {vs : List (Key × V)} {ps : List (Key × PV)}, RepK fr F vs ps → RepK fr F (vs.map fun kv => if kv.1 = k then (kv.1, v) else kv) (ps.map fun kv => if kv.1 = k then (kv.1, p) else kv)
  | _, _, .nil => .nil
  | _, _, .cons (k := k') h r => by
    rw [List.map_cons, List.map_cons]
    by_cases e : k' = k
    · rw [if_pos e, if_pos e]; exact .cons q (RepK.repl q k r)
    · rw [if_neg e, if_neg e]; exact .cons h (RepK.repl q k r)
theorem RepT.repl {v : V} {p : PV} (q : Rep fr F v p) (k : List Key) : ∀ {vs : List (List Key × V)} {ps : List (List Key × PV)}, RepT fr F vs ps → RepT fr F (vs.map fun kv => if kv.1 = k then (kv.1, v) else kv) (ps.map fun kv => if kv.1 = k then (kv.1, p) else kv)
  | _, _, .nil => .nil
  | _, _, .cons (k := k') h r => by
    rw [List.map_cons, List.map_cons]
    by_cases e : k' = k
    · rw [if_pos e, if_pos e]; exact .cons q (RepT.repl q k r)
    · rw [if_neg e, if_neg e]; exact .cons h (RepT.repl q k r)
theorem RepK.app : ∀ {vs ws : List (Key × V)} {ps qs : List (Key × PV)}, RepK fr F vs ps → RepK fr F ws qs → RepK fr F (vs ++ ws) (ps ++ qs)
  | _, _, _, _, .nil, s => s
  | _, _, _, _, .cons h r, s => .cons h (RepK.app r s)
theorem RepT.app : ∀ {vs ws : List (List Key × V)} {ps qs : List (List Key × PV)}, RepT fr F vs ps → RepT fr F ws qs → RepT fr F (vs ++ ws) (ps ++ qs)
  | _, _, _, _, .nil, s => s
  | _, _, _, _, .cons h r, s => .cons h (RepT.app r s)
theorem RepK.put {vs : List (Key × V)} {ps : List (Key × PV)} {v : V} {p : PV} (r : RepK fr F vs ps) (k : Key) (q : Rep fr F v p) : RepK fr F (putK vs k v) (putP ps k p) := by
  unfold putK putP
  rw [r.any k]
  split
  · exact r.repl q k
  · exact r.app (.cons q .nil)
theorem RepT.put {vs : List (List Key × V)} {ps : List (List Key × PV)} {v : V} {p : PV} (r : RepT fr F vs ps) (k : List Key) (q : Rep fr F v p) : RepT fr F (putK vs k v) (putP ps k p) := by
  unfold putK putP
  rw [r.any k]
  split
  · exact r.repl q k
  · exact r.app (.cons q .nil)
end
/-- what a dict holds at a key: P of it -/
def dictAt (d k : PV) (P : Option PV → Prop) : Prop := match d with
  | .dic ks => match keyOf k with
    | some j => P (getP ks j)
    | none => False
  | .dit ks => match k with
    | .tup ps => match keysOf ps with
      | some j => P (getP ks j)
      | none => False
    | _ => False
  | _ => False
theorem dictAt_get {fr : Fr} {F H : Hp} {σ : St} {ρ : Rho} {x y : V} {d k : PV} {P : Option PV → Prop} (ok : StOk fr F H σ ρ) (rd : Rep fr F x d) (rk : Rep fr F y k) (h : dictAt d k P) :
    ∃ a o q, x = .ref a ∧ IsD H a ∧ DGet H a y o ∧ P q ∧ ((o = none ∧ q = none) ∨ ∃ v p, o = some v ∧ q = some p ∧ Rep fr F v p) := by
  have rdl : ∀ {a u}, Rd F a u → Rd H a u := fun h => h.elim (fun e => .inl (ok.le _ _ e)) fun ⟨o, e⟩ => .inr ⟨o, ok.le _ _ e⟩
  cases rd with
  | dic e l r =>
    rename_i a vs ks
    have h : (match keyOf k with | some j => P (getP ks j) | none => False) := h
    cases ek : keyOf k with
    | none => rw [ek] at h; exact h.elim
    | some j =>
      rw [ek] at h
      have ey := keyOf_rep rk ek
      refine ⟨a, valV vs j, _, rfl, .inl ⟨_, rdl e⟩, .inl ⟨vs, j, rdl e, ey, rfl⟩, h, ?_⟩
      rcases r.get j with ⟨v, p, h1, h2, h3⟩ | ⟨h1, h2⟩
      · exact .inr ⟨v, p, h1, h2, h3⟩
      · exact .inl ⟨h1, h2⟩
  | dit e l r =>
    rename_i a vs ks
    cases rk with
    | tup e2 l2 r2 =>
      rename_i b ws ps
      have h : (match keysOf ps with | some j => P (getP ks j) | none => False) := h
      cases ek : keysOf ps with
      | none => rw [ek] at h; exact h.elim
      | some j =>
        rw [ek] at h
        have ey := keysOf_rep r2 ek
        refine ⟨a, valV vs j, _, rfl, .inr ⟨_, rdl e⟩, .inr ⟨vs, j, b, rdl e, rfl, by rw [← ey]; exact ok.le _ _ e2, rfl⟩, h, ?_⟩
        rcases r.get j with ⟨v, p, h1, h2, h3⟩ | ⟨h1, h2⟩
        · exact .inr ⟨v, p, h1, h2, h3⟩
        · exact .inl ⟨h1, h2⟩
    | _ => exact h.elim
  | _ => exact h.elim
def dGet (dd dk : DE) : DE := fun ρ Q => dd ρ fun d ρ1 => dk ρ1 fun k ρ2 => dictAt d k fun r => match r with
  | some p => Q p ρ2
  | none => False
theorem ex_dget {o i : Expr} {dd dk : DE} (hu : X.A.units + 1 < cLine) (ho : EX X o dd) (hi : EX X i dk) (hs : NoSl i := by intro _ _; rfl) : EX X (.Subscript o i pos) (dGet dd dk) := by
  refine .mk' (pe_dget hu ho.run hi.run hs) fun fr F σ H ρ Q R ok hd k => ?_
  refine sndE dd fr F σ H ρ _ _ ok hd fun x H1 d ρ1 F1 f1 ok1 r1 h1 => ?_
  refine sndE dk fr F1 σ H1 ρ1 _ _ ok1 h1 fun y H2 q ρ2 F2 f2 ok2 r2 h2 => ?_
  obtain ⟨a, o, z, e, _, g, hz, c⟩ := dictAt_get ok2 (r1.up f2) r2 h2
  rcases c with ⟨_, rfl⟩ | ⟨v, p, rfl, rfl, r3⟩
  · exact hz.elim
  · exact ⟨a, v, e, g, k _ _ _ _ _ (f1.trans f2) ok2 r3 hz⟩
def dIn (dk dd : DE) : DE := fun ρ Q => dk ρ fun k ρ1 => dd ρ1 fun d ρ2 => dictAt d k fun r => Q (.bl r.isSome) ρ2
def dNotIn (dk dd : DE) : DE := fun ρ Q => dk ρ fun k ρ1 => dd ρ1 fun d ρ2 => dictAt d k fun r => Q (.bl (!r.isSome)) ρ2
theorem din_snd {td tk : TE} {dk dd : DE} (sk : SndE tk dk) (sd : SndE td dd) : SndE (tDIn tk td) (dIn dk dd) := by
  intro fr F σ H ρ Q R ok hd k
  refine sk fr F σ H ρ _ _ ok hd fun y H1 q ρ1 F1 f1 ok1 r1 h1 => ?_
  refine sd fr F1 σ H1 ρ1 _ _ ok1 h1 fun x H2 d ρ2 F2 f2 ok2 r2 h2 => ?_
  obtain ⟨a, o, z, e, _, g, hz, c⟩ := dictAt_get ok2 r2 (r1.up f2) h2
  refine ⟨a, o, e, g, ?_⟩
  rcases c with ⟨rfl, rfl⟩ | ⟨v, p, rfl, rfl, r3⟩
  · exact k _ _ _ _ _ (f1.trans f2) ok2 (.bl _) hz
  · exact k _ _ _ _ _ (f1.trans f2) ok2 (.bl _) hz
theorem dnotin_snd {td tk : TE} {dk dd : DE} (sk : SndE tk dk) (sd : SndE td dd) : SndE (tDNotIn tk td) (dNotIn dk dd) := by
  intro fr F σ H ρ Q R ok hd k
  refine sk fr F σ H ρ _ _ ok hd fun y H1 q ρ1 F1 f1 ok1 r1 h1 => ?_
  refine sd fr F1 σ H1 ρ1 _ _ ok1 h1 fun x H2 d ρ2 F2 f2 ok2 r2 h2 => ?_
  obtain ⟨a, o, z, e, _, g, hz, c⟩ := dictAt_get ok2 r2 (r1.up f2) h2
  refine ⟨a, o, e, g, ?_⟩
  rcases c with ⟨rfl, rfl⟩ | ⟨v, p, rfl, rfl, r3⟩
  · exact k _ _ _ _ _ (f1.trans f2) ok2 (.bl _) hz
  · exact k _ _ _ _ _ (f1.trans f2) ok2 (.bl _) hz
theorem ex_din {o i : Expr} {dd dk : DE} (hu : X.A.units + 1 < cLine) (hi : EX X i dk) (ho : EX X o dd) (h1 : behindInMarks .In o = false := by rfl) : EX X (.Compare i [.In] [o] pos) (dIn dk dd) :=
  .mk' (pe_cmp (pc_din hu hi.run ho.run) h1) (din_snd (sndE dk) (sndE dd))
theorem ex_dnotin {o i : Expr} {dd dk : DE} (hu : X.A.units + 1 < cLine) (hi : EX X i dk) (ho : EX X o dd) (h1 : behindInMarks .NotIn o = false := by rfl) : EX X (.Compare i [.NotIn] [o] pos) (dNotIn dk dd) :=
  .mk' (pe_cmp (pc_dnotin hu hi.run ho.run) h1) (dnotin_snd (sndE dk) (sndE dd))
theorem tx_din {o i : Expr} {dd dk : DE} (hu : X.A.units + 1 < cLine) (hi : EX X i dk) (ho : EX X o dd) (h1 : behindInMarks .In o = false := by rfl) : TX X (.Compare i [.In] [o] pos) (dB (dIn dk dd)) :=
  .mk' (pt_cmp (pc_din hu hi.run ho.run) h1) (snd_b (din_snd (sndE dk) (sndE dd)))
theorem tx_dnotin {o i : Expr} {dd dk : DE} (hu : X.A.units + 1 < cLine) (hi : EX X i dk) (ho : EX X o dd) (h1 : behindInMarks .NotIn o = false := by rfl) : TX X (.Compare i [.NotIn] [o] pos) (dB (dNotIn dk dd)) :=
  .mk' (pt_cmp (pc_dnotin hu hi.run ho.run) h1) (snd_b (dnotin_snd (sndE dk) (sndE dd)))
/-- d.get(k), d.get(k, x) -/
def dGet1 (dd dk : DE) : DE := fun ρ Q => dd ρ fun d ρ1 => (∃ ks, d = .dic ks) ∧ dk ρ1 fun k ρ2 => dictAt d k fun r => Q (r.getD .non) ρ2
theorem ex_dget1 {o e : Expr} {dd dk : DE} {apos cpos : Pos} (hu : X.A.units + 1 < cLine) (ho : EX X o dd) (hi : EX X e dk) (m : M1 X o "get" apos e cpos := by exact ⟨rfl, rfl, rfl, rfl⟩) : EX X (.Call (.Attribute o "get" apos) [e] [] cpos) (dGet1 dd dk) := by
  refine .mk' (pe_dget1 hu ho.run hi.run m) fun fr F σ H ρ Q R ok hd k => ?_
  refine sndE dd fr F σ H ρ _ _ ok hd fun x H1 d ρ1 F1 f1 ok1 r1 h1 => ?_
  obtain ⟨⟨ks, rfl⟩, h1⟩ := h1
  cases id r1 with
  | dic ee l r =>
    refine ⟨_, rfl, .inl ⟨_, ee.elim (fun e => .inl (ok1.le _ _ e)) fun ⟨o, e⟩ => .inr ⟨o, ok1.le _ _ e⟩⟩, ?_⟩
    refine sndE dk fr F1 σ H1 ρ1 _ _ ok1 h1 fun y H2 q ρ2 F2 f2 ok2 r2 h2 => ?_
    obtain ⟨a, o, z, e, _, g, hz, c⟩ := dictAt_get ok2 (r1.up f2) r2 h2
    cases e
    refine ⟨o, g, ?_⟩
    rcases c with ⟨rfl, rfl⟩ | ⟨v, p, rfl, rfl, r3⟩
    · exact k _ _ _ _ _ (f1.trans f2) ok2 .non hz
    · exact k _ _ _ _ _ (f1.trans f2) ok2 r3 hz
def dGet2 (dd dk dx : DE) : DE := fun ρ Q => dd ρ fun d ρ1 => (match d with | .dic _ => True | .dit _ => True | _ => False) ∧ dk ρ1 fun k ρ2 => dx ρ2 fun x ρ3 => dictAt d k fun r => Q (r.getD x) ρ3
theorem ex_dget2 {o e f : Expr} {dd dk dx : DE} {apos cpos : Pos} (hu : X.A.units + 1 < cLine) (ho : EX X o dd) (hi : EX X e dk) (hf : EX X f dx) (m : M2 X o "get" apos e f cpos := by exact ⟨rfl, rfl, rfl, rfl⟩) : EX X (.Call (.Attribute o "get" apos) [e, f] [] cpos) (dGet2 dd dk dx) := by
  refine .mk' (pe_dget2 hu ho.run hi.run hf.run m) fun fr F σ H ρ Q R ok hd k => ?_
  refine sndE dd fr F σ H ρ _ _ ok hd fun x H1 d ρ1 F1 f1 ok1 r1 h1 => ?_
  have go : ∀ a, x = .ref a → (wE dk) σ H1 fun y H2 => (wE dx) σ H2 fun z H3 => ∃ o, DGet H3 a y o ∧ R (o.getD z) H3 := fun a ea => by
    refine sndE dk fr F1 σ H1 ρ1 _ _ ok1 h1.2 fun y H2 q ρ2 F2 f2 ok2 r2 h2 => ?_
    refine sndE dx fr F2 σ H2 ρ2 _ _ ok2 h2 fun w H3 z ρ3 F3 f3 ok3 r3 h3 => ?_
    obtain ⟨a', o, z, e, _, g, hz, c⟩ := dictAt_get ok3 (r1.up (f2.trans f3)) (r2.up f3) h3
    rw [ea] at e; cases e
    refine ⟨o, g, ?_⟩
    rcases c with ⟨rfl, rfl⟩ | ⟨v, p, rfl, rfl, r4⟩
    · exact k _ _ _ _ _ ((f1.trans f2).trans f3) ok3 r3 hz
    · exact k _ _ _ _ _ ((f1.trans f2).trans f3) ok3 r4 hz
  cases id r1 with
  | dic ee l r => exact ⟨_, rfl, .inl ⟨_, ee.elim (fun e => .inl (ok1.le _ _ e)) fun ⟨o, e⟩ => .inr ⟨o, ok1.le _ _ e⟩⟩, go _ rfl⟩
  | dit ee l r => exact ⟨_, rfl, .inr ⟨_, ee.elim (fun e => .inl (ok1.le _ _ e)) fun ⟨o, e⟩ => .inr ⟨o, ok1.le _ _ e⟩⟩, go _ rfl⟩
  | _ => exact h1.1.elim
/-- {} of one's own -/
def dNewK : DE := fun ρ Q => Q (.dic []) ρ
def dNewT : DE := fun ρ Q => Q (.dit []) ρ
theorem nx_newK : NX X (.Dict [] [] pos) dNewK := .mk' pe_dnewK fun fr F σ H ρ Q R ok hd k a ha => k a _ _ _ _ F (FLe.refl F) (ok.alloc ha _) (ok.nf ha) (ok.nd ha) upd_same (.dic (Nat.zero_le _) .nil) (ok.fresh ha) hd
theorem nx_newT : NX X (.Dict [] [] pos) dNewT := .mk' pe_dnewT fun fr F σ H ρ Q R ok hd k a ha => k a _ _ _ _ F (FLe.refl F) (ok.alloc ha _) (ok.nf ha) (ok.nd ha) upd_same (.dit (Nat.zero_le _) .nil) (ok.fresh ha) hd
/-- d[k] = v, d a name that owns -/
def dictPut (d k p : PV) (P : PV → Prop) : Prop := match d with
  | .dic ks => match keyOf k with
    | some j => ks.length < sizeLine ∧ P (.dic (putP ks j p))
    | none => False
  | .dit ks => match k with
    | .tup ps => match keysOf ps with
      | some j => ks.length < sizeLine ∧ P (.dit (putP ks j p))
      | none => False
    | _ => False
  | _ => False
def ownD (ρ : Rho) (i : Nat) (P : PV → Prop) : Prop := match ρ[i]? with
  | some (.own d) => P d
  | _ => False
def isDict : PV → Prop
  | .dic _ => True
  | .dit _ => True
  | _ => False
theorem ownD_get {fr : Fr} {F H : Hp} {σ : St} {ρ : Rho} {i : Nat} {P : PV → Prop} (ok : StOk fr F H σ ρ) (h : ownD ρ i P) : ∃ a o d, ρ[i]? = some (.own d) ∧ σ[i]? = some (some (.ref a)) ∧ H a = some o ∧ RepO fr F o d ∧ P d := by
  unfold ownD at h
  split at h
  · rename_i d e
    obtain ⟨w, e1, e2⟩ := ok.sl i _ e
    cases e2 with
    | own q1 q2 q3 r => exact ⟨_, _, _, e, e1, q3, r, h⟩
  · exact h.elim
theorem dictPut_get {fr : Fr} {F H : Hp} {σ : St} {ρ : Rho} {a : Addr} {o : HO} {y v : V} {d k p : PV} {P : PV → Prop} (ok : StOk fr F H σ ρ) (hH : H a = some o) (ro : RepO fr F o d) (rk : Rep fr F y k) (rv : Rep fr F v p) (h : dictPut d k p P) :
    ∃ o' d', DPut H a y v (upd H a o') ∧ RepO fr F o' d' ∧ P d' := by
  cases ro with
  | dic l r =>
    rename_i vs ks
    have h : (match keyOf k with | some j => ks.length < sizeLine ∧ P (.dic (putP ks j p)) | none => False) := h
    cases ek : keyOf k with
    | none => rw [ek] at h; exact h.elim
    | some j =>
      rw [ek] at h
      have ey := keyOf_rep rk ek
      subst ey
      refine ⟨_, _, DPut.k hH (by rw [r.length]; exact h.1), .dic ?_ (r.put j rv), h.2⟩
      have := putP_length ks j p
      have := h.1
      omega
  | dit l r =>
    rename_i vs ks
    cases rk with
    | tup e2 l2 r2 =>
      rename_i b ws ps
      have h : (match keysOf ps with | some j => ks.length < sizeLine ∧ P (.dit (putP ks j p)) | none => False) := h
      cases ek : keysOf ps with
      | none => rw [ek] at h; exact h.elim
      | some j =>
        rw [ek] at h
        have ey := keysOf_rep r2 ek
        refine ⟨_, _, DPut.t hH (by rw [← ey]; exact ok.le _ _ e2) (by rw [r.length]; exact h.1), .dit ?_ (r.put j rv), h.2⟩
        have := putP_length ks j p
        have := h.1
        omega
    | _ => exact h.elim
  | _ => exact h.elim
def dPut (i : Nat) (dk dv : DE) : DS := fun PD ρ => dv ρ fun p ρ1 => ownD ρ1 i (fun _ => True) ∧ dk ρ1 fun k ρ2 => ownD ρ2 i fun d => dictPut d k p fun d' => PD.nx (ρ2.set i (.own d'))
theorem sx_put (i : Nat) {x : Str} {e ie : Expr} {dk dv : DE} {px spos : Pos} (hu : X.A.units + 1 < cLine) (hi : EX X ie dk) (h : EX X e dv) (hN : X.N[i]? = some x := by rfl) (hv : Vis X.env.scope x := by first | exact Or.inl rfl | exact Or.inr (Or.inl rfl) | exact Or.inr (Or.inr rfl)) (hd : (x == ("__debug__" : Str)) = false := by decide) (hcd : (x == ("__classdict__" : Str)) = false := by decide)
    (hs : swapsWith e (some (.Subscript (.Name x px) ie spos)) pos.line X.env = pure false := by rfl) : SX X (.Assign [.Subscript (.Name x px) ie spos] e pos) (dPut i dk dv) := by
  refine .mk' (ps_dput hu (pe_var hN hv hd hcd) hi.run h.run hs) fun fr F σ H ρ PD D ok hd k => ?_
  refine sndE dv fr F σ H ρ _ _ ok hd fun v H1 p ρ1 F1 f1 ok1 r1 hd1 => ?_
  obtain ⟨a, o, d, g1, g2, g3, g4, _⟩ := ownD_get ok1 hd1.1
  refine ⟨_, g2, ?_⟩
  refine sndE dk fr F1 σ H1 ρ1 _ _ ok1 hd1.2 fun y H2 q ρ2 F2 f2 ok2 r2 h2 => ?_
  obtain ⟨b, o2, d2, k1, k2, k3, k4, h3⟩ := ownD_get ok2 h2
  cases some_ref (g2.symm.trans k2)
  obtain ⟨o', d', hp, ro, hn⟩ := dictPut_get ok2 k3 k4 r2 (r1.up f2) h3
  exact ⟨a, _, rfl, hp, k.nx _ _ _ _ (f1.trans f2) (ok2.write k1 k2 ro) hn⟩
/-- d.setdefault(k, x), d a name that owns a dict by ints and texts -/
def dSetd (i : Nat) (dk dx : DE) : DE := fun ρ Q => ownD ρ i (fun d => ∃ ks, d = .dic ks) ∧ dk ρ fun k ρ1 => dx ρ1 fun x ρ2 => ownD ρ2 i fun d => match d, keyOf k with
  | .dic ks, some j => ks.length < sizeLine ∧ match getP ks j with
    | some p => Q p ρ2
    | none => Q x (ρ2.set i (.own (.dic (putP ks j x))))
  | _, _ => False
theorem ex_setd (i : Nat) {x : Str} {e f : Expr} {dk dx : DE} {px apos cpos : Pos} (he : EX X e dk) (hf : EX X f dx) (hN : X.N[i]? = some x := by rfl) (hv : Vis X.env.scope x := by first | exact Or.inl rfl | exact Or.inr (Or.inl rfl) | exact Or.inr (Or.inr rfl)) (hd : (x == ("__debug__" : Str)) = false := by decide) (hcd : (x == ("__classdict__" : Str)) = false := by decide)
    (m : M2 X (.Name x px) "setdefault" apos e f cpos := by exact ⟨rfl, rfl, rfl, rfl⟩) : EX X (.Call (.Attribute (.Name x px) "setdefault" apos) [e, f] [] cpos) (dSetd i dk dx) := by
  refine .mk' (pe_dsetd (pe_var hN hv hd hcd) he.run hf.run m) fun fr F σ H ρ Q R ok hd k => ?_
  obtain ⟨a, o, d, g1, g2, g3, g4, ks, rfl⟩ := ownD_get ok hd.1
  cases g4 with
  | dic l r =>
    refine ⟨_, g2, a, rfl, .inl ⟨_, .inl g3⟩, ?_⟩
    refine sndE dk fr F σ H ρ _ _ ok hd.2 fun y H1 q ρ1 F1 f1 ok1 r1 h1 => ?_
    refine sndE dx fr F1 σ H1 ρ1 _ _ ok1 h1 fun z H2 w ρ2 F2 f2 ok2 r2 h2 => ?_
    obtain ⟨b, o2, d2, k1, k2, k3, k4, h3⟩ := ownD_get ok2 h2
    cases some_ref (g2.symm.trans k2)
    cases k4 with
    | dic l2 rk =>
      rename_i vs2 ks2
      cases ek : keyOf q with
      | none => simp only [ek] at h3
      | some j =>
        simp only [ek] at h3
        have ey := keyOf_rep r1 ek
        refine ⟨vs2, j, k3, ey, by rw [rk.length]; exact h3.1, fun v hv => ?_, fun hv => ?_⟩
        · rcases rk.get j with ⟨v', p, h1, h2, h4⟩ | ⟨h1, h2⟩
          · rw [hv] at h1; cases h1
            have h5 := h3.2
            rw [h2] at h5
            exact k _ _ _ _ _ (f1.trans f2) ok2 h4 h5
          · rw [hv] at h1; cases h1
        · rcases rk.get j with ⟨v', p, h1, h2, h4⟩ | ⟨h1, h2⟩
          · rw [hv] at h1; cases h1
          · have h5 := h3.2
            rw [h2] at h5
            have hz := putP_length ks2 j w
            have hz2 := h3.1
            exact k _ _ _ _ _ (f1.trans f2) (ok2.write k1 k2 (.dic (by omega) (rk.put j r2))) r2 h5
    | _ => exact h3.elim
end
end PL

set_option Elab.async false
set_option linter.all false
set_option maxRecDepth 100000
set_option maxHeartbeats 4000000
/-! operators, comparisons, places, slices, built-ins -/
namespace PL
open PySem PySem.Spec L2

theorem newL {fr : Fr} {F H : Hp} {σ : St} {ρ : Rho} {Q : PV → Prop} {R : VK} {a : Addr} {vs : List V} {ps : List PV} (ok : StOk fr F H σ ρ) (k : ∀ v H' z F', FLe F F' → StOk fr F' H' σ ρ → Rep fr F' v z → Q z → R v H')
    (ha : H a = none) (l : ps.length ≤ sizeLine) (r : Reps fr F vs ps) (h : Q (.lst ps)) : R (.ref a) (upd H a (.lst vs)) :=
  k _ _ _ _ (FLe.new (ok.nf ha)) (ok.new ha _) (.lst upd_same l (r.up (FLe.new (ok.nf ha)))) h
theorem newT {fr : Fr} {F H : Hp} {σ : St} {ρ : Rho} {Q : PV → Prop} {R : VK} {a : Addr} {vs : List V} {ps : List PV} (ok : StOk fr F H σ ρ) (k : ∀ v H' z F', FLe F F' → StOk fr F' H' σ ρ → Rep fr F' v z → Q z → R v H')
    (ha : H a = none) (l : ps.length ≤ sizeLine) (r : Reps fr F vs ps) (h : Q (.tup ps)) : R (.ref a) (upd H a (.tup vs)) :=
  k _ _ _ _ (FLe.new (ok.nf ha)) (ok.new ha _) (.tup upd_same l (r.up (FLe.new (ok.nf ha)))) h

/-! ### arithmetic -/
def addQ : D2 := fun x y Q => match x, y with
  | .int i, .int j => Q (.int (i + j))
  | .str a, .str b => a.length + b.length ≤ sizeLine ∧ Q (.str (a ++ b))
  | .lst a, .lst b => a.length + b.length ≤ sizeLine ∧ Q (.lst (a ++ b))
  | .tup a, .tup b => a.length + b.length ≤ sizeLine ∧ Q (.tup (a ++ b))
  | _, _ => False
def rAddA (K : PySem.W.Frag) : R2 := fun x y H Q => rI0 (fun i j => .int (i + j)) x y H Q ∨ ((∃ i j, x = .str i ∧ y = .str j ∧ i.length + j.length ≤ sizeLine ∧ Q (.str (i ++ j)) H) ∨ (rCat x y H Q ∨ rCatA K x y H Q))
section
variable {X : Cx}
theorem or_add : OpR X (binaryOp .Add) (rAddA X.K) := op_add.or (op_add_str.or (op_cat.or op_catA))
end
theorem sok_append {a b : Str} (ha : Sok a) (hb : Sok b) (h : a.length + b.length ≤ sizeLine) : Sok (a ++ b) := by
  refine ⟨?_, ?_⟩
  · show (a.cps ++ b.cps).size ≤ _
    rw [Array.size_append]; exact h
  · show (a.cps ++ b.cps).all _ = true
    rw [Array.all_append, Bool.and_eq_true]
    exact ⟨ha.2, hb.2⟩
theorem str_append_length (a b : Str) : (a ++ b).length = a.length + b.length := by
  show (a.cps ++ b.cps).size = _
  rw [Array.size_append]; rfl
theorem snd_add (K : PySem.W.Frag) : SndO (rAddA K) addQ := by
  intro fr F H σ ρ x y p q Q R ok rx ry h k
  cases rx with
  | int i => cases ry with
    | int j => exact .inl ⟨i, j, rfl, rfl, k _ _ _ _ (FLe.refl F) ok (.int _) h⟩
    | _ => exact h.elim
  | str a ha => cases ry with
    | str b hb => exact .inr (.inl ⟨a, b, rfl, rfl, h.1, k _ _ _ _ (FLe.refl F) ok (.str _ (sok_append ha hb h.1)) h.2⟩)
    | _ => exact h.elim
  | lst e l r => cases ry with
    | lst e2 l2 r2 =>
      refine .inr (.inr (.inl ⟨_, _, _, _, rfl, rfl, ok.le _ _ e, ok.le _ _ e2, by rw [r.length, r2.length]; exact h.1, fun a ha => ?_⟩))
      exact newL ok k ha (by rw [List.length_append]; exact h.1) (r.append r2) h.2
    | _ => exact h.elim
  | tup e l r => cases ry with
    | tup e2 l2 r2 =>
      refine .inr (.inr (.inr ⟨_, _, _, _, rfl, rfl, .of (ok.le _ _ e), .of (ok.le _ _ e2), by rw [r.length, r2.length]; exact h.1, fun z => ?_, fun z1 z2 => ?_, fun z1 z2 a ha => ?_⟩))
      · subst z
        cases r
        exact k _ _ _ _ (FLe.refl F) ok (.tup e2 l2 r2) h.2
      · subst z2
        cases r2
        have h2 := h.2
        rw [List.append_nil] at h2
        exact k _ _ _ _ (FLe.refl F) ok (.tup e l r) h2
      · exact newT ok k ha (by rw [List.length_append]; exact h.1) (r.append r2) h.2
    | _ => exact h.elim
  | _ => exact h.elim
def intQ (C : Int → Int → Prop) (g : Int → Int → Int) : D2 := fun x y Q => match x, y with
  | .int i, .int j => C i j ∧ Q (.int (g i j))
  | _, _ => False
theorem snd_int {C : Int → Int → Prop} {g : Int → Int → Int} : SndO (rI C fun i j => .int (g i j)) (intQ C g) := by
  intro fr F H σ ρ x y p q Q R ok rx ry h k
  cases rx with
  | int i => cases ry with
    | int j => exact ⟨i, j, rfl, rfl, h.1, k _ _ _ _ (FLe.refl F) ok (.int _) h.2⟩
    | _ => exact h.elim
  | _ => exact h.elim
def int0Q (g : Int → Int → Int) : D2 := fun x y Q => match x, y with
  | .int i, .int j => Q (.int (g i j))
  | _, _ => False
theorem snd_int0 {g : Int → Int → Int} : SndO (rI0 fun i j => .int (g i j)) (int0Q g) := by
  intro fr F H σ ρ x y p q Q R ok rx ry h k
  cases rx with
  | int i => cases ry with
    | int j => exact ⟨i, j, rfl, rfl, k _ _ _ _ (FLe.refl F) ok (.int _) h⟩
    | _ => exact h.elim
  | _ => exact h.elim
def cmpQ (g : Int → Int → Bool) : D2 := fun x y Q => match x, y with
  | .int i, .int j => Q (.bl (g i j))
  | _, _ => False
theorem snd_cmp {g : Int → Int → Bool} : SndO (rI0 fun i j => .bl (g i j)) (cmpQ g) := by
  intro fr F H σ ρ x y p q Q R ok rx ry h k
  cases rx with
  | int i => cases ry with
    | int j => exact ⟨i, j, rfl, rfl, k _ _ _ _ (FLe.refl F) ok (.bl _) h⟩
    | _ => exact h.elim
  | _ => exact h.elim

/-! ### equality of data -/
mutual
def PV.toD : PV → PyData
  | .non => .none
  | .bl b => .bool b
  | .int i => .int i
  | .str x => .str x
  | .tup xs => .tuple (toDs xs)
  | .lst xs => .list (toDs xs)
  | .dic _ => .none
  | .dit _ => .none
  | .town => .none
  | .scr _ _ => .none
  | .ref _ => .none
def toDs : List PV → List PyData
  | [] => []
  | x :: xs => x.toD :: toDs xs
end
mutual
/-- plain data, at most n deep -/
def PV.dat : Nat → PV → Bool
  | _, .non => true
  | _, .bl _ => true
  | _, .int _ => true
  | _, .str _ => true
  | n + 1, .tup xs => dats n xs
  | n + 1, .lst xs => dats n xs
  | _, _ => false
def dats : Nat → List PV → Bool
  | _, [] => true
  | n, x :: xs => x.dat n && dats n xs
end
mutual
theorem Rep.dp {fr : Fr} {F H : Hp} {K : PySem.W.Frag} (le : ∀ a o, F a = some o → H a = some o) : ∀ (n : Nat) {v : V} {p : PV}, Rep fr F v p → p.dat n = true → Dp K H v p.toD ∧ p.toD.canLay0 = true ∧ p.toD.depth ≤ n
  | n, _, _, .non, _ => ⟨by rw [PV.toD]; exact .non, by simp [PV.toD, PyData.canLay0], by simp [PV.toD, PyData.depth]⟩
  | n, _, _, .bl b, _ => ⟨by rw [PV.toD]; exact .bl b, by simp [PV.toD, PyData.canLay0], by simp [PV.toD, PyData.depth]⟩
  | n, _, _, .int i, _ => ⟨by rw [PV.toD]; exact .int i, by simp [PV.toD, PyData.canLay0], by simp [PV.toD, PyData.depth]⟩
  | n, _, _, .str x l, _ => ⟨by rw [PV.toD]; exact .str x, by simp only [PV.toD, PyData.canLay0]; exact l.2, by simp [PV.toD, PyData.depth]⟩
  | n + 1, _, _, .tup e l r, h => by
    obtain ⟨h1, h2, h3⟩ := Reps.dp (K := K) le n r (by simpa [PV.dat] using h)
    refine ⟨by rw [PV.toD]; exact .tup (.of (le _ _ e)) h1, by simp only [PV.toD, PyData.canLay0]; exact h2, by simp only [PV.toD, PyData.depth]; omega⟩
  | n + 1, _, _, .lst e l r, h => by
    obtain ⟨h1, h2, h3⟩ := Reps.dp (K := K) le n r (by simpa [PV.dat] using h)
    refine ⟨by rw [PV.toD]; exact .lst (.of (le _ _ e)) h1, by simp only [PV.toD, PyData.canLay0]; exact h2, by simp only [PV.toD, PyData.depth]; omega⟩
  | 0, _, _, .tup e l r, h => by simp [PV.dat] at h
  | 0, _, _, .lst e l r, h => by simp [PV.dat] at h
  | n, _, _, .dic e l r, h => by simp [PV.dat] at h
  | n, _, _, .dit e l r, h => by simp [PV.dat] at h
  | n, _, _, .town, h => by simp [PV.dat] at h
  | n, _, _, .scr, h => by simp [PV.dat] at h
  | n, _, _, .ref a, h => by simp [PV.dat] at h
theorem Reps.dp {fr : Fr} {F H : Hp} {K : PySem.W.Frag} (le : ∀ a o, F a = some o → H a = some o) : ∀ (n : Nat) {v : List V} {p : List PV}, Reps fr F v p → dats n p = true → DpAll K H v (toDs p) ∧ PyData.canLayAll0 (toDs p) = true ∧ PyData.depthAll (toDs p) ≤ n
  | n, _, _, .nil, _ => ⟨by rw [toDs]; exact .nil, by simp [toDs, PyData.canLayAll0], by simp [toDs, PyData.depthAll]⟩
  | n, _, _, .cons r rr, h => by
    rw [dats, Bool.and_eq_true] at h
    obtain ⟨a1, a2, a3⟩ := Rep.dp (K := K) le n r h.1
    obtain ⟨b1, b2, b3⟩ := Reps.dp (K := K) le n rr h.2
    refine ⟨by rw [toDs]; exact .cons a1 b1, by simp only [toDs, PyData.canLayAll0, a2, b2, Bool.and_true], by simp only [toDs, PyData.depthAll]; omega⟩
end
theorem shaped_of {d : PyData} (h1 : d.canLay0 = true) (h2 : d.depth ≤ 16) : SeqAt.shaped d = true := by
  show (d.canLay0 && decide (d.depth ≤ 64)) = true
  rw [h1, decide_eq_true (by omega)]; rfl
def PV.eqv (x y : PV) : Bool := PyData.eqv x.toD y.toD
def eqQ : D2 := fun x y Q => x.dat 16 = true ∧ y.dat 16 = true ∧ Q (.bl (x.eqv y))
def neQ : D2 := fun x y Q => x.dat 16 = true ∧ y.dat 16 = true ∧ Q (.bl (!x.eqv y))
theorem snd_eq (K : PySem.W.Frag) : SndO (rEqD K) eqQ := by
  intro fr F H σ ρ x y p q Q R ok rx ry h k
  obtain ⟨a1, a2, a3⟩ := Rep.dp (K := K) ok.le 16 rx h.1
  obtain ⟨b1, b2, b3⟩ := Rep.dp (K := K) ok.le 16 ry h.2.1
  exact ⟨_, _, a1, b1, shaped_of a2 a3, shaped_of b2 b3, k _ _ _ _ (FLe.refl F) ok (.bl _) h.2.2⟩
theorem snd_ne (K : PySem.W.Frag) : SndO (rNeD K) neQ := by
  intro fr F H σ ρ x y p q Q R ok rx ry h k
  obtain ⟨a1, a2, a3⟩ := Rep.dp (K := K) ok.le 16 rx h.1
  obtain ⟨b1, b2, b3⟩ := Rep.dp (K := K) ok.le 16 ry h.2.1
  exact ⟨_, _, a1, b1, shaped_of a2 a3, shaped_of b2 b3, k _ _ _ _ (FLe.refl F) ok (.bl _) h.2.2⟩
/-- is None, is not None -/
def isNon : PV → Bool
  | .non => true
  | _ => false
def isNQ : D2 := fun x y Q => y = .non ∧ Q (.bl (isNon x))
def notNQ : D2 := fun x y Q => y = .non ∧ Q (.bl (!isNon x))
theorem rep_non {fr : Fr} {F : Hp} {v : V} {p : PV} (r : Rep fr F v p) : decide (v = .non) = isNon p := by
  cases r <;> simp [isNon]
theorem snd_isN : SndO (fun x y H Q => y = .non ∧ Q (.bl (decide (x = .non))) H) isNQ := by
  intro fr F H σ ρ x y p q Q R ok rx ry h k
  obtain ⟨rfl, h⟩ := h
  cases ry
  exact ⟨rfl, by rw [rep_non rx]; exact k _ _ _ _ (FLe.refl F) ok (.bl _) h⟩
theorem snd_notN : SndO (fun x y H Q => y = .non ∧ Q (.bl (!decide (x = .non))) H) notNQ := by
  intro fr F H σ ρ x y p q Q R ok rx ry h k
  obtain ⟨rfl, h⟩ := h
  cases ry
  exact ⟨rfl, by rw [rep_non rx]; exact k _ _ _ _ (FLe.refl F) ok (.bl _) h⟩
/-- is True, is not True .. of bools -/
def isBQ : D2 := fun x y Q => match x, y with
  | .bl a, .bl b => Q (.bl (a == b))
  | _, _ => False
def notBQ : D2 := fun x y Q => match x, y with
  | .bl a, .bl b => Q (.bl (a != b))
  | _, _ => False
theorem snd_isB : SndO rIsB isBQ := by
  intro fr F H σ ρ x y p q Q R ok rx ry h k
  cases rx with
  | bl i => cases ry with
    | bl j => exact ⟨i, j, rfl, rfl, by have := k _ _ _ _ (FLe.refl F) ok (.bl _) h; simpa [Bool.beq_eq_decide_eq] using this⟩
    | _ => exact h.elim
  | _ => exact h.elim
theorem snd_notB : SndO rNotB notBQ := by
  intro fr F H σ ρ x y p q Q R ok rx ry h k
  cases rx with
  | bl i => cases ry with
    | bl j => exact ⟨i, j, rfl, rfl, by have := k _ _ _ _ (FLe.refl F) ok (.bl _) h; simpa [bne, Bool.beq_eq_decide_eq] using this⟩
    | _ => exact h.elim
  | _ => exact h.elim

/-! ### places and slices -/
def ixQ : D2 := fun x y Q => match x, y with
  | .lst xs, .int i => match atI xs i with
    | some v => Q v
    | none => False
  | .tup xs, .int i => match atI xs i with
    | some v => Q v
    | none => False
  | .str z, .int i => match atI z.cps.toList i with
    | some c => Q (.str ⟨#[c]⟩)
    | none => False
  | _, _ => False
theorem Reps.atI {fr : Fr} {F : Hp} {vs : List V} {ps : List PV} {i : Int} {p : PV} (r : Reps fr F vs ps) (h : L2.atI ps i = some p) : ∃ v, L2.atI vs i = some v ∧ Rep fr F v p := by
  unfold L2.atI at h ⊢
  rw [r.length]
  cases e : ixN ps.length i with
  | none => rw [e] at h; cases h
  | some j =>
    rw [e] at h
    obtain ⟨v, h1, h2⟩ := r.get (i := j) h
    exact ⟨v, h1, h2⟩
theorem atI_mem {α : Type} {xs : List α} {i : Int} {v : α} (h : L2.atI xs i = some v) : v ∈ xs := by
  unfold L2.atI at h
  cases e : ixN xs.length i with
  | none => rw [e] at h; cases h
  | some j => rw [e] at h; exact List.mem_of_getElem? h
theorem snd_ix (K : PySem.W.Frag) : SndO (rIx K) ixQ := by
  intro fr F H σ ρ x y p q Q R ok rx ry h k
  cases rx with
  | lst e l r => cases ry with
    | int i =>
      rename_i a vs ps
      have h : (match L2.atI ps i with | some v => Q v | none => False) := h
      cases e2 : L2.atI ps i with
      | none => rw [e2] at h; exact h.elim
      | some z =>
        rw [e2] at h
        obtain ⟨v, h1, h2⟩ := r.atI e2
        exact .inl ⟨_, _, i, v, rfl, rfl, .of (ok.le _ _ e), h1, k _ _ _ _ (FLe.refl F) ok h2 h⟩
    | _ => exact h.elim
  | tup e l r => cases ry with
    | int i =>
      rename_i a vs ps
      have h : (match L2.atI ps i with | some v => Q v | none => False) := h
      cases e2 : L2.atI ps i with
      | none => rw [e2] at h; exact h.elim
      | some z =>
        rw [e2] at h
        obtain ⟨v, h1, h2⟩ := r.atI e2
        exact .inr (.inl ⟨_, _, i, v, rfl, rfl, .of (ok.le _ _ e), h1, k _ _ _ _ (FLe.refl F) ok h2 h⟩)
    | _ => exact h.elim
  | str z hz => cases ry with
    | int i =>
      have h : (match L2.atI z.cps.toList i with | some c => Q (.str ⟨#[c]⟩) | none => False) := h
      cases e2 : L2.atI z.cps.toList i with
      | none => rw [e2] at h; exact h.elim
      | some c =>
        rw [e2] at h
        exact .inr (.inr ⟨z, i, c, rfl, rfl, hz.1, e2, k _ _ _ _ (FLe.refl F) ok (.str _ (sok_one (sok_mem hz c (atI_mem e2)))) h⟩)
    | _ => exact h.elim
  | _ => exact h.elim
section
variable {X : Cx} {pos : Pos}
theorem ex_ix {a b : Expr} {da db : DE} (ha : EX X a da) (hb : EX X b db) (hs : PlainIx b := by intro _ _; rfl) : EX X (.Subscript a b pos) (dOp ixQ da db) :=
  .mk' (pe_ix ix_seq ha.run hb.run hs) (snd_op (snd_ix X.K) (sndE da) (sndE db))
end
def cutP (xs : List PV) (lo hi : Option Int) : List PV := (xs.drop (HT.sIx xs.length 0 lo)).take (HT.sIx xs.length xs.length hi - HT.sIx xs.length 0 lo)
theorem cutP_length (xs : List PV) (lo hi : Option Int) : (cutP xs lo hi).length ≤ xs.length := by
  unfold cutP; rw [List.length_take, List.length_drop]; omega
theorem Reps.cut {fr : Fr} {F : Hp} {vs : List V} {ps : List PV} (r : Reps fr F vs ps) (lo hi : Option Int) : Reps fr F (cutV vs lo hi) (cutP ps lo hi) := by
  unfold cutV cutP; rw [r.length]; exact (r.drop _).take _
/-- an optional bound -/
abbrev DO := Rho → (Option Int → Rho → Prop) → Prop
def SndPO (t : TO) (d : DO) : Prop := ∀ (fr : Fr) (F : Hp) (σ : St) (H : Hp) (ρ : Rho) (Q : Option Int → Rho → Prop) (R : Option Int → Hp → Prop), StOk fr F H σ ρ → d ρ Q →
  (∀ o H' ρ' F', FLe F F' → StOk fr F' H' σ ρ' → Q o ρ' → R o H') → t σ H R
def wO (d : DO) : TO := fun σ H R => ∃ fr F ρ Q, StOk fr F H σ ρ ∧ d ρ Q ∧ ∀ o H' ρ' F', FLe F F' → StOk fr F' H' σ ρ' → Q o ρ' → R o H'
structure OX (X : Cx) (e : Option Expr) (d : DO) : Prop where
  run : PO X e (wO d)
theorem sndPO (d : DO) : SndPO (wO d) d := fun fr F σ H ρ Q R a b c => ⟨fr, F, ρ, Q, a, b, c⟩
theorem OX.mk' {X : Cx} {e : Option Expr} {t : TO} {d : DO} (p : PO X e t) (s : SndPO t d) : OX X e d := ⟨⟨fun pins s0 σ H Q I ⟨fr, F, ρ, Q', a, b, c⟩ => p.run pins s0 σ H Q I (s fr F σ H ρ Q' Q a b c)⟩⟩
def doNone : DO := fun ρ Q => Q none ρ
def doSome (d : DE) : DO := fun ρ Q => d ρ fun p ρ1 => match p with
  | .int i => Q (some i) ρ1
  | _ => False
section
variable {X : Cx} {pos p2 : Pos}
theorem ox_none : OX X none doNone := .mk' po_none fun _ F _ _ _ _ _ ok h k => k _ _ _ _ (FLe.refl F) ok h
theorem ox_some {e : Expr} {d : DE} (h : EX X e d) : OX X (some e) (doSome d) := .mk' (po_some h.run) fun fr F σ H ρ Q R ok hd k =>
  sndE d fr F σ H ρ _ _ ok hd fun v H1 p ρ1 F1 f1 ok1 r1 h1 => by
    cases r1 with
    | int i => exact ⟨i, rfl, k _ _ _ _ f1 ok1 h1⟩
    | _ => exact h1.elim
def slQ (x : PV) (lo hi : Option Int) (Q : PV → Prop) : Prop := match x with
  | .lst xs => Q (.lst (cutP xs lo hi))
  | .tup xs => Q (.tup (cutP xs lo hi))
  | .str z => Q (.str (cutS z lo hi))
  | _ => False
def dSl (d : DE) (dl dh : DO) : DE := fun ρ Q => d ρ fun x ρ1 => dl ρ1 fun lo ρ2 => dh ρ2 fun hi ρ3 => slQ x lo hi fun z => Q z ρ3
theorem cutP_whole {xs : List PV} {lo hi : Option Int} (h : HT.sIx xs.length 0 lo = 0 ∧ HT.sIx xs.length xs.length hi = xs.length) : cutP xs lo hi = xs := by
  unfold cutP; rw [h.1, h.2]; simp
theorem sok_cut {z : Str} (h : Sok z) (lo hi : Option Int) : Sok (cutS z lo hi) := by
  refine ⟨Nat.le_trans (cutS_length _ _ _) h.1, ?_⟩
  have hm := sok_mem h
  unfold PyData.strOk
  rw [← Array.all_toList, List.all_eq_true]
  intro c hc
  have : c ∈ z.cps.toList := by
    unfold cutS at hc
    simp only at hc
    exact List.mem_of_mem_drop (List.mem_of_mem_take hc)
  simpa using hm c this
theorem ex_slice {e : Expr} {lo hi : Option Expr} {d : DE} {dl dh : DO} (he : EX X e d) (hl : OX X lo dl) (hu : OX X hi dh) : EX X (.Subscript e (.Slice lo hi none p2) pos) (dSl d dl dh) := by
  refine .mk' (pe_slice (sl_list.or (sl_tupA.or sl_str)) he.run hl.run hu.run) fun fr F σ H ρ Q R ok hd k => ?_
  refine sndE d fr F σ H ρ _ _ ok hd fun v H1 x ρ1 F1 f1 ok1 r1 h1 => ?_
  refine sndPO dl fr F1 σ H1 ρ1 _ _ ok1 h1 fun l H2 ρ2 F2 f2 ok2 h2 => ?_
  refine sndPO dh fr F2 σ H2 ρ2 _ _ ok2 h2 fun u H3 ρ3 F3 f3 ok3 h3 => ?_
  have f := (f1.trans f2).trans f3
  cases r1.up (f2.trans f3) with
  | lst e l r =>
    refine .inl ⟨_, _, rfl, .of (ok3.le _ _ e), fun a ha => ?_⟩
    exact newL ok3 (fun v H' z F' g => k v H' z _ F' (f.trans g)) ha (Nat.le_trans (cutP_length _ _ _) l) (r.cut _ _) h3
  | tup e l r =>
    refine .inr (.inl ⟨_, _, rfl, .of (ok3.le _ _ e), fun z => ?_, fun z a ha => ?_⟩)
    · rw [r.length] at z
      have h3 : Q (.tup (cutP _ _ _)) ρ3 := h3
      rw [cutP_whole z] at h3
      exact k _ _ _ _ _ f ok3 (.tup e l r) h3
    · exact newT ok3 (fun v H' z F' g => k v H' z _ F' (f.trans g)) ha (Nat.le_trans (cutP_length _ _ _) l) (r.cut _ _) h3
  | str z hz => exact .inr (.inr ⟨z, rfl, hz.1, k _ _ _ _ _ f ok3 (.str _ (sok_cut hz _ _)) h3⟩)
  | _ => exact h3.elim
/-- xs[::-1] of a list -/
def dRevL (d : DE) : DE := fun ρ Q => d ρ fun x ρ1 => match x with
  | .lst xs => Q (.lst xs.reverse) ρ1
  | _ => False
theorem ex_revL {e : Expr} {d : DE} {k : Nat} {p1 p2 p3 : Pos} (he : EX X e d) : EX X (.Subscript e (.Slice none none (some (.UnaryOp .USub (.Constant (.int 1) k p1) p2)) p3) pos) (dRevL d) := by
  refine .mk' (pe_revL he.run) fun fr F σ H ρ Q R ok hd k => ?_
  refine sndE d fr F σ H ρ _ _ ok hd fun v H1 x ρ1 F1 f1 ok1 r1 h1 => ?_
  cases r1 with
  | lst e l r =>
    refine ⟨_, _, rfl, .of (ok1.le _ _ e), fun a ha => ?_⟩
    exact newL ok1 (fun v H' z F' g => k v H' z _ F' (f1.trans g)) ha (by rw [List.length_reverse]; exact l) r.reverse h1
  | _ => exact h1.elim

/-! ### built-ins by their rule on values -/
abbrev DN := List PV → (PV → Prop) → Prop
def SndC (r : List V → Hp → VK → Prop) (d : DN) : Prop := ∀ (fr : Fr) (F H : Hp) (σ : St) (ρ : Rho) (xs : List V) (ps : List PV) (Q : PV → Prop) (R : VK), StOk fr F H σ ρ → Reps fr F xs ps → d ps Q →
  (∀ v H' z F', FLe F F' → StOk fr F' H' σ ρ → Rep fr F' v z → Q z → R v H') → r xs H R
def dBi (d : DN) (da : DA) : DE := fun ρ Q => da ρ fun ps ρ1 => d ps fun z => Q z ρ1
theorem cb_snd {r : List V → Hp → VK → Prop} {d : DN} {da : DA} (hs : SndC r d) : SndE (tCB r (wA da)) (dBi d da) := by
  intro fr F σ H ρ Q R ok hd k
  refine sndA da fr F σ H ρ _ _ ok hd fun vs H1 ps ρ1 F1 f1 ok1 r1 h1 => ?_
  exact hs fr F1 H1 σ ρ1 vs ps _ _ ok1 r1 h1 fun v H2 z F2 f2 ok2 r2 h2 => k _ _ _ _ _ (f1.trans f2) ok2 r2 h2
theorem ex_bi {x : Str} {p : Pos} {e : Expr} {es : List Expr} {id : String} {r : List V → Hp → VK → Prop} {d : DN} {da : DA} (hc : CallR X (.builtin id) r) (hs : SndC r d) (hm : X.mg x = none) (hv : bootBuiltins x = some (.builtin id)) (ha : AX X (e :: es) da) (hg : Gl X x := by rfl) (hn : x ≠ "__name__" := by decide) (hdb : (x == ("__debug__" : Str)) = false := by decide)
    (he : starEach (e :: es) X.env = (false, eval e X.env) :: starEach es X.env := by rfl) (hpl : (backTo pos (starEach es X.env)).any (·.1) = false := by rfl) : EX X (.Call (.Name x p) (e :: es) [] pos) (dBi d da) :=
  .mk' (pe_callB hc hg hm hv ha.run hn hdb he hpl) (cb_snd hs)
theorem ex_ty {x : Str} {p : Pos} {e : Expr} {es : List Expr} {T : String} {r : List V → Hp → VK → Prop} {d : DN} {da : DA} (hc : CallR X (.type T) r) (hs : SndC r d) (hm : X.mg x = none) (hv : bootBuiltins x = some (.type T)) (ha : AX X (e :: es) da) (hg : Gl X x := by rfl) (hn : x ≠ "__name__" := by decide) (hdb : (x == ("__debug__" : Str)) = false := by decide)
    (he : starEach (e :: es) X.env = (false, eval e X.env) :: starEach es X.env := by rfl) (hpl : (backTo pos (starEach es X.env)).any (·.1) = false := by rfl) : EX X (.Call (.Name x p) (e :: es) [] pos) (dBi d da) :=
  .mk' (pe_callTy hc hg hm hv ha.run hn hdb he hpl) (cb_snd hs)
end
section
variable {X : Cx}
/-- len: of a text, a list, a tuple, a dict -/
def lenQ : DN := fun ps Q => match ps with
  | [.str z] => Q (.int z.length)
  | [.lst xs] => Q (.int xs.length)
  | [.tup xs] => Q (.int xs.length)
  | [.dic ks] => Q (.int ks.length)
  | _ => False
def rLenA (K : PySem.W.Frag) : List V → Hp → VK → Prop := fun xs H Q => (∃ x n, xs = [x] ∧ LenV K x H n ∧ Q (.int n) H) ∨ ∃ a kvs, xs = [.ref a] ∧ Rd H a (.dK kvs) ∧ Q (.int kvs.length) H
theorem call_lenA : CallR X (.builtin "len") (rLenA X.K) := by
  intro pins s σ H xs us Q I r h
  rcases h with h | ⟨a, kvs, rfl, e, q⟩
  · exact call_len pins s σ H xs us Q I r h
  · obtain ⟨u, rfl, ru⟩ := vals1 r
    cases ru
    exact d_len I e fun t s' I' => ⟨.int _, H, I', ⟨_, rfl⟩, q⟩
theorem rdF {fr : Fr} {F H : Hp} {σ : St} {ρ : Rho} {a : Addr} {u : HO} (ok : StOk fr F H σ ρ) (h : Rd F a u) : Rd H a u := h.elim (fun e => .inl (ok.le _ _ e)) fun ⟨o, e⟩ => .inr ⟨o, ok.le _ _ e⟩
theorem snd_len (K : PySem.W.Frag) : SndC (rLenA K) lenQ := by
  intro fr F H σ ρ xs ps Q R ok r h k
  cases r with
  | nil => exact h.elim
  | cons r rr =>
    cases rr with
    | cons _ _ => cases r <;> exact h.elim
    | nil =>
      cases r with
      | str z hz => exact .inl ⟨_, _, rfl, ⟨hz.1, rfl⟩, k _ _ _ _ (FLe.refl F) ok (.int _) h⟩
      | lst e l r => exact .inl ⟨_, _, rfl, .inl ⟨_, .of (ok.le _ _ e), r.length.symm⟩, k _ _ _ _ (FLe.refl F) ok (.int _) h⟩
      | tup e l r => exact .inl ⟨_, _, rfl, .inr ⟨_, .of (ok.le _ _ e), r.length.symm⟩, k _ _ _ _ (FLe.refl F) ok (.int _) h⟩
      | dic e l r => exact .inr ⟨_, _, rfl, rdF ok e, by rw [r.length]; exact k _ _ _ _ (FLe.refl F) ok (.int _) h⟩
      | _ => exact h.elim
/-- all, any of a list of bools -/
def blsOf : List PV → Option (List Bool)
  | [] => some []
  | .bl b :: r => (blsOf r).map (b :: ·)
  | _ :: _ => none
theorem blsOf_rep {fr : Fr} {F : Hp} : ∀ {vs : List V} {ps : List PV} {bs : List Bool}, Reps fr F vs ps → blsOf ps = some bs → vs = bs.map V.bl
  | _, _, _, .nil, h => by cases h; rfl
  | _, _, bs, .cons r rr, h => by
    cases r with
    | bl b =>
      rw [blsOf] at h
      cases e : blsOf _ with
      | none => rw [e] at h; cases h
      | some cs => rw [e] at h; cases h; rw [blsOf_rep rr e]; rfl
    | _ => cases h
def allQ : DN := fun ps Q => match ps with
  | [.lst xs] => match blsOf xs with
    | some bs => Q (.bl (bs.all id))
    | none => False
  | _ => False
def anyQ : DN := fun ps Q => match ps with
  | [.lst xs] => match blsOf xs with
    | some bs => Q (.bl (bs.any id))
    | none => False
  | _ => False
theorem snd_all (K : PySem.W.Frag) : SndC (rAll K) allQ := by
  intro fr F H σ ρ xs ps Q R ok r h k
  cases r with
  | nil => exact h.elim
  | cons r rr =>
    cases rr with
    | cons _ _ => cases r <;> exact h.elim
    | nil =>
      cases r with
      | lst e l r =>
        rename_i a vs ps
        have h : (match blsOf ps with | some bs => Q (.bl (bs.all id)) | none => False) := h
        cases eb : blsOf ps with
        | none => rw [eb] at h; exact h.elim
        | some bs =>
          rw [eb] at h
          exact ⟨a, bs, rfl, by rw [← blsOf_rep r eb]; exact .of (ok.le _ _ e), k _ _ _ _ (FLe.refl F) ok (.bl _) h⟩
      | _ => exact h.elim
theorem snd_any (K : PySem.W.Frag) : SndC (rAny K) anyQ := by
  intro fr F H σ ρ xs ps Q R ok r h k
  cases r with
  | nil => exact h.elim
  | cons r rr =>
    cases rr with
    | cons _ _ => cases r <;> exact h.elim
    | nil =>
      cases r with
      | lst e l r =>
        rename_i a vs ps
        have h : (match blsOf ps with | some bs => Q (.bl (bs.any id)) | none => False) := h
        cases eb : blsOf ps with
        | none => rw [eb] at h; exact h.elim
        | some bs =>
          rw [eb] at h
          exact ⟨a, bs, rfl, by rw [← blsOf_rep r eb]; exact .of (ok.le _ _ e), k _ _ _ _ (FLe.refl F) ok (.bl _) h⟩
      | _ => exact h.elim
/-- sum of a list of ints -/
def intsOf : List PV → Option (List Int)
  | [] => some []
  | .int b :: r => (intsOf r).map (b :: ·)
  | _ :: _ => none
theorem intsOf_rep {fr : Fr} {F : Hp} : ∀ {vs : List V} {ps : List PV} {bs : List Int}, Reps fr F vs ps → intsOf ps = some bs → vs = bs.map V.int
  | _, _, _, .nil, h => by cases h; rfl
  | _, _, bs, .cons r rr, h => by
    cases r with
    | int b =>
      rw [intsOf] at h
      cases e : intsOf _ with
      | none => rw [e] at h; cases h
      | some cs => rw [e] at h; cases h; rw [intsOf_rep rr e]; rfl
    | _ => cases h
/-- max, min of two ints -/
def maxQ : DN := fun ps Q => match ps with
  | [.int i, .int j] => Q (.int (max i j))
  | _ => False
def minQ : DN := fun ps Q => match ps with
  | [.int i, .int j] => Q (.int (min i j))
  | _ => False
theorem snd_max2 : SndC (fun xs H Q => ∃ i j, xs = [.int i, .int j] ∧ Q (.int (if j > i then j else i)) H) maxQ := by
  intro fr F H σ ρ xs ps Q R ok r h k
  cases r with
  | nil => exact h.elim
  | cons r1 rr =>
    cases rr with
    | nil => cases r1 <;> exact h.elim
    | cons r2 rr =>
      cases rr with
      | cons _ _ => cases r1 <;> cases r2 <;> exact h.elim
      | nil =>
        cases r1 with
        | int i => cases r2 with
          | int j =>
            refine ⟨i, j, rfl, ?_⟩
            rw [show (if j > i then j else i) = max i j by split <;> omega]
            exact k _ _ _ _ (FLe.refl F) ok (.int _) h
          | _ => exact h.elim
        | _ => cases r2 <;> exact h.elim
theorem snd_min2 : SndC (fun xs H Q => ∃ i j, xs = [.int i, .int j] ∧ Q (.int (if j < i then j else i)) H) minQ := by
  intro fr F H σ ρ xs ps Q R ok r h k
  cases r with
  | nil => exact h.elim
  | cons r1 rr =>
    cases rr with
    | nil => cases r1 <;> exact h.elim
    | cons r2 rr =>
      cases rr with
      | cons _ _ => cases r1 <;> cases r2 <;> exact h.elim
      | nil =>
        cases r1 with
        | int i => cases r2 with
          | int j =>
            refine ⟨i, j, rfl, ?_⟩
            rw [show (if j < i then j else i) = min i j by split <;> omega]
            exact k _ _ _ _ (FLe.refl F) ok (.int _) h
          | _ => exact h.elim
        | _ => cases r2 <;> exact h.elim
/-- tuple(xs), list(xs) -/
def tupleQ : DN := fun ps Q => match ps with
  | [.lst xs] => Q (.tup xs)
  | [.tup xs] => Q (.tup xs)
  | _ => False
theorem snd_tuple (K : PySem.W.Frag) : SndC (fun xs H Q => ∃ p ys, xs = [.ref p] ∧ ((SqL K H p ys ∧ ∀ l, H l = none → Q (.ref l) (upd H l (.tup ys))) ∨ (SqT K H p ys ∧ Q (.ref p) H))) tupleQ := by
  intro fr F H σ ρ xs ps Q R ok r h k
  cases r with
  | nil => exact h.elim
  | cons r rr =>
    cases rr with
    | cons _ _ => cases r <;> exact h.elim
    | nil =>
      cases r with
      | lst e l r =>
        refine ⟨_, _, rfl, .inl ⟨.of (ok.le _ _ e), fun a ha => ?_⟩⟩
        exact newT ok k ha l r h
      | tup e l r => exact ⟨_, _, rfl, .inr ⟨.of (ok.le _ _ e), k _ _ _ _ (FLe.refl F) ok (.tup e l r) h⟩⟩
      | _ => exact h.elim
end
end PL

set_option Elab.async false
set_option linter.all false
set_option maxRecDepth 100000
set_option maxHeartbeats 4000000
/-! sums, ranges as lists, lists times ints, isinstance, texts joined -/
namespace PL
open PySem PySem.Spec L2

/-! ### sum -/
def rSumA (K : PySem.W.Frag) : List V → Hp → VK → Prop := fun vs H Q => ∃ (a : Addr) (ns : List Int), vs = [V.ref a] ∧ (SqL K H a (ns.map V.int) ∨ SqT K H a (ns.map V.int)) ∧ Q (.int ns.sum) H
section
variable {X : Cx} {pos : Pos}
theorem call_sumA (hc : X.calm = true) : CallR X (.builtin "sum") (rSumA X.K) := by
  intro pins s σ H vs us Q I r h
  obtain ⟨a, ns, rfl, hs, q⟩ := h
  rcases hs with hs | hs
  · exact cr_sum hc pins s σ H _ us Q I r ⟨a, ns, rfl, hs, q⟩
  · obtain ⟨its, rv, ht, hz⟩ := I.tuple hs
    rw [Vals.ref1 r]
    have hi := rv.ints
    obtain ⟨xs, hx⟩ := hi.allInts.items
    have hn : PySem.numsOf its.toArray.toList = ns := by rw [show its.toArray.toList = its from rfl, hi.numsOf]
    rw [hx] at ht hn
    rw [nums_intItems] at hn
    refine PySem.W.ktm_sumG (I.ok.hd hc) ht fun h' tk t' hk => ?_
    rw [preSum_eq, List.take_of_length_le (by simp), hn]
    exact ⟨.int _, H, I.kept hk, ⟨_, rfl⟩, q⟩
def sumQ : DN := fun ps Q => match ps with
  | [.lst xs] => match intsOf xs with
    | some ns => Q (.int ns.sum)
    | none => False
  | [.tup xs] => match intsOf xs with
    | some ns => Q (.int ns.sum)
    | none => False
  | _ => False
theorem snd_sum (K : PySem.W.Frag) : SndC (rSumA K) sumQ := by
  intro fr F H σ ρ xs ps Q R ok r h k
  cases r with
  | nil => exact h.elim
  | cons r rr =>
    cases rr with
    | cons _ _ => cases r <;> exact h.elim
    | nil =>
      cases r with
      | lst e l r =>
        rename_i a vs ps
        have h : (match intsOf ps with | some ns => Q (.int ns.sum) | none => False) := h
        cases ei : intsOf ps with
        | none => rw [ei] at h; exact h.elim
        | some ns =>
          rw [ei] at h
          exact ⟨a, ns, rfl, .inl (.of (by rw [← intsOf_rep r ei]; exact ok.le _ _ e)), k _ _ _ _ (FLe.refl F) ok (.int _) h⟩
      | tup e l r =>
        rename_i a vs ps
        have h : (match intsOf ps with | some ns => Q (.int ns.sum) | none => False) := h
        cases ei : intsOf ps with
        | none => rw [ei] at h; exact h.elim
        | some ns =>
          rw [ei] at h
          exact ⟨a, ns, rfl, .inr (.of (by rw [← intsOf_rep r ei]; exact ok.le _ _ e)), k _ _ _ _ (FLe.refl F) ok (.int _) h⟩
      | _ => exact h.elim

/-! ### list(range(n)) -/
def rgP (n : Int) : List PV := (List.range n.toNat).map fun i => PV.int (i : Nat)
theorem rgP_rep {fr : Fr} {F : Hp} (n : Int) : Reps fr F (rgV 0 n) (rgP n) := by
  unfold rgV rgP
  rw [Int.sub_zero]
  generalize List.range n.toNat = l
  induction l with
  | nil => exact .nil
  | cons i r ih => exact .cons (by show Rep fr F (V.int (0 + (i : Int))) (PV.int i); rw [Int.zero_add]; exact .int _) ih
def dRg1 (d : DE) : DE := fun ρ Q => d ρ fun x ρ1 => match x with
  | .int n => RgOk 0 n ∧ Q (.lst (rgP n)) ρ1
  | _ => False
theorem nx_listRg {a : Expr} {d : DE} {p p2 pos2 : Pos} (hc : X.calm = true) (hm : X.mg "list" = none) (hm2 : X.mg "range" = none) (ha : EX X a d) (hg : Gl X "list" := by rfl) (hg2 : Gl X "range" := by rfl)
    (na : starEach [a] X.env = (false, eval a X.env) :: starEach [] X.env := by rfl) (na2 : starEach [.Call (.Name "range" p2) [a] [] pos2] X.env = (false, eval (.Call (.Name "range" p2) [a] [] pos2) X.env) :: starEach [] X.env := by rfl) :
    NX X (.Call (.Name "list" p) [.Call (.Name "range" p2) [a] [] pos2] [] pos) (dRg1 d) := by
  refine .mk' (pe_listRg hc hg hm (prg_1 hg2 hm2 ha.run na) na2) fun fr F σ H ρ Q R ok hd k => ?_
  refine sndE d fr F σ H ρ _ _ ok hd fun v H1 x ρ1 F1 f1 ok1 r1 h1 => ?_
  cases r1 with
  | int n =>
    have h1 : RgOk 0 n ∧ Q (.lst (rgP n)) ρ1 := h1
    refine ⟨n, rfl, h1.1, fun a ha => ?_⟩
    have hz : (rgP n).length ≤ sizeLine := by
      have h5 := h1.1.2.2.2.2
      have e : (sizeLine : Nat) = 16777216 := by decide
      unfold rgP; rw [List.length_map, List.length_range]
      have : (n - 0).toNat ≤ 2 ^ 24 := h5
      rw [Int.sub_zero] at this
      omega
    exact k a _ _ _ _ F1 f1 (ok1.alloc ha _) (ok1.nf ha) (ok1.nd ha) upd_same (.lst hz (rgP_rep n)) (ok1.fresh ha) h1.2
  | _ => exact h1.elim

/-! ### list(xs), tuple to list: a new list -/
def dListOf (da : DA) : DE := fun ρ Q => da ρ fun ps ρ1 => match ps with
  | [.lst xs] => Q (.lst xs) ρ1
  | [.tup xs] => Q (.lst xs) ρ1
  | _ => False
theorem nx_listOf {e : Expr} {da : DA} {p : Pos} (hm : X.mg "list" = none) (ha : AX X [e] da) (hg : Gl X "list" := by rfl)
    (he : starEach [e] X.env = (false, eval e X.env) :: starEach [] X.env := by rfl) (hpl : (backTo pos (starEach [] X.env)).any (·.1) = false := by rfl) :
    NX X (.Call (.Name "list" p) [e] [] pos) (dListOf da) := by
  refine .mk' (pe_callTy call_list_of hg hm (by decide +kernel) ha.run (by decide) (by decide) he hpl) fun fr F σ H ρ Q R ok hd k => ?_
  refine sndA da fr F σ H ρ _ _ ok hd fun vs H1 ps ρ1 F1 f1 ok1 r1 h1 => ?_
  cases r1 with
  | nil => exact h1.elim
  | cons r rr =>
    cases rr with
    | cons _ _ => cases r <;> exact h1.elim
    | nil =>
      cases r with
      | lst e l r => exact ⟨_, _, rfl, .inl (.of (ok1.le _ _ e)), fun a ha => k a _ _ _ _ F1 f1 (ok1.alloc ha _) (ok1.nf ha) (ok1.nd ha) upd_same (.lst l r) (ok1.fresh ha) h1⟩
      | tup e l r => exact ⟨_, _, rfl, .inr (.of (ok1.le _ _ e)), fun a ha => k a _ _ _ _ F1 f1 (ok1.alloc ha _) (ok1.nf ha) (ok1.nd ha) upd_same (.lst l r) (ok1.fresh ha) h1⟩
      | _ => exact h1.elim

/-! ### a list times an int -/
def repQ : D2 := fun x y Q => match x, y with
  | .lst xs, .int k => -(2 ^ 63) ≤ k ∧ k < 2 ^ 63 ∧ xs.length * k.toNat ≤ sizeLine ∧ Q (.lst (List.replicate k.toNat xs).flatten)
  | _, _ => False
theorem rep_len {α : Type} (k : Nat) (xs : List α) : (List.replicate k xs).flatten.length = xs.length * k := by
  induction k with
  | zero => simp
  | succ k ih => rw [List.replicate_succ, List.flatten_cons, List.length_append, ih, Nat.mul_succ, Nat.add_comm]
theorem nx_rep {a b : Expr} {da db : DE} (ha : EX X a da) (hb : EX X b db) : NX X (.BinOp a .Mult b pos) (dOp repQ da db) := by
  refine .mk' (pe_op op_rep ha.run hb.run) fun fr F σ H ρ Q R ok hd k => ?_
  refine sndE da fr F σ H ρ _ _ ok hd fun v H1 x ρ1 F1 f1 ok1 r1 h1 => ?_
  refine sndE db fr F1 σ H1 ρ1 _ _ ok1 h1 fun w H2 y ρ2 F2 f2 ok2 r2 h2 => ?_
  cases r1.up f2 with
  | lst e l r =>
    cases r2 with
    | int n =>
      obtain ⟨h3, h4, h5, h6⟩ := h2
      exact ⟨_, n, _, rfl, rfl, ok2.le _ _ e, h3, h4, by rw [r.length]; exact h5, fun a ha => k a _ _ _ _ F2 (f1.trans f2) (ok2.alloc ha _) (ok2.nf ha) (ok2.nd ha) upd_same (.lst (by rw [rep_len]; exact h5) (r.rep _)) (ok2.fresh ha) h6⟩
    | _ => exact h2.elim
  | _ => cases r2 <;> exact h2.elim

/-! ### isinstance -/
def isiB (T : String) : PV → Option Bool
  | .non => kitB "NoneType" T
  | .bl _ => kitB "bool" T
  | .int _ => kitB "int" T
  | .str _ => kitB "str" T
  | .tup _ => kitB "tuple" T
  | .lst _ => kitB "list" T
  | _ => none
def isiQ (T : String) (p : PV) (Q : PV → Prop) : Prop := match isiB T p with
  | some b => Q (.bl b)
  | none => False
def dIsi (T : String) (d : DE) : DE := fun ρ Q => d ρ fun p ρ1 => isiQ T p fun z => Q z ρ1
theorem ex_isi {x : Str} {e : Expr} {d : DE} {T : String} {p p2 : Pos} (hm : X.mg "isinstance" = none) (hmt : X.mg x = none) (he : EX X e d) (hv : bootBuiltins x = some (.type T) := by decide +kernel) (hg : Gl X "isinstance" := by rfl) (hgx : Gl X x := by rfl) (hn : x ≠ "__name__" := by decide) (hd : (x == ("__debug__" : Str)) = false := by decide)
    (h1 : starEach [e, .Name x p2] X.env = (false, eval e X.env) :: starEach [.Name x p2] X.env := by rfl) (h2 : starEach [.Name x p2] X.env = (false, eval (.Name x p2) X.env) :: starEach [] X.env := by rfl) (hpl : (backTo pos (starEach [.Name x p2] X.env)).any (·.1) = false := by rfl) :
    EX X (.Call (.Name "isinstance" p) [e, .Name x p2] [] pos) (dIsi T d) := by
  refine .mk' (pe_callB call_isi hg hm (by decide +kernel) (pa_cons he.run (pa_cons (pe_bltn (v := .ty T) hgx hmt hv (show RelV (.ty T) _ from rfl) hn hd) pa_nil h2) h1) (by decide) (by decide) h1 hpl) fun fr F σ H ρ Q R ok hd k => ?_
  refine sndE d fr F σ H ρ _ _ ok hd fun v H1 x ρ1 F1 f1 ok1 r1 h1 => ?_
  have go : ∀ {n : String}, TyX X.K H1 v (.type n) → isiB T x = kitB n T → rIsi X.K [v, .ty T] H1 R := fun {n} ty e => by
    unfold isiQ at h1
    rw [e] at h1
    cases eb : kitB n T with
    | none => rw [eb] at h1; exact h1.elim
    | some b =>
      rw [eb] at h1
      exact ⟨v, .ty T, .type n, .type T, b, rfl, .ty T, ty, kit_ty eb, k _ _ _ _ _ f1 ok1 (.bl b) h1⟩
  have bad : isiB T x = none → rIsi X.K [v, .ty T] H1 R := fun e => by
    unfold isiQ at h1; rw [e] at h1; exact h1.elim
  cases r1 with
  | non => exact go (.base .non) rfl
  | bl b => exact go (.base (.bl b)) rfl
  | int b => exact go (.base (.int b)) rfl
  | str b => exact go (.base (.str b)) rfl
  | tup e l r => exact go (.base (.tup (ok1.le _ _ e))) rfl
  | lst e l r => exact go (.base (.lst (ok1.le _ _ e))) rfl
  | _ => exact bad rfl

/-! ### x in NAMES: a module's tuple of texts -/
def inStr (xs : List Str) : PV → Bool
  | .str z => xs.contains z
  | _ => false
def dInS (xs : List Str) (d : DE) : DE := fun ρ Q => d ρ fun p ρ1 => match p with
  | .str z => Q (.bl (xs.contains z)) ρ1
  | _ => False
theorem inV_strs (z : Str) : ∀ xs : List Str, inV (.str z) (xs.map V.str) = xs.contains z
  | [] => rfl
  | y :: r => by
    have ih := inV_strs z r
    unfold inV at ih ⊢
    rw [List.map_cons, List.any_cons, ih, List.contains_cons]
    congr 1
    show (y == z) = (z == y)
    by_cases h : y = z
    · subst h; rfl
    · rw [beq_eq_false_iff_ne.mpr h, beq_eq_false_iff_ne.mpr (Ne.symm h)]
theorem strs_flat : ∀ xs : List Str, (xs.map V.str).all flatV = true
  | [] => rfl
  | _ :: r => by rw [List.map_cons, List.all_cons, strs_flat r]; rfl
structure KStrs (K : PySem.W.Frag) (a : Addr) (xs : List Str) : Prop where
  at' : ∃ (o : Obj) (its : Array Value) (n : Nat), K.lookup a = some o ∧ o.cls = .type "tuple" ∧ o.data = .seq its n ∧ its.size ≤ sizeLine ∧ Vals (xs.map V.str) its.toList
theorem ex_inS {x : Str} {e : Expr} {d : DE} {a : Addr} (xs : List Str) {p2 : Pos} (hm : X.mg x = some (.ref a)) (hk : KStrs X.K a xs) (he : EX X e d) (hg : Gl X x := by rfl) (hd : (x == ("__debug__" : Str)) = false := by decide)
    (hmk : behindInMarks .In (.Name x p2) = false := by rfl) : EX X (.Compare e [.In] [.Name x p2] pos) (dInS xs d) := by
  refine .mk' (pe_cmpR op_in_seq he.run (pe_glob (v := .ref a) hg hm (show RelV (.ref a) _ from rfl) hd) hmk) fun fr F σ H ρ Q R ok hd k => ?_
  refine sndE d fr F σ H ρ _ _ ok hd fun v H1 x ρ1 F1 f1 ok1 r1 h1 => ?_
  cases r1 with
  | str z hz => exact ⟨a, xs.map V.str, rfl, .inr (.inr hk.at'), rfl, strs_flat xs, by rw [if_neg (by decide), inV_strs]; exact k _ _ _ _ _ f1 ok1 (.bl _) h1⟩
  | _ => exact h1.elim

/-! ### sep.join(texts) -/
def strsOf : List PV → Option (List Str)
  | [] => some []
  | .str b :: r => (strsOf r).map (b :: ·)
  | _ :: _ => none
theorem strsOf_rep {fr : Fr} {F : Hp} : ∀ {vs : List V} {ps : List PV} {bs : List Str}, Reps fr F vs ps → strsOf ps = some bs → vs = bs.map V.str
  | _, _, _, .nil, h => by cases h; rfl
  | _, _, bs, .cons r rr, h => by
    cases r with
    | str b =>
      rw [strsOf] at h
      cases e : strsOf _ with
      | none => rw [e] at h; cases h
      | some cs => rw [e] at h; cases h; rw [strsOf_rep rr e]; rfl
    | _ => cases h
def joinC (x : PV) (y : PV) (Q : PV → Prop) : Prop := match x, y with
  | .str a, .lst xs => match strsOf xs with
    | some ys => (ys.map (·.length)).sum + ys.length * a.length ≤ 16777216 ∧ Sok (Txt.join a ys) ∧ Q (.str (Txt.join a ys))
    | none => False
  | .str a, .tup xs => match strsOf xs with
    | some ys => (ys.map (·.length)).sum + ys.length * a.length ≤ 16777216 ∧ Sok (Txt.join a ys) ∧ Q (.str (Txt.join a ys))
    | none => False
  | _, _ => False
def isS : PV → Bool
  | .str _ => true
  | _ => false
def dJoin (dx dy : DE) : DE := fun ρ Q => dx ρ fun x ρ1 => isS x = true ∧ dy ρ1 fun y ρ2 => joinC x y fun z => Q z ρ2
theorem ex_join {o e : Expr} {dx dy : DE} {apos : Pos} (ho : EX X o dx) (he : EX X e dy) (hs : starEach [e] X.env = [(false, eval e X.env)] := by rfl) (hbase : attributeBase o "join" X.env (eval o X.env) = eval o X.env := by rfl) (hline : (apos.endLine == pos.line) = true := by rfl) :
    EX X (.Call (.Attribute o "join" apos) [e] [] pos) (dJoin dx dy) := by
  refine .mk' (pe_join ho.run he.run hs hbase hline) fun fr F σ H ρ Q R ok hd k => ?_
  refine sndE dx fr F σ H ρ _ _ ok hd fun v H1 x ρ1 F1 f1 ok1 r1 h1 => ?_
  obtain ⟨h0, h1⟩ := h1
  cases r1 with
  | str a ha =>
    refine ⟨⟨a, rfl⟩, sndE dy fr F1 σ H1 ρ1 _ _ ok1 h1 fun w H2 y ρ2 F2 f2 ok2 r2 h2 => ?_⟩
    cases r2 with
    | lst e l r =>
      rename_i b vs ps
      have h2 : (match strsOf ps with
        | some ys => (ys.map (·.length)).sum + ys.length * a.length ≤ 16777216 ∧ Sok (Txt.join a ys) ∧ Q (.str (Txt.join a ys)) ρ2
        | none => False) := h2
      cases es : strsOf ps with
      | none => rw [es] at h2; exact h2.elim
      | some ys =>
        rw [es] at h2
        obtain ⟨g1, g2, g3⟩ := h2
        exact ⟨a, b, ys, rfl, rfl, .inl (.of (by rw [← strsOf_rep r es]; exact ok2.le _ _ e)), g1, k _ _ _ _ _ (f1.trans f2) ok2 (.str _ g2) g3⟩
    | tup e l r =>
      rename_i b vs ps
      have h2 : (match strsOf ps with
        | some ys => (ys.map (·.length)).sum + ys.length * a.length ≤ 16777216 ∧ Sok (Txt.join a ys) ∧ Q (.str (Txt.join a ys)) ρ2
        | none => False) := h2
      cases es : strsOf ps with
      | none => rw [es] at h2; exact h2.elim
      | some ys =>
        rw [es] at h2
        obtain ⟨g1, g2, g3⟩ := h2
        exact ⟨a, b, ys, rfl, rfl, .inr (.of (by rw [← strsOf_rep r es]; exact ok2.le _ _ e)), g1, k _ _ _ _ _ (f1.trans f2) ok2 (.str _ g2) g3⟩
    | _ => exact h2.elim
  | _ => cases h0

/-! ### arithmetic -/
def fdivQ : D2 := intQ (fun _ j => 0 < j ∧ j < 1073741824) fun i j => i / j
def modQ : D2 := intQ (fun _ j => 0 < j) fun i j => i % j
end
end PL

set_option Elab.async false
set_option linter.all false
set_option maxRecDepth 100000
set_option maxHeartbeats 4000000
/-! the town (the draws' counters) and the script; the draw -/
namespace PL
open PySem PySem.Spec L2

theorem StOk.townSet {fr : Fr} {F H : Hp} {σ : St} {ρ : Rho} (x : StOk fr F H σ ρ) {p q : Int} (hp : 0 ≤ p) (hq : 0 ≤ q) : StOk fr F (upd H fr.tw (.lst [.int p, .int q])) σ ρ := by
  have hF := x.fd _ fr.twd
  refine ⟨fun b u e => ?_, fr.tws _ _ _ x.fok hp hq, x.fd, x.len, fun j s e => ?_, x.ap⟩
  · rw [upd_ne (show b ≠ fr.tw from fun z => by rw [z, hF] at e; cases e)]; exact x.le _ _ e
  · obtain ⟨w, g1, g2⟩ := x.sl j s e
    refine ⟨w, g1, ?_⟩
    cases g2 with
    | un => exact .un _
    | val r => exact .val r
    | own p1 p2 p3 r' => exact .own p1 p2 (by rw [upd_ne (fun z => p2 (by rw [z]; exact fr.twd))]; exact p3) r'
theorem sq_new {K : PySem.W.Frag} {H : Hp} {a l : Addr} {xs : List V} {o : HO} (h : SqL K H a xs) (n : H l = none) : SqL K (upd H l o) a xs := by
  rcases h with (h | ⟨q, h⟩) | h
  · exact .inl (.inl (by rw [upd_ne (ne_of_none h n)]; exact h))
  · exact .inl (.inr ⟨q, by rw [upd_ne (ne_of_none h n)]; exact h⟩)
  · exact .inr h
theorem dp_ints {K : PySem.W.Frag} {H : Hp} : ∀ ns : List Int, DpAll K H (ns.map V.int) (ns.map PyData.int)
  | [] => .nil
  | n :: r => .cons (.int n) (dp_ints r)
theorem ints_lay : ∀ ns : List Int, PyData.canLayAll0 (ns.map PyData.int) = true ∧ PyData.depthAll (ns.map PyData.int) ≤ 1
  | [] => by simp [PyData.canLayAll0, PyData.depthAll]
  | n :: r => by
    have ih := ints_lay r
    simp only [List.map_cons, PyData.canLayAll0, PyData.canLay0, PyData.depthAll, PyData.depth, ih.1, Bool.and_true]
    exact ⟨trivial, by omega⟩
section
variable {X : Cx} {pos : Pos}
/-- script == [] -/
def dScrE (K : PySem.W.Frag) (d : DE) : DT := fun ρ Q => d ρ fun p ρ1 => ∃ ns, p = .scr K ns ∧ Q ns.isEmpty ρ1
theorem tx_scrE {e : Expr} {d : DE} {p2 : Pos} (hu : X.A.units + 64 < cLine) (he : EX X e d) (hm : behindInMarks .Eq (.List [] p2) = false := by first | exact nomark _ | rfl) : TX X (.Compare e [.Eq] [.List [] p2] pos) (dScrE X.K d) := by
  refine .mk' (pt_cmpR (op_eqD hu) he.run (pe_lst pa_nil) hm) fun fr F σ H ρ Q R ok hd k => ?_
  refine sndE d fr F σ H ρ _ _ ok hd fun v H1 x ρ1 F1 f1 ok1 r1 h1 => ?_
  obtain ⟨ns, rfl, h1⟩ := h1
  generalize hK : X.K = K at r1
  cases r1 with
  | scr =>
    have sq := fr.scg H1 ok1.fok
    refine ⟨Nat.zero_le _, fun a ha => ⟨.list (fr.ns.map PyData.int), .list [], .lst (sq_new sq ha) (dp_ints _), .lst (.of upd_same) .nil, ?_, by decide, ?_⟩⟩
    · obtain ⟨g1, g2⟩ := ints_lay fr.ns
      exact shaped_of (by simpa only [PyData.canLay0] using g1) (by simp only [PyData.depth]; omega)
    · refine ⟨_, rfl, ?_⟩
      have e : PyData.eqv (.list (fr.ns.map PyData.int)) (.list []) = fr.ns.isEmpty := by
        cases fr.ns <;> simp [PyData.eqv, PyData.eqvAll]
      rw [e]
      exact k _ _ _ _ f1 (ok1.alloc ha _) h1
/-- len(script) -/
def dScrL (K : PySem.W.Frag) (d : DE) : DE := fun ρ Q => d ρ fun p ρ1 => ∃ ns, p = .scr K ns ∧ Q (.int ns.length) ρ1
theorem ex_scrL {e : Expr} {d : DE} {p : Pos} (hm : X.mg "len" = none) (he : EX X e d) (hg : Gl X "len" := by rfl)
    (hs : starEach [e] X.env = (false, eval e X.env) :: starEach [] X.env := by rfl) (hpl : (backTo pos (starEach [] X.env)).any (·.1) = false := by rfl) : EX X (.Call (.Name "len" p) [e] [] pos) (dScrL X.K d) := by
  refine .mk' (pe_callB call_len_seq hg hm (by decide +kernel) (pa_cons he.run pa_nil hs) (by decide) (by decide) hs hpl) fun fr F σ H ρ Q R ok hd k => ?_
  refine sndE d fr F σ H ρ _ _ ok hd fun v H1 x ρ1 F1 f1 ok1 r1 h1 => ?_
  obtain ⟨ns, rfl, h1⟩ := h1
  generalize hK : X.K = K at r1
  cases r1 with
  | scr =>
    have sq := fr.scg H1 ok1.fok
    exact ⟨_, _, rfl, .inl (sq), by rw [List.length_map]; exact k _ _ _ _ _ f1 ok1 (.int _) h1⟩
/-- script[i] -/
def dScrX (K : PySem.W.Frag) (d di : DE) : DE := fun ρ Q => d ρ fun p ρ1 => di ρ1 fun q ρ2 => ∃ ns i n, p = .scr K ns ∧ q = .int i ∧ L2.atI ns i = some n ∧ Q (.int n) ρ2
theorem ex_scrX {a b : Expr} {da db : DE} (ha : EX X a da) (hb : EX X b db) (hs : PlainIx b := by intro _ _; rfl) : EX X (.Subscript a b pos) (dScrX X.K da db) := by
  refine .mk' (pe_ix ix_list ha.run hb.run hs) fun fr F σ H ρ Q R ok hd k => ?_
  refine sndE da fr F σ H ρ _ _ ok hd fun v H1 x ρ1 F1 f1 ok1 r1 h1 => ?_
  refine sndE db fr F1 σ H1 ρ1 _ _ ok1 h1 fun w H2 y ρ2 F2 f2 ok2 r2 h2 => ?_
  obtain ⟨ns, i, n, rfl, rfl, e, h2⟩ := h2
  generalize hK : X.K = K at r1
  cases r1 with
  | scr =>
    cases r2 with
    | int i =>
      have sq := fr.scg H2 ok2.fok
      refine ⟨_, fr.ns.map V.int, i, .int n, rfl, rfl, sq, ?_, k _ _ _ _ _ (f1.trans f2) ok2 (.int _) h2⟩
      unfold L2.atI at e ⊢
      rw [List.length_map]
      cases ej : ixN fr.ns.length i with
      | none => rw [ej] at e; cases e
      | some j =>
        rw [ej] at e
        have e : fr.ns[j]? = some n := e
        show (fr.ns.map V.int)[j]? = _
        rw [List.getElem?_map, e]; rfl
/-- town[0], town[1] -/
def dTwn (d di : DE) : DE := fun ρ Q => d ρ fun p ρ1 => di ρ1 fun q ρ2 => p = .town ∧ (q = .int 0 ∨ q = .int 1) ∧ ∀ n, 0 ≤ n → Q (.int n) ρ2
theorem ex_twn {a b : Expr} {da db : DE} (ha : EX X a da) (hb : EX X b db) (hs : PlainIx b := by intro _ _; rfl) : EX X (.Subscript a b pos) (dTwn da db) := by
  refine .mk' (pe_ix ix_list ha.run hb.run hs) fun fr F σ H ρ Q R ok hd k => ?_
  refine sndE da fr F σ H ρ _ _ ok hd fun v H1 x ρ1 F1 f1 ok1 r1 h1 => ?_
  refine sndE db fr F1 σ H1 ρ1 _ _ ok1 h1 fun w H2 y ρ2 F2 f2 ok2 r2 h2 => ?_
  obtain ⟨rfl, hq, h2⟩ := h2
  obtain ⟨p, q, g1, g2, g3⟩ := fr.twg H2 ok2.fok
  cases r1 with
  | town =>
    rcases hq with rfl | rfl
    · cases r2
      exact ⟨_, _, 0, .int p, rfl, rfl, .of g3, rfl, k _ _ _ _ _ (f1.trans f2) ok2 (.int _) (h2 p g1)⟩
    · cases r2
      exact ⟨_, _, 1, .int q, rfl, rfl, .of g3, rfl, k _ _ _ _ _ (f1.trans f2) ok2 (.int _) (h2 q g2)⟩
/-- town[j] = e -/
def dTwnSet (dt di d : DE) : DS := fun PD ρ => d ρ fun p ρ1 => dt ρ1 fun t ρ2 => di ρ2 fun q ρ3 => t = .town ∧ (q = .int 0 ∨ q = .int 1) ∧ ∃ n, p = .int n ∧ 0 ≤ n ∧ PD.nx ρ3
theorem twn_put {fr : Fr} {F H : Hp} {σ : St} {ρ : Rho} {n : Int} {q : PV} {w : V} {R : Hp → Prop} (ok : StOk fr F H σ ρ) (r : Rep fr F w q) (hq : q = .int 0 ∨ q = .int 1) (hn : 0 ≤ n) (k : ∀ H', StOk fr F H' σ ρ → R H') : rSetL (.ref fr.tw) w (.int n) H R := by
  obtain ⟨p, p', g1, g2, g3⟩ := fr.twg H ok.fok
  rcases hq with rfl | rfl
  · cases r
    exact ⟨_, _, 0, 0, rfl, rfl, g3, rfl, k _ (ok.townSet hn g2)⟩
  · cases r
    exact ⟨_, _, 1, 1, rfl, rfl, g3, rfl, k _ (ok.townSet g1 hn)⟩
theorem sx_twnSet {o ie e : Expr} {dt di d : DE} {spos : Pos} (ho : EX X o dt) (hi : EX X ie di) (h : EX X e d)
    (ha : ∀ v, assign (.Subscript o ie spos) X.env v = (do
      let ov ← holding [v] (eval o X.env)
      let iv ← holding [v, ov] (eval ie X.env)
      standAt spos
      holding [v, ov, iv] (setItem ov iv v)
      release [v, ov, iv] []) := by intro _; rfl)
    (hs : swapsWithSole [.Subscript o ie spos] e pos.line X.env = pure false := by rfl) (hw : swappedStores [.Subscript o ie spos] e X.env = pure none := by rfl)
    (h1 : (assignEach [.Subscript o ie spos] X.env).map (·.2) = [assign (.Subscript o ie spos) X.env] := by rfl) :
    SX X (.Assign [.Subscript o ie spos] e pos) (dTwnSet dt di d) := by
  refine .mk' (ps_asg h.run (pg_sub ho.run hi.run set_list ha) hs hw h1) fun fr F σ H ρ PD D ok hd k => ?_
  refine sndE d fr F σ H ρ _ _ ok hd fun v H1 p ρ1 F1 f1 ok1 r1 hd1 => ?_
  refine sndE dt fr F1 σ H1 ρ1 _ _ ok1 hd1 fun w H2 q ρ2 F2 f2 ok2 r2 hd2 => ?_
  refine sndE di fr F2 σ H2 ρ2 _ _ ok2 hd2 fun w3 H3 q3 ρ3 F3 f3 ok3 r3 h3 => ?_
  obtain ⟨rfl, hq, n, rfl, hn, h3⟩ := h3
  cases r1
  cases r2
  exact twn_put ok3 r3 hq hn fun H' ok' => k.nx _ _ _ _ ((f1.trans f2).trans f3) ok' h3
/-- xs[i] of a list, as the model's word -/
theorem get_list : PGet X (fun x y H Q => ∃ p xs i v, x = .ref p ∧ y = .int i ∧ 0 ≤ i ∧ i < 2 ^ 63 ∧ SqL X.K H p xs ∧ xs[i.toNat]? = some v ∧ Q v H) := by
  intro pins s σ H o i ov iv Q I ro ri h
  obtain ⟨p, xs, j, z, rfl, rfl, h0, hb, hq, he, q⟩ := h
  cases ro
  obtain ⟨t, rfl⟩ := ri
  obtain ⟨its, r, pl, hz⟩ := I.list hq
  obtain ⟨w, ew, rw'⟩ := r.get he
  exact wpAny_getItem_list pl.isList h0 hb (by simpa using ew) ⟨z, H, I, rw', q⟩
/-- town[0] += e -/
def dTwnAug (dt di d : DE) : DS := fun PD ρ => dt ρ fun t ρ1 => di ρ1 fun q ρ2 => t = .town ∧ (q = .int 0 ∨ q = .int 1) ∧ d ρ2 fun p ρ3 => ∃ n, p = .int n ∧ 0 ≤ n ∧ PD.nx ρ3
theorem sx_twnAug {o ie e : Expr} {dt di d : DE} {tpos : Pos} (ho : EX X o dt) (hi : EX X ie di) (h : EX X e d)
    (ha : ∀ ov iv new, augStore ie ov iv new = (do holding [new, ov, iv] (setItem ov iv new); release [new, ov, iv] []; pure .next) := by intros; rfl) :
    SX X (.AugAssign (.Subscript o ie tpos) .Add e pos) (dTwnAug dt di d) := by
  refine .mk' (ps_augS ho.run hi.run get_list h.run ip_add set_list ha) fun fr F σ H ρ PD D ok hd k => ?_
  refine sndE dt fr F σ H ρ _ _ ok hd fun w H1 q ρ1 F1 f1 ok1 r1 hd1 => ?_
  refine sndE di fr F1 σ H1 ρ1 _ _ ok1 hd1 fun w2 H2 q2 ρ2 F2 f2 ok2 r2 hd2 => ?_
  obtain ⟨rfl, hq, hd2⟩ := hd2
  obtain ⟨p, p', g1, g2, g3⟩ := fr.twg H2 ok2.fok
  have fin : ∀ m : Int, 0 ≤ m → wE d σ H2 fun y H4 => ipI (fun i j => i + j) (.int m) y H4 fun z H5 => rSetL (.ref fr.tw) w2 z H5 fun H6 => D.nx σ H6 := fun m hm => by
    refine sndE d fr F2 σ H2 ρ2 _ _ ok2 hd2 fun w3 H3 q3 ρ3 F3 f3 ok3 r3 h3 => ?_
    obtain ⟨n, rfl, hn, h3⟩ := h3
    cases r3
    exact ⟨m, n, rfl, rfl, twn_put ok3 (r2.up f3) hq (show (0 : Int) ≤ m + n by omega) fun H' ok' => k.nx _ _ _ _ ((f1.trans f2).trans f3) ok' h3⟩
  cases r1
  rcases hq with rfl | rfl
  · cases r2
    exact ⟨_, _, 0, .int p, rfl, rfl, by decide, by decide, .of g3, rfl, fin p g1⟩
  · cases r2
    exact ⟨_, _, 1, .int p', rfl, rfl, by decide, by decide, .of g3, rfl, fin p' g2⟩
end
end PL

set_option Elab.async false
set_option linter.all false
set_option maxRecDepth 100000
set_option maxHeartbeats 4000000
/-! products, powers, three names at once, a comprehension of one's own -/
namespace PL
open PySem PySem.Spec L2 PyProof.Rows

theorem hu64 {A : Around} {k : Nat} (hr : Room k A) : A.units + 64 < cLine := by have := hr.un; omega
def powQ : D2 := intQ CPow fun i j => i ^ j.toNat
/-! ### products -/
def mulQ : D2 := fun x y Q => match x, y with
  | .int i, .int j => IntMulOk i j ∧ Q (.int (i * j))
  | .lst xs, .int k => repQ (.lst xs) (.int k) Q
  | .str z, .int n => -16777216 ≤ n ∧ n ≤ 16777216 ∧ z.length * n.toNat ≤ 16777216 ∧ Sok (Txt.mul z n) ∧ Q (.str (Txt.mul z n))
  | _, _ => False
section
variable {X : Cx} {pos : Pos}
def rMulI : R2 := rI IntMulOk fun i j => .int (i * j)
theorem op_mulI : OpR X (binaryOp .Mult) rMulI := opI fun _ _ _ _ _ _ _ hc q => mul_int q hc
def rMulS : R2 := fun x y H Q => ∃ z n, x = .str z ∧ y = .int n ∧ -16777216 ≤ n ∧ n ≤ 16777216 ∧ z.length * n.toNat ≤ 16777216 ∧ Q (.str (Txt.mul z n)) H
theorem op_mulS : OpR X (binaryOp .Mult) rMulS := by
  intro pins s σ H x y v u Q I rx ry h
  obtain ⟨z, n, rfl, rfl, h1, h2, h3, q⟩ := h
  obtain ⟨t, rfl⟩ := rx
  obtain ⟨t', rfl⟩ := ry
  exact SB.mul (mulOk_of z.length n.toNat (Nat.le_refl _) (by omega) (by omega) (by omega) h3) fun t2 k => ⟨.str _, H, I.tok k, ⟨t2, rfl⟩, q⟩
def rMulA : R2 := fun x y H Q => rMulI x y H Q ∨ (rRep x y H Q ∨ rMulS x y H Q)
theorem or_mul : OpR X (binaryOp .Mult) rMulA := op_mulI.or (op_rep.or op_mulS)
theorem snd_mul : SndO rMulA mulQ := by
  intro fr F H σ ρ x y p q Q R ok rx ry h k
  cases rx with
  | int i => cases ry with
    | int j => exact .inl ⟨i, j, rfl, rfl, h.1, k _ _ _ _ (FLe.refl F) ok (.int _) h.2⟩
    | _ => exact h.elim
  | lst e l r => cases ry with
    | int n =>
      have h : repQ (.lst _) (.int n) Q := h
      obtain ⟨h3, h4, h5, h6⟩ := h
      exact .inr (.inl ⟨_, n, _, rfl, rfl, ok.le _ _ e, h3, h4, by rw [r.length]; exact h5, fun a ha => newL ok k ha (by rw [rep_len]; exact h5) (r.rep _) h6⟩)
    | _ => exact h.elim
  | str z hz => cases ry with
    | int n => exact .inr (.inr ⟨z, n, rfl, rfl, h.1, h.2.1, h.2.2.1, k _ _ _ _ (FLe.refl F) ok (.str _ h.2.2.2.1) h.2.2.2.2⟩)
    | _ => exact h.elim
  | _ => cases ry <;> exact h.elim
/-- -e -/
def dNeg (d : DE) : DE := fun ρ Q => d ρ fun p ρ1 => match p with
  | .int i => Q (.int (-i)) ρ1
  | _ => False
theorem ex_neg {a : Expr} {d : DE} (h : EX X a d) : EX X (.UnaryOp .USub a pos) (dNeg d) := by
  refine .mk' (pe_un un_neg h.run) fun fr F σ H ρ Q R ok hd k => ?_
  refine sndE d fr F σ H ρ _ _ ok hd fun v H1 x ρ1 F1 f1 ok1 r1 h1 => ?_
  cases r1 with
  | int i => exact ⟨i, rfl, k _ _ _ _ _ f1 ok1 (.int _) h1⟩
  | _ => exact h1.elim
/-- a, b, c = three values -/
def dPar3 (i j l : Nat) (d : DA) : DS := fun PD ρ => d ρ fun ps ρ1 => match ps with
  | [p, q, r] => PD.nx (((ρ1.set i (.val p)).set j (.val q)).set l (.val r))
  | _ => False
theorem sx_par3 (i j l : Nat) {x y z : Str} {a b c : Expr} {d : DA} {px py pz pt : Pos} {kt k2 pt2} (hc : X.calm = true) (hN : X.N.Nodup) (ha : AX X [a, b, c] d) (hi : X.N[i]? = some x := by rfl) (hj : X.N[j]? = some y := by rfl) (hl : X.N[l]? = some z := by rfl)
    (hij : i ≠ j := by decide) (hil : i ≠ l := by decide) (hjl : j ≠ l := by decide)
    (hx : X.env.scope.names.lookup x = some .local := by rfl) (hy : X.env.scope.names.lookup y = some .local := by rfl) (hz : X.env.scope.names.lookup z = some .local := by rfl)
    (hw : swappedStores [.Tuple [.Name x px, .Name y py, .Name z pz] kt pt] (.Tuple [a, b, c] k2 pt2) X.env = pure (some [x, y, z]) := by rfl)
    (hs : swapsWithSole [.Tuple [.Name x px, .Name y py, .Name z pz] kt pt] (.Tuple [a, b, c] k2 pt2) pos.line X.env = pure false := by rfl) :
    SX X (.Assign [.Tuple [.Name x px, .Name y py, .Name z pz] kt pt] (.Tuple [a, b, c] k2 pt2) pos) (dPar3 i j l d) := by
  obtain ⟨p, s⟩ := ha.out
  refine .mk' (ps_par3 hc hN hi hj hl hij hil hjl hx hy hz p hw hs) fun fr F σ H ρ PD D ok hd k => ?_
  refine s fr F σ H ρ _ _ ok hd fun vs H1 xs ρ1 F1 f1 ok1 r1 h1 => ?_
  cases r1 with
  | nil => exact h1.elim
  | cons r1 rr =>
    cases rr with
    | nil => exact h1.elim
    | cons r2 rr =>
      cases rr with
      | nil => exact h1.elim
      | cons r3 rr =>
        cases rr with
        | nil => exact ⟨_, _, _, rfl, k.nx _ _ _ _ f1 (((ok1.set r1 i).set r2 j).set r3 l) h1⟩
        | cons _ _ => exact h1.elim
end
end PL
namespace PL
open PySem PySem.Spec L2 PyProof.Rows
section
variable {X : Cx} {pos : Pos}
/-- a module's int, a module's text -/
theorem ex_globI {x : Str} (i : Int) {t : Tok} (hm : X.mg x = some (.int i t)) (hg : Gl X x := by rfl) (hd : (x == ("__debug__" : Str)) = false := by decide) : EX X (.Name x pos) (dC (.int i)) := ex_glob (v := .int i) hg hm ⟨t, rfl⟩ (.int i) hd
theorem ex_globS {x : Str} (z : Str) {t : Tok} (hm : X.mg x = some (.str z t)) (hz : Sok z := by decide +kernel) (hg : Gl X x := by rfl) (hd : (x == ("__debug__" : Str)) = false := by decide) : EX X (.Name x pos) (dC (.str z)) := ex_glob (v := .str z) hg hm ⟨t, rfl⟩ (.str z hz) hd
end
end PL
namespace PL
open PySem PySem.Spec L2 PyProof.Rows
theorem blkT {N : List Str} {sc scope : Scope} {own : List (Str × Nat)} (h : blkC N sc scope own = true := by dsimp only [Cx.blk, compEnvC, cxOf, Cx.nox, Cx.wish, envOfC, relabel, Env.kindOf]; first | decide +kernel | rfl) : BlkOk N sc scope own := blkOk_by h
end PL

set_option Elab.async false
set_option linter.all false
set_option maxRecDepth 100000
set_option maxHeartbeats 4000000
/-! the law's own head: the town is laid, the frame stands -/
namespace PL
open PySem PySem.Spec L2 PyProof.Rows

def spLaw (K : PySem.W.Frag) : Sp := fun vs H Q _ => ∃ (a : Addr) (ns : List Int), vs = [.ref a] ∧ SqL K H a (ns.map V.int) ∧ ns.length ≤ 63 ∧ ∀ H', Q (.bl true) H'
/-- the frame of a law -/
def lawFr (K : PySem.W.Frag) (H0 : Hp) (sc tw : Addr) (ns : List Int) (hn : H0 tw = none) (hs : SqL K H0 sc (ns.map V.int)) (hl : ns.length ≤ 63) : Fr where
  dom a := a = tw ∨ (a = sc ∧ H0 sc ≠ none)
  ok H := (∃ p q : Int, 0 ≤ p ∧ 0 ≤ q ∧ H tw = some (.lst [.int p, .int q])) ∧ (H0 sc ≠ none → H sc = H0 sc)
  loc H H' q x := ⟨by rw [q tw (.inl rfl)]; exact x.1, fun z => by rw [q sc (.inr ⟨rfl, z⟩)]; exact x.2 z⟩
  there H a x d := by
    rcases d with rfl | ⟨rfl, z⟩
    · obtain ⟨⟨p, q, _, _, e⟩, _⟩ := x
      rw [e]; exact Option.some_ne_none _
    · rw [x.2 z]; exact z
  tw := tw
  sc := sc
  kf := K
  ns := ns
  twd := .inl rfl
  twg H x := x.1
  tws H p q x hp hq := ⟨⟨p, q, hp, hq, upd_same⟩, fun z => by
    rw [upd_ne (fun e => z (by rw [e]; exact hn))]; exact x.2 z⟩
  scg H x := by
    rcases hs with (h | ⟨o, h⟩) | h
    · exact .inl (.inl (by rw [x.2 (by rw [h]; exact Option.some_ne_none _)]; exact h))
    · exact .inl (.inr ⟨o, by rw [x.2 (by rw [h]; exact Option.some_ne_none _)]; exact h⟩)
    · exact .inr h
  nsl := hl
theorem law_ok {P : Program} {w : World} {K : PySem.W.Frag} {mg : Str → Option Value} {base : Heap} {qual : Str} {st : Stmt} {f : Addr} {fd : FuncData} {N : List Str} {k : Nat} {d : DS} {rest : List Stmt} {p1 p2 p3 p4 p5 : Pos}
    (Fu : Fun K "law" qual st f fd) (S : FnScope N ["_law_script"] (defScope st)) (e : defBody st = .Assign [.Name "_law_town" p1] (.List [.Constant (.int 0) 0 p3, .Constant (.int 0) 0 p4] p5) p2 :: rest) (h1 : N[1]? = some (Str.ofString "_law_town"))
    (hx : Loc (defScope st) "_law_town") (hs : ∀ env : Env, swapsWith (.List [.Constant (.int 0) 0 p3, .Constant (.int 0) 0 p4] p5) (some (.Name "_law_town" p1)) p2.line env = pure false) 
    (hb : ∀ (cdv : Value) (A : Around) (outer : List Env) (s : Shared) (H : Hp) (E : XK), Room k (A.deeper (envOfC qual (defScope st) s.heap.objs.size f cdv)) → BX (cxOf CX0 P w K mg base N qual (defScope st) f cdv A outer s H E).nox rest d)
    (hp : ∀ ns : List Int, ns.length ≤ 63 → d (endsOf fun r => r = .bl true) ((startR N.length [.scr K ns]).set 1 (.val .town))) : FnOk P w K mg base CX0 (k + 1) f fd ["_law_script"] (spLaw K) := by
  refine Fu.ok S (fun vs H Q E h => ?_) (fun cdv A outer s H vs Q E hr h => ?_)
  · obtain ⟨a, ns, rfl, _⟩ := h; rfl
  · obtain ⟨a, ns, rfl, hq, hl, hQ⟩ := h
    have run := (hb cdv A outer s H E hr).run
    rw [e]
    refine ⟨_, pss_cons (ps_set (i := 1) S.nd h1 hx (pe_lst (pa_cons pe_int (pa_cons pe_int pa_nil (by rfl)) (by rfl))) (hs _) (.inl rfl)) run, ?_⟩
    refine ⟨by decide, fun tw htw => ?_⟩
    let fr := lawFr K H a tw ns htw hq hl
    have ok0 : StOk fr (fun _ => none) (upd H tw (.lst [.int 0, .int 0])) [] [] := by
      refine ⟨fun b u x => (by cases x), ⟨⟨0, 0, Int.le_refl _, Int.le_refl _, upd_same⟩, fun z => by rw [upd_ne (fun q => z (by rw [q]; exact htw))]⟩, fun _ _ => rfl, rfl, fun i s x => (by simp at x), fun i j b x _ => (by obtain ⟨⟨p, x⟩, _⟩ := x; simp at x)⟩
    have r0 : Rep fr (fun _ => none) (.ref a) (.scr K ns) := .scr (fr := fr)
    have ok1 := startOk (N := N) ok0 (.cons r0 .nil)
    have ok2 := ok1.set (Rep.town (fr := fr)) 1
    refine ⟨fr, _, _, _, ok2, hp ns hl, ⟨fun F' H' σ' ρ' f ok q => (by cases q), fun F' H' σ' ρ' v p f ok r q => ?_, fun _ _ _ _ _ _ q => q.elim, fun _ _ _ _ _ _ q => q.elim⟩⟩
    have q : p = .bl true := q
    subst q
    cases r
    exact hQ H'
end PL

set_option Elab.async false
set_option linter.all false
set_option maxRecDepth 100000
set_option maxHeartbeats 4000000
/-! texts turned round; a sign in a text -/
namespace PL
open PySem PySem.Spec L2 PyProof.Rows

def revT (z : Str) : Str := ⟨z.cps.toList.reverse.toArray⟩
theorem rev_pick (z : Str) : (Builtin.Str.strSliceIndices none none (-1) z.length).filterMap (z.cps[·]?) = z.cps.toList.reverse := by
  unfold Builtin.Str.strSliceIndices
  show (sliceRange ((z.cps.size : Int) - 1) (-1) (-1)).filterMap (z.cps[·]?) = _
  rw [PySem.W.krv_sliceRange, PySem.W.krv_range, List.filterMap_reverse, PySem.W.krv_all]
theorem revT_length (z : Str) : (revT z).length = z.length := by simp [revT, Str.length]
theorem sok_rev {z : Str} (h : Sok z) : Sok (revT z) := by
  refine ⟨by rw [revT_length]; exact h.1, ?_⟩
  have hm := sok_mem h
  unfold PyData.strOk
  rw [← Array.all_toList, List.all_eq_true]
  intro c hc
  have hc : c ∈ z.cps.toList := by simpa [revT] using hc
  simpa using hm c hc
section
variable {X : Cx} {pos : Pos}
def tRevS (te : TE) : TE := fun σ H Q => te σ H fun x H1 => ∃ z, x = .str z ∧ z.length ≤ sizeLine ∧ Q (.str (revT z)) H1
theorem pe_revS {e : Expr} {te : TE} {k : Nat} {p1 p2 p3 : Pos} (he : PE X e te) : PE X (.Subscript e (.Slice none none (some (.UnaryOp .USub (.Constant (.int 1) k p1) p2)) p3) pos) (tRevS te) := by
  refine ⟨fun pins s σ H Q I h => ?_⟩
  refine Subscript_ (thn (he.run pins s σ H _ I h) fun v s1 ⟨x, H1, I1, r1, q1⟩ => ?_)
  obtain ⟨z, ex, hz, q⟩ := q1
  subst ex
  obtain ⟨t, rfl⟩ := r1
  have hst : PO X (some (.UnaryOp .USub (.Constant (.int 1) k p1) p2)) (tPart (tUn (rU fun i => .int (-i)) (tC (.int 1)))) := po_some (pe_un un_neg pe_int)
  refine wpAny_Slice (thn (po_none.run pins s1 σ H1 (fun o H2 => o = none ∧ H2 = H1) I1 ⟨rfl, rfl⟩) fun vl s2 ⟨l, H2, I2, pl, el, e2⟩ => ?_)
  subst el e2
  refine thn (po_none.run pins s2 σ H2 (fun o H3 => o = none ∧ H3 = H2) I2 ⟨rfl, rfl⟩) fun vu s3 ⟨u, H3, I3, pu, eu, e3⟩ => ?_
  subst eu e3
  refine thn (hst.run pins s3 σ H3 (fun o H4 => o = some (-1) ∧ H4 = H3) I3 ⟨1, rfl, -1, rfl, rfl, rfl⟩) fun vs s4 ⟨o, H4, I4, ps, eo, e4⟩ => ?_
  subst eo e4
  have I5 : Inv X pins σ H4 { s4 with heap := s4.heap.push { cls := .type "slice", data := .fields #[vl, vu, vs] } } := I4.kept (t' := s4.toks) fun b ob q => Heap.get?_push_of_some _ q
  have hso := Heap.IsSliceOf.new s4.heap vl vu vs
  obtain ⟨l, rfl, hl⟩ := IsPart.raw pl
  obtain ⟨u, rfl, hu⟩ := IsPart.raw pu
  obtain ⟨st, rfl, hs⟩ := IsPart.raw ps
  show wpAny (model X.prog X.w) X.A (subscriptTail e (.Slice none none (some (.UnaryOp .USub (.Constant (.int 1) k p1) p2)) p3) (.str z t) (.ref s4.heap.objs.size)) (EP X pins σ Q) X.xe { s4 with heap := s4.heap.push { cls := .type "slice", data := .fields #[partValue l, partValue u, partValue st] } }
  refine PyProof.Rows.tail_any (ops := [.ref s4.heap.objs.size, .str z t]) (typeIs_str _ _ _) (F.slot_str_getitem.lookup) ?_ (by with_unfolding_all rfl)
  have hl' : l = none := by cases l with | none => rfl | some x => cases hl
  have hu' : u = none := by cases u with | none => rfl | some x => cases hu
  subst hl' hu'
  obtain ⟨⟨i, ti⟩, rfl⟩ : ∃ p, st = some p := by cases st with | none => cases hs | some p => exact ⟨p, rfl⟩
  have hi : i = -1 := by simpa using hs
  subst hi
  refine wpAny_getItem_str_slice (l := none) (u := none) (st := some (-1, ti)) (by first | exact hso | exact ⟨_, hso.1, hso.2⟩) rfl ?_
  have hlen : (⟨((Builtin.Str.strSliceIndices none none (-1) z.length).filterMap (z.cps[·]?)).toArray⟩ : Str).length ≤ sizeLine := by
    rw [rev_pick]; show (revT z).length ≤ _; rw [revT_length]; exact hz
  show Made.post (if ((-1 : Int) == 1 && (Builtin.Str.strSliceIndices none none (-1) z.length).length == z.length) = true then Made.val (.str z t)
    else Made.str ⟨((Builtin.Str.strSliceIndices none none (-1) z.length).filterMap (z.cps[·]?)).toArray⟩) (EP X pins σ Q) _
  rw [if_neg (by rw [show ((-1 : Int) == 1) = false from rfl, Bool.false_and]; exact Bool.false_ne_true)]
  refine ⟨hlen, .str _, H4, I5.tok _, ⟨_, rfl⟩, ?_⟩
  rw [rev_pick]; exact q
def dRevS (d : DE) : DE := fun ρ Q => d ρ fun x ρ1 => match x with
  | .str z => Q (.str (revT z)) ρ1
  | _ => False
theorem ex_revS {e : Expr} {d : DE} {k : Nat} {p1 p2 p3 : Pos} (he : EX X e d) : EX X (.Subscript e (.Slice none none (some (.UnaryOp .USub (.Constant (.int 1) k p1) p2)) p3) pos) (dRevS d) := by
  refine .mk' (pe_revS he.run) fun fr F σ H ρ Q R ok hd k => ?_
  refine sndE d fr F σ H ρ _ _ ok hd fun v H1 x ρ1 F1 f1 ok1 r1 h1 => ?_
  cases r1 with
  | str z hz => exact ⟨z, rfl, hz.1, k _ _ _ _ _ f1 ok1 (.str _ (sok_rev hz)) h1⟩
  | _ => exact h1.elim
/-- one sign in a text -/
def inSQ : D2 := fun x y Q => match x, y with
  | .str c, .str z => match c.cps.toList with
    | [n] => Q (.bl (decide (n ∈ z.cps.toList)))
    | _ => False
  | _, _ => False
theorem snd_inS : SndO (fun x y H Q => ∃ (c : Nat) (z : Str), x = .str ⟨#[c]⟩ ∧ y = .str z ∧ Q (.bl (decide (c ∈ z.cps.toList))) H) inSQ := by
  intro fr F H σ ρ x y p q Q R ok rx ry h k
  cases rx with
  | str c hc => cases ry with
    | str z hz =>
      have h : (match c.cps.toList with | [n] => Q (.bl (decide (n ∈ z.cps.toList))) | _ => False) := h
      cases e : c.cps.toList with
      | nil => rw [e] at h; exact h.elim
      | cons n r =>
        cases r with
        | cons _ _ => rw [e] at h; exact h.elim
        | nil =>
          rw [e] at h
          have ec : c = ⟨#[n]⟩ := by
            obtain ⟨cs⟩ := c
            have e : cs.toList = [n] := e
            have : cs = #[n] := by rw [← Array.toArray_toList (xs := cs), e]
            rw [this]
          exact ⟨n, z, by rw [ec], rfl, k _ _ _ _ (FLe.refl F) ok (.bl _) h⟩
    | _ => exact h.elim
  | _ => cases ry <;> exact h.elim
end
end PL

set_option Elab.async false
set_option linter.all false
set_option maxRecDepth 100000
set_option maxHeartbeats 4000000
/-! text.index, text.replace, text.partition, text.endswith, text.split -/
namespace PL
open PySem PySem.Spec L2 PyProof.Rows
section
variable {X : Cx} {pos : Pos}
/-- a text's method of one text -/
def dM1 (d : Str → Str → (PV → Prop) → Prop) (dx dy : DE) : DE := fun ρ Q => dx ρ fun x ρ1 => isS x = true ∧ dy ρ1 fun y ρ2 => match x, y with
  | .str a, .str b => d a b fun z => Q z ρ2
  | _, _ => False
/-- no new object: a rule on two texts -/
theorem m1_snd {r : V → List V → Hp → VK → Prop} {d : Str → Str → (PV → Prop) → Prop} {dx dy : DE} (hr : ∀ (fr : Fr) (F H : Hp) (σ : L2.St) (ρ : Rho) (a b : Str) (Q : PV → Prop) (R : VK), StOk fr F H σ ρ → Sok a → Sok b → d a b Q → (∀ v H' z F', FLe F F' → StOk fr F' H' σ ρ → Rep fr F' v z → Q z → R v H') → r (.str a) [.str b] H R) :
    SndE (tM1 r (wE dx) (wE dy)) (dM1 d dx dy) := by
  intro fr F σ H ρ Q R ok hd k
  refine sndE dx fr F σ H ρ _ _ ok hd fun v H1 x ρ1 F1 f1 ok1 r1 h1 => ?_
  obtain ⟨h0, h1⟩ := h1
  cases r1 with
  | str a ha =>
    refine ⟨⟨a, rfl⟩, sndE dy fr F1 σ H1 ρ1 _ _ ok1 h1 fun w H2 y ρ2 F2 f2 ok2 r2 h2 => ?_⟩
    cases r2 with
    | str b hb => exact hr fr F2 H2 σ ρ2 a b _ _ ok2 ha hb h2 fun v H3 z F3 f3 ok3 r3 q => k _ _ _ _ _ ((f1.trans f2).trans f3) ok3 r3 q
    | _ => exact h2.elim
  | _ => cases h0
def idxQ (a b : Str) (Q : PV → Prop) : Prop := ∃ i rest, Builtin.Str.occurrences a b 0 a.length 1 = i :: rest ∧ Q (.int (i : Nat))
theorem ex_sindex {o e : Expr} {dx dy : DE} {apos : Pos} (ho : EX X o dx) (he : EX X e dy) (hs : starEach [e] X.env = [(false, eval e X.env)] := by rfl) (hbase : attributeBase o "index" X.env (eval o X.env) = eval o X.env := by rfl) (hline : (apos.endLine == pos.line) = true := by rfl) :
    EX X (.Call (.Attribute o "index" apos) [e] [] pos) (dM1 idxQ dx dy) := by
  refine .mk' (pe_m1 F.slot_str_index F.type_str_index mt_sindex ho.run he.run hs hbase hline) (m1_snd fun fr F H σ ρ a b Q R ok ha hb hd k => ?_)
  obtain ⟨i, rest, e, q⟩ := hd
  exact ⟨a, b, i, rest, rfl, rfl, e, k _ _ _ _ (FLe.refl F) ok (.int _) q⟩
def endsQ (a b : Str) (Q : PV → Prop) : Prop := Q (.bl (Txt.endswith a b))
theorem ex_sends {o e : Expr} {dx dy : DE} {apos : Pos} (ho : EX X o dx) (he : EX X e dy) (hs : starEach [e] X.env = [(false, eval e X.env)] := by rfl) (hbase : attributeBase o "endswith" X.env (eval o X.env) = eval o X.env := by rfl) (hline : (apos.endLine == pos.line) = true := by rfl) :
    EX X (.Call (.Attribute o "endswith" apos) [e] [] pos) (dM1 endsQ dx dy) := by
  refine .mk' (pe_m1 F.slot_str_endswith F.type_str_endswith mt_endswith ho.run he.run hs hbase hline) (m1_snd fun fr F H σ ρ a b Q R ok ha hb hd k => ?_)
  exact ⟨a, b, rfl, rfl, k _ _ _ _ (FLe.refl F) ok (.bl _) hd⟩
end
end PL

set_option Elab.async false
set_option linter.all false
set_option maxRecDepth 100000
set_option maxHeartbeats 4000000
/-! two names at once, one of them with a new object of its own; a comprehension's list of one's own -/
namespace PL
open PySem PySem.Spec L2
section
variable {X : Cx} {pos : Pos}
def dParO (i j : Nat) (da db : DE) : DS := fun PD ρ => da ρ fun p ρ1 => db ρ1 fun q ρ2 => PD.nx ((ρ2.set i (.own p)).set j (.val q))
def dParV (i j : Nat) (da db : DE) : DS := fun PD ρ => da ρ fun p ρ1 => db ρ1 fun q ρ2 => PD.nx ((ρ2.set i (.val p)).set j (.own q))
theorem StOk.hold {fr : Fr} {F H : Hp} {σ : St} {ρ : Rho} (x : StOk fr F H σ ρ) {a : Addr} {o : HO} (hF : F a = none) (hd : ¬ fr.dom a) (hH : H a = some o) (hn : ∀ j, ¬ OwnAt σ ρ j a) :
    ∃ (S : Hp) (hS : ∀ b, S b ≠ none → ¬ fr.dom b), StOk (fr.plus S hS) F H σ ρ ∧ ∀ {F2 H2 σ2 ρ2}, StOk (fr.plus S hS) F2 H2 σ2 ρ2 → StOk fr F2 H2 σ2 ρ2 ∧ H2 a = some o ∧ F2 a = none ∧ ∀ j, ¬ OwnAt σ2 ρ2 j a := by
  have hSD : ∀ b, (upd (fun _ => none) a o : Hp) b ≠ none → b = a := fun b h => Classical.byContradiction fun z => h (upd_ne z)
  have hS : ∀ b, (upd (fun _ => none) a o : Hp) b ≠ none → ¬ fr.dom b := fun b h => by rw [hSD b h]; exact hd
  refine ⟨upd (fun _ => none) a o, hS, x.plus (fun b u h => ?_) (fun b h => by rw [hSD b h]; exact hF) (fun b h j q => hn j (hSD b h ▸ q)), fun {F2 H2 σ2 ρ2} ok => ?_⟩
  · have z := hSD b (by rw [h]; simp)
    subst z
    rw [upd_same] at h
    rw [← h]; exact hH
  · obtain ⟨a1, b1, c1, d1⟩ := ok.minus
    have hD : (upd (fun _ => none) a o : Hp) a ≠ none := by rw [upd_same]; simp
    exact ⟨a1, b1 a _ upd_same, c1 a hD, d1 a hD⟩
theorem sx_parO (i j : Nat) {x y : Str} {a b : Expr} {da db : DE} {px py pt : Pos} {kt k2 pt2} (hc : X.calm = true) (hN : X.N.Nodup) (ha : NX X a da) (hb : EX X b db) (hi : X.N[i]? = some x := by rfl) (hj : X.N[j]? = some y := by rfl) (hij : i ≠ j := by decide)
    (hx : X.env.scope.names.lookup x = some .local := by rfl) (hy : X.env.scope.names.lookup y = some .local := by rfl)
    (h1 : starEach [a, b] X.env = (false, eval a X.env) :: starEach [b] X.env := by rfl) (h2 : starEach [b] X.env = (false, eval b X.env) :: starEach [] X.env := by rfl)
    (hw : swappedStores [.Tuple [.Name x px, .Name y py] kt pt] (.Tuple [a, b] k2 pt2) X.env = pure (some [x, y]) := by rfl)
    (hs : swapsWithSole [.Tuple [.Name x px, .Name y py] kt pt] (.Tuple [a, b] k2 pt2) pos.line X.env = pure false := by rfl) :
    SX X (.Assign [.Tuple [.Name x px, .Name y py] kt pt] (.Tuple [a, b] k2 pt2) pos) (dParO i j da db) := by
  refine .mk' (ps_par hc hN hi hj hij hx hy (pa_cons ha.run (pa_cons hb.run pa_nil h2) h1) hw hs) fun fr F σ H ρ PD D ok hd k => ?_
  show wN da σ H fun x H1 => wE db σ H1 fun y H2 => ∃ u v, [x, y] = [u, v] ∧ D.nx ((σ.set i (some u)).set j (some v)) H2
  refine sndN da fr F σ H ρ _ _ ok hd fun ad o H1 p ρ1 F1 f1 ok1 n1 n2 e1 r1 n3 h1 => ?_
  obtain ⟨S, hS, okp, back⟩ := ok1.hold n1 n2 e1 n3
  refine sndE db (fr.plus S hS) F1 σ H1 ρ1 _ _ okp h1 fun v H2 q ρ2 F2 f2 ok2 r2 h2 => ?_
  obtain ⟨o2, e2, nF, no⟩ := back ok2
  exact ⟨_, _, rfl, k.nx _ _ _ _ (f1.trans f2) ((o2.setOwn i nF n2 e2 (r1.up f2) no).set r2.minus j) h2⟩
theorem sx_parV (i j : Nat) {x y : Str} {a b : Expr} {da db : DE} {px py pt : Pos} {kt k2 pt2} (hc : X.calm = true) (hN : X.N.Nodup) (ha : EX X a da) (hb : NX X b db) (hi : X.N[i]? = some x := by rfl) (hj : X.N[j]? = some y := by rfl) (hij : i ≠ j := by decide)
    (hx : X.env.scope.names.lookup x = some .local := by rfl) (hy : X.env.scope.names.lookup y = some .local := by rfl)
    (h1 : starEach [a, b] X.env = (false, eval a X.env) :: starEach [b] X.env := by rfl) (h2 : starEach [b] X.env = (false, eval b X.env) :: starEach [] X.env := by rfl)
    (hw : swappedStores [.Tuple [.Name x px, .Name y py] kt pt] (.Tuple [a, b] k2 pt2) X.env = pure (some [x, y]) := by rfl)
    (hs : swapsWithSole [.Tuple [.Name x px, .Name y py] kt pt] (.Tuple [a, b] k2 pt2) pos.line X.env = pure false := by rfl) :
    SX X (.Assign [.Tuple [.Name x px, .Name y py] kt pt] (.Tuple [a, b] k2 pt2) pos) (dParV i j da db) := by
  refine .mk' (ps_par hc hN hi hj hij hx hy (pa_cons ha.run (pa_cons hb.run pa_nil h2) h1) hw hs) fun fr F σ H ρ PD D ok hd k => ?_
  show wE da σ H fun x H1 => wN db σ H1 fun y H2 => ∃ u v, [x, y] = [u, v] ∧ D.nx ((σ.set i (some u)).set j (some v)) H2
  refine sndE da fr F σ H ρ _ _ ok hd fun v H1 p ρ1 F1 f1 ok1 r1 h1 => ?_
  refine sndN db fr F1 σ H1 ρ1 _ _ ok1 h1 fun ad o H2 q ρ2 F2 f2 ok2 n1 n2 e2 r2 n3 h2 => ?_
  have okS := ok2.set (r1.up f2) i
  refine ⟨_, _, rfl, k.nx _ _ _ _ (f1.trans f2) (okS.setOwn j n1 n2 e2 r2 fun l q => ?_) h2⟩
  obtain ⟨⟨pp, g1⟩, g2⟩ := q
  by_cases hl : i = l
  · subst hl
    by_cases hi' : i < ρ2.length
    · rw [List.getElem?_set_self hi'] at g1; cases g1
    · rw [List.getElem?_eq_none (by simpa using hi')] at g1; cases g1
  · rw [List.getElem?_set_ne hl] at g1 g2
    exact n3 l ⟨⟨pp, g1⟩, g2⟩
end
end PL

set_option Elab.async false
set_option linter.all false
set_option maxRecDepth 100000
set_option maxHeartbeats 4000000
/-! draws, picks; counts, steps, masks as they are checked -/
namespace PL
open PySem PySem.Spec L2

/-! ### the draw -/
def p__law_draw (K : PySem.W.Frag) : PSp := fun as Q => ∃ (ns : List Int) (m : Int), as = [.scr K ns, .town, .int m] ∧ 0 < m ∧ m < 1073741824 ∧ ∀ k : Int, 0 ≤ k → k < m → Q (.int k)
theorem m__law_draw {K : PySem.W.Frag} : MonoP (p__law_draw K) := fun _ _ _ h ⟨ns, m, e, a, b, q⟩ => ⟨ns, m, e, a, b, fun k h1 h2 => h _ (q k h1 h2)⟩
def d__law_draw (K : PySem.W.Frag) : DS := (dSeq (dIfS (dB (dOp (cmpQ fun i j => decide (j < i)) (dTwn (dVar 1) (dC (.int 1))) (dC (.int 0)))) (dSeq (dSet 3 (dOp modQ (dTwn (dVar 1) (dC (.int 1))) (dVar 2))) (dSeq (dTwnSet (dVar 1)
      (dC (.int 1)) (dOp fdivQ (dTwn (dVar 1) (dC (.int 1))) (dVar 2))) (dRet (dVar 3)))) dNext) (dSeq (dSet 4 (dTwn (dVar 1) (dC (.int 0)))) (dSeq (dTwnAug (dVar 1) (dC (.int 0)) (dC (.int 1))) (dSeq (dIfS (dScrE K (dVar 0)) (dRet
      (dOp modQ (dVar 4) (dVar 2))) dNext) (dSeq (dIfS (dAnd (dB (dOp (cmpQ fun i j => decide (i < j)) (dVar 4) (dScrL K (dVar 0)))) (dB (dOp (cmpQ fun i j => decide (j ≤ i)) (dScrX K (dVar 0) (dVar 4)) (dOp powQ (dC (.int 10)) (dC
      (.int 18)))))) (dSeq (dTwnSet (dVar 1) (dC (.int 1)) (dOp modQ (dOp fdivQ (dScrX K (dVar 0) (dVar 4)) (dVar 2)) (dOp mulQ (dOp powQ (dC (.int 10)) (dC (.int 60))) (dOp powQ (dC (.int 10)) (dC (.int 60)))))) (dRet (dOp modQ (dScrX
      K (dVar 0) (dVar 4)) (dVar 2)))) dNext) (dSeq (dSet 5 (dOp modQ (dOp addQ (dOp addQ (dOp mulQ (dScrX K (dVar 0) (dOp modQ (dVar 4) (dScrL K (dVar 0)))) (dC (.int 1103515245))) (dOp mulQ (dC (.int 7919)) (dVar 4))) (dC (.int
      12345))) (dC (.int 2147483647)))) (dRet (dOp modQ (dOp modQ (dOp modQ (dOp powQ (dVar 5) (dC (.int 5))) (dC (.int 2147483647))) (dC (.int 999983))) (dVar 2)))))))))
theorem atI_some {ns : List Int} {i : Int} (h0 : 0 ≤ i) (h1 : i < ns.length) : ∃ n, L2.atI ns i = some n := by
  have e : ixN ns.length i = some i.toNat := by
    unfold ixN
    simp only [h0, h1]
    try simp
    try omega
  unfold L2.atI
  rw [e]
  exact ⟨ns[i.toNat]'(by omega), List.getElem?_eq_getElem (by omega)⟩
theorem mulQ_int (i j : Int) (Q : PV → Prop) : mulQ (.int i) (.int j) Q = (IntMulOk i j ∧ Q (.int (i * j))) := rfl
theorem addQ_int (i j : Int) (Q : PV → Prop) : addQ (.int i) (.int j) Q = Q (.int (i + j)) := rfl
theorem h__law_draw {K : PySem.W.Frag} : ∀ (as : List PV) (post : PV → Prop), as.length = 3 → p__law_draw K as post → d__law_draw K (endsOf post) (startR 6 as) := by
  rintro as post _ ⟨ns, m, rfl, h0, h1, q⟩
  show d__law_draw K _ [.val (.scr K ns), .val .town, .val (.int m), .un, .un, .un]
  simp only [d__law_draw, dSeq, dNext, dIfS, dRet, dRetN, dSet, dOwn, dVar, dC, dOp, dB, dChain, dAnd, dOr, dNot, dAndV, dOrV, dNotV, dIf, dNil, dCons, dTup, dLst, dDrop, dgName, dgNil, dgCons, dgTup, dAsg, dPar, dPar3, dParO, dParV, dAug, dCall, dBi, dIsi, dInS, dSl, doNone, doSome, dRevL, dRevS, dM1, dRg1, dListOf, dJoin, dNeg, dApp, dExt, dSetIx, endsOf, dFor, dIt, dZip, dEnum, dRange1, dRange2, itemsQ, dLc, wipeR, dTwn, dTwnSet, dTwnAug, dScrE, dScrL, dScrX, List.getElem?_cons_zero, List.getElem?_cons_succ, List.set_cons_zero, List.set_cons_succ, List.length_cons, List.length_nil, if_true, if_false, Bool.true_eq_false, Bool.false_eq_true, if_pos, ite_true, ite_false, reduceIte, true_and, and_true, true_or, or_true, PV.scr.injEq, PV.int.injEq, PV.bl.injEq, PV.str.injEq, PV.lst.injEq, PV.tup.injEq, exists_eq_left, exists_eq_left', exists_eq_right, exists_eq_right', reduceCtorEq, or_false, false_or, forall_const, Nat.zero_le, Bool.not_true, Bool.not_false, decide_true, decide_false, cmpQ, modQ, fdivQ, intQ, powQ, mulQ_int, addQ_int]
  have fin : ∀ z : Int, 0 < m ∧ post (.int (z % m)) := fun z => ⟨h0, q _ (Int.emod_nonneg _ (by omega)) (Int.emod_lt_of_pos _ h0)⟩
  have mix : ∀ n : Int, 0 ≤ n → ns ≠ [] → 0 < (ns.length : Int) ∧ ∃ (ns_1 : List Int) (i : Int) (n_1 : Int), ns = ns_1 ∧ n % (ns.length : Int) = i ∧ L2.atI ns_1 i = some n_1 ∧ IntMulOk n_1 1103515245 ∧ IntMulOk 7919 n ∧ (0 : Int) < 2147483647 ∧
      CPow ((n_1 * 1103515245 + 7919 * n + 12345) % 2147483647) 5 ∧ (0 : Int) < 2147483647 ∧ (0 : Int) < 999983 ∧ 0 < m ∧ post (.int (((n_1 * 1103515245 + 7919 * n + 12345) % 2147483647) ^ Int.toNat 5 % 2147483647 % 999983 % m)) := fun n hn hne => by
    have hl : 0 < (ns.length : Int) := by
      cases ns with
      | nil => exact absurd rfl hne
      | cons x r => rw [List.length_cons]; omega
    obtain ⟨v, hv⟩ := atI_some (ns := ns) (i := n % ns.length) (Int.emod_nonneg _ (by omega)) (Int.emod_lt_of_pos _ hl)
    have b1 := Int.emod_nonneg (v * 1103515245 + 7919 * n + 12345) (show (2147483647 : Int) ≠ 0 by decide)
    have b2 := Int.emod_lt_of_pos (v * 1103515245 + 7919 * n + 12345) (show (0 : Int) < 2147483647 by decide)
    exact ⟨hl, ns, _, v, rfl, rfl, hv, CMul.ok (.inr (by constructor <;> decide)), CMul.ok (.inl (by constructor <;> decide)), by decide, ⟨by decide, by decide, by omega⟩, by decide, by decide, fin _⟩
  intro n hn
  split
  · exact fun n _ => ⟨h0, fun k hk => ⟨⟨h0, h1⟩, Int.ediv_nonneg hk (by omega), (fin n).2⟩⟩
  · intro n hn
    refine ⟨by decide, ?_⟩
    split
    · exact fin n
    · rename_i hne
      have hne : ns ≠ [] := fun z => hne (by rw [z]; rfl)
      split
      · rename_i hlt
        have hlt := of_decide_eq_true hlt
        obtain ⟨v, hv⟩ := atI_some hn hlt
        refine ⟨ns, n, v, rfl, rfl, hv, ⟨by decide, by decide, by decide⟩, ?_⟩
        split
        · have e0 : (0 : Int) < 10 ^ Int.toNat 60 * 10 ^ Int.toNat 60 := by decide +kernel
          exact ⟨ns, n, v, rfl, rfl, hv, ⟨h0, h1⟩, ⟨by decide, by decide, by decide⟩, ⟨by decide, by decide, by decide⟩, CMulX.ok (by unfold CMulX; decide +kernel), e0, Int.emod_nonneg _ (by omega), ns, n, v, rfl, rfl, hv, fin v⟩
        · exact mix n hn hne
      · exact mix n hn hne

theorem atI_get {α : Type} {xs : List α} {i : Int} (h0 : 0 ≤ i) (h1 : i < xs.length) : ∃ x, x ∈ xs ∧ L2.atI xs i = some x := by
  have e : ixN xs.length i = some i.toNat := by
    unfold ixN
    rw [if_pos h0, if_pos h1]
  unfold L2.atI
  rw [e]
  exact ⟨xs[i.toNat]'(by omega), List.getElem_mem _, List.getElem?_eq_getElem (by omega)⟩
/-! ### the pick -/
def pickQ (s : PV) (Q : PV → Prop) : Prop := match s with
  | .lst xs => 0 < xs.length ∧ xs.length < 1073741824 ∧ ∀ x ∈ xs, Q x
  | .tup xs => 0 < xs.length ∧ xs.length < 1073741824 ∧ ∀ x ∈ xs, Q x
  | .str z => 0 < z.cps.toList.length ∧ z.cps.toList.length < 1073741824 ∧ ∀ c ∈ z.cps.toList, Q (.str ⟨#[c]⟩)
  | _ => False
def p__law_pick (K : PySem.W.Frag) : PSp := fun as Q => ∃ (ns : List Int) (s : PV), as = [.scr K ns, .town, s] ∧ pickQ s Q
theorem m__law_pick {K : PySem.W.Frag} : MonoP (p__law_pick K) := fun _ _ _ h ⟨ns, s, e, q⟩ => ⟨ns, s, e, by
  cases s <;> first | exact q.elim | exact ⟨q.1, q.2.1, fun x hx => h _ (q.2.2 x hx)⟩⟩
def d__law_pick (K : PySem.W.Frag) : DS := (dRet (dOp ixQ (dVar 2) (dCall 3 (p__law_draw K) (dCons (dVar 0) (dCons (dVar 1) (dCons (dBi lenQ (dCons (dVar 2) dNil)) dNil))))))
theorem h__law_pick {K : PySem.W.Frag} : ∀ (as : List PV) (post : PV → Prop), as.length = 3 → p__law_pick K as post → d__law_pick K (endsOf post) (startR 3 as) := by
  rintro as post _ ⟨ns, s, rfl, q⟩
  show d__law_pick K _ [.val (.scr K ns), .val .town, .val s]
  simp only [d__law_pick, dSeq, dNext, dIfS, dRet, dRetN, dSet, dOwn, dVar, dC, dOp, dB, dChain, dAnd, dOr, dNot, dAndV, dOrV, dNotV, dIf, dNil, dCons, dTup, dLst, dDrop, dgName, dgNil, dgCons, dgTup, dAsg, dPar, dPar3, dParO, dParV, dAug, dCall, dBi, dIsi, dInS, dSl, doNone, doSome, dRevL, dRevS, dM1, dRg1, dListOf, dJoin, dNeg, dApp, dExt, dSetIx, endsOf, dFor, dIt, dZip, dEnum, dRange1, dRange2, itemsQ, dLc, wipeR, dTwn, dTwnSet, dTwnAug, dScrE, dScrL, dScrX, List.getElem?_cons_zero, List.getElem?_cons_succ, List.set_cons_zero, List.set_cons_succ, List.length_cons, List.length_nil, if_true, if_false, Bool.true_eq_false, Bool.false_eq_true, if_pos, ite_true, ite_false, reduceIte, true_and, and_true, true_or, or_true, PV.scr.injEq, PV.int.injEq, PV.bl.injEq, PV.str.injEq, PV.lst.injEq, PV.tup.injEq, exists_eq_left, exists_eq_left', exists_eq_right, exists_eq_right', reduceCtorEq, or_false, false_or, forall_const, Nat.zero_le, Bool.not_true, Bool.not_false, decide_true, decide_false]
  have go : ∀ n : Nat, 0 < n → n < 1073741824 → (∀ k : Int, 0 ≤ k → k < n → ixQ s (.int k) post) → p__law_draw K [.scr K ns, .town, .int n] fun r => ixQ s r post := fun n h0 h1 h => ⟨ns, n, rfl, by omega, by omega, h⟩
  cases s with
  | lst xs =>
    refine go _ q.1 q.2.1 fun k h0 h1 => ?_
    obtain ⟨x, hx, e⟩ := atI_get h0 h1
    show (match L2.atI xs k with | some v => post v | none => False)
    rw [e]; exact q.2.2 x hx
  | tup xs =>
    refine go _ q.1 q.2.1 fun k h0 h1 => ?_
    obtain ⟨x, hx, e⟩ := atI_get h0 h1
    show (match L2.atI xs k with | some v => post v | none => False)
    rw [e]; exact q.2.2 x hx
  | str z =>
    refine go z.cps.toList.length q.1 q.2.1 fun k h0 h1 => ?_
    obtain ⟨x, hx, e⟩ := atI_get h0 h1
    show (match L2.atI z.cps.toList k with | some v => post (.str ⟨#[v]⟩) | none => False)
    rw [e]; exact q.2.2 x hx
  | _ => exact q.elim
/-! ### what a count, a step, a mask is -/
def cntB (a b : Int) : PV → Bool
  | .int v => decide (a ≤ v) && decide (v ≤ b)
  | _ => false
/-- plain values -/
def PV.plain : PV → Bool
  | .non => true
  | .bl _ => true
  | .int _ => true
  | .str _ => true
  | .tup _ => true
  | .lst _ => true
  | _ => false
theorem plain_of_dat : ∀ {n : Nat} {p : PV}, p.dat n = true → p.plain = true := fun {n p} h => by
  cases p <;> first | rfl | (cases n <;> simp [PV.dat] at h)
theorem kit_int : kitB "NoneType" "int" = some false ∧ kitB "bool" "int" = some true ∧ kitB "int" "int" = some true ∧ kitB "str" "int" = some false ∧ kitB "tuple" "int" = some false ∧ kitB "list" "int" = some false := by decide +kernel
theorem kit_bool : kitB "NoneType" "bool" = some false ∧ kitB "bool" "bool" = some true ∧ kitB "int" "bool" = some false ∧ kitB "str" "bool" = some false ∧ kitB "tuple" "bool" = some false ∧ kitB "list" "bool" = some false := by decide +kernel
theorem kit_str : kitB "NoneType" "str" = some false ∧ kitB "bool" "str" = some false ∧ kitB "int" "str" = some false ∧ kitB "str" "str" = some true ∧ kitB "tuple" "str" = some false ∧ kitB "list" "str" = some false := by decide +kernel
theorem kit_tup : kitB "NoneType" "tuple" = some false ∧ kitB "bool" "tuple" = some false ∧ kitB "int" "tuple" = some false ∧ kitB "str" "tuple" = some false ∧ kitB "tuple" "tuple" = some true ∧ kitB "list" "tuple" = some false := by decide +kernel
def isIntB : PV → Bool
  | .int _ => true
  | .bl _ => true
  | _ => false
def isBlB : PV → Bool
  | .bl _ => true
  | _ => false
def isTupB : PV → Bool
  | .tup _ => true
  | _ => false
theorem isi_int {p : PV} (h : p.plain = true) (Q : PV → Prop) : isiQ "int" p Q = Q (.bl (isIntB p)) := by
  obtain ⟨a, b, c, d, e, f⟩ := kit_int
  cases p <;> first | (simp only [isiQ, isiB, a, b, c, d, e, f, isIntB]; done) | (simp [PV.plain] at h; done)
theorem isi_bool {p : PV} (h : p.plain = true) (Q : PV → Prop) : isiQ "bool" p Q = Q (.bl (isBlB p)) := by
  obtain ⟨a, b, c, d, e, f⟩ := kit_bool
  cases p <;> first | (simp only [isiQ, isiB, a, b, c, d, e, f, isBlB]; done) | (simp [PV.plain] at h; done)
theorem isi_str {p : PV} (h : p.plain = true) (Q : PV → Prop) : isiQ "str" p Q = Q (.bl (isS p)) := by
  obtain ⟨a, b, c, d, e, f⟩ := kit_str
  cases p <;> first | (simp only [isiQ, isiB, a, b, c, d, e, f, isS]; done) | (simp [PV.plain] at h; done)
theorem isi_tup {p : PV} (h : p.plain = true) (Q : PV → Prop) : isiQ "tuple" p Q = Q (.bl (isTupB p)) := by
  obtain ⟨a, b, c, d, e, f⟩ := kit_tup
  cases p <;> first | (simp only [isiQ, isiB, a, b, c, d, e, f, isTupB]; done) | (simp [PV.plain] at h; done)
def p_is_count : PSp := fun as Q => ∃ (v : PV) (a b : Int), as = [v, .int a, .int b] ∧ v.plain = true ∧ Q (.bl (cntB a b v))
theorem m_is_count : MonoP p_is_count := fun _ _ _ h ⟨v, a, b, e, z, q⟩ => ⟨v, a, b, e, z, h _ q⟩
def d_is_count : DS := (dRet (dAndV (dIsi "int" (dVar 0)) (dAndV (dNotV (dIsi "bool" (dVar 0))) (dChain (cmpQ fun i j => decide (i ≤ j)) (cmpQ fun i j => decide (i ≤ j)) (dVar 1) (dVar 0) (dVar 2)))))
theorem h_is_count : ∀ (as : List PV) (post : PV → Prop), as.length = 3 → p_is_count as post → d_is_count (endsOf post) (startR 3 as) := by
  rintro as post _ ⟨v, a, b, rfl, z, q⟩
  show d_is_count _ [.val v, .val (.int a), .val (.int b)]
  simp only [d_is_count, dSeq, dNext, dIfS, dRet, dRetN, dSet, dOwn, dVar, dC, dOp, dB, dChain, dAnd, dOr, dNot, dAndV, dOrV, dNotV, dIf, dNil, dCons, dTup, dLst, dDrop, dgName, dgNil, dgCons, dgTup, dAsg, dPar, dPar3, dParO, dParV, dAug, dCall, dBi, dIsi, dInS, dSl, doNone, doSome, dRevL, dRevS, dM1, dRg1, dListOf, dJoin, dNeg, dApp, dExt, dSetIx, endsOf, dFor, dIt, dZip, dEnum, dRange1, dRange2, itemsQ, dLc, wipeR, dTwn, dTwnSet, dTwnAug, dScrE, dScrL, dScrX, List.getElem?_cons_zero, List.getElem?_cons_succ, List.set_cons_zero, List.set_cons_succ, List.length_cons, List.length_nil, if_true, if_false, Bool.true_eq_false, Bool.false_eq_true, if_pos, ite_true, ite_false, reduceIte, true_and, and_true, true_or, or_true, PV.scr.injEq, PV.int.injEq, PV.bl.injEq, PV.str.injEq, PV.lst.injEq, PV.tup.injEq, exists_eq_left, exists_eq_left', exists_eq_right, exists_eq_right', reduceCtorEq, or_false, false_or, forall_const, Nat.zero_le, Bool.not_true, Bool.not_false, decide_true, decide_false, isi_int z, isi_bool z]
  cases v with
  | int i =>
    simp only [isIntB, isBlB, List.getElem?_cons_zero, List.getElem?_cons_succ, List.set_cons_zero, List.set_cons_succ, List.length_cons, List.length_nil, if_true, if_false, Bool.true_eq_false, Bool.false_eq_true, if_pos, ite_true, ite_false, reduceIte, true_and, and_true, true_or, or_true, PV.scr.injEq, PV.int.injEq, PV.bl.injEq, PV.str.injEq, PV.lst.injEq, PV.tup.injEq, exists_eq_left, exists_eq_left', exists_eq_right, exists_eq_right', reduceCtorEq, or_false, false_or, forall_const, Nat.zero_le, Bool.not_true, Bool.not_false, decide_true, decide_false, cmpQ, Bool.not_false]
    have q : post (.bl (decide (a ≤ i) && decide (i ≤ b))) := q
    split
    · rename_i h
      rw [show decide (a ≤ i) = true from h] at q
      exact q
    · rename_i h
      rw [show decide (a ≤ i) = false from Bool.eq_false_iff.mpr h] at q
      exact q
  | bl x => exact q
  | non => exact q
  | str x => exact q
  | tup x => exact q
  | lst x => exact q
  | _ => cases z
end PL

set_option Elab.async false
set_option linter.all false
set_option maxRecDepth 100000
set_option maxHeartbeats 4000000
/-! steps and masks -/
namespace PL
open PySem PySem.Spec L2

abbrev sRev : Str := Str.ofString "reverse"
abbrev NAMES : List Str := [(Str.ofString "keep_first"), (Str.ofString "keep_last"), (Str.ofString "hide_first"), (Str.ofString "hide_last"), (Str.ofString "cut_first"), (Str.ofString "cut_last"), (Str.ofString "squeeze"), (Str.ofString "short")]
/-! ### equality of values in use -/
theorem eqQ_int (i j : Int) (Q : PV → Prop) : eqQ (.int i) (.int j) Q = Q (.bl (decide (i = j))) := by
  unfold eqQ
  simp only [PV.dat, true_and, PV.eqv, PV.toD, PyData.eqv]
  rw [show (i == j) = decide (i = j) from rfl]
theorem eqQ_str (x y : Str) (Q : PV → Prop) : eqQ (.str x) (.str y) Q = Q (.bl (decide (x = y))) := by
  unfold eqQ
  simp only [PV.dat, true_and, PV.eqv, PV.toD, PyData.eqv]
  have e : (x == y) = decide (x = y) := by
    by_cases h : x = y
    · subst h; rw [decide_eq_true rfl]; exact beq_self_eq_true _
    · rw [decide_eq_false h]; exact beq_eq_false_iff_ne.mpr h
  rw [e]
theorem neQ_int (i j : Int) (Q : PV → Prop) : neQ (.int i) (.int j) Q = Q (.bl (!decide (i = j))) := by
  unfold neQ
  simp only [PV.dat, true_and, PV.eqv, PV.toD, PyData.eqv]
  rw [show (i == j) = decide (i = j) from rfl]
theorem neQ_str (x y : Str) (Q : PV → Prop) : neQ (.str x) (.str y) Q = Q (.bl (!decide (x = y))) := by
  unfold neQ
  simp only [PV.dat, true_and, PV.eqv, PV.toD, PyData.eqv]
  have e : (x == y) = decide (x = y) := by
    by_cases h : x = y
    · subst h; rw [decide_eq_true rfl]; exact beq_self_eq_true _
    · rw [decide_eq_false h]; exact beq_eq_false_iff_ne.mpr h
  rw [e]
theorem eqQ_nil (xs : List PV) (h : dats 15 xs = true) (Q : PV → Prop) : eqQ (.tup xs) (.tup []) Q = Q (.bl xs.isEmpty) := by
  unfold eqQ
  simp only [PV.dat, h, true_and, PV.eqv, PV.toD, PyData.eqv, dats, toDs]
  cases xs <;> simp [toDs, PyData.eqvAll]
theorem ixQ_0 (x : PV) (r : List PV) (Q : PV → Prop) : ixQ (.tup (x :: r)) (.int 0) Q = Q x := by
  show (match L2.atI (x :: r) 0 with | some v => Q v | none => False) = _
  have e : L2.atI (x :: r) 0 = some x := by
    unfold L2.atI ixN
    rw [if_pos (by decide), if_pos (by rw [List.length_cons]; omega)]
    rfl
  rw [e]
theorem ixQ_1 (x y : PV) (r : List PV) (Q : PV → Prop) : ixQ (.tup (x :: y :: r)) (.int 1) Q = Q y := by
  show (match L2.atI (x :: y :: r) 1 with | some v => Q v | none => False) = _
  have e : L2.atI (x :: y :: r) 1 = some y := by
    unfold L2.atI ixN
    rw [if_pos (by decide), if_pos (by rw [List.length_cons, List.length_cons]; omega)]
    rfl
  rw [e]
theorem ixQ_2 (x y z : PV) (r : List PV) (Q : PV → Prop) : ixQ (.tup (x :: y :: z :: r)) (.int 2) Q = Q z := by
  show (match L2.atI (x :: y :: z :: r) 2 with | some v => Q v | none => False) = _
  have e : L2.atI (x :: y :: z :: r) 2 = some z := by
    unfold L2.atI ixN
    rw [if_pos (by decide), if_pos (by rw [List.length_cons, List.length_cons, List.length_cons]; omega)]
    rfl
  rw [e]
/-! ### is_step -/
def oneB (z : Str) : List PV → Bool
  | [v] => NAMES.contains z && cntB 0 5 v
  | _ => false
def stepB : PV → Bool
  | .tup (.str z :: r) => if z = sRev then r.isEmpty else oneB z r
  | _ => false
def p_is_step : PSp := fun as Q => ∃ v : PV, as = [v] ∧ v.dat 16 = true ∧ Q (.bl (stepB v))
theorem m_is_step : MonoP p_is_step := fun _ _ _ h ⟨v, e, z, q⟩ => ⟨v, e, z, h _ q⟩
def d_is_step : DS := (dSeq (dIfS (dOr (dNot (dB (dIsi "tuple" (dVar 0)))) (dOr (dB (dOp eqQ (dVar 0) (dTup dNil))) (dNot (dB (dIsi "str" (dOp ixQ (dVar 0) (dC (.int 0)))))))) (dRet (dC (.bl false))) dNext) (dSeq (dIfS (dB (dOp eqQ
      (dOp ixQ (dVar 0) (dC (.int 0))) (dC (.str (Str.ofString "reverse"))))) (dRet (dOp eqQ (dBi lenQ (dCons (dVar 0) dNil)) (dC (.int 1)))) dNext) (dRet (dAndV (dOp eqQ (dBi lenQ (dCons (dVar 0) dNil)) (dC (.int 2))) (dAndV (dInS
      [(Str.ofString "keep_first"), (Str.ofString "keep_last"), (Str.ofString "hide_first"), (Str.ofString "hide_last"), (Str.ofString "cut_first"), (Str.ofString "cut_last"), (Str.ofString "squeeze"), (Str.ofString "short")] (dOp ixQ
      (dVar 0) (dC (.int 0)))) (dCall 3 p_is_count (dCons (dOp ixQ (dVar 0) (dC (.int 1))) (dCons (dC (.int 0)) (dCons (dC (.int 5)) dNil)))))))))
theorem h_is_step : ∀ (as : List PV) (post : PV → Prop), as.length = 1 → p_is_step as post → d_is_step (endsOf post) (startR 1 as) := by
  rintro as post _ ⟨v, rfl, z, q⟩
  show d_is_step _ [.val v]
  have zp := plain_of_dat z
  simp only [d_is_step, dSeq, dNext, dIfS, dRet, dRetN, dSet, dOwn, dVar, dC, dOp, dB, dChain, dAnd, dOr, dNot, dAndV, dOrV, dNotV, dIf, dNil, dCons, dTup, dLst, dDrop, dgName, dgNil, dgCons, dgTup, dAsg, dPar, dPar3, dParO, dParV, dAug, dCall, dBi, dIsi, dInS, dSl, doNone, doSome, dRevL, dRevS, dM1, dRg1, dListOf, dJoin, dNeg, dApp, dExt, dSetIx, endsOf, dFor, dIt, dZip, dEnum, dRange1, dRange2, itemsQ, dLc, wipeR, dTwn, dTwnSet, dTwnAug, dScrE, dScrL, dScrX, List.getElem?_cons_zero, List.getElem?_cons_succ, List.set_cons_zero, List.set_cons_succ, List.length_cons, List.length_nil, if_true, if_false, Bool.true_eq_false, Bool.false_eq_true, if_pos, ite_true, ite_false, reduceIte, true_and, and_true, true_or, or_true, PV.scr.injEq, PV.int.injEq, PV.bl.injEq, PV.str.injEq, PV.lst.injEq, PV.tup.injEq, exists_eq_left, exists_eq_left', exists_eq_right, exists_eq_right', reduceCtorEq, or_false, false_or, forall_const, Nat.zero_le, Bool.not_true, Bool.not_false, decide_true, decide_false, isi_tup zp]
  cases v with
  | tup xs =>
    have zd : dats 15 xs = true := by simpa [PV.dat] using z
    simp only [isTupB, Bool.not_true, List.getElem?_cons_zero, List.getElem?_cons_succ, List.set_cons_zero, List.set_cons_succ, List.length_cons, List.length_nil, if_true, if_false, Bool.true_eq_false, Bool.false_eq_true, if_pos, ite_true, ite_false, reduceIte, true_and, and_true, true_or, or_true, PV.scr.injEq, PV.int.injEq, PV.bl.injEq, PV.str.injEq, PV.lst.injEq, PV.tup.injEq, exists_eq_left, exists_eq_left', exists_eq_right, exists_eq_right', reduceCtorEq, or_false, false_or, forall_const, Nat.zero_le, Bool.not_true, Bool.not_false, decide_true, decide_false, eqQ_nil xs zd]
    cases xs with
    | nil => simpa [stepB] using q
    | cons x r =>
      have zx : x.plain = true := by
        rw [dats, Bool.and_eq_true] at zd
        exact plain_of_dat zd.1
      simp only [List.isEmpty_cons, List.getElem?_cons_zero, List.getElem?_cons_succ, List.set_cons_zero, List.set_cons_succ, List.length_cons, List.length_nil, if_true, if_false, Bool.true_eq_false, Bool.false_eq_true, if_pos, ite_true, ite_false, reduceIte, true_and, and_true, true_or, or_true, PV.scr.injEq, PV.int.injEq, PV.bl.injEq, PV.str.injEq, PV.lst.injEq, PV.tup.injEq, exists_eq_left, exists_eq_left', exists_eq_right, exists_eq_right', reduceCtorEq, or_false, false_or, forall_const, Nat.zero_le, Bool.not_true, Bool.not_false, decide_true, decide_false, ixQ_0, isi_str zx, lenQ]
      cases x with
      | str x =>
        simp only [isS, Bool.not_true, List.getElem?_cons_zero, List.getElem?_cons_succ, List.set_cons_zero, List.set_cons_succ, List.length_cons, List.length_nil, if_true, if_false, Bool.true_eq_false, Bool.false_eq_true, if_pos, ite_true, ite_false, reduceIte, true_and, and_true, true_or, or_true, PV.scr.injEq, PV.int.injEq, PV.bl.injEq, PV.str.injEq, PV.lst.injEq, PV.tup.injEq, exists_eq_left, exists_eq_left', exists_eq_right, exists_eq_right', reduceCtorEq, or_false, false_or, forall_const, Nat.zero_le, Bool.not_true, Bool.not_false, decide_true, decide_false, eqQ_str, eqQ_int]
        have q : post (.bl (if x = sRev then r.isEmpty else oneB x r)) := q
        by_cases hx : x = sRev
        · rw [if_pos hx] at q
          rw [if_pos (decide_eq_true hx)]
          cases r with
          | nil => exact q
          | cons y r =>
            simp only [List.length_cons]
            rw [show decide ((((r.length + 1 + 1 : Nat)) : Int) = 1) = false from decide_eq_false (by omega)]; exact q
        · rw [if_neg hx] at q
          rw [if_neg (by rw [decide_eq_true_eq]; exact hx)]
          cases r with
          | nil => exact q
          | cons v r =>
            have zv : v.plain = true := by
              simp only [dats, Bool.and_eq_true] at zd
              exact plain_of_dat zd.2.1
            cases r with
            | nil =>
              simp only [List.length_cons, List.length_nil, ixQ_1]
              simp only [show decide ((((0 + 1 + 1 : Nat)) : Int) = 2) = true from rfl, if_true]
              have q : post (.bl (NAMES.contains x && cntB 0 5 v)) := q
              show (if NAMES.contains x = true then _ else _)
              by_cases hc : NAMES.contains x = true
              · rw [if_pos hc]
                rw [hc] at q
                exact ⟨v, 0, 5, rfl, zv, q⟩
              · rw [if_neg hc]
                rw [Bool.eq_false_iff.mpr hc] at q
                exact q
            | cons b r =>
              simp only [List.length_cons]
              simp only [show decide ((((r.length + 1 + 1 + 1 : Nat)) : Int) = 2) = false from decide_eq_false (by omega), Bool.false_eq_true, if_false]
              exact q
      | _ => first | exact q | exact absurd zx (by simp [PV.plain])
  | _ => first | exact q | exact absurd zp (by simp [PV.plain])
/-! ### comprehensions in which each turn gives one value -/
theorem lcLoop_map {g : DG} {tt : DT} {te : DE} {vs : List Nat} {ρ : Rho} {f : PV → PV} : ∀ {xs : List PV} {Q : List PV → Prop}, (∀ x ∈ xs, ∀ P : List PV → Prop, P [f x] → g x ρ fun ρ2 => tt ρ2 fun b ρ3 => if b = true then te ρ3 fun y ρ4 => wipeR ρ4 vs = ρ ∧ P [y] else wipeR ρ3 vs = ρ ∧ P []) → Q (xs.map f) → lcLoop g tt te vs ρ xs Q
  | [], _, _, q => q
  | x :: xs, Q, h, q => by
    have h1 := h x List.mem_cons_self (fun ys => lcLoop g tt te vs ρ xs fun zs => Q (ys ++ zs)) (lcLoop_map (fun y hy => h y (List.mem_cons_of_mem _ hy)) q)
    exact h1
/-! ### is_mask -/
def maskB : PV → Bool
  | .tup xs => decide (xs.length ≤ 4) && xs.all stepB
  | _ => false
def p_is_mask : PSp := fun as Q => ∃ v : PV, as = [v] ∧ v.dat 17 = true ∧ Q (.bl (maskB v))
theorem m_is_mask : MonoP p_is_mask := fun _ _ _ h ⟨v, e, z, q⟩ => ⟨v, e, z, h _ q⟩
def d_is_mask : DS := (dRet (dAndV (dIsi "tuple" (dVar 0)) (dAndV (dOp (cmpQ fun i j => decide (i ≤ j)) (dBi lenQ (dCons (dVar 0) dNil)) (dC (.int 4))) (dBi allQ (dCons (dLc (dIt (dVar 0)) (dgName 1) dYes (dCall 1 p_is_step (dCons
      (dVar 1) dNil)) [1]) dNil)))))
theorem blsOf_map : ∀ (xs : List PV) (f : PV → Bool), blsOf (xs.map fun x => .bl (f x)) = some (xs.map f)
  | [], _ => rfl
  | x :: xs, f => by
    show (blsOf (xs.map fun x => .bl (f x))).map (f x :: ·) = _
    rw [blsOf_map xs f]; rfl
theorem dats_mem {n : Nat} : ∀ {xs : List PV} {x : PV}, dats n xs = true → x ∈ xs → x.dat n = true
  | y :: ys, x, h, hx => by
    rw [dats, Bool.and_eq_true] at h
    rcases List.mem_cons.mp hx with rfl | hx
    · exact h.1
    · exact dats_mem h.2 hx
theorem h_is_mask : ∀ (as : List PV) (post : PV → Prop), as.length = 1 → p_is_mask as post → d_is_mask (endsOf post) (startR 2 as) := by
  rintro as post _ ⟨v, rfl, z, q⟩
  show d_is_mask _ [.val v, .un]
  have zp := plain_of_dat z
  simp only [d_is_mask, dSeq, dNext, dIfS, dRet, dRetN, dSet, dOwn, dVar, dC, dOp, dB, dChain, dAnd, dOr, dNot, dAndV, dOrV, dNotV, dIf, dNil, dCons, dTup, dLst, dDrop, dgName, dgNil, dgCons, dgTup, dAsg, dPar, dPar3, dParO, dParV, dAug, dCall, dBi, dIsi, dInS, dSl, doNone, doSome, dRevL, dRevS, dM1, dRg1, dListOf, dJoin, dNeg, dApp, dExt, dSetIx, endsOf, dFor, dIt, dZip, dEnum, dRange1, dRange2, itemsQ, dLc, wipeR, dTwn, dTwnSet, dTwnAug, dScrE, dScrL, dScrX, List.getElem?_cons_zero, List.getElem?_cons_succ, List.set_cons_zero, List.set_cons_succ, List.length_cons, List.length_nil, if_true, if_false, Bool.true_eq_false, Bool.false_eq_true, if_pos, ite_true, ite_false, reduceIte, true_and, and_true, true_or, or_true, PV.scr.injEq, PV.int.injEq, PV.bl.injEq, PV.str.injEq, PV.lst.injEq, PV.tup.injEq, exists_eq_left, exists_eq_left', exists_eq_right, exists_eq_right', reduceCtorEq, or_false, false_or, forall_const, Nat.zero_le, Bool.not_true, Bool.not_false, decide_true, decide_false, isi_tup zp]
  cases v with
  | tup xs =>
    have zd : dats 16 xs = true := by simpa [PV.dat] using z
    simp only [isTupB, List.getElem?_cons_zero, List.getElem?_cons_succ, List.set_cons_zero, List.set_cons_succ, List.length_cons, List.length_nil, if_true, if_false, Bool.true_eq_false, Bool.false_eq_true, if_pos, ite_true, ite_false, reduceIte, true_and, and_true, true_or, or_true, PV.scr.injEq, PV.int.injEq, PV.bl.injEq, PV.str.injEq, PV.lst.injEq, PV.tup.injEq, exists_eq_left, exists_eq_left', exists_eq_right, exists_eq_right', reduceCtorEq, or_false, false_or, forall_const, Nat.zero_le, Bool.not_true, Bool.not_false, decide_true, decide_false, lenQ, cmpQ]
    have q : post (.bl (decide (xs.length ≤ 4) && xs.all stepB)) := q
    by_cases hl : xs.length ≤ 4
    · rw [decide_eq_true hl] at q
      rw [if_pos (by rw [decide_eq_true_eq]; omega)]
      refine ⟨fun i hi s hs => ?_, Nat.le_trans hl (by decide), lcLoop_map (f := fun x => .bl (stepB x)) (fun x hx P hP => ?_) ?_⟩
      · have e : i = 1 := by simpa using hi
        subst e
        simp only [List.getElem?_cons_zero, List.getElem?_cons_succ, List.set_cons_zero, List.set_cons_succ, List.length_cons, List.length_nil, if_true, if_false, Bool.true_eq_false, Bool.false_eq_true, if_pos, ite_true, ite_false, reduceIte, true_and, and_true, true_or, or_true, PV.scr.injEq, PV.int.injEq, PV.bl.injEq, PV.str.injEq, PV.lst.injEq, PV.tup.injEq, exists_eq_left, exists_eq_left', exists_eq_right, exists_eq_right', reduceCtorEq, or_false, false_or, forall_const, Nat.zero_le, Bool.not_true, Bool.not_false, decide_true, decide_false, Option.some.injEq] at hs
        subst hs; rfl
      · simp only [dYes, if_true]
        exact ⟨rfl, x, rfl, dats_mem zd hx, rfl, hP⟩
      · simp only [allQ]
        rw [blsOf_map]
        simpa using q
    · rw [decide_eq_false hl] at q
      rw [if_neg (by rw [decide_eq_true_eq]; omega)]
      exact q
  | _ => first | exact q | exact absurd zp (by simp [PV.plain])
def p_need_mask : PSp := fun as Q => ∃ v : PV, as = [v] ∧ v.dat 17 = true ∧ maskB v = true ∧ Q .non
theorem m_need_mask : MonoP p_need_mask := fun _ _ _ h ⟨v, e, z, y, q⟩ => ⟨v, e, z, y, h _ q⟩
def d_need_mask : DS := (dIfS (dNot (dB (dCall 1 p_is_mask (dCons (dVar 0) dNil)))) dNever dNext)
theorem h_need_mask : ∀ (as : List PV) (post : PV → Prop), as.length = 1 → p_need_mask as post → d_need_mask (endsOf post) (startR 1 as) := by
  rintro as post _ ⟨v, rfl, z, y, q⟩
  show d_need_mask _ [.val v]
  simp only [d_need_mask, dSeq, dNext, dIfS, dRet, dRetN, dSet, dOwn, dVar, dC, dOp, dB, dChain, dAnd, dOr, dNot, dAndV, dOrV, dNotV, dIf, dNil, dCons, dTup, dLst, dDrop, dgName, dgNil, dgCons, dgTup, dAsg, dPar, dPar3, dParO, dParV, dAug, dCall, dBi, dIsi, dInS, dSl, doNone, doSome, dRevL, dRevS, dM1, dRg1, dListOf, dJoin, dNeg, dApp, dExt, dSetIx, endsOf, dFor, dIt, dZip, dEnum, dRange1, dRange2, itemsQ, dLc, wipeR, dTwn, dTwnSet, dTwnAug, dScrE, dScrL, dScrX, List.getElem?_cons_zero, List.getElem?_cons_succ, List.set_cons_zero, List.set_cons_succ, List.length_cons, List.length_nil, if_true, if_false, Bool.true_eq_false, Bool.false_eq_true, if_pos, ite_true, ite_false, reduceIte, true_and, and_true, true_or, or_true, PV.scr.injEq, PV.int.injEq, PV.bl.injEq, PV.str.injEq, PV.lst.injEq, PV.tup.injEq, exists_eq_left, exists_eq_left', exists_eq_right, exists_eq_right', reduceCtorEq, or_false, false_or, forall_const, Nat.zero_le, Bool.not_true, Bool.not_false, decide_true, decide_false]
  refine ⟨v, rfl, z, ?_⟩
  rw [y]
  exact q
/-! ### typed steps and masks -/
inductive Kd where
  | kf | kl | hf | hl | cf | cl | sq | sh
  deriving DecidableEq
inductive Step where
  | rev
  | st (k : Kd) (n : Nat)
  deriving DecidableEq
abbrev Mask := List Step
def Kd.str : Kd → Str
  | .kf => Str.ofString "keep_first"
  | .kl => Str.ofString "keep_last"
  | .hf => Str.ofString "hide_first"
  | .hl => Str.ofString "hide_last"
  | .cf => Str.ofString "cut_first"
  | .cl => Str.ofString "cut_last"
  | .sq => Str.ofString "squeeze"
  | .sh => Str.ofString "short"
def encStep : Step → PV
  | .rev => .tup [.str sRev]
  | .st k n => .tup [.str k.str, .int n]
def encM (m : Mask) : PV := .tup (m.map encStep)
def Step.num : Step → Nat
  | .rev => 0
  | .st _ n => n
def OkM (m : Mask) : Prop := m.length ≤ 4 ∧ ∀ s ∈ m, s.num ≤ 5
instance (m : Mask) : Decidable (OkM m) := by unfold OkM; exact inferInstance
theorem kd_names (k : Kd) : NAMES.contains k.str = true ∧ k.str ≠ sRev := by cases k <;> decide +kernel
theorem stepB_enc {s : Step} (h : s.num ≤ 5) : stepB (encStep s) = true := by
  cases s with
  | rev => simp [encStep, stepB]
  | st k n =>
    have h : n ≤ 5 := h
    show (if k.str = sRev then _ else NAMES.contains k.str && (decide ((0 : Int) ≤ (n : Int)) && decide ((n : Int) ≤ 5))) = true
    rw [if_neg (kd_names k).2, (kd_names k).1, decide_eq_true (by omega), decide_eq_true (by omega)]; rfl
theorem step_dat (s : Step) (n : Nat) : (encStep s).dat (n + 1) = true := by
  cases s <;> simp [encStep, PV.dat, dats]
theorem steps_dat (n : Nat) : ∀ m : Mask, dats (n + 1) (m.map encStep) = true
  | [] => rfl
  | s :: m => by rw [List.map_cons, dats, step_dat, steps_dat n m]; rfl
theorem mask_dat (m : Mask) (n : Nat) : (encM m).dat (n + 2) = true := by
  unfold encM; rw [PV.dat]; exact steps_dat n m
theorem maskB_enc {m : Mask} (h : OkM m) : maskB (encM m) = true := by
  show (decide ((m.map encStep).length ≤ 4) && (m.map encStep).all stepB) = true
  rw [List.length_map, decide_eq_true h.1, Bool.true_and, List.all_map, List.all_eq_true]
  exact fun s hs => stepB_enc (h.2 s hs)
end PL

set_option Elab.async false
set_option linter.all false
set_option maxRecDepth 100000
set_option maxHeartbeats 4000000
/-! rows: hidden, squeezed, a step, a template -/
namespace PL
open PySem PySem.Spec L2

abbrev Row := List (Option Nat)
def encO : Option Nat → PV
  | none => .non
  | some n => .int n
def encR (r : Row) : PV := .lst (r.map encO)
def encT (r : Row) : PV := .tup (r.map encO)
/-- the places a .. b - 1 starred, from place i on -/
def hid (a b : Int) : Nat → Row → Row
  | _, [] => []
  | i, x :: r => (if a ≤ (i : Int) ∧ (i : Int) < b then none else x) :: hid a b (i + 1) r
theorem hid_length (a b : Int) : ∀ (r : Row) (i : Nat), (hid a b i r).length = r.length
  | [], _ => rfl
  | x :: r, i => by rw [hid, List.length_cons, hid_length a b r, List.length_cons]
def p_hidden : PSp := fun as Q => ∃ (r : Row) (a b : Int), as = [encR r, .int a, .int b] ∧ r.length ≤ sizeLine ∧ Q (encR (hid a b 0 r))
theorem m_hidden : MonoP p_hidden := fun _ _ _ h ⟨v, a, b, e, z, q⟩ => ⟨v, a, b, e, z, h _ q⟩
def d_hidden : DS := (dRet (dLc (dEnum (dCons (dVar 0) dNil)) (dgTup 2 (dgCons (dgName 3) (dgCons (dgName 4) dgNil))) dYes (dIf (dB (dChain (cmpQ fun i j => decide (i ≤ j)) (cmpQ fun i j => decide (i < j)) (dVar 1) (dVar 3) (dVar
      2))) (dC .non) (dVar 4)) [3, 4]))
theorem enumP_mem : ∀ {xs : List PV} {j : Nat} {p : PV}, p ∈ enumP j xs → ∃ (i : Nat) (x : PV), x ∈ xs ∧ p = .tup [.int i, x]
  | x :: xs, j, p, h => by
    rw [enumP] at h
    rcases List.mem_cons.mp h with rfl | h
    · exact ⟨j, x, List.mem_cons_self, rfl⟩
    · obtain ⟨i, y, hy, e⟩ := enumP_mem h
      exact ⟨i, y, List.mem_cons_of_mem _ hy, e⟩
def hidF (a b : Int) : PV → PV
  | .tup [.int i, x] => if a ≤ i ∧ i < b then .non else x
  | p => p
theorem hidF_map (a b : Int) : ∀ (r : Row) (i : Nat), (enumP i (r.map encO)).map (hidF a b) = (hid a b i r).map encO
  | [], _ => rfl
  | x :: r, i => by
    rw [List.map_cons, enumP, List.map_cons, hidF_map a b r (i + 1), hid, List.map_cons]
    congr 1
    show (if a ≤ (i : Int) ∧ (i : Int) < b then PV.non else encO x) = _
    split <;> rfl
theorem h_hidden : ∀ (as : List PV) (post : PV → Prop), as.length = 3 → p_hidden as post → d_hidden (endsOf post) (startR 5 as) := by
  rintro as post _ ⟨r, a, b, rfl, z, q⟩
  show d_hidden _ [.val (encR r), .val (.int a), .val (.int b), .un, .un]
  simp only [d_hidden, dSeq, dNext, dIfS, dRet, dRetN, dSet, dOwn, dVar, dC, dOp, dB, dChain, dAnd, dOr, dNot, dAndV, dOrV, dNotV, dIf, dNil, dCons, dTup, dLst, dDrop, dgName, dgNil, dgCons, dgTup, dAsg, dPar, dPar3, dParO, dParV, dAug, dCall, dBi, dIsi, dInS, dSl, doNone, doSome, dRevL, dRevS, dM1, dRg1, dListOf, dJoin, dNeg, dApp, dExt, dSetIx, endsOf, dFor, dIt, dZip, dEnum, dRange1, dRange2, itemsQ, dLc, wipeR, dTwn, dTwnSet, dTwnAug, dScrE, dScrL, dScrX, List.getElem?_cons_zero, List.getElem?_cons_succ, List.set_cons_zero, List.set_cons_succ, List.length_cons, List.length_nil, if_true, if_false, Bool.true_eq_false, Bool.false_eq_true, if_pos, ite_true, ite_false, reduceIte, true_and, and_true, true_or, or_true, PV.scr.injEq, PV.int.injEq, PV.bl.injEq, PV.str.injEq, PV.lst.injEq, PV.tup.injEq, exists_eq_left, exists_eq_left', exists_eq_right, exists_eq_right', reduceCtorEq, or_false, false_or, forall_const, Nat.zero_le, Bool.not_true, Bool.not_false, decide_true, decide_false, encR]
  refine ⟨fun i hi s hs => ?_, by rw [enumP_length, List.length_map]; exact z, lcLoop_map (f := hidF a b) (fun x hx P hP => ?_) ?_⟩
  · rcases List.mem_cons.mp hi with rfl | hi
    · simp only [List.getElem?_cons_zero, List.getElem?_cons_succ, List.set_cons_zero, List.set_cons_succ, List.length_cons, List.length_nil, if_true, if_false, Bool.true_eq_false, Bool.false_eq_true, if_pos, ite_true, ite_false, reduceIte, true_and, and_true, true_or, or_true, PV.scr.injEq, PV.int.injEq, PV.bl.injEq, PV.str.injEq, PV.lst.injEq, PV.tup.injEq, exists_eq_left, exists_eq_left', exists_eq_right, exists_eq_right', reduceCtorEq, or_false, false_or, forall_const, Nat.zero_le, Bool.not_true, Bool.not_false, decide_true, decide_false, Option.some.injEq] at hs; subst hs; rfl
    · rcases List.mem_cons.mp hi with rfl | hi
      · simp only [List.getElem?_cons_zero, List.getElem?_cons_succ, List.set_cons_zero, List.set_cons_succ, List.length_cons, List.length_nil, if_true, if_false, Bool.true_eq_false, Bool.false_eq_true, if_pos, ite_true, ite_false, reduceIte, true_and, and_true, true_or, or_true, PV.scr.injEq, PV.int.injEq, PV.bl.injEq, PV.str.injEq, PV.lst.injEq, PV.tup.injEq, exists_eq_left, exists_eq_left', exists_eq_right, exists_eq_right', reduceCtorEq, or_false, false_or, forall_const, Nat.zero_le, Bool.not_true, Bool.not_false, decide_true, decide_false, Option.some.injEq] at hs; subst hs; rfl
      · cases hi
  · obtain ⟨i, x, _, rfl⟩ := enumP_mem hx
    simp only [dYes, dSeq, dNext, dIfS, dRet, dRetN, dSet, dOwn, dVar, dC, dOp, dB, dChain, dAnd, dOr, dNot, dAndV, dOrV, dNotV, dIf, dNil, dCons, dTup, dLst, dDrop, dgName, dgNil, dgCons, dgTup, dAsg, dPar, dPar3, dParO, dParV, dAug, dCall, dBi, dIsi, dInS, dSl, doNone, doSome, dRevL, dRevS, dM1, dRg1, dListOf, dJoin, dNeg, dApp, dExt, dSetIx, endsOf, dFor, dIt, dZip, dEnum, dRange1, dRange2, itemsQ, dLc, wipeR, dTwn, dTwnSet, dTwnAug, dScrE, dScrL, dScrX, List.getElem?_cons_zero, List.getElem?_cons_succ, List.set_cons_zero, List.set_cons_succ, List.length_cons, List.length_nil, if_true, if_false, Bool.true_eq_false, Bool.false_eq_true, if_pos, ite_true, ite_false, reduceIte, true_and, and_true, true_or, or_true, PV.scr.injEq, PV.int.injEq, PV.bl.injEq, PV.str.injEq, PV.lst.injEq, PV.tup.injEq, exists_eq_left, exists_eq_left', exists_eq_right, exists_eq_right', reduceCtorEq, or_false, false_or, forall_const, Nat.zero_le, Bool.not_true, Bool.not_false, decide_true, decide_false, cmpQ]
    have hP : P [if a ≤ (i : Int) ∧ (i : Int) < b then .non else x] := hP
    by_cases h1 : a ≤ (i : Int)
    · rw [if_pos (decide_eq_true h1)]
      by_cases h2 : (i : Int) < b
      · rw [if_pos ⟨h1, h2⟩] at hP; simp only [decide_eq_true h2, List.getElem?_cons_zero, List.getElem?_cons_succ, List.set_cons_zero, List.set_cons_succ, List.length_cons, List.length_nil, if_true, if_false, Bool.true_eq_false, Bool.false_eq_true, if_pos, ite_true, ite_false, reduceIte, true_and, and_true, true_or, or_true, PV.scr.injEq, PV.int.injEq, PV.bl.injEq, PV.str.injEq, PV.lst.injEq, PV.tup.injEq, exists_eq_left, exists_eq_left', exists_eq_right, exists_eq_right', reduceCtorEq, or_false, false_or, forall_const, Nat.zero_le, Bool.not_true, Bool.not_false, decide_true, decide_false]; exact hP
      · rw [if_neg (fun h => h2 h.2)] at hP; simp only [decide_eq_false h2, List.getElem?_cons_zero, List.getElem?_cons_succ, List.set_cons_zero, List.set_cons_succ, List.length_cons, List.length_nil, if_true, if_false, Bool.true_eq_false, Bool.false_eq_true, if_pos, ite_true, ite_false, reduceIte, true_and, and_true, true_or, or_true, PV.scr.injEq, PV.int.injEq, PV.bl.injEq, PV.str.injEq, PV.lst.injEq, PV.tup.injEq, exists_eq_left, exists_eq_left', exists_eq_right, exists_eq_right', reduceCtorEq, or_false, false_or, forall_const, Nat.zero_le, Bool.not_true, Bool.not_false, decide_true, decide_false]; exact hP
    · rw [if_neg (by rw [decide_eq_true_eq]; exact h1)]
      rw [if_neg (fun h => h1 h.1)] at hP; exact hP
  · rw [hidF_map]; exact q
/-! ### squeezed -/
/-- runs of stars to c stars; pv: a star stood before -/
def sqz (c : Nat) : Bool → Row → Row
  | _, [] => []
  | _, some x :: r => some x :: sqz c false r
  | pv, none :: r => (if pv = true then [] else List.replicate c none) ++ sqz c true r
theorem sqz_length {c : Nat} (hc : c ≤ 5) : ∀ (r : Row) (pv : Bool), (sqz c pv r).length ≤ 5 * r.length
  | [], _ => Nat.zero_le _
  | some x :: r, pv => by
    rw [sqz, List.length_cons, List.length_cons]
    have := sqz_length hc r false
    omega
  | none :: r, pv => by
    rw [sqz, List.length_append, List.length_cons]
    have := sqz_length hc r true
    split
    · simp only [List.length_nil]; omega
    · rw [List.length_replicate]; omega
def p_squeezed : PSp := fun as Q => ∃ (r : Row) (c : Nat), as = [encR r, .int c] ∧ r.length ≤ 1000000 ∧ c ≤ 5 ∧ Q (encR (sqz c false r))
theorem m_squeezed : MonoP p_squeezed := fun _ _ _ h ⟨v, a, e, z, y, q⟩ => ⟨v, a, e, z, y, h _ q⟩
def bd_squeezed_0 : DS := (dIfS (dB (dOp notNQ (dVar 4) (dC .non))) (dApp 2 (dVar 4)) (dIfS (dOr (dB (dOp eqQ (dVar 3) (dC (.int 0)))) (dB (dOp notNQ (dOp ixQ (dVar 0) (dOp (int0Q fun i j => i - j) (dVar 3) (dC (.int 1)))) (dC
      .non)))) (dExt 2 (dOp repQ (dLst (dCons (dC .non) dNil)) (dVar 1))) dNext))
theorem ebd_squeezed_0 (PD : PEnds) (ρ : Rho) : bd_squeezed_0 PD ρ = (dIfS (dB (dOp notNQ (dVar 4) (dC .non))) (dApp 2 (dVar 4)) (dIfS (dOr (dB (dOp eqQ (dVar 3) (dC (.int 0)))) (dB (dOp notNQ (dOp ixQ (dVar 0) (dOp (int0Q fun i j
      => i - j) (dVar 3) (dC (.int 1)))) (dC .non)))) (dExt 2 (dOp repQ (dLst (dCons (dC .non) dNil)) (dVar 1))) dNext)) PD ρ := rfl
def d_squeezed : DS := (dSeq (dOwn 2 (dLst dNil)) (dSeq (dFor (dEnum (dCons (dVar 0) dNil)) (dgTup 2 (dgCons (dgName 3) (dgCons (dgName 4) dgNil))) bd_squeezed_0) (dRet (dVar 2))))
theorem eqQ_int0 (i : Int) (Q : PV → Prop) : eqQ (.int i) (.int 0) Q = Q (.bl (decide (i = 0))) := eqQ_int i 0 Q
theorem atI_nat {α : Type} (xs : List α) (i : Nat) : L2.atI xs (i : Int) = xs[i]? := by
  unfold L2.atI ixN
  rw [if_pos (by omega)]
  by_cases h : i < xs.length
  · rw [if_pos (by omega)]; rfl
  · rw [if_neg (by omega), List.getElem?_eq_none (by omega)]; rfl
theorem rep_flat {α : Type} (x : α) : ∀ n : Nat, (List.replicate n [x]).flatten = List.replicate n x
  | 0 => rfl
  | n + 1 => by rw [List.replicate_succ, List.flatten_cons, rep_flat x n, List.replicate_succ]; rfl
theorem big : (1000000 : Nat) * 10 ≤ sizeLine := by decide
/-- was the item before starred? -/
def prevS (r : Row) : Nat → Bool
  | 0 => false
  | i + 1 => r[i]? == some none
theorem sq_loop (r : Row) (c : Nat) (hr : r.length ≤ 1000000) (hc : c ≤ 5) (PD : PEnds) : ∀ (t : Row) (i : Nat) (s1 s2 : Slot) (acc : Row), r.drop i = t → acc.length ≤ 5 * i → (∀ s1 s2, PD.nx [.val (encR r), .val (.int c), .own (encR (acc ++ sqz c (prevS r i) t)), s1, s2]) →
    dLoop (dgTup 2 (dgCons (dgName 3) (dgCons (dgName 4) dgNil))) bd_squeezed_0 PD (enumP i (t.map encO)) [.val (encR r), .val (.int c), .own (encR acc), s1, s2]
  | [], i, s1, s2, acc, _, _, h => by
    have h := h s1 s2
    rw [sqz, List.append_nil] at h
    exact h
  | x :: t, i, s1, s2, acc, hd, ha, h => by
    have hi : i < r.length := by
      have := congrArg List.length hd
      rw [List.length_drop, List.length_cons] at this; omega
    have hx : r[i]? = some x := by
      have := congrArg List.head? hd
      rw [List.head?_drop] at this; simpa using this
    have hd2 : r.drop (i + 1) = t := by
      have := congrArg List.tail hd
      rw [List.tail_drop] at this; simpa using this
    have big := big
    rw [List.map_cons, enumP]
    show dgTup 2 _ _ _ _
    simp only [ebd_squeezed_0, dSeq, dNext, dIfS, dRet, dRetN, dSet, dOwn, dVar, dC, dOp, dB, dChain, dAnd, dOr, dNot, dAndV, dOrV, dNotV, dIf, dNil, dCons, dTup, dLst, dDrop, dgName, dgNil, dgCons, dgTup, dAsg, dPar, dPar3, dParO, dParV, dAug, dCall, dBi, dIsi, dInS, dSl, doNone, doSome, dRevL, dRevS, dM1, dRg1, dListOf, dJoin, dNeg, dApp, dExt, dSetIx, endsOf, dFor, dIt, dZip, dEnum, dRange1, dRange2, itemsQ, dLc, wipeR, dTwn, dTwnSet, dTwnAug, dScrE, dScrL, dScrX, List.getElem?_cons_zero, List.getElem?_cons_succ, List.set_cons_zero, List.set_cons_succ, List.length_cons, List.length_nil, if_true, if_false, Bool.true_eq_false, Bool.false_eq_true, if_pos, ite_true, ite_false, reduceIte, true_and, and_true, true_or, or_true, PV.scr.injEq, PV.int.injEq, PV.bl.injEq, PV.str.injEq, PV.lst.injEq, PV.tup.injEq, exists_eq_left, exists_eq_left', exists_eq_right, exists_eq_right', reduceCtorEq, or_false, false_or, forall_const, Nat.zero_le, Bool.not_true, Bool.not_false, decide_true, decide_false]
    cases x with
    | some n =>
      simp only [encO, notNQ, isNon, List.getElem?_cons_zero, List.getElem?_cons_succ, List.set_cons_zero, List.set_cons_succ, List.length_cons, List.length_nil, if_true, if_false, Bool.true_eq_false, Bool.false_eq_true, if_pos, ite_true, ite_false, reduceIte, true_and, and_true, true_or, or_true, PV.scr.injEq, PV.int.injEq, PV.bl.injEq, PV.str.injEq, PV.lst.injEq, PV.tup.injEq, exists_eq_left, exists_eq_left', exists_eq_right, exists_eq_right', reduceCtorEq, or_false, false_or, forall_const, Nat.zero_le, Bool.not_true, Bool.not_false, decide_true, decide_false, Bool.not_false, ownL, encR]
      refine ⟨by rw [List.length_map]; omega, ?_⟩
      have e : List.map encO acc ++ [PV.int n] = List.map encO (acc ++ [some n]) := by rw [List.map_append]; rfl
      rw [e]
      refine sq_loop r c hr hc PD t (i + 1) _ _ (acc ++ [some n]) hd2 (by rw [List.length_append, List.length_singleton]; omega) fun s1 s2 => ?_
      have h := h s1 s2
      rw [sqz] at h
      have hp : prevS r (i + 1) = false := by
        show (r[i]? == some none) = false
        rw [hx]; rfl
      rw [hp, List.append_assoc]; exact h
    | none =>
      have hp : prevS r (i + 1) = true := by
        show (r[i]? == some none) = true
        rw [hx]; rfl
      simp only [encO, notNQ, isNon, List.getElem?_cons_zero, List.getElem?_cons_succ, List.set_cons_zero, List.set_cons_succ, List.length_cons, List.length_nil, if_true, if_false, Bool.true_eq_false, Bool.false_eq_true, if_pos, ite_true, ite_false, reduceIte, true_and, and_true, true_or, or_true, PV.scr.injEq, PV.int.injEq, PV.bl.injEq, PV.str.injEq, PV.lst.injEq, PV.tup.injEq, exists_eq_left, exists_eq_left', exists_eq_right, exists_eq_right', reduceCtorEq, or_false, false_or, forall_const, Nat.zero_le, Bool.not_true, Bool.not_false, decide_true, decide_false, Bool.not_true, eqQ_int0, int0Q]
      have skip : prevS r i = true → dLoop (dgTup 2 (dgCons (dgName 3) (dgCons (dgName 4) dgNil))) bd_squeezed_0 PD (enumP (i + 1) (t.map encO)) [.val (encR r), .val (.int c), .own (encR acc), .val (.int i), .val .non] := fun hq => by
        refine sq_loop r c hr hc PD t (i + 1) _ _ acc hd2 (by omega) fun s1 s2 => ?_
        have h := h s1 s2
        rw [sqz, if_pos hq, List.nil_append] at h
        rw [hp]; exact h
      have put : prevS r i = false → (match (PV.lst (List.replicate (Int.toNat c) [PV.non]).flatten : PV) with | .lst qs => ownL [.val (encR r), .val (.int c), .own (encR acc), .val (.int i), .val .non] 2 fun ps => ps.length + qs.length ≤ sizeLine ∧ dLoop (dgTup 2 (dgCons (dgName 3) (dgCons (dgName 4) dgNil))) bd_squeezed_0 PD (enumP (i + 1) (t.map encO)) [.val (encR r), .val (.int c), .own (.lst (ps ++ qs)), .val (.int i), .val .non] | _ => False) := fun hq => by
        rw [rep_flat, Int.toNat_natCast]
        show (acc.map encO).length + (List.replicate c PV.non).length ≤ sizeLine ∧ _
        rw [List.length_map, List.length_replicate]
        refine ⟨by omega, ?_⟩
        have e : List.map encO acc ++ List.replicate c PV.non = List.map encO (acc ++ List.replicate c none) := by rw [List.map_append, List.map_replicate]; rfl
        rw [e]
        refine sq_loop r c hr hc PD t (i + 1) _ _ (acc ++ List.replicate c none) hd2 (by rw [List.length_append, List.length_replicate]; omega) fun s1 s2 => ?_
        have h := h s1 s2
        rw [sqz, if_neg (by rw [hq]; decide)] at h
        rw [hp, List.append_assoc]; exact h
      by_cases h0 : i = 0
      · subst h0
        rw [if_pos (by rw [decide_eq_true_eq]; rfl)]
        exact ⟨trivial, by decide, by omega, by omega, by simp only [List.length_singleton, Int.toNat_natCast]; omega, put rfl⟩
      · rw [if_neg (by rw [decide_eq_true_eq]; omega)]
        obtain ⟨j, rfl⟩ : ∃ j, i = j + 1 := ⟨i - 1, by omega⟩
        have hj : j < r.length := by omega
        have e : ((j + 1 : Nat) : Int) - 1 = (j : Int) := by omega
        rw [e]
        show (match L2.atI (r.map encO) (j : Int) with | some v => _ | none => False)
        rw [atI_nat, List.getElem?_map, List.getElem?_eq_getElem hj]
        cases ej : r[j] with
        | none =>
          simp only [Option.map_some, encO, Bool.not_true, List.getElem?_cons_zero, List.getElem?_cons_succ, List.set_cons_zero, List.set_cons_succ, List.length_cons, List.length_nil, if_true, if_false, Bool.true_eq_false, Bool.false_eq_true, if_pos, ite_true, ite_false, reduceIte, true_and, and_true, true_or, or_true, PV.scr.injEq, PV.int.injEq, PV.bl.injEq, PV.str.injEq, PV.lst.injEq, PV.tup.injEq, exists_eq_left, exists_eq_left', exists_eq_right, exists_eq_right', reduceCtorEq, or_false, false_or, forall_const, Nat.zero_le, Bool.not_true, Bool.not_false, decide_true, decide_false]
          exact skip (by show (r[j]? == some none) = true; rw [List.getElem?_eq_getElem hj, ej]; rfl)
        | some n =>
          simp only [Option.map_some, encO, Bool.not_false, List.getElem?_cons_zero, List.getElem?_cons_succ, List.set_cons_zero, List.set_cons_succ, List.length_cons, List.length_nil, if_true, if_false, Bool.true_eq_false, Bool.false_eq_true, if_pos, ite_true, ite_false, reduceIte, true_and, and_true, true_or, or_true, PV.scr.injEq, PV.int.injEq, PV.bl.injEq, PV.str.injEq, PV.lst.injEq, PV.tup.injEq, exists_eq_left, exists_eq_left', exists_eq_right, exists_eq_right', reduceCtorEq, or_false, false_or, forall_const, Nat.zero_le, Bool.not_true, Bool.not_false, decide_true, decide_false]
          exact ⟨trivial, by decide, by omega, by omega, by simp only [List.length_singleton, Int.toNat_natCast]; omega, put (by show (r[j]? == some none) = false; rw [List.getElem?_eq_getElem hj, ej]; rfl)⟩
theorem h_squeezed : ∀ (as : List PV) (post : PV → Prop), as.length = 2 → p_squeezed as post → d_squeezed (endsOf post) (startR 5 as) := by
  rintro as post _ ⟨r, c, rfl, hr, hc, q⟩
  show d_squeezed _ [.val (encR r), .val (.int c), .un, .un, .un]
  simp only [d_squeezed, dSeq, dNext, dIfS, dRet, dRetN, dSet, dOwn, dVar, dC, dOp, dB, dChain, dAnd, dOr, dNot, dAndV, dOrV, dNotV, dIf, dNil, dCons, dTup, dLst, dDrop, dgName, dgNil, dgCons, dgTup, dAsg, dPar, dPar3, dParO, dParV, dAug, dCall, dBi, dIsi, dInS, dSl, doNone, doSome, dRevL, dRevS, dM1, dRg1, dListOf, dJoin, dNeg, dApp, dExt, dSetIx, endsOf, dFor, dIt, dZip, dEnum, dRange1, dRange2, itemsQ, dLc, wipeR, dTwn, dTwnSet, dTwnAug, dScrE, dScrL, dScrX, List.getElem?_cons_zero, List.getElem?_cons_succ, List.set_cons_zero, List.set_cons_succ, List.length_cons, List.length_nil, if_true, if_false, Bool.true_eq_false, Bool.false_eq_true, if_pos, ite_true, ite_false, reduceIte, true_and, and_true, true_or, or_true, PV.scr.injEq, PV.int.injEq, PV.bl.injEq, PV.str.injEq, PV.lst.injEq, PV.tup.injEq, exists_eq_left, exists_eq_left', exists_eq_right, exists_eq_right', reduceCtorEq, or_false, false_or, forall_const, Nat.zero_le, Bool.not_true, Bool.not_false, decide_true, decide_false, encR]
  exact sq_loop r c hr hc _ r 0 _ _ [] rfl (Nat.zero_le _) fun s1 s2 => by
    simp only [List.getElem?_cons_zero, List.getElem?_cons_succ, List.set_cons_zero, List.set_cons_succ, List.length_cons, List.length_nil, if_true, if_false, Bool.true_eq_false, Bool.false_eq_true, if_pos, ite_true, ite_false, reduceIte, true_and, and_true, true_or, or_true, PV.scr.injEq, PV.int.injEq, PV.bl.injEq, PV.str.injEq, PV.lst.injEq, PV.tup.injEq, exists_eq_left, exists_eq_left', exists_eq_right, exists_eq_right', reduceCtorEq, or_false, false_or, forall_const, Nat.zero_le, Bool.not_true, Bool.not_false, decide_true, decide_false]
    exact q
end PL

set_option Elab.async false
set_option linter.all false
set_option maxRecDepth 100000
set_option maxHeartbeats 4000000
/-! a step, a template, a bound -/
namespace PL
open PySem PySem.Spec L2

theorem cutP_drop (xs : List PV) (n : Nat) : cutP xs (some n) none = xs.drop n := by
  unfold cutP
  rw [HT.sIx_nat, HT.sIx_none]
  by_cases h : n ≤ xs.length
  · rw [Nat.min_eq_left h, List.take_of_length_le (by rw [List.length_drop]; omega)]
  · rw [Nat.min_eq_right (by omega), List.drop_eq_nil_of_le (by omega : xs.length ≤ n), List.drop_eq_nil_of_le (Nat.le_refl _)]; simp
theorem cutP_take (xs : List PV) (n : Nat) : cutP xs none (some n) = xs.take n := by
  unfold cutP
  rw [HT.sIx_nat, HT.sIx_none, List.drop_zero, Nat.sub_zero]
  by_cases h : n ≤ xs.length
  · rw [Nat.min_eq_left h]
  · rw [Nat.min_eq_right (by omega), List.take_of_length_le (Nat.le_refl _), List.take_of_length_le (by omega)]
def stepped : Step → Row → Row
  | .rev, r => r.reverse
  | .st .kf n, r => hid n r.length 0 r
  | .st .kl n, r => hid 0 ((r.length : Int) - n) 0 r
  | .st .hf n, r => hid 0 n 0 r
  | .st .hl n, r => hid ((r.length : Int) - n) r.length 0 r
  | .st .cf n, r => r.drop n
  | .st .cl n, r => r.take (r.length - n)
  | .st .sq n, r => sqz n false r
  | .st .sh n, r => if r.length < n then List.replicate r.length none else r
theorem stepped_length {s : Step} (h : s.num ≤ 5) (r : Row) : (stepped s r).length ≤ 5 * r.length := by
  cases s with
  | rev => rw [stepped, List.length_reverse]; omega
  | st k n =>
    cases k <;> simp only [stepped]
    · rw [hid_length]; omega
    · rw [hid_length]; omega
    · rw [hid_length]; omega
    · rw [hid_length]; omega
    · rw [List.length_drop]; omega
    · rw [List.length_take]; omega
    · exact sqz_length h r false
    · split
      · rw [List.length_replicate]; omega
      · omega
def p_stepped : PSp := fun as Q => ∃ (s : Step) (r : Row), as = [encStep s, encR r] ∧ s.num ≤ 5 ∧ r.length ≤ 1000000 ∧ Q (encR (stepped s r))
theorem m_stepped : MonoP p_stepped := fun _ _ _ h ⟨v, a, e, z, y, q⟩ => ⟨v, a, e, z, y, h _ q⟩
def d_stepped : DS := (dSeq (dPar 2 3 (dCons (dOp ixQ (dVar 0) (dC (.int 0))) (dCons (dBi lenQ (dCons (dVar 1) dNil)) dNil))) (dSeq (dIfS (dB (dOp eqQ (dVar 2) (dC (.str (Str.ofString "reverse"))))) (dRet (dRevL (dVar 1))) dNext)
      (dSeq (dSet 4 (dOp ixQ (dVar 0) (dC (.int 1)))) (dSeq (dIfS (dB (dOp eqQ (dVar 2) (dC (.str (Str.ofString "keep_first"))))) (dRet (dCall 3 p_hidden (dCons (dVar 1) (dCons (dVar 4) (dCons (dVar 3) dNil))))) dNext) (dSeq (dIfS (dB
      (dOp eqQ (dVar 2) (dC (.str (Str.ofString "keep_last"))))) (dRet (dCall 3 p_hidden (dCons (dVar 1) (dCons (dC (.int 0)) (dCons (dOp (int0Q fun i j => i - j) (dVar 3) (dVar 4)) dNil))))) dNext) (dSeq (dIfS (dB (dOp eqQ (dVar 2)
      (dC (.str (Str.ofString "hide_first"))))) (dRet (dCall 3 p_hidden (dCons (dVar 1) (dCons (dC (.int 0)) (dCons (dVar 4) dNil))))) dNext) (dSeq (dIfS (dB (dOp eqQ (dVar 2) (dC (.str (Str.ofString "hide_last"))))) (dRet (dCall 3
      p_hidden (dCons (dVar 1) (dCons (dOp (int0Q fun i j => i - j) (dVar 3) (dVar 4)) (dCons (dVar 3) dNil))))) dNext) (dSeq (dIfS (dB (dOp eqQ (dVar 2) (dC (.str (Str.ofString "cut_first"))))) (dRet (dSl (dVar 1) (doSome (dVar 4))
      doNone)) dNext) (dSeq (dIfS (dB (dOp eqQ (dVar 2) (dC (.str (Str.ofString "cut_last"))))) (dRet (dSl (dVar 1) doNone (doSome (dBi maxQ (dCons (dOp (int0Q fun i j => i - j) (dVar 3) (dVar 4)) (dCons (dC (.int 0)) dNil)))))) dNext)
      (dSeq (dIfS (dB (dOp eqQ (dVar 2) (dC (.str (Str.ofString "squeeze"))))) (dRet (dCall 2 p_squeezed (dCons (dVar 1) (dCons (dVar 4) dNil)))) dNext) (dRet (dIf (dB (dOp (cmpQ fun i j => decide (i < j)) (dVar 3) (dVar 4))) (dOp repQ
      (dLst (dCons (dC .non) dNil)) (dVar 3)) (dVar 1)))))))))))))
theorem kd_q (k : Kd) : decide (k.str = Str.ofString "reverse") = false ∧ decide (k.str = Str.ofString "keep_first") = decide (k = .kf) ∧ decide (k.str = Str.ofString "keep_last") = decide (k = .kl) ∧ decide (k.str = Str.ofString "hide_first") = decide (k = .hf) ∧
    decide (k.str = Str.ofString "hide_last") = decide (k = .hl) ∧ decide (k.str = Str.ofString "cut_first") = decide (k = .cf) ∧ decide (k.str = Str.ofString "cut_last") = decide (k = .cl) ∧ decide (k.str = Str.ofString "squeeze") = decide (k = .sq) := by
  cases k <;> decide +kernel
theorem cmpQ_int (g : Int → Int → Bool) (i j : Int) (Q : PV → Prop) : cmpQ g (.int i) (.int j) Q = Q (.bl (g i j)) := rfl
theorem int0Q_int (g : Int → Int → Int) (i j : Int) (Q : PV → Prop) : int0Q g (.int i) (.int j) Q = Q (.int (g i j)) := rfl
theorem maxQ_int (i j : Int) (Q : PV → Prop) : maxQ [.int i, .int j] Q = Q (.int (max i j)) := rfl
theorem minQ_int (i j : Int) (Q : PV → Prop) : minQ [.int i, .int j] Q = Q (.int (min i j)) := rfl
theorem slQ_lst (xs : List PV) (lo hi : Option Int) (Q : PV → Prop) : slQ (.lst xs) lo hi Q = Q (.lst (cutP xs lo hi)) := rfl
theorem slQ_tup (xs : List PV) (lo hi : Option Int) (Q : PV → Prop) : slQ (.tup xs) lo hi Q = Q (.tup (cutP xs lo hi)) := rfl
theorem lenQ_lst (xs : List PV) (Q : PV → Prop) : lenQ [.lst xs] Q = Q (.int xs.length) := rfl
theorem lenQ_tup (xs : List PV) (Q : PV → Prop) : lenQ [.tup xs] Q = Q (.int xs.length) := rfl
theorem max_nat (a n : Nat) : max ((a : Int) - (n : Int)) 0 = ((a - n : Nat) : Int) := by omega
theorem h_stepped : ∀ (as : List PV) (post : PV → Prop), as.length = 2 → p_stepped as post → d_stepped (endsOf post) (startR 5 as) := by
  rintro as post _ ⟨s, r, rfl, hs, hr, q⟩
  have big := big
  show d_stepped _ [.val (encStep s), .val (encR r), .un, .un, .un]
  cases s with
  | rev =>
    have e : decide (sRev = Str.ofString "reverse") = true := decide_eq_true rfl
    simp only [d_stepped, dSeq, dNext, dIfS, dRet, dRetN, dSet, dOwn, dVar, dC, dOp, dB, dChain, dAnd, dOr, dNot, dAndV, dOrV, dNotV, dIf, dNil, dCons, dTup, dLst, dDrop, dgName, dgNil, dgCons, dgTup, dAsg, dPar, dPar3, dParO, dParV, dAug, dCall, dBi, dIsi, dInS, dSl, doNone, doSome, dRevL, dRevS, dM1, dRg1, dListOf, dJoin, dNeg, dApp, dExt, dSetIx, endsOf, dFor, dIt, dZip, dEnum, dRange1, dRange2, itemsQ, dLc, wipeR, dTwn, dTwnSet, dTwnAug, dScrE, dScrL, dScrX, List.getElem?_cons_zero, List.getElem?_cons_succ, List.set_cons_zero, List.set_cons_succ, List.length_cons, List.length_nil, if_true, if_false, Bool.true_eq_false, Bool.false_eq_true, if_pos, ite_true, ite_false, reduceIte, true_and, and_true, true_or, or_true, PV.scr.injEq, PV.int.injEq, PV.bl.injEq, PV.str.injEq, PV.lst.injEq, PV.tup.injEq, exists_eq_left, exists_eq_left', exists_eq_right, exists_eq_right', reduceCtorEq, or_false, false_or, forall_const, Nat.zero_le, Bool.not_true, Bool.not_false, decide_true, decide_false, encStep, encR, ixQ_0, lenQ_lst, eqQ_str, e]
    rw [← List.map_reverse]; exact q
  | st k n =>
    have hn : n ≤ 5 := hs
    obtain ⟨k0, k1, k2, k3, k4, k5, k6, k7⟩ := kd_q k
    simp only [d_stepped, dSeq, dNext, dIfS, dRet, dRetN, dSet, dOwn, dVar, dC, dOp, dB, dChain, dAnd, dOr, dNot, dAndV, dOrV, dNotV, dIf, dNil, dCons, dTup, dLst, dDrop, dgName, dgNil, dgCons, dgTup, dAsg, dPar, dPar3, dParO, dParV, dAug, dCall, dBi, dIsi, dInS, dSl, doNone, doSome, dRevL, dRevS, dM1, dRg1, dListOf, dJoin, dNeg, dApp, dExt, dSetIx, endsOf, dFor, dIt, dZip, dEnum, dRange1, dRange2, itemsQ, dLc, wipeR, dTwn, dTwnSet, dTwnAug, dScrE, dScrL, dScrX, List.getElem?_cons_zero, List.getElem?_cons_succ, List.set_cons_zero, List.set_cons_succ, List.length_cons, List.length_nil, if_true, if_false, Bool.true_eq_false, Bool.false_eq_true, if_pos, ite_true, ite_false, reduceIte, true_and, and_true, true_or, or_true, PV.scr.injEq, PV.int.injEq, PV.bl.injEq, PV.str.injEq, PV.lst.injEq, PV.tup.injEq, exists_eq_left, exists_eq_left', exists_eq_right, exists_eq_right', reduceCtorEq, or_false, false_or, forall_const, Nat.zero_le, Bool.not_true, Bool.not_false, decide_true, decide_false, encStep, encR, ixQ_0, ixQ_1, lenQ_lst, eqQ_str, k0, k1, k2, k3, k4, k5, k6, k7, List.length_map, int0Q_int, cmpQ_int, maxQ_int, slQ_lst, max_nat, cutP_drop, cutP_take]
    cases k <;> simp only [decide_true, decide_false, List.getElem?_cons_zero, List.getElem?_cons_succ, List.set_cons_zero, List.set_cons_succ, List.length_cons, List.length_nil, if_true, if_false, Bool.true_eq_false, Bool.false_eq_true, if_pos, ite_true, ite_false, reduceIte, true_and, and_true, true_or, or_true, PV.scr.injEq, PV.int.injEq, PV.bl.injEq, PV.str.injEq, PV.lst.injEq, PV.tup.injEq, exists_eq_left, exists_eq_left', exists_eq_right, exists_eq_right', reduceCtorEq, or_false, false_or, forall_const, Nat.zero_le, Bool.not_true, Bool.not_false, decide_true, decide_false]
    · exact ⟨r, n, r.length, rfl, by omega, q⟩
    · exact ⟨r, 0, (r.length : Int) - n, rfl, by omega, q⟩
    · exact ⟨r, 0, n, rfl, by omega, q⟩
    · exact ⟨r, (r.length : Int) - n, r.length, rfl, by omega, q⟩
    · rw [← List.map_drop]; exact q
    · rw [← List.map_take]; exact q
    · exact ⟨r, n, rfl, hr, hn, q⟩
    · have q : post (encR (if r.length < n then List.replicate r.length none else r)) := q
      by_cases hl : r.length < n
      · rw [if_pos (decide_eq_true (by omega))]
        rw [if_pos hl] at q
        refine ⟨by decide, by omega, by omega, by simp only [List.length_singleton, Int.toNat_natCast]; omega, ?_⟩
        rw [rep_flat, Int.toNat_natCast]
        unfold encR at q
        rw [List.map_replicate] at q; exact q
      · rw [if_neg (by rw [decide_eq_true_eq]; omega)]
        rw [if_neg hl] at q; exact q
/-! ### a template -/
def runM (m : Mask) (r : Row) : Row := m.foldl (fun r s => stepped s r) r
def tmpl (m : Mask) (n : Nat) : Row := runM m ((List.range n).map some)
theorem runM_length : ∀ (m : Mask) (r : Row), (∀ s ∈ m, s.num ≤ 5) → (runM m r).length ≤ 5 ^ m.length * r.length
  | [], r, _ => by simp [runM]
  | s :: m, r, h => by
    have h1 := stepped_length (h s List.mem_cons_self) r
    have h2 := runM_length m (stepped s r) fun x hx => h x (List.mem_cons_of_mem _ hx)
    rw [List.length_cons, Nat.pow_succ]
    refine Nat.le_trans (show (runM (s :: m) r).length ≤ _ from h2) ?_
    rw [Nat.mul_assoc]
    exact Nat.mul_le_mul_left _ h1
theorem pow5 {k : Nat} (h : k ≤ 4) : 5 ^ k ≤ 625 := Nat.le_trans (Nat.pow_le_pow_right (by decide) h) (by decide)
theorem runM_fits {m : Mask} (h : OkM m) {r : Row} (hr : r.length ≤ 1600) : (runM m r).length ≤ 1000000 := by
  have h1 := runM_length m r h.2
  have h2 := Nat.mul_le_mul (pow5 h.1) hr
  omega
def p_template_of : PSp := fun as Q => ∃ (m : Mask) (n : Nat), as = [encM m, .int n] ∧ OkM m ∧ n ≤ 1600 ∧ Q (encT (tmpl m n))
theorem m_template_of : MonoP p_template_of := fun _ _ _ h ⟨v, a, e, z, y, q⟩ => ⟨v, a, e, z, y, h _ q⟩
def bd_template_of_0 : DS := (dSet 2 (dCall 2 p_stepped (dCons (dVar 3) (dCons (dVar 2) dNil))))
theorem ebd_template_of_0 (PD : PEnds) (ρ : Rho) : bd_template_of_0 PD ρ = (dSet 2 (dCall 2 p_stepped (dCons (dVar 3) (dCons (dVar 2) dNil)))) PD ρ := rfl
def d_template_of : DS := (dSeq (dSet 2 (dRg1 (dVar 1))) (dSeq (dFor (dIt (dVar 0)) (dgName 3) bd_template_of_0) (dRet (dBi tupleQ (dCons (dVar 2) dNil)))))
theorem tm_loop (v1 v2 : Slot) (PD : PEnds) : ∀ (m : Mask) (r : Row) (s : Slot), (∀ s ∈ m, s.num ≤ 5) → (5 ^ m.length * r.length ≤ 1000000) → (∀ s, PD.nx [v1, v2, .val (encR (runM m r)), s]) →
    dLoop (dgName 3) bd_template_of_0 PD (m.map encStep) [v1, v2, .val (encR r), s]
  | [], r, s, _, _, h => h s
  | x :: m, r, s, hn, hl, h => by
    show dgName 3 _ _ _
    simp only [ebd_template_of_0, dSeq, dNext, dIfS, dRet, dRetN, dSet, dOwn, dVar, dC, dOp, dB, dChain, dAnd, dOr, dNot, dAndV, dOrV, dNotV, dIf, dNil, dCons, dTup, dLst, dDrop, dgName, dgNil, dgCons, dgTup, dAsg, dPar, dPar3, dParO, dParV, dAug, dCall, dBi, dIsi, dInS, dSl, doNone, doSome, dRevL, dRevS, dM1, dRg1, dListOf, dJoin, dNeg, dApp, dExt, dSetIx, endsOf, dFor, dIt, dZip, dEnum, dRange1, dRange2, itemsQ, dLc, wipeR, dTwn, dTwnSet, dTwnAug, dScrE, dScrL, dScrX, List.getElem?_cons_zero, List.getElem?_cons_succ, List.set_cons_zero, List.set_cons_succ, List.length_cons, List.length_nil, if_true, if_false, Bool.true_eq_false, Bool.false_eq_true, if_pos, ite_true, ite_false, reduceIte, true_and, and_true, true_or, or_true, PV.scr.injEq, PV.int.injEq, PV.bl.injEq, PV.str.injEq, PV.lst.injEq, PV.tup.injEq, exists_eq_left, exists_eq_left', exists_eq_right, exists_eq_right', reduceCtorEq, or_false, false_or, forall_const, Nat.zero_le, Bool.not_true, Bool.not_false, decide_true, decide_false]
    have hx := hn x List.mem_cons_self
    have h1 := stepped_length hx r
    have hp : 5 ^ m.length ≥ 1 := Nat.pos_of_ne_zero (by simp)
    have hl' : 5 ^ m.length * (5 * r.length) ≤ 1000000 := by
      rw [List.length_cons, Nat.pow_succ, Nat.mul_assoc] at hl; exact hl
    refine ⟨x, r, rfl, hx, ?_, ?_⟩
    · have := Nat.mul_le_mul hp (Nat.le_refl (5 * r.length)); omega
    · exact tm_loop v1 v2 PD m (stepped x r) _ (fun y hy => hn y (List.mem_cons_of_mem _ hy)) (Nat.le_trans (Nat.mul_le_mul_left _ h1) hl') h
theorem rgP_enc (n : Nat) : rgP n = ((List.range n).map some).map encO := by
  unfold rgP
  rw [Int.toNat_natCast, List.map_map]; rfl
theorem h_template_of : ∀ (as : List PV) (post : PV → Prop), as.length = 2 → p_template_of as post → d_template_of (endsOf post) (startR 4 as) := by
  rintro as post _ ⟨m, n, rfl, hm, hn, q⟩
  have big := big
  show d_template_of _ [.val (encM m), .val (.int n), .un, .un]
  simp only [d_template_of, dSeq, dNext, dIfS, dRet, dRetN, dSet, dOwn, dVar, dC, dOp, dB, dChain, dAnd, dOr, dNot, dAndV, dOrV, dNotV, dIf, dNil, dCons, dTup, dLst, dDrop, dgName, dgNil, dgCons, dgTup, dAsg, dPar, dPar3, dParO, dParV, dAug, dCall, dBi, dIsi, dInS, dSl, doNone, doSome, dRevL, dRevS, dM1, dRg1, dListOf, dJoin, dNeg, dApp, dExt, dSetIx, endsOf, dFor, dIt, dZip, dEnum, dRange1, dRange2, itemsQ, dLc, wipeR, dTwn, dTwnSet, dTwnAug, dScrE, dScrL, dScrX, List.getElem?_cons_zero, List.getElem?_cons_succ, List.set_cons_zero, List.set_cons_succ, List.length_cons, List.length_nil, if_true, if_false, Bool.true_eq_false, Bool.false_eq_true, if_pos, ite_true, ite_false, reduceIte, true_and, and_true, true_or, or_true, PV.scr.injEq, PV.int.injEq, PV.bl.injEq, PV.str.injEq, PV.lst.injEq, PV.tup.injEq, exists_eq_left, exists_eq_left', exists_eq_right, exists_eq_right', reduceCtorEq, or_false, false_or, forall_const, Nat.zero_le, Bool.not_true, Bool.not_false, decide_true, decide_false, encM]
  refine ⟨⟨by decide, by decide, by omega, by omega, by rw [Int.sub_zero]; omega⟩, ?_⟩
  rw [rgP_enc]
  refine tm_loop _ _ _ m ((List.range n).map some) _ hm.2 ?_ fun s => ?_
  · rw [List.length_map, List.length_range]
    have := Nat.mul_le_mul (pow5 hm.1) hn; omega
  · simp only [List.getElem?_cons_zero, List.getElem?_cons_succ, List.set_cons_zero, List.set_cons_succ, List.length_cons, List.length_nil, if_true, if_false, Bool.true_eq_false, Bool.false_eq_true, if_pos, ite_true, ite_false, reduceIte, true_and, and_true, true_or, or_true, PV.scr.injEq, PV.int.injEq, PV.bl.injEq, PV.str.injEq, PV.lst.injEq, PV.tup.injEq, exists_eq_left, exists_eq_left', exists_eq_right, exists_eq_right', reduceCtorEq, or_false, false_or, forall_const, Nat.zero_le, Bool.not_true, Bool.not_false, decide_true, decide_false, encR, tupleQ]
    exact q
end PL

set_option Elab.async false
set_option linter.all false
set_option maxRecDepth 100000
set_option maxHeartbeats 4000000
/-! the form of a template: stars, letters in a row, stars -/
namespace PL

section
variable {β : Type} {z : β} {g : Option Nat → β}
theorem hidG_lo (h0 : g none = z) (n : Nat) : ∀ (r : Row) (i : Nat), (hid n ((i + r.length : Nat) : Int) i r).map g = (r.map g).take (n - i) ++ List.replicate (r.length - (n - i)) z
  | [], i => by simp [hid]
  | x :: r, i => by
    have ih := hidG_lo h0 n r (i + 1)
    rw [show i + 1 + r.length = i + (x :: r).length by rw [List.length_cons]; omega] at ih
    rw [hid, List.map_cons, List.map_cons, ih, List.length_cons]
    by_cases h : n ≤ i
    · rw [if_pos ⟨by omega, by omega⟩, h0, Nat.sub_eq_zero_of_le h, Nat.sub_eq_zero_of_le (by omega : n ≤ i + 1), List.take_zero, List.take_zero, List.nil_append, List.nil_append, Nat.sub_zero, Nat.sub_zero, List.replicate_succ]
    · rw [if_neg (by omega)]
      obtain ⟨k, hk⟩ : ∃ k, n - i = k + 1 := ⟨n - i - 1, by omega⟩
      rw [hk, show n - (i + 1) = k by omega, List.take_succ_cons, List.cons_append, show r.length + 1 - (k + 1) = r.length - k by omega]
theorem hidG_hi (h0 : g none = z) (b : Int) : ∀ (r : Row) (i : Nat), (hid 0 b i r).map g = List.replicate (min r.length (b - i).toNat) z ++ (r.map g).drop (b - i).toNat
  | [], i => by simp [hid]
  | x :: r, i => by
    have ih := hidG_hi h0 b r (i + 1)
    rw [hid, List.map_cons, List.map_cons, ih, List.length_cons]
    by_cases h : (i : Int) < b
    · rw [if_pos ⟨by omega, h⟩, h0]
      obtain ⟨k, hk⟩ : ∃ k, (b - i).toNat = k + 1 := ⟨(b - i).toNat - 1, by omega⟩
      rw [hk, show (b - ((i + 1 : Nat) : Int)).toNat = k by omega, show min (r.length + 1) (k + 1) = min r.length k + 1 by omega, List.replicate_succ, List.cons_append, List.drop_succ_cons]
    · rw [if_neg (fun z => h z.2), show (b - i).toNat = 0 by omega, show (b - ((i + 1 : Nat) : Int)).toNat = 0 by omega]
      simp
theorem hidG_up (h0 : g none = z) (a : Int) : ∀ (r : Row) (i : Nat), (hid a ((i + r.length : Nat) : Int) i r).map g = (r.map g).take (a - i).toNat ++ List.replicate (r.length - (a - i).toNat) z
  | [], i => by simp [hid]
  | x :: r, i => by
    have ih := hidG_up h0 a r (i + 1)
    rw [show i + 1 + r.length = i + (x :: r).length by rw [List.length_cons]; omega] at ih
    rw [hid, List.map_cons, List.map_cons, ih, List.length_cons]
    by_cases h : a ≤ i
    · rw [if_pos ⟨h, by omega⟩, h0, show (a - i).toNat = 0 by omega, show (a - ((i + 1 : Nat) : Int)).toNat = 0 by omega, List.take_zero, List.take_zero, List.nil_append, List.nil_append, Nat.sub_zero, Nat.sub_zero, List.replicate_succ]
    · rw [if_neg (fun z => h z.1)]
      obtain ⟨k, hk⟩ : ∃ k, (a - i).toNat = k + 1 := ⟨(a - i).toNat - 1, by omega⟩
      rw [hk, show (a - ((i + 1 : Nat) : Int)).toNat = k by omega, List.take_succ_cons, List.cons_append, show r.length + 1 - (k + 1) = r.length - k by omega]
end
/-- all but the first n starred; the first n starred -/
def kfR (n : Nat) (r : Row) : Row := r.take n ++ List.replicate (r.length - n) none
def hfR (n : Nat) (r : Row) : Row := List.replicate (min r.length n) none ++ r.drop n
theorem st_kf (n : Nat) (r : Row) : stepped (.st .kf n) r = kfR n r := by
  have := hidG_lo (g := id) (z := none) rfl n r 0
  rw [Nat.zero_add, Nat.sub_zero, List.map_id, List.map_id] at this; exact this
theorem st_hf (n : Nat) (r : Row) : stepped (.st .hf n) r = hfR n r := by
  have := hidG_hi (g := id) (z := none) rfl (n : Int) r 0
  rw [List.map_id, List.map_id, show ((n : Int) - ((0 : Nat) : Int)).toNat = n by omega] at this; exact this
theorem st_kl (n : Nat) (r : Row) : stepped (.st .kl n) r = (kfR n r.reverse).reverse := by
  have := hidG_hi (g := id) (z := none) rfl ((r.length : Int) - n) r 0
  rw [List.map_id, List.map_id, show ((r.length : Int) - n - ((0 : Nat) : Int)).toNat = r.length - n by omega, show min r.length (r.length - n) = r.length - n by omega] at this
  rw [show stepped (.st .kl n) r = _ from this]
  unfold kfR
  rw [List.reverse_append, List.reverse_replicate, List.length_reverse, List.take_reverse, List.reverse_reverse]
theorem st_hl (n : Nat) (r : Row) : stepped (.st .hl n) r = (hfR n r.reverse).reverse := by
  have := hidG_up (g := id) (z := none) rfl ((r.length : Int) - n) r 0
  rw [Nat.zero_add, List.map_id, List.map_id, show ((r.length : Int) - n - ((0 : Nat) : Int)).toNat = r.length - n by omega, show r.length - (r.length - n) = min r.length n by omega] at this
  rw [show stepped (.st .hl n) r = _ from this]
  unfold hfR
  rw [List.reverse_append, List.reverse_replicate, List.length_reverse, List.drop_reverse, List.reverse_reverse]
theorem st_cl (n : Nat) (r : Row) : stepped (.st .cl n) r = (r.reverse.drop n).reverse := by
  rw [List.drop_reverse, List.reverse_reverse]; rfl
/-! ### letters in a row -/
def seqR (lo len : Nat) (rev : Bool) : Row := if rev = true then ((List.range len).map fun i => some (lo + i)).reverse else (List.range len).map fun i => some (lo + i)
theorem seqR_length (lo len : Nat) (rev : Bool) : (seqR lo len rev).length = len := by
  unfold seqR; split <;> simp
theorem seqR_reverse (lo len : Nat) (rev : Bool) : (seqR lo len rev).reverse = seqR lo len (!rev) := by
  unfold seqR; cases rev <;> simp
theorem up_take (lo len k : Nat) (h : k ≤ len) : ((List.range len).map fun i => some (lo + i)).take k = (List.range k).map fun i => some (lo + i) := by
  rw [← List.map_take, List.take_range, Nat.min_eq_left h]
theorem up_drop (lo len k : Nat) (h : k ≤ len) : ((List.range len).map fun i => some (lo + i)).drop k = (List.range (len - k)).map fun i => some (lo + k + i) := by
  apply List.ext_getElem
  · simp
  · intro i h1 h2
    simp [Nat.add_assoc]
theorem seqR_take (lo len : Nat) (rev : Bool) (k : Nat) (h : k ≤ len) : (seqR lo len rev).take k = seqR (if rev = true then lo + (len - k) else lo) k rev := by
  unfold seqR
  cases rev
  · simp only [Bool.false_eq_true, if_false]; exact up_take lo len k h
  · simp only [if_true]
    rw [List.take_reverse, List.length_map, List.length_range, up_drop _ _ _ (by omega), show len - (len - k) = k by omega]
theorem seqR_drop (lo len : Nat) (rev : Bool) (k : Nat) (h : k ≤ len) : (seqR lo len rev).drop k = seqR (if rev = true then lo else lo + k) (len - k) rev := by
  unfold seqR
  cases rev
  · simp only [Bool.false_eq_true, if_false]; exact up_drop lo len k h
  · simp only [if_true]
    rw [List.drop_reverse, List.length_map, List.length_range, up_take _ _ _ (by omega)]
theorem seqR_zero (lo : Nat) (rev : Bool) : seqR lo 0 rev = [] := by cases rev <;> rfl
abbrev st (n : Nat) : Row := List.replicate n none
def blk (a lo len : Nat) (rev : Bool) (b : Nat) : Row := st a ++ (seqR lo len rev ++ st b)
theorem blk_length (a lo len : Nat) (rev : Bool) (b : Nat) : (blk a lo len rev b).length = a + len + b := by
  unfold blk; rw [List.length_append, List.length_append, seqR_length, List.length_replicate, List.length_replicate]; omega
theorem blk_reverse (a lo len : Nat) (rev : Bool) (b : Nat) : (blk a lo len rev b).reverse = blk b lo len (!rev) a := by
  unfold blk
  rw [List.reverse_append, List.reverse_append, List.reverse_replicate, List.reverse_replicate, seqR_reverse, List.append_assoc]
theorem blk_zero (a lo : Nat) (rev : Bool) (b : Nat) : blk a lo 0 rev b = st (a + b) := by
  unfold blk; rw [seqR_zero, List.nil_append, List.replicate_append_replicate]
theorem blk_drop1 (a lo len : Nat) (rev : Bool) (b n : Nat) (h : n ≤ a) : (blk a lo len rev b).drop n = blk (a - n) lo len rev b := by
  unfold blk
  rw [List.drop_append_of_le_length (by rw [List.length_replicate]; exact h), List.drop_replicate]
theorem blk_drop2 (a lo len : Nat) (rev : Bool) (b n : Nat) (h : a ≤ n) (h2 : n ≤ a + len) : (blk a lo len rev b).drop n = blk 0 (if rev = true then lo else lo + (n - a)) (len - (n - a)) rev b := by
  unfold blk
  rw [List.drop_append, List.drop_eq_nil_of_le (by rw [List.length_replicate]; exact h), List.nil_append, List.length_replicate, List.drop_append_of_le_length (by rw [seqR_length]; omega), seqR_drop _ _ _ _ (by omega)]
  rfl
theorem blk_drop3 (a lo len : Nat) (rev : Bool) (b n : Nat) (h : a + len ≤ n) : (blk a lo len rev b).drop n = st (b - (n - a - len)) := by
  unfold blk
  rw [List.drop_append, List.drop_eq_nil_of_le (by rw [List.length_replicate]; omega), List.nil_append, List.length_replicate, List.drop_append, List.drop_eq_nil_of_le (by rw [seqR_length]; omega), List.nil_append, seqR_length, List.drop_replicate]
theorem blk_take1 (a lo len : Nat) (rev : Bool) (b n : Nat) (h : n ≤ a) : (blk a lo len rev b).take n = st n := by
  unfold blk
  rw [List.take_append_of_le_length (by rw [List.length_replicate]; exact h), List.take_replicate, Nat.min_eq_left h]
theorem blk_take2 (a lo len : Nat) (rev : Bool) (b n : Nat) (h : a ≤ n) (h2 : n ≤ a + len) : (blk a lo len rev b).take n = blk a (if rev = true then lo + (len - (n - a)) else lo) (n - a) rev 0 := by
  unfold blk
  rw [List.take_append, List.take_of_length_le (by rw [List.length_replicate]; exact h), List.length_replicate, List.take_append_of_le_length (by rw [seqR_length]; omega), seqR_take _ _ _ _ (by omega)]
  simp
theorem blk_take3 (a lo len : Nat) (rev : Bool) (b n : Nat) (h : a + len ≤ n) : (blk a lo len rev b).take n = blk a lo len rev (min b (n - a - len)) := by
  unfold blk
  rw [List.take_append, List.take_of_length_le (by rw [List.length_replicate]; omega), List.length_replicate, List.take_append, List.take_of_length_le (by rw [seqR_length]; omega), seqR_length, List.take_replicate, Nat.min_comm]
theorem blk_app (a lo len : Nat) (rev : Bool) (b c : Nat) : blk a lo len rev b ++ st c = blk a lo len rev (b + c) := by
  unfold blk
  rw [List.append_assoc, List.append_assoc, List.replicate_append_replicate]
theorem app_blk (a lo len : Nat) (rev : Bool) (b c : Nat) : st c ++ blk a lo len rev b = blk (c + a) lo len rev b := by
  unfold blk
  rw [← List.append_assoc, List.replicate_append_replicate]
/-! the steps on such a row -/
theorem kf_blk1 (a lo len : Nat) (rev : Bool) (b n : Nat) (h : n ≤ a) : kfR n (blk a lo len rev b) = st (a + len + b) := by
  unfold kfR
  rw [blk_take1 _ _ _ _ _ _ h, blk_length, List.replicate_append_replicate]; congr 1; omega
theorem kf_blk2 (a lo len : Nat) (rev : Bool) (b n : Nat) (h : a ≤ n) (h2 : n ≤ a + len) : kfR n (blk a lo len rev b) = blk a (if rev = true then lo + (len - (n - a)) else lo) (n - a) rev (b + (len - (n - a))) := by
  unfold kfR
  rw [blk_take2 _ _ _ _ _ _ h h2, blk_length, blk_app]; congr 1; omega
theorem kf_blk3 (a lo len : Nat) (rev : Bool) (b n : Nat) (h : a + len ≤ n) : kfR n (blk a lo len rev b) = blk a lo len rev b := by
  unfold kfR
  rw [blk_take3 _ _ _ _ _ _ h, blk_length, blk_app]; congr 1; omega
theorem hf_blk1 (a lo len : Nat) (rev : Bool) (b n : Nat) (h : n ≤ a) : hfR n (blk a lo len rev b) = blk a lo len rev b := by
  unfold hfR
  rw [blk_drop1 _ _ _ _ _ _ h, blk_length, app_blk]; congr 1; omega
theorem hf_blk2 (a lo len : Nat) (rev : Bool) (b n : Nat) (h : a ≤ n) (h2 : n ≤ a + len) : hfR n (blk a lo len rev b) = blk n (if rev = true then lo else lo + (n - a)) (len - (n - a)) rev b := by
  unfold hfR
  rw [blk_drop2 _ _ _ _ _ _ h h2, blk_length, app_blk]; congr 1; omega
theorem hf_blk3 (a lo len : Nat) (rev : Bool) (b n : Nat) (h : a + len ≤ n) : hfR n (blk a lo len rev b) = st (a + len + b) := by
  unfold hfR
  rw [blk_drop3 _ _ _ _ _ _ h, blk_length, List.replicate_append_replicate]; congr 1; omega
theorem sqz_st (c : Nat) : ∀ (n : Nat) (p : Bool), sqz c p (st n) = if n = 0 ∨ p = true then [] else st c
  | 0, p => by simp [sqz]
  | n + 1, p => by
    show sqz c p (none :: st n) = _
    rw [sqz, sqz_st c n true]
    cases p <;> simp
theorem sqz_app (c : Nat) : ∀ (x : Nat) (r s : Row) (p : Bool), sqz c p (r ++ some x :: s) = sqz c p r ++ some x :: sqz c false s
  | x, [], s, p => by rw [List.nil_append, sqz]; rfl
  | x, some y :: r, s, p => by rw [List.cons_append, sqz, sqz, sqz_app c x r s false, List.cons_append]
  | x, none :: r, s, p => by rw [List.cons_append, sqz, sqz, sqz_app c x r s true, List.append_assoc]
theorem sqz_letters (c : Nat) : ∀ (r s : Row) (p : Bool), (∀ x ∈ r, x ≠ none) → r ≠ [] → sqz c p (r ++ s) = r ++ sqz c false s
  | [], s, p, _, h => absurd rfl h
  | none :: r, s, p, h, _ => absurd rfl (h none List.mem_cons_self)
  | some x :: r, s, p, h, _ => by
    rw [List.cons_append, sqz, List.cons_append]
    congr 1
    cases r with
    | nil => rfl
    | cons y r => exact sqz_letters c (y :: r) s false (fun z hz => h z (List.mem_cons_of_mem _ hz)) (List.cons_ne_nil _ _)
theorem seqR_some (lo len : Nat) (rev : Bool) : ∀ x ∈ seqR lo len rev, x ≠ none := by
  intro x hx
  unfold seqR at hx
  split at hx <;> simp at hx <;> obtain ⟨i, _, rfl⟩ := hx <;> exact fun z => nomatch z
theorem sqz_pre (c : Nat) : ∀ (n : Nat) (p : Bool) (s : Row), (∀ q, sqz c q s = sqz c false s) → sqz c p (st n ++ s) = (if n = 0 ∨ p = true then [] else st c) ++ sqz c false s
  | 0, p, s, h => by simp [h p]
  | n + 1, p, s, h => by
    show sqz c p (none :: (st n ++ s)) = _
    rw [sqz, sqz_pre c n true s h]
    cases p <;> simp
theorem sq_blk (a lo len : Nat) (rev : Bool) (b c : Nat) (h : 0 < len) : sqz c false (blk a lo len rev b) = blk (if a = 0 then 0 else c) lo len rev (if b = 0 then 0 else c) := by
  have ne : seqR lo len rev ≠ [] := fun z => by have := congrArg List.length z; rw [seqR_length] at this; simp at this; omega
  unfold blk
  rw [sqz_pre c a false _ (fun q => by rw [sqz_letters c _ _ q (seqR_some lo len rev) ne, sqz_letters c _ _ false (seqR_some lo len rev) ne]), sqz_letters c _ _ false (seqR_some lo len rev) ne, sqz_st]
  congr 1
  · by_cases h0 : a = 0 <;> simp [h0]
  · congr 1
    by_cases h0 : b = 0 <;> simp [h0]
theorem sq_st (n c : Nat) : sqz c false (st n) = st (if n = 0 then 0 else c) := by
  rw [sqz_st]
  by_cases h0 : n = 0 <;> simp [h0]
end PL

set_option Elab.async false
set_option linter.all false
set_option maxRecDepth 100000
set_option maxHeartbeats 4000000
/-! from some length on the form's numbers are affine in the length -/
namespace PL

structure D where
  a : Int
  ka : Int
  lo : Int
  kl : Int
  n : Int
  kn : Int
  rev : Bool
  b : Int
  kb : Int
def D.row (d : D) (L : Nat) : Row := blk (d.a + d.ka * L).toNat (d.lo + d.kl * L).toNat (d.n + d.kn * L).toNat d.rev (d.b + d.kb * L).toNat
def Cm (s : Nat) (c k : Int) : Prop := (k = 0 ∧ 0 ≤ c) ∨ (k = 1 ∧ -(s : Int) ≤ c)
structure Inv (s : Nat) (d : D) : Prop where
  a : Cm s d.a d.ka
  lo : Cm s d.lo d.kl
  n : Cm s d.n d.kn
  b : Cm s d.b d.kb
  one : d.ka + d.kn + d.kb ≤ 1
  two : d.kl + d.kn ≤ 1
  dep : (d.kl + d.kn = 0 → d.lo + d.n ≤ s) ∧ (d.kl + d.kn = 1 → d.lo + d.n ≤ 0)
/-- a row at a length that need not be large: all stars, or of the form with letters -/
def SR (d : D) (L : Nat) (r : Row) : Prop := (∃ x, r = st x) ∨ (0 < d.n + L ∧ r = d.row L)
def Stru (d d' : D) (F : Row → Row) : Prop := d'.kn = 1 → d.kn = 1 ∧ ∀ L r, SR d L r → SR d' L (F r)
def D.sl (d : D) : Int := d.ka + d.kn + d.kb
theorem blk_eq {a a' lo lo' n n' b b' : Nat} {r r' : Bool} (h1 : a = a') (h2 : lo = lo') (h3 : n = n') (h4 : r = r') (h5 : b = b') : blk a lo n r b = blk a' lo' n' r' b' := by subst h1 h2 h3 h4 h5; rfl
theorem st_blk {x a lo b : Nat} {r : Bool} (h : x = a + b) : st x = blk a lo 0 r b := by rw [blk_zero, h]
def Good (s m : Nat) (F : Row → Row) : Prop := ∀ d : D, Inv s d → ∃ d' : D, Inv (s + m) d' ∧ (∀ L : Nat, s + m + 1 ≤ L → F (d.row L) = d'.row L) ∧ Stru d d' F ∧ (d'.sl = 1 → d.sl = 1)
theorem Cm.up {s m : Nat} {c k : Int} (h : Cm s c k) : Cm (s + m) c k := by
  unfold Cm at *; omega
theorem Inv.up {s m : Nat} {d : D} (h : Inv s d) : Inv (s + m) d := ⟨h.a.up, h.lo.up, h.n.up, h.b.up, h.one, h.two, ⟨fun z => by have := h.dep.1 z; omega, fun z => h.dep.2 z⟩⟩
/-- all stars -/
def D.stars (c k : Int) : D := ⟨c, k, 0, 0, 0, 0, false, 0, 0⟩
theorem Inv.stars {s : Nat} {c k : Int} (h : Cm s c k) : Inv s (.stars c k) := ⟨h, .inl ⟨rfl, Int.le_refl _⟩, .inl ⟨rfl, Int.le_refl _⟩, .inl ⟨rfl, Int.le_refl _⟩, by
  show k + 0 + 0 ≤ 1
  unfold Cm at h; omega, by show (0 : Int) + 0 ≤ 1; decide, ⟨fun _ => by show (0 : Int) + 0 ≤ s; omega, fun z => by cases z⟩⟩
theorem Stru.stars {d : D} {c k : Int} {F : Row → Row} : Stru d (.stars c k) F := fun h => by cases h
theorem Stru.const {d d' : D} {F : Row → Row} (h : d'.kn = 0) : Stru d d' F := fun z => by rw [h] at z; cases z
theorem row_stars {c k : Int} {L x : Nat} (h : x = (c + k * L).toNat) : st x = (D.stars c k).row L := by
  unfold D.row D.stars
  simp only [Int.zero_mul, Int.add_zero, Int.toNat_zero]
  exact st_blk h
def D.turn (d : D) : D := ⟨d.b, d.kb, d.lo, d.kl, d.n, d.kn, !d.rev, d.a, d.ka⟩
theorem turn_row (d : D) (L : Nat) : d.turn.row L = (d.row L).reverse := by unfold D.row D.turn; rw [blk_reverse]
theorem Inv.turn {s : Nat} {d : D} (h : Inv s d) : Inv s d.turn := ⟨h.b, h.lo, h.n, h.a, by have := h.one; show d.kb + d.kn + d.ka ≤ 1; omega, h.two, h.dep⟩
theorem SR.turn {d : D} {L : Nat} {r : Row} (h : SR d L r) : SR d.turn L r.reverse := by
  rcases h with ⟨x, rfl⟩ | ⟨h, rfl⟩
  · exact .inl ⟨x, List.reverse_replicate⟩
  · exact .inr ⟨h, (turn_row d L).symm⟩
theorem D.turn_sl (d : D) : d.turn.sl = d.sl := by show d.kb + d.kn + d.ka = d.ka + d.kn + d.kb; omega
theorem D.turn_turn (d : D) : d.turn.turn = d := by cases d; simp [D.turn]
theorem good_rev (s : Nat) : Good s 0 List.reverse := fun d h => ⟨d.turn, h.turn, fun L _ => (turn_row d L).symm, fun z => ⟨z, fun L r h => h.turn⟩, fun z => by rw [D.turn_sl] at z; exact z⟩
theorem Good.turned {s m : Nat} {F : Row → Row} (h : Good s m F) : Good s m fun r => (F r.reverse).reverse := fun d hd => by
  obtain ⟨d', h1, h2, h3, h4⟩ := h d.turn hd.turn
  exact ⟨d'.turn, h1.turn, fun L hL => by rw [turn_row, ← h2 L hL, turn_row], fun z => ⟨(h3 z).1, fun L r hr => ((h3 z).2 L _ hr.turn).turn⟩, fun z => by rw [D.turn_sl] at z; rw [← D.turn_sl]; exact h4 z⟩
theorem good_kf (s n : Nat) : Good s n (kfR n) := fun d h => by
  obtain ⟨a, ka, lo, kl, m, kn, rev, b, kb⟩ := d
  obtain ⟨h1, h2, h3, h4, h5, h6, h7⟩ := h
  simp only [Cm] at h1 h2 h3 h4
  simp only at h5 h6 h7
  by_cases c1 : ka = 1 ∨ (n : Int) ≤ a
  · -- all hidden
    refine ⟨.stars (a + m + b) (ka + kn + kb), Inv.stars (by unfold Cm; omega), fun L hL => ?_, Stru.stars, fun z => by simp only [D.sl, D.stars] at z ⊢; omega⟩
    unfold D.row
    rcases h1 with ⟨rfl, h1⟩ | ⟨rfl, h1⟩ <;> rcases h3 with ⟨rfl, h3⟩ | ⟨rfl, h3⟩ <;> rcases h4 with ⟨rfl, h4⟩ | ⟨rfl, h4⟩ <;> first | omega | (simp only [Int.zero_mul, Int.one_mul, Int.add_zero]; rw [kf_blk1 _ _ _ _ _ _ (by omega)]; exact row_stars (by omega))
  · have ka0 : ka = 0 := by omega
    subst ka0
    by_cases c2 : kn = 1
    · subst c2
      have kb0 : kb = 0 := by omega
      have kl0 : kl = 0 := by omega
      subst kb0 kl0
      refine ⟨⟨a, 0, if rev = true then lo + (m - (n - a)) else lo, if rev = true then 1 else 0, n - a, 0, rev, b + (m - (n - a)), 1⟩, ⟨?_, ?_, ?_, ?_, ?_, ?_, by cases rev <;> simp only [if_true, Bool.false_eq_true, if_false] <;> omega⟩, fun L hL => ?_, Stru.const rfl, fun z => by simp only [D.sl] at z ⊢; omega⟩
      · unfold Cm; dsimp only; omega
      · cases rev <;> simp only [if_true, Bool.false_eq_true, if_false] <;> unfold Cm <;> omega
      · unfold Cm; dsimp only; omega
      · unfold Cm; dsimp only; omega
      · simp only; omega
      · cases rev <;> simp only [if_true, Bool.false_eq_true, if_false] <;> omega
      · unfold D.row
        simp only [Int.zero_mul, Int.one_mul, Int.add_zero]
        rw [kf_blk2 _ _ _ _ _ _ (by omega) (by omega)]
        refine blk_eq (by omega) ?_ (by omega) rfl (by omega)
        cases rev <;> simp only [if_true, Bool.false_eq_true, if_false, Int.zero_mul, Int.one_mul, Int.add_zero] <;> omega
    · have kn0 : kn = 0 := by omega
      subst kn0
      by_cases c3 : a + m ≤ n
      · refine ⟨⟨a, 0, lo, kl, m, 0, rev, b, kb⟩, ⟨?_, ?_, ?_, ?_, ?_, ?_, by dsimp only; omega⟩, fun L hL => ?_, Stru.const rfl, fun z => by simp only [D.sl] at z ⊢; omega⟩
        · unfold Cm; dsimp only; omega
        · unfold Cm; dsimp only; omega
        · unfold Cm; dsimp only; omega
        · unfold Cm; dsimp only; omega
        · simp only; omega
        · simp only; omega
        · unfold D.row
          rw [kf_blk3 _ _ _ _ _ _ (by simp only [Int.zero_mul, Int.add_zero]; omega)]
      · refine ⟨⟨a, 0, if rev = true then lo + (m - (n - a)) else lo, kl, n - a, 0, rev, b + (m - (n - a)), kb⟩, ⟨?_, ?_, ?_, ?_, ?_, ?_, by cases rev <;> simp only [if_true, Bool.false_eq_true, if_false] <;> omega⟩, fun L hL => ?_, Stru.const rfl, fun z => by simp only [D.sl] at z ⊢; omega⟩
        · unfold Cm; dsimp only; omega
        · cases rev <;> simp only [if_true, Bool.false_eq_true, if_false] <;> unfold Cm <;> omega
        · unfold Cm; dsimp only; omega
        · unfold Cm; dsimp only; omega
        · simp only; omega
        · simp only; omega
        · unfold D.row
          simp only [Int.zero_mul, Int.add_zero]
          rw [kf_blk2 _ _ _ _ _ _ (by omega) (by omega)]
          rcases h2 with ⟨rfl, h2⟩ | ⟨rfl, h2⟩ <;> rcases h4 with ⟨rfl, h4⟩ | ⟨rfl, h4⟩ <;> simp only [Int.zero_mul, Int.one_mul, Int.add_zero] <;> refine blk_eq (by omega) ?_ (by omega) rfl (by omega) <;>
            cases rev <;> simp only [if_true, Bool.false_eq_true, if_false] <;> omega
theorem hf_st (n x : Nat) : ∃ y, hfR n (st x) = st y := by
  unfold hfR
  rw [List.drop_replicate, List.replicate_append_replicate]
  exact ⟨_, rfl⟩
theorem good_hf (s n : Nat) : Good s n (hfR n) := fun d h => by
  obtain ⟨a, ka, lo, kl, m, kn, rev, b, kb⟩ := d
  obtain ⟨h1, h2, h3, h4, h5, h6, h7⟩ := h
  have hh : Inv s ⟨a, ka, lo, kl, m, kn, rev, b, kb⟩ := ⟨h1, h2, h3, h4, h5, h6, h7⟩
  simp only [Cm] at h1 h2 h3 h4
  simp only at h5 h6 h7
  by_cases c1 : ka = 1 ∨ (n : Int) ≤ a
  · refine ⟨_, hh.up, fun L hL => ?_, ?_, fun z => z⟩
    · unfold D.row
      rcases h1 with ⟨rfl, h1⟩ | ⟨rfl, h1⟩ <;> rw [hf_blk1 _ _ _ _ _ _ (by simp only [Int.zero_mul, Int.one_mul, Int.add_zero]; omega)]
    · intro z
      refine ⟨z, fun L r hr => ?_⟩
      rcases hr with ⟨x, rfl⟩ | ⟨hp, rfl⟩
      · exact .inl (hf_st n x)
      · refine .inr ⟨hp, ?_⟩
        simp only at z
        have ka0 : ka = 0 := by omega
        subst ka0
        unfold D.row
        rw [hf_blk1 _ _ _ _ _ _ (by simp only [Int.zero_mul, Int.add_zero]; omega)]
  · have ka0 : ka = 0 := by omega
    subst ka0
    by_cases c3 : kn = 0 ∧ m ≤ n - a
    · obtain ⟨rfl, c3⟩ := c3
      refine ⟨.stars (a + m + b) kb, Inv.stars (by unfold Cm; omega), fun L hL => ?_, Stru.stars, fun z => by simp only [D.sl, D.stars] at z ⊢; omega⟩
      unfold D.row
      simp only [Int.zero_mul, Int.add_zero]
      rw [hf_blk3 _ _ _ _ _ _ (by omega)]
      rcases h4 with ⟨rfl, h4⟩ | ⟨rfl, h4⟩ <;> exact row_stars (by simp only [Int.zero_mul, Int.one_mul, Int.add_zero]; omega)
    · refine ⟨⟨n, 0, if rev = true then lo else lo + (n - a), kl, m - (n - a), kn, rev, b, kb⟩, ⟨?_, ?_, ?_, ?_, ?_, ?_, by cases rev <;> simp only [if_true, Bool.false_eq_true, if_false] <;> omega⟩, fun L hL => ?_, ?_, fun z => by simp only [D.sl] at z ⊢; omega⟩
      · unfold Cm; dsimp only; omega
      · cases rev <;> simp only [if_true, Bool.false_eq_true, if_false] <;> unfold Cm <;> omega
      · unfold Cm; dsimp only; omega
      · unfold Cm; dsimp only; omega
      · simp only; omega
      · simp only; omega
      · unfold D.row
        simp only [Int.zero_mul, Int.add_zero]
        rcases h3 with ⟨rfl, h3⟩ | ⟨rfl, h3⟩ <;> simp only [Int.zero_mul, Int.one_mul, Int.add_zero] <;> rw [hf_blk2 _ _ _ _ _ _ (by omega) (by omega)] <;> refine blk_eq (by omega) ?_ (by omega) rfl (by omega) <;>
          rcases h2 with ⟨rfl, h2⟩ | ⟨rfl, h2⟩ <;> cases rev <;> simp only [if_true, Bool.false_eq_true, if_false, Int.zero_mul, Int.one_mul, Int.add_zero] <;> omega
      · intro z
        refine ⟨z, fun L r hr => ?_⟩
        simp only at z
        subst z
        have kl0 : kl = 0 := by omega
        have kb0 : kb = 0 := by omega
        subst kl0 kb0
        rcases hr with ⟨x, rfl⟩ | ⟨hp, rfl⟩
        · exact .inl (hf_st n x)
        · simp only at hp
          by_cases c4 : n - a < m + L
          · refine .inr ⟨by simp only; omega, ?_⟩
            unfold D.row
            simp only [Int.zero_mul, Int.one_mul, Int.add_zero]
            rw [hf_blk2 _ _ _ _ _ _ (by omega) (by omega)]
            refine blk_eq (by omega) ?_ (by omega) rfl (by omega)
            cases rev <;> simp only [if_true, Bool.false_eq_true, if_false] <;> omega
          · refine .inl ?_
            unfold D.row
            simp only [Int.zero_mul, Int.one_mul, Int.add_zero]
            exact ⟨_, hf_blk3 _ _ _ _ _ _ (by omega)⟩
theorem good_cf (s n : Nat) : Good s n (List.drop n) := fun d h => by
  obtain ⟨a, ka, lo, kl, m, kn, rev, b, kb⟩ := d
  obtain ⟨h1, h2, h3, h4, h5, h6, h7⟩ := h
  simp only [Cm] at h1 h2 h3 h4
  simp only at h5 h6 h7
  by_cases c1 : ka = 1 ∨ (n : Int) ≤ a
  · refine ⟨⟨a - n, ka, lo, kl, m, kn, rev, b, kb⟩, ⟨?_, ?_, ?_, ?_, ?_, ?_, by dsimp only; omega⟩, fun L hL => ?_, ?_, fun z => by simp only [D.sl] at z ⊢; omega⟩
    · unfold Cm; dsimp only; omega
    · unfold Cm; dsimp only; omega
    · unfold Cm; dsimp only; omega
    · unfold Cm; dsimp only; omega
    · simp only; omega
    · simp only; omega
    · unfold D.row
      rcases h1 with ⟨rfl, h1⟩ | ⟨rfl, h1⟩ <;> rw [blk_drop1 _ _ _ _ _ _ (by simp only [Int.zero_mul, Int.one_mul, Int.add_zero]; omega)] <;> refine blk_eq (by simp only [Int.zero_mul, Int.one_mul, Int.add_zero]; omega) rfl rfl rfl rfl
    · intro z
      refine ⟨z, fun L r hr => ?_⟩
      simp only at z
      have ka0 : ka = 0 := by omega
      subst ka0
      rcases hr with ⟨x, rfl⟩ | ⟨hp, rfl⟩
      · exact .inl ⟨x - n, List.drop_replicate⟩
      · refine .inr ⟨hp, ?_⟩
        unfold D.row
        rw [blk_drop1 _ _ _ _ _ _ (by simp only [Int.zero_mul, Int.add_zero]; omega)]
        refine blk_eq (by simp only [Int.zero_mul, Int.add_zero]; omega) rfl rfl rfl rfl
  · have ka0 : ka = 0 := by omega
    subst ka0
    by_cases c3 : kn = 0 ∧ m ≤ n - a
    · obtain ⟨rfl, c3⟩ := c3
      rcases h4 with ⟨rfl, h4⟩ | ⟨rfl, h4⟩
      · refine ⟨.stars (max (b - (n - a - m)) 0) 0, Inv.stars (by unfold Cm; omega), fun L hL => ?_, Stru.stars, fun z => by simp only [D.sl, D.stars] at z ⊢; omega⟩
        unfold D.row
        simp only [Int.zero_mul, Int.add_zero]
        rw [blk_drop3 _ _ _ _ _ _ (by omega)]
        exact row_stars (by simp only [Int.zero_mul, Int.add_zero]; omega)
      · refine ⟨.stars (b - (n - a - m)) 1, Inv.stars (by unfold Cm; omega), fun L hL => ?_, Stru.stars, fun z => by simp only [D.sl, D.stars] at z ⊢; omega⟩
        unfold D.row
        simp only [Int.zero_mul, Int.one_mul, Int.add_zero]
        rw [blk_drop3 _ _ _ _ _ _ (by omega)]
        exact row_stars (by simp only [Int.one_mul]; omega)
    · refine ⟨⟨0, 0, if rev = true then lo else lo + (n - a), kl, m - (n - a), kn, rev, b, kb⟩, ⟨?_, ?_, ?_, ?_, ?_, ?_, by cases rev <;> simp only [if_true, Bool.false_eq_true, if_false] <;> omega⟩, fun L hL => ?_, ?_, fun z => by simp only [D.sl] at z ⊢; omega⟩
      · unfold Cm; dsimp only; omega
      · cases rev <;> simp only [if_true, Bool.false_eq_true, if_false] <;> unfold Cm <;> omega
      · unfold Cm; dsimp only; omega
      · unfold Cm; dsimp only; omega
      · simp only; omega
      · simp only; omega
      · unfold D.row
        simp only [Int.zero_mul, Int.add_zero]
        rcases h3 with ⟨rfl, h3⟩ | ⟨rfl, h3⟩ <;> simp only [Int.zero_mul, Int.one_mul, Int.add_zero] <;> rw [blk_drop2 _ _ _ _ _ _ (by omega) (by omega)] <;> refine blk_eq (by omega) ?_ (by omega) rfl (by omega) <;>
          rcases h2 with ⟨rfl, h2⟩ | ⟨rfl, h2⟩ <;> cases rev <;> simp only [if_true, Bool.false_eq_true, if_false, Int.zero_mul, Int.one_mul, Int.add_zero] <;> omega
      · intro z
        refine ⟨z, fun L r hr => ?_⟩
        simp only at z
        subst z
        have kl0 : kl = 0 := by omega
        have kb0 : kb = 0 := by omega
        subst kl0 kb0
        rcases hr with ⟨x, rfl⟩ | ⟨hp, rfl⟩
        · exact .inl ⟨x - n, List.drop_replicate⟩
        · simp only at hp
          by_cases c4 : n - a < m + L
          · refine .inr ⟨by simp only; omega, ?_⟩
            unfold D.row
            simp only [Int.zero_mul, Int.one_mul, Int.add_zero]
            rw [blk_drop2 _ _ _ _ _ _ (by omega) (by omega)]
            refine blk_eq (by omega) ?_ (by omega) rfl (by omega)
            cases rev <;> simp only [if_true, Bool.false_eq_true, if_false] <;> omega
          · refine .inl ?_
            unfold D.row
            simp only [Int.zero_mul, Int.one_mul, Int.add_zero]
            exact ⟨_, blk_drop3 _ _ _ _ _ _ (by omega)⟩
theorem sq_arg {a k : Int} {c L : Nat} (hk : (k = 0 ∧ 0 ≤ a) ∨ (k = 1 ∧ 0 < a + L)) : (if (a + k * L).toNat = 0 then 0 else c) = ((if k = 0 ∧ a = 0 then (0 : Int) else (c : Int)) + 0 * L).toNat := by
  rcases hk with ⟨rfl, h⟩ | ⟨rfl, h⟩
  · simp only [Int.zero_mul, Int.add_zero]
    by_cases h0 : a = 0
    · subst h0; rfl
    · rw [if_neg (by omega), if_neg (fun z => h0 (by simpa using z))]; rfl
  · simp only [Int.zero_mul, Int.one_mul, Int.add_zero]
    rw [if_neg (by omega), if_neg (by omega)]; rfl
theorem good_sq' (s c : Nat) : ∀ d : D, Inv s d → ∃ d' : D, Inv (s + c) d' ∧ (∀ L : Nat, s + c + 1 ≤ L → sqz c false (d.row L) = d'.row L) ∧ Stru d d' (sqz c false) ∧ (d'.sl = 1 → d.sl = 1 ∧ d'.kn = 1) := fun d h => by
  obtain ⟨a, ka, lo, kl, m, kn, rev, b, kb⟩ := d
  obtain ⟨h1, h2, h3, h4, h5, h6, h7⟩ := h
  simp only [Cm] at h1 h2 h3 h4
  simp only at h5 h6 h7
  by_cases c1 : kn = 0 ∧ m = 0
  · obtain ⟨rfl, rfl⟩ := c1
    refine ⟨.stars (if ka + kb = 0 ∧ a + b = 0 then 0 else c) 0, Inv.stars (by unfold Cm; split <;> omega), fun L hL => ?_, Stru.stars, fun z => by simp only [D.sl, D.stars] at z ⊢; omega⟩
    unfold D.row
    rw [show ((0 : Int) + 0 * (L : Int)).toNat = 0 by simp, blk_zero, sq_st]
    refine row_stars ?_
    rw [← sq_arg (a := a + b) (k := ka + kb) (c := c) (L := L) (by omega)]
    rcases h1 with ⟨rfl, h1⟩ | ⟨rfl, h1⟩ <;> rcases h4 with ⟨rfl, h4⟩ | ⟨rfl, h4⟩ <;> first | omega | (simp only [Int.zero_mul, Int.one_mul, Int.add_zero, Int.zero_add]; congr 1; apply propext; constructor <;> intro z <;> omega)
  · refine ⟨⟨if ka = 0 ∧ a = 0 then 0 else c, 0, lo, kl, m, kn, rev, if kb = 0 ∧ b = 0 then 0 else c, 0⟩, ⟨?_, ?_, ?_, ?_, ?_, ?_, by dsimp only; omega⟩, fun L hL => ?_, ?_, fun z => by simp only [D.sl] at z ⊢; omega⟩
    · unfold Cm; dsimp only; split <;> omega
    · unfold Cm; dsimp only; omega
    · unfold Cm; dsimp only; omega
    · unfold Cm; dsimp only; split <;> omega
    · simp only; omega
    · simp only; omega
    · unfold D.row
      dsimp only
      rw [sq_blk _ _ _ _ _ _ (by rcases h3 with ⟨rfl, h3⟩ | ⟨rfl, h3⟩ <;> simp only [Int.zero_mul, Int.one_mul, Int.add_zero] <;> omega)]
      exact blk_eq (sq_arg (by omega)) rfl rfl rfl (sq_arg (by omega))
    · intro z
      refine ⟨z, fun L r hr => ?_⟩
      simp only at z
      subst z
      have ka0 : ka = 0 := by omega
      have kb0 : kb = 0 := by omega
      subst ka0 kb0
      rcases hr with ⟨x, rfl⟩ | ⟨hp, rfl⟩
      · exact .inl ⟨_, sq_st x c⟩
      · refine .inr ⟨hp, ?_⟩
        simp only at hp
        unfold D.row
        dsimp only
        rw [sq_blk _ _ _ _ _ _ (by simp only [Int.one_mul]; omega)]
        exact blk_eq (sq_arg (by omega)) rfl rfl rfl (sq_arg (by omega))
theorem good_sh (s n : Nat) : Good s n (fun r => if r.length < n then List.replicate r.length none else r) := fun d h => by
  obtain ⟨a, ka, lo, kl, m, kn, rev, b, kb⟩ := d
  obtain ⟨h1, h2, h3, h4, h5, h6, h7⟩ := h
  have hh : Inv s ⟨a, ka, lo, kl, m, kn, rev, b, kb⟩ := ⟨h1, h2, h3, h4, h5, h6, h7⟩
  simp only [Cm] at h1 h2 h3 h4
  simp only at h5 h6 h7
  by_cases c1 : ka + kn + kb = 0 ∧ a + m + b < n
  · refine ⟨.stars (a + m + b) 0, Inv.stars (by unfold Cm; omega), fun L hL => ?_, Stru.stars, fun z => by simp only [D.sl, D.stars] at z ⊢; omega⟩
    obtain ⟨rfl, rfl, rfl⟩ : ka = 0 ∧ kn = 0 ∧ kb = 0 := by omega
    unfold D.row
    simp only [Int.zero_mul, Int.add_zero, blk_length]
    rw [if_pos (by omega)]
    exact row_stars (by simp only [Int.zero_mul, Int.add_zero]; omega)
  · refine ⟨_, hh.up, fun L hL => ?_, ?_, fun z => z⟩
    · unfold D.row
      simp only [blk_length]
      rw [if_neg]
      rcases h1 with ⟨rfl, h1⟩ | ⟨rfl, h1⟩ <;> rcases h4 with ⟨rfl, h4⟩ | ⟨rfl, h4⟩ <;> rcases h3 with ⟨rfl, h3⟩ | ⟨rfl, h3⟩ <;> simp only [Int.zero_mul, Int.one_mul, Int.add_zero] <;> omega
    · intro z
      refine ⟨z, fun L r hr => ?_⟩
      dsimp only
      by_cases hs : r.length < n
      · rw [if_pos hs]; exact .inl ⟨_, rfl⟩
      · rw [if_neg hs]; exact hr
theorem good_sq (s c : Nat) : Good s c (sqz c false) := fun d h => by
  obtain ⟨d', h1, h2, h3, h4⟩ := good_sq' s c d h
  exact ⟨d', h1, h2, h3, fun z => (h4 z).1⟩
theorem good_step (s : Nat) (st : Step) : Good s st.num (stepped st) := by
  cases st with
  | rev => exact good_rev s
  | st k n =>
    cases k
    · rw [show stepped (.st .kf n) = kfR n from funext (st_kf n)]; exact good_kf s n
    · rw [show stepped (.st .kl n) = fun r => (kfR n r.reverse).reverse from funext (st_kl n)]; exact (good_kf s n).turned
    · rw [show stepped (.st .hf n) = hfR n from funext (st_hf n)]; exact good_hf s n
    · rw [show stepped (.st .hl n) = fun r => (hfR n r.reverse).reverse from funext (st_hl n)]; exact (good_hf s n).turned
    · exact good_cf s n
    · rw [show stepped (.st .cl n) = fun r => (r.reverse.drop n).reverse from funext (st_cl n)]; exact (good_cf s n).turned
    · exact good_sq s n
    · exact good_sh s n
theorem run_good : ∀ (m : Mask) (s : Nat) (d : D), Inv s d → ∃ d' : D, Inv (s + (m.map Step.num).sum) d' ∧ ∀ L : Nat, s + (m.map Step.num).sum + 1 ≤ L → runM m (d.row L) = d'.row L
  | [], s, d, h => ⟨d, by simpa using h, fun L _ => rfl⟩
  | x :: m, s, d, h => by
    obtain ⟨d1, h1, e1, _⟩ := good_step s x d h
    obtain ⟨d2, h2, e2⟩ := run_good m _ d1 h1
    have e : s + ((x :: m).map Step.num).sum = s + x.num + (m.map Step.num).sum := by rw [List.map_cons, List.sum_cons]; omega
    refine ⟨d2, by rw [e]; exact h2, fun L hL => ?_⟩
    rw [e] at hL
    show runM m (stepped x (d.row L)) = _
    rw [e1 L (by omega), e2 L hL]
/-- the form of a template from its numbers' sum on -/
theorem tmpl_form (m : Mask) : ∃ d : D, Inv (m.map Step.num).sum d ∧ ∀ L : Nat, (m.map Step.num).sum + 1 ≤ L → tmpl m L = d.row L := by
  obtain ⟨d, h1, h2⟩ := run_good m 0 ⟨0, 0, 0, 0, 0, 1, false, 0, 0⟩ ⟨.inl ⟨rfl, Int.le_refl _⟩, .inl ⟨rfl, Int.le_refl _⟩, .inr ⟨rfl, by simp⟩, .inl ⟨rfl, Int.le_refl _⟩, by simp, by simp, by simp⟩
  rw [Nat.zero_add] at h1 h2
  refine ⟨d, h1, fun L hL => ?_⟩
  rw [← h2 L hL]
  unfold tmpl
  congr 1
  show _ = blk (0 + 0 * (L : Int)).toNat (0 + 0 * (L : Int)).toNat (0 + 1 * (L : Int)).toNat false (0 + 0 * (L : Int)).toNat
  rw [show (0 + 0 * (L : Int)).toNat = 0 by simp, show (0 + 1 * (L : Int)).toNat = L by simp]
  unfold blk seqR
  simp
end PL

set_option Elab.async false
set_option linter.all false
set_option maxRecDepth 100000
set_option maxHeartbeats 4000000
/-! bounds, the first difference, the shown string, difference -/
namespace PL
open PySem PySem.Spec L2

theorem intsOf_map {α : Type} (f : α → Int) : ∀ xs : List α, intsOf (xs.map fun x => .int (f x)) = some (xs.map f)
  | [] => rfl
  | x :: xs => by
    show (intsOf (xs.map fun x => PV.int (f x))).map (f x :: ·) = _
    rw [intsOf_map f xs]; rfl
def msum (m : Mask) : Nat := (m.map Step.num).sum
def bnd (ms : List Mask) : Nat := 2 + (ms.map msum).sum
theorem cast_sum {α : Type} (f : α → Nat) : ∀ xs : List α, (xs.map fun x => ((f x : Nat) : Int)).sum = (((xs.map f).sum : Nat) : Int)
  | [] => rfl
  | x :: xs => by rw [List.map_cons, List.sum_cons, cast_sum f xs, List.map_cons, List.sum_cons]; omega
theorem sumQ_map {α : Type} (f : α → Nat) (xs : List α) (Q : PV → Prop) : sumQ [.lst (xs.map fun x => .int (f x))] Q = Q (.int ((xs.map f).sum : Nat)) := by
  show (match intsOf (xs.map fun x => PV.int (f x)) with | some ns => Q (.int ns.sum) | none => False) = _
  rw [intsOf_map (fun x => ((f x : Nat) : Int)), ← cast_sum]
def tailSum : PV → PV
  | .tup [_, .int n] => .int n
  | _ => .int 0
theorem sum_step (s : Step) (Q : PV → Prop) : slQ (encStep s) (some 1) none (fun z => sumQ [z] Q) = Q (.int s.num) := by
  cases s with
  | rev =>
    show sumQ [.tup (cutP [.str sRev] (some ((1 : Nat) : Int)) none)] Q = _
    rw [cutP_drop]; rfl
  | st k n =>
    show sumQ [.tup (cutP [.str k.str, .int n] (some ((1 : Nat) : Int)) none)] Q = _
    rw [cutP_drop]
    show Q (.int ([(n : Int)].sum)) = _
    simp [Step.num]
theorem tailSum_enc (s : Step) : tailSum (encStep s) = .int s.num := by cases s <;> rfl
def maskSum : PV → PV
  | .tup xs => .int (xs.map fun x => match tailSum x with | .int n => n | _ => 0).sum
  | _ => .int 0
theorem maskSum_enc (m : Mask) : maskSum (encM m) = .int (msum m) := by
  show PV.int _ = _
  congr 1
  rw [List.map_map]
  unfold msum
  rw [← cast_sum]
  refine congrArg List.sum (List.map_congr_left fun s _ => ?_)
  show (match tailSum (encStep s) with | .int n => n | _ => 0) = _
  rw [tailSum_enc]
def p_bound : PSp := fun as Q => ∃ (ms : List Mask) (v : PV), as = [v] ∧ (v = .lst (ms.map encM) ∨ v = .tup (ms.map encM)) ∧ ms.length ≤ sizeLine ∧ (∀ m ∈ ms, m.length ≤ sizeLine) ∧ Q (.int (bnd ms))
theorem m_bound : MonoP p_bound := fun _ _ _ h ⟨v, a, e, z, y, x, q⟩ => ⟨v, a, e, z, y, x, h _ q⟩
def d_bound : DS := (dRet (dOp addQ (dC (.int 2)) (dBi sumQ (dCons (dLc (dIt (dVar 0)) (dgName 2) dYes (dBi sumQ (dCons (dLc (dIt (dVar 2)) (dgName 1) dYes (dBi sumQ (dCons (dSl (dVar 1) (doSome (dC (.int 1))) doNone) dNil)) [1])
      dNil)) [2]) dNil))))
theorem h_bound : ∀ (as : List PV) (post : PV → Prop), as.length = 1 → p_bound as post → d_bound (endsOf post) (startR 3 as) := by
  rintro as post _ ⟨ms, v, rfl, hv, hl, hm, q⟩
  show d_bound _ [.val v, .un, .un]
  have core : dLc (fun ρ Q => Q (ms.map encM) ρ) (dgName 2) dYes (dBi sumQ (dCons (dLc (dIt (dVar 2)) (dgName 1) dYes (dBi sumQ (dCons (dSl (dVar 1) (doSome (dC (.int 1))) doNone) dNil)) [1]) dNil)) [2] [.val v, .un, .un] fun z ρ => sumQ [z] fun z => addQ (.int 2) z post := by
    simp only [dSeq, dNext, dIfS, dRet, dRetN, dSet, dOwn, dVar, dC, dOp, dB, dChain, dAnd, dOr, dNot, dAndV, dOrV, dNotV, dIf, dNil, dCons, dTup, dLst, dDrop, dgName, dgNil, dgCons, dgTup, dAsg, dPar, dPar3, dParO, dParV, dAug, dCall, dBi, dIsi, dInS, dSl, doNone, doSome, dRevL, dRevS, dM1, dRg1, dListOf, dJoin, dNeg, dApp, dExt, dSetIx, endsOf, dFor, dIt, dZip, dEnum, dRange1, dRange2, itemsQ, dLc, wipeR, dTwn, dTwnSet, dTwnAug, dScrE, dScrL, dScrX, List.getElem?_cons_zero, List.getElem?_cons_succ, List.set_cons_zero, List.set_cons_succ, List.length_cons, List.length_nil, if_true, if_false, Bool.true_eq_false, Bool.false_eq_true, if_pos, ite_true, ite_false, reduceIte, true_and, and_true, true_or, or_true, PV.scr.injEq, PV.int.injEq, PV.bl.injEq, PV.str.injEq, PV.lst.injEq, PV.tup.injEq, exists_eq_left, exists_eq_left', exists_eq_right, exists_eq_right', reduceCtorEq, or_false, false_or, forall_const, Nat.zero_le, Bool.not_true, Bool.not_false, decide_true, decide_false]
    refine ⟨fun i hi s hs => ?_, by rw [List.length_map]; exact hl, lcLoop_map (f := maskSum) (fun x hx P hP => ?_) ?_⟩
    · have e : i = 2 := by simpa using hi
      subst e
      simp only [List.getElem?_cons_zero, List.getElem?_cons_succ, List.set_cons_zero, List.set_cons_succ, List.length_cons, List.length_nil, if_true, if_false, Bool.true_eq_false, Bool.false_eq_true, if_pos, ite_true, ite_false, reduceIte, true_and, and_true, true_or, or_true, PV.scr.injEq, PV.int.injEq, PV.bl.injEq, PV.str.injEq, PV.lst.injEq, PV.tup.injEq, exists_eq_left, exists_eq_left', exists_eq_right, exists_eq_right', reduceCtorEq, or_false, false_or, forall_const, Nat.zero_le, Bool.not_true, Bool.not_false, decide_true, decide_false, Option.some.injEq] at hs
      subst hs; rfl
    · obtain ⟨m, hmm, rfl⟩ := List.mem_map.mp hx
      simp only [dYes, dSeq, dNext, dIfS, dRet, dRetN, dSet, dOwn, dVar, dC, dOp, dB, dChain, dAnd, dOr, dNot, dAndV, dOrV, dNotV, dIf, dNil, dCons, dTup, dLst, dDrop, dgName, dgNil, dgCons, dgTup, dAsg, dPar, dPar3, dParO, dParV, dAug, dCall, dBi, dIsi, dInS, dSl, doNone, doSome, dRevL, dRevS, dM1, dRg1, dListOf, dJoin, dNeg, dApp, dExt, dSetIx, endsOf, dFor, dIt, dZip, dEnum, dRange1, dRange2, itemsQ, dLc, wipeR, dTwn, dTwnSet, dTwnAug, dScrE, dScrL, dScrX, List.getElem?_cons_zero, List.getElem?_cons_succ, List.set_cons_zero, List.set_cons_succ, List.length_cons, List.length_nil, if_true, if_false, Bool.true_eq_false, Bool.false_eq_true, if_pos, ite_true, ite_false, reduceIte, true_and, and_true, true_or, or_true, PV.scr.injEq, PV.int.injEq, PV.bl.injEq, PV.str.injEq, PV.lst.injEq, PV.tup.injEq, exists_eq_left, exists_eq_left', exists_eq_right, exists_eq_right', reduceCtorEq, or_false, false_or, forall_const, Nat.zero_le, Bool.not_true, Bool.not_false, decide_true, decide_false, encM]
      refine ⟨fun i hi s hs => ?_, by rw [List.length_map]; exact hm m hmm, lcLoop_map (f := tailSum) (fun x hx P hP => ?_) ?_⟩
      · have e : i = 1 := by simpa using hi
        subst e
        simp only [List.getElem?_cons_zero, List.getElem?_cons_succ, List.set_cons_zero, List.set_cons_succ, List.length_cons, List.length_nil, if_true, if_false, Bool.true_eq_false, Bool.false_eq_true, if_pos, ite_true, ite_false, reduceIte, true_and, and_true, true_or, or_true, PV.scr.injEq, PV.int.injEq, PV.bl.injEq, PV.str.injEq, PV.lst.injEq, PV.tup.injEq, exists_eq_left, exists_eq_left', exists_eq_right, exists_eq_right', reduceCtorEq, or_false, false_or, forall_const, Nat.zero_le, Bool.not_true, Bool.not_false, decide_true, decide_false, Option.some.injEq] at hs
        subst hs; rfl
      · obtain ⟨s, _, rfl⟩ := List.mem_map.mp hx
        simp only [dYes, dSeq, dNext, dIfS, dRet, dRetN, dSet, dOwn, dVar, dC, dOp, dB, dChain, dAnd, dOr, dNot, dAndV, dOrV, dNotV, dIf, dNil, dCons, dTup, dLst, dDrop, dgName, dgNil, dgCons, dgTup, dAsg, dPar, dPar3, dParO, dParV, dAug, dCall, dBi, dIsi, dInS, dSl, doNone, doSome, dRevL, dRevS, dM1, dRg1, dListOf, dJoin, dNeg, dApp, dExt, dSetIx, endsOf, dFor, dIt, dZip, dEnum, dRange1, dRange2, itemsQ, dLc, wipeR, dTwn, dTwnSet, dTwnAug, dScrE, dScrL, dScrX, List.getElem?_cons_zero, List.getElem?_cons_succ, List.set_cons_zero, List.set_cons_succ, List.length_cons, List.length_nil, if_true, if_false, Bool.true_eq_false, Bool.false_eq_true, if_pos, ite_true, ite_false, reduceIte, true_and, and_true, true_or, or_true, PV.scr.injEq, PV.int.injEq, PV.bl.injEq, PV.str.injEq, PV.lst.injEq, PV.tup.injEq, exists_eq_left, exists_eq_left', exists_eq_right, exists_eq_right', reduceCtorEq, or_false, false_or, forall_const, Nat.zero_le, Bool.not_true, Bool.not_false, decide_true, decide_false]
        rw [tailSum_enc] at hP
        rw [sum_step]
        exact hP
      · rw [List.map_map]
        have e : (m.map (tailSum ∘ encStep)) = m.map fun s => .int (s.num) := by
          congr 1; funext s; exact tailSum_enc s
        rw [e, sumQ_map Step.num]
        rw [maskSum_enc] at hP
        exact hP
    · rw [List.map_map]
      have e : (ms.map (maskSum ∘ encM)) = ms.map fun m => .int (msum m) := by
        congr 1; funext m; exact maskSum_enc m
      rw [e, sumQ_map msum]
      show post (.int (2 + ((ms.map msum).sum : Nat)))
      exact q
  rcases hv with rfl | rfl
  · exact core
  · exact core
/-! ### the first difference -/
theorem encO_dat (n : Nat) : ∀ x : Option Nat, (encO x).dat n = true
  | none => by cases n <;> rfl
  | some a => by cases n <;> rfl
theorem row_dats (n : Nat) : ∀ r : Row, dats n (r.map encO) = true
  | [] => by cases n <;> rfl
  | x :: r => by rw [List.map_cons, dats, encO_dat, row_dats n r]; rfl
theorem row_eqv : ∀ r s : Row, PyData.eqvAll (toDs (r.map encO)) (toDs (s.map encO)) = decide (r = s)
  | [], [] => rfl
  | [], y :: s => by cases y <;> rfl
  | x :: r, [] => by cases x <;> rfl
  | x :: r, y :: s => by
    rw [List.map_cons, List.map_cons, toDs, toDs, PyData.eqvAll, row_eqv r s]
    have e : PyData.eqv (encO x).toD (encO y).toD = decide (x = y) := by
      cases x <;> cases y <;> simp [encO, PV.toD, PyData.eqv]
      rename_i a b
      by_cases h : a = b
      · subst h; simp
      · rw [decide_eq_false h]; simp; omega
    rw [e]
    by_cases h : x = y <;> by_cases h2 : r = s <;> simp [h, h2]
theorem neQ_row (r s : Row) (Q : PV → Prop) : neQ (encT r) (encT s) Q = Q (.bl (!decide (r = s))) := by
  unfold neQ encT
  simp only [PV.dat, row_dats, true_and, PV.eqv, PV.toD, PyData.eqv, row_eqv]
theorem eqQ_row (r s : Row) (Q : PV → Prop) : eqQ (encT r) (encT s) Q = Q (.bl (decide (r = s))) := by
  unfold eqQ encT
  simp only [PV.dat, row_dats, true_and, PV.eqv, PV.toD, PyData.eqv, row_eqv]
def fdif (m o : Mask) : Nat → Nat → Option Nat
  | 0, _ => none
  | k + 1, L => if tmpl m L = tmpl o L then fdif m o k (L + 1) else some L
theorem msum_le {m : Mask} (h : OkM m) : msum m ≤ 20 := by
  have go : ∀ l : Mask, (∀ s ∈ l, s.num ≤ 5) → msum l ≤ 5 * l.length := fun l => by
    induction l with
    | nil => intro _; exact Nat.le_refl _
    | cons s l ih =>
      intro hh
      have := ih fun x hx => hh x (List.mem_cons_of_mem _ hx)
      have := hh s List.mem_cons_self
      unfold msum at *
      rw [List.map_cons, List.sum_cons, List.length_cons]; omega
  have := go m h.2
  have := h.1
  omega
def first (m o : Mask) : Option Nat := fdif m o (bnd [m, o] + 1) 0
theorem bnd2 (m o : Mask) : bnd [m, o] = 2 + (msum m + msum o) := by simp [bnd]
def encD (m o : Mask) : Option Nat → PV
  | none => .non
  | some L => .tup [.int L, encT (tmpl m L), encT (tmpl o L)]
def p_first_difference : PSp := fun as Q => ∃ (m o : Mask), as = [encM m, encM o] ∧ OkM m ∧ OkM o ∧ Q (encD m o (first m o))
theorem m_first_difference : MonoP p_first_difference := fun _ _ _ h ⟨v, a, e, z, y, q⟩ => ⟨v, a, e, z, y, h _ q⟩
def bd_first_difference_0 : DS := (dSeq (dPar 3 4 (dCons (dCall 2 p_template_of (dCons (dVar 0) (dCons (dVar 2) dNil))) (dCons (dCall 2 p_template_of (dCons (dVar 1) (dCons (dVar 2) dNil))) dNil))) (dIfS (dB (dOp neQ (dVar 3) (dVar
      4))) (dRet (dTup (dCons (dVar 2) (dCons (dVar 3) (dCons (dVar 4) dNil))))) dNext))
theorem ebd_first_difference_0 (PD : PEnds) (ρ : Rho) : bd_first_difference_0 PD ρ = (dSeq (dPar 3 4 (dCons (dCall 2 p_template_of (dCons (dVar 0) (dCons (dVar 2) dNil))) (dCons (dCall 2 p_template_of (dCons (dVar 1) (dCons (dVar
      2) dNil))) dNil))) (dIfS (dB (dOp neQ (dVar 3) (dVar 4))) (dRet (dTup (dCons (dVar 2) (dCons (dVar 3) (dCons (dVar 4) dNil))))) dNext)) PD ρ := rfl
def d_first_difference : DS := (dSeq (dFor (dRange1 (dCons (dOp addQ (dCall 1 p_bound (dCons (dLst (dCons (dVar 0) (dCons (dVar 1) dNil))) dNil)) (dC (.int 1))) dNil)) (dgName 2) bd_first_difference_0) (dRet (dC .non)))
theorem fd_loop {m o : Mask} (hm : OkM m) (ho : OkM o) (post : PV → Prop) (PD : PEnds) (hr : ∀ r ρ, PD.rt r ρ = post r) : ∀ (k L : Nat) (s2 s3 s4 : Slot), L + k ≤ 1600 → (∀ s2 s3 s4, fdif m o k L = none → PD.nx [.val (encM m), .val (encM o), s2, s3, s4]) → (∀ j, fdif m o k L = some j → post (encD m o (some j))) →
    dLoop (dgName 2) bd_first_difference_0 PD (rngP L k) [.val (encM m), .val (encM o), s2, s3, s4]
  | 0, L, s2, s3, s4, _, h, _ => h s2 s3 s4 rfl
  | k + 1, L, s2, s3, s4, hl, h, h' => by
    show dgName 2 _ _ _
    simp only [ebd_first_difference_0, dSeq, dNext, dIfS, dRet, dRetN, dSet, dOwn, dVar, dC, dOp, dB, dChain, dAnd, dOr, dNot, dAndV, dOrV, dNotV, dIf, dNil, dCons, dTup, dLst, dDrop, dgName, dgNil, dgCons, dgTup, dAsg, dPar, dPar3, dParO, dParV, dAug, dCall, dBi, dIsi, dInS, dSl, doNone, doSome, dRevL, dRevS, dM1, dRg1, dListOf, dJoin, dNeg, dApp, dExt, dSetIx, endsOf, dFor, dIt, dZip, dEnum, dRange1, dRange2, itemsQ, dLc, wipeR, dTwn, dTwnSet, dTwnAug, dScrE, dScrL, dScrX, List.getElem?_cons_zero, List.getElem?_cons_succ, List.set_cons_zero, List.set_cons_succ, List.length_cons, List.length_nil, if_true, if_false, Bool.true_eq_false, Bool.false_eq_true, if_pos, ite_true, ite_false, reduceIte, true_and, and_true, true_or, or_true, PV.scr.injEq, PV.int.injEq, PV.bl.injEq, PV.str.injEq, PV.lst.injEq, PV.tup.injEq, exists_eq_left, exists_eq_left', exists_eq_right, exists_eq_right', reduceCtorEq, or_false, false_or, forall_const, Nat.zero_le, Bool.not_true, Bool.not_false, decide_true, decide_false]
    refine ⟨m, L, rfl, hm, by omega, o, L, rfl, ho, by omega, ?_⟩
    simp only [List.getElem?_cons_zero, List.getElem?_cons_succ, List.set_cons_zero, List.set_cons_succ, List.length_cons, List.length_nil, if_true, if_false, Bool.true_eq_false, Bool.false_eq_true, if_pos, ite_true, ite_false, reduceIte, true_and, and_true, true_or, or_true, PV.scr.injEq, PV.int.injEq, PV.bl.injEq, PV.str.injEq, PV.lst.injEq, PV.tup.injEq, exists_eq_left, exists_eq_left', exists_eq_right, exists_eq_right', reduceCtorEq, or_false, false_or, forall_const, Nat.zero_le, Bool.not_true, Bool.not_false, decide_true, decide_false, neQ_row]
    rw [fdif] at h h'
    by_cases e : tmpl m L = tmpl o L
    · simp only [e, decide_true, Bool.not_true, List.getElem?_cons_zero, List.getElem?_cons_succ, List.set_cons_zero, List.set_cons_succ, List.length_cons, List.length_nil, if_true, if_false, Bool.true_eq_false, Bool.false_eq_true, if_pos, ite_true, ite_false, reduceIte, true_and, and_true, true_or, or_true, PV.scr.injEq, PV.int.injEq, PV.bl.injEq, PV.str.injEq, PV.lst.injEq, PV.tup.injEq, exists_eq_left, exists_eq_left', exists_eq_right, exists_eq_right', reduceCtorEq, or_false, false_or, forall_const, Nat.zero_le, Bool.not_true, Bool.not_false, decide_true, decide_false]
      rw [if_pos e] at h h'
      have := fd_loop hm ho post PD hr k (L + 1) (.val (.int L)) (.val (encT (tmpl o L))) (.val (encT (tmpl o L))) (by omega) h h'
      exact this
    · simp only [decide_eq_false e, Bool.not_false, List.getElem?_cons_zero, List.getElem?_cons_succ, List.set_cons_zero, List.set_cons_succ, List.length_cons, List.length_nil, if_true, if_false, Bool.true_eq_false, Bool.false_eq_true, if_pos, ite_true, ite_false, reduceIte, true_and, and_true, true_or, or_true, PV.scr.injEq, PV.int.injEq, PV.bl.injEq, PV.str.injEq, PV.lst.injEq, PV.tup.injEq, exists_eq_left, exists_eq_left', exists_eq_right, exists_eq_right', reduceCtorEq, or_false, false_or, forall_const, Nat.zero_le, Bool.not_true, Bool.not_false, decide_true, decide_false]
      rw [if_neg e] at h'
      refine ⟨by decide, ?_⟩
      rw [hr]
      exact h' L rfl
theorem h_first_difference : ∀ (as : List PV) (post : PV → Prop), as.length = 2 → p_first_difference as post → d_first_difference (endsOf post) (startR 5 as) := by
  rintro as post _ ⟨m, o, rfl, hm, ho, q⟩
  show d_first_difference _ [.val (encM m), .val (encM o), .un, .un, .un]
  simp only [d_first_difference, dSeq, dNext, dIfS, dRet, dRetN, dSet, dOwn, dVar, dC, dOp, dB, dChain, dAnd, dOr, dNot, dAndV, dOrV, dNotV, dIf, dNil, dCons, dTup, dLst, dDrop, dgName, dgNil, dgCons, dgTup, dAsg, dPar, dPar3, dParO, dParV, dAug, dCall, dBi, dIsi, dInS, dSl, doNone, doSome, dRevL, dRevS, dM1, dRg1, dListOf, dJoin, dNeg, dApp, dExt, dSetIx, endsOf, dFor, dIt, dZip, dEnum, dRange1, dRange2, itemsQ, dLc, wipeR, dTwn, dTwnSet, dTwnAug, dScrE, dScrL, dScrX, List.getElem?_cons_zero, List.getElem?_cons_succ, List.set_cons_zero, List.set_cons_succ, List.length_cons, List.length_nil, if_true, if_false, Bool.true_eq_false, Bool.false_eq_true, if_pos, ite_true, ite_false, reduceIte, true_and, and_true, true_or, or_true, PV.scr.injEq, PV.int.injEq, PV.bl.injEq, PV.str.injEq, PV.lst.injEq, PV.tup.injEq, exists_eq_left, exists_eq_left', exists_eq_right, exists_eq_right', reduceCtorEq, or_false, false_or, forall_const, Nat.zero_le, Bool.not_true, Bool.not_false, decide_true, decide_false]
  have b1 := msum_le hm
  have b2 := msum_le ho
  have b3 := bnd2 m o
  refine ⟨by decide, [m, o], _, rfl, .inl rfl, (show (2 : Nat) ≤ sizeLine by decide), fun x hx => ?_, ?_⟩
  · have : (4 : Nat) ≤ sizeLine := by decide
    rcases List.mem_cons.mp hx with rfl | hx
    · exact Nat.le_trans hm.1 this
    · rcases List.mem_cons.mp hx with rfl | hx
      · exact Nat.le_trans ho.1 this
      · cases hx
  · simp only [addQ_int]
    refine ⟨by omega, by omega, ?_⟩
    have e : ((bnd [m, o] : Nat) : Int) + 1 = ((bnd [m, o] + 1 : Nat) : Int) := by omega
    rw [e, Int.toNat_natCast]
    refine fd_loop hm ho post _ (fun r ρ => rfl) _ 0 _ _ _ (by omega) (fun s2 s3 s4 h => ?_) fun j h => ?_
    · unfold first at q
      rw [h] at q; exact q
    · unfold first at q
      rw [h] at q; exact q
end PL

set_option Elab.async false
set_option linter.all false
set_option maxRecDepth 100000
set_option maxHeartbeats 4000000
/-! the shown string, difference -/
namespace PL
open PySem PySem.Spec L2
open TL (tl len_tl ext_tl tl_append joinL tl_join join_eq)

/-! ### texts as lists of signs -/
abbrev T := List Nat
def strT (l : T) : Str := ⟨l.toArray⟩
theorem tl_strT (l : T) : tl (strT l) = l := rfl
theorem strT_tl (z : Str) : strT (tl z) = z := ext_tl rfl
theorem strT_inj {a b : T} (h : strT a = strT b) : a = b := by
  have := congrArg tl h; rwa [tl_strT, tl_strT] at this
theorem strT_len (l : T) : (strT l).length = l.length := by rw [len_tl, tl_strT]
theorem strT_add (a b : T) : strT a ++ strT b = strT (a ++ b) := ext_tl (by rw [tl_append, tl_strT, tl_strT, tl_strT])
def chP (c : Nat) : PV := .str (strT [c])
theorem signs_strT (l : T) : signs (strT l) = l.map chP := rfl
theorem sok_strT {l : T} (h1 : l.length ≤ sizeLine) (h2 : ∀ c ∈ l, c < 0x110000) : Sok (strT l) := by
  refine ⟨by rw [strT_len]; exact h1, ?_⟩
  unfold PyData.strOk
  rw [← Array.all_toList, List.all_eq_true]
  intro c hc
  simpa using h2 c hc
theorem strsOf_ch : ∀ l : T, strsOf (l.map chP) = some (l.map fun c => strT [c])
  | [] => rfl
  | c :: l => by
    show (strsOf (l.map chP)).map (strT [c] :: ·) = _
    rw [strsOf_ch l]; rfl
theorem joinL_one : ∀ l : T, joinL [] (l.map fun c => [c]) = l
  | [] => rfl
  | [c] => rfl
  | c :: d :: l => by
    show [c] ++ ([] ++ joinL [] ((d :: l).map fun c => [c])) = _
    rw [joinL_one (d :: l)]; rfl
theorem join_ch (l : T) : Txt.join (strT []) (l.map fun c => strT [c]) = strT l := by
  refine ext_tl ?_
  rw [join_eq, tl_join, tl_strT, tl_strT, List.map_map]
  exact joinL_one l
theorem sum_ones (l : T) : ((l.map fun c => strT [c]).map (·.length)).sum = l.length := by
  induction l with
  | nil => rfl
  | cons c l ih => rw [List.map_cons, List.map_cons, List.sum_cons, ih, List.length_cons, strT_len]; simp; omega
theorem joinC_ch {l : T} (h1 : l.length ≤ 1000000) (h2 : ∀ c ∈ l, c < 0x110000) (Q : PV → Prop) (h : Q (.str (strT l))) : joinC (.str (strT [])) (.lst (l.map chP)) Q := by
  show (match strsOf (l.map chP) with | some ys => (ys.map (·.length)).sum + ys.length * (strT []).length ≤ 16777216 ∧ Sok (Txt.join (strT []) ys) ∧ Q (.str (Txt.join (strT []) ys)) | none => False)
  rw [strsOf_ch]
  have e : (sizeLine : Nat) = 16777216 := by decide
  refine ⟨?_, ?_, ?_⟩
  · rw [sum_ones, strT_len]; simp; omega
  · rw [join_ch]; exact sok_strT (by omega) h2
  · rw [join_ch]; exact h
/-! ### showing -/
def fpos : Row → Row → Option Nat
  | some a :: r, some b :: s => if a = b then fpos r s else some a
  | _ :: r, _ :: s => fpos r s
  | _, _ => none
def shown (n : Nat) (r s : Row) : T := if r.length = s.length then match fpos r s with
  | some p => (List.replicate n 97).set p 98
  | none => List.replicate n 97 else List.replicate n 97
theorem shown_ok (n : Nat) (r s : Row) : (shown n r s).length = n ∧ ∀ c ∈ shown n r s, c < 0x110000 := by
  have base : (List.replicate n 97).length = n ∧ ∀ c ∈ List.replicate n 97, c < 0x110000 := ⟨List.length_replicate, fun c hc => by rw [List.eq_of_mem_replicate hc]; decide⟩
  unfold shown
  split
  · split
    · refine ⟨by rw [List.length_set]; exact base.1, fun c hc => ?_⟩
      rcases List.mem_or_eq_of_mem_set hc with h | h
      · exact base.2 c h
      · rw [h]; decide
    · exact base
  · exact base
def p_showing : PSp := fun as Q => ∃ (n : Nat) (r s : Row), as = [.int n, encT r, encT s] ∧ n ≤ 1000000 ∧ (∀ a, some a ∈ r → a < n) ∧ Q (.str (strT (shown n r s)))
theorem m_showing : MonoP p_showing := fun _ _ _ h ⟨v, a, b, e, z, y, q⟩ => ⟨v, a, b, e, z, y, h _ q⟩
def bd_showing_0 : DS := (dIfS (dAnd (dB (dOp notNQ (dVar 4) (dC .non))) (dAnd (dB (dOp notNQ (dVar 5) (dC .non))) (dB (dOp neQ (dVar 4) (dVar 5))))) (dSeq (dSetIx 3 (dVar 4) (dC (.str (Str.ofString "b")))) (dRet (dJoin (dC (.str
      (Str.ofString ""))) (dVar 3)))) dNext)
theorem ebd_showing_0 (PD : PEnds) (ρ : Rho) : bd_showing_0 PD ρ = (dIfS (dAnd (dB (dOp notNQ (dVar 4) (dC .non))) (dAnd (dB (dOp notNQ (dVar 5) (dC .non))) (dB (dOp neQ (dVar 4) (dVar 5))))) (dSeq (dSetIx 3 (dVar 4) (dC (.str
      (Str.ofString "b")))) (dRet (dJoin (dC (.str (Str.ofString ""))) (dVar 3)))) dNext) PD ρ := rfl
def d_showing : DS := (dSeq (dOwn 3 (dOp repQ (dLst (dCons (dC (.str (Str.ofString "a"))) dNil)) (dVar 0))) (dSeq (dIfS (dB (dOp eqQ (dBi lenQ (dCons (dVar 1) dNil)) (dBi lenQ (dCons (dVar 2) dNil)))) (dFor (dZip (dCons (dVar 1)
      (dCons (dVar 2) dNil))) (dgTup 2 (dgCons (dgName 4) (dgCons (dgName 5) dgNil))) bd_showing_0) dNext) (dRet (dJoin (dC (.str (Str.ofString ""))) (dVar 3)))))
theorem lenQ_encT (r : Row) (Q : PV → Prop) : lenQ [encT r] Q = Q (.int r.length) := by show Q (.int ((r.map encO).length : Nat)) = _; rw [List.length_map]
theorem neQ_int' (i j : Nat) (Q : PV → Prop) : neQ (.int i) (.int j) Q = Q (.bl (!decide (i = j))) := by
  rw [neQ_int]; congr 3; exact decide_eq_decide.mpr (by omega)
theorem sh_loop (n : Nat) (hn : n ≤ 1000000) (v0 v1 v2 : Slot) (post : PV → Prop) (PD : PEnds) (hr : ∀ r ρ, PD.rt r ρ = post r) : ∀ (r s : Row) (s4 s5 : Slot), (∀ a, some a ∈ r → a < n) → (fpos r s = none → ∀ s4 s5, PD.nx [v0, v1, v2, .own (.lst ((List.replicate n 97).map chP)), s4, s5]) →
    (∀ p, fpos r s = some p → post (.str (strT ((List.replicate n 97).set p 98)))) →
    dLoop (dgTup 2 (dgCons (dgName 4) (dgCons (dgName 5) dgNil))) bd_showing_0 PD (zipP (r.map encO) (s.map encO)) [v0, v1, v2, .own (.lst ((List.replicate n 97).map chP)), s4, s5]
  | [], s, s4, s5, _, h, _ => by rw [List.map_nil, zipP]; exact h (by simp [fpos]) _ _; all_goals simp
  | x :: r, [], s4, s5, _, h, _ => by rw [List.map_nil, List.map_cons]; exact h (by cases x <;> simp [fpos]) _ _
  | x :: r, y :: s, s4, s5, hb, h, h' => by
    rw [List.map_cons, List.map_cons, zipP]
    show dgTup 2 _ _ _ _
    have hb2 : ∀ a, some a ∈ r → a < n := fun a ha => hb a (List.mem_cons_of_mem _ ha)
    simp only [ebd_showing_0, dSeq, dNext, dIfS, dRet, dRetN, dSet, dOwn, dVar, dC, dOp, dB, dChain, dAnd, dOr, dNot, dAndV, dOrV, dNotV, dIf, dNil, dCons, dTup, dLst, dDrop, dgName, dgNil, dgCons, dgTup, dAsg, dPar, dPar3, dParO, dParV, dAug, dCall, dBi, dIsi, dInS, dSl, doNone, doSome, dRevL, dRevS, dM1, dRg1, dListOf, dJoin, dNeg, dApp, dExt, dSetIx, endsOf, dFor, dIt, dZip, dEnum, dRange1, dRange2, itemsQ, dLc, wipeR, dTwn, dTwnSet, dTwnAug, dScrE, dScrL, dScrX, List.getElem?_cons_zero, List.getElem?_cons_succ, List.set_cons_zero, List.set_cons_succ, List.length_cons, List.length_nil, if_true, if_false, Bool.true_eq_false, Bool.false_eq_true, if_pos, ite_true, ite_false, reduceIte, true_and, and_true, true_or, or_true, PV.scr.injEq, PV.int.injEq, PV.bl.injEq, PV.str.injEq, PV.lst.injEq, PV.tup.injEq, exists_eq_left, exists_eq_left', exists_eq_right, exists_eq_right', reduceCtorEq, or_false, false_or, forall_const, Nat.zero_le, Bool.not_true, Bool.not_false, decide_true, decide_false]
    cases x with
    | none =>
      simp only [encO, notNQ, isNon, List.getElem?_cons_zero, List.getElem?_cons_succ, List.set_cons_zero, List.set_cons_succ, List.length_cons, List.length_nil, if_true, if_false, Bool.true_eq_false, Bool.false_eq_true, if_pos, ite_true, ite_false, reduceIte, true_and, and_true, true_or, or_true, PV.scr.injEq, PV.int.injEq, PV.bl.injEq, PV.str.injEq, PV.lst.injEq, PV.tup.injEq, exists_eq_left, exists_eq_left', exists_eq_right, exists_eq_right', reduceCtorEq, or_false, false_or, forall_const, Nat.zero_le, Bool.not_true, Bool.not_false, decide_true, decide_false, Bool.not_true]
      exact sh_loop n hn v0 v1 v2 post PD hr r s _ _ hb2 (fun e => h (by simp only [fpos]; exact e)) (fun p e => h' p (by simp only [fpos]; exact e))
    | some a =>
      cases y with
      | none =>
        simp only [encO, notNQ, isNon, List.getElem?_cons_zero, List.getElem?_cons_succ, List.set_cons_zero, List.set_cons_succ, List.length_cons, List.length_nil, if_true, if_false, Bool.true_eq_false, Bool.false_eq_true, if_pos, ite_true, ite_false, reduceIte, true_and, and_true, true_or, or_true, PV.scr.injEq, PV.int.injEq, PV.bl.injEq, PV.str.injEq, PV.lst.injEq, PV.tup.injEq, exists_eq_left, exists_eq_left', exists_eq_right, exists_eq_right', reduceCtorEq, or_false, false_or, forall_const, Nat.zero_le, Bool.not_true, Bool.not_false, decide_true, decide_false, Bool.not_true, Bool.not_false]
        exact sh_loop n hn v0 v1 v2 post PD hr r s _ _ hb2 (fun e => h (by simp only [fpos]; exact e)) (fun p e => h' p (by simp only [fpos]; exact e))
      | some b =>
        simp only [encO, notNQ, isNon, List.getElem?_cons_zero, List.getElem?_cons_succ, List.set_cons_zero, List.set_cons_succ, List.length_cons, List.length_nil, if_true, if_false, Bool.true_eq_false, Bool.false_eq_true, if_pos, ite_true, ite_false, reduceIte, true_and, and_true, true_or, or_true, PV.scr.injEq, PV.int.injEq, PV.bl.injEq, PV.str.injEq, PV.lst.injEq, PV.tup.injEq, exists_eq_left, exists_eq_left', exists_eq_right, exists_eq_right', reduceCtorEq, or_false, false_or, forall_const, Nat.zero_le, Bool.not_true, Bool.not_false, decide_true, decide_false, Bool.not_false, neQ_int']
        rw [fpos] at h h'
        by_cases e : a = b
        · rw [if_neg (by rw [decide_eq_true e]; decide)]
          rw [if_pos e] at h h'
          exact sh_loop n hn v0 v1 v2 post PD hr r s _ _ hb2 h h'
        · rw [if_pos (by rw [decide_eq_false e]; decide)]
          rw [if_neg e] at h'
          have ha := hb a List.mem_cons_self
          simp only [ownL]
          refine ⟨trivial, a, ?_, ?_⟩
          · unfold ixN
            rw [if_pos (by omega), if_pos (by rw [List.length_map, List.length_replicate]; omega)]; rfl
          · simp only [hr]
            have e2 : ((List.replicate n 97).map chP).set a (.str (Str.ofString "b")) = ((List.replicate n 97).set a 98).map chP := by
              rw [List.map_set]; rfl
            refine ⟨rfl, ?_⟩
            rw [e2]
            refine joinC_ch (by rw [List.length_set, List.length_replicate]; exact hn) (fun c hc => ?_) _ (h' a rfl)
            rcases List.mem_or_eq_of_mem_set hc with h | h
            · rw [List.eq_of_mem_replicate h]; decide
            · rw [h]; decide
theorem h_showing : ∀ (as : List PV) (post : PV → Prop), as.length = 3 → p_showing as post → d_showing (endsOf post) (startR 6 as) := by
  rintro as post _ ⟨n, r, s, rfl, hn, hb, q⟩
  have big := big
  show d_showing _ [.val (.int n), .val (encT r), .val (encT s), .un, .un, .un]
  have ej : (Str.ofString "") = strT [] := rfl
  have fin : ∀ x4 x5, shown n r s = List.replicate n 97 → dRet (dJoin (dC (.str (Str.ofString ""))) (dVar 3)) (endsOf post) [.val (.int n), .val (encT r), .val (encT s), .own (.lst ((List.replicate n 97).map chP)), x4, x5] := fun x4 x5 e => by
    simp only [dSeq, dNext, dIfS, dRet, dRetN, dSet, dOwn, dVar, dC, dOp, dB, dChain, dAnd, dOr, dNot, dAndV, dOrV, dNotV, dIf, dNil, dCons, dTup, dLst, dDrop, dgName, dgNil, dgCons, dgTup, dAsg, dPar, dPar3, dParO, dParV, dAug, dCall, dBi, dIsi, dInS, dSl, doNone, doSome, dRevL, dRevS, dM1, dRg1, dListOf, dJoin, dNeg, dApp, dExt, dSetIx, endsOf, dFor, dIt, dZip, dEnum, dRange1, dRange2, itemsQ, dLc, wipeR, dTwn, dTwnSet, dTwnAug, dScrE, dScrL, dScrX, List.getElem?_cons_zero, List.getElem?_cons_succ, List.set_cons_zero, List.set_cons_succ, List.length_cons, List.length_nil, if_true, if_false, Bool.true_eq_false, Bool.false_eq_true, if_pos, ite_true, ite_false, reduceIte, true_and, and_true, true_or, or_true, PV.scr.injEq, PV.int.injEq, PV.bl.injEq, PV.str.injEq, PV.lst.injEq, PV.tup.injEq, exists_eq_left, exists_eq_left', exists_eq_right, exists_eq_right', reduceCtorEq, or_false, false_or, forall_const, Nat.zero_le, Bool.not_true, Bool.not_false, decide_true, decide_false]
    refine ⟨rfl, joinC_ch (by rw [List.length_replicate]; exact hn) (fun c hc => by rw [List.eq_of_mem_replicate hc]; decide) _ (by rw [← e]; exact q)⟩
  have e0 : (List.replicate (Int.toNat n) [PV.str (Str.ofString "a")]).flatten = (List.replicate n 97).map chP := by
    rw [Int.toNat_natCast, rep_flat, List.map_replicate]; rfl
  show dOwn 3 _ _ _
  simp only [dOwn, dOp, dLst, dCons, dNil, dC, dVar, List.getElem?_cons_zero, List.getElem?_cons_succ, List.set_cons_zero, List.set_cons_succ, List.length_cons, List.length_nil, if_true, if_false, Bool.true_eq_false, Bool.false_eq_true, if_pos, ite_true, ite_false, reduceIte, true_and, and_true, true_or, or_true, PV.scr.injEq, PV.int.injEq, PV.bl.injEq, PV.str.injEq, PV.lst.injEq, PV.tup.injEq, exists_eq_left, exists_eq_left', exists_eq_right, exists_eq_right', reduceCtorEq, or_false, false_or, forall_const, Nat.zero_le, Bool.not_true, Bool.not_false, decide_true, decide_false, repQ, e0]
  refine ⟨by decide, by omega, by omega, by simp only [List.length_singleton, Int.toNat_natCast]; omega, ?_⟩
  show dIfS _ _ _ _ _
  simp only [dIfS, dB, dOp, dBi, dCons, dNil, dVar, List.getElem?_cons_zero, List.getElem?_cons_succ, List.set_cons_zero, List.set_cons_succ, List.length_cons, List.length_nil, if_true, if_false, Bool.true_eq_false, Bool.false_eq_true, if_pos, ite_true, ite_false, reduceIte, true_and, and_true, true_or, or_true, PV.scr.injEq, PV.int.injEq, PV.bl.injEq, PV.str.injEq, PV.lst.injEq, PV.tup.injEq, exists_eq_left, exists_eq_left', exists_eq_right, exists_eq_right', reduceCtorEq, or_false, false_or, forall_const, Nat.zero_le, Bool.not_true, Bool.not_false, decide_true, decide_false, lenQ_encT, eqQ_int]
  by_cases hl : r.length = s.length
  · rw [if_pos (by rw [decide_eq_true_eq]; omega)]
    simp only [dFor, dZip, dCons, dNil, dVar, List.getElem?_cons_zero, List.getElem?_cons_succ, List.set_cons_zero, List.set_cons_succ, List.length_cons, List.length_nil, if_true, if_false, Bool.true_eq_false, Bool.false_eq_true, if_pos, ite_true, ite_false, reduceIte, true_and, and_true, true_or, or_true, PV.scr.injEq, PV.int.injEq, PV.bl.injEq, PV.str.injEq, PV.lst.injEq, PV.tup.injEq, exists_eq_left, exists_eq_left', exists_eq_right, exists_eq_right', reduceCtorEq, or_false, false_or, forall_const, Nat.zero_le, Bool.not_true, Bool.not_false, decide_true, decide_false]
    have e1 : shown n r s = match fpos r s with
      | some p => (List.replicate n 97).set p 98
      | none => List.replicate n 97 := by unfold shown; rw [if_pos hl]
    exact sh_loop n hn _ _ _ post _ (fun r ρ => rfl) r s _ _ hb (fun e s4 s5 => fin _ _ (by rw [e1, e])) fun p e => by
      rw [e1, e] at q; exact q
  · rw [if_neg (by rw [decide_eq_true_eq]; omega)]
    exact fin _ _ (by unfold shown; rw [if_neg hl])
/-! ### difference -/
theorem hid_some {a b : Int} {x : Nat} : ∀ {r : Row} {i : Nat}, some x ∈ hid a b i r → some x ∈ r
  | y :: r, i, h => by
    rw [hid] at h
    rcases List.mem_cons.mp h with h | h
    · split at h
      · cases h
      · rw [h]; exact List.mem_cons_self
    · exact List.mem_cons_of_mem _ (hid_some h)
theorem sqz_some {c x : Nat} : ∀ {r : Row} {p : Bool}, some x ∈ sqz c p r → some x ∈ r
  | some y :: r, p, h => by
    rw [sqz] at h
    rcases List.mem_cons.mp h with h | h
    · rw [h]; exact List.mem_cons_self
    · exact List.mem_cons_of_mem _ (sqz_some h)
  | none :: r, p, h => by
    rw [sqz] at h
    rcases List.mem_append.mp h with h | h
    · split at h
      · cases h
      · have := List.eq_of_mem_replicate h; cases this
    · exact List.mem_cons_of_mem _ (sqz_some h)
theorem stepped_some {s : Step} {r : Row} {x : Nat} (h : some x ∈ stepped s r) : some x ∈ r := by
  cases s with
  | rev => rw [stepped] at h; simpa using h
  | st k n =>
    cases k <;> simp only [stepped] at h
    · exact hid_some h
    · exact hid_some h
    · exact hid_some h
    · exact hid_some h
    · exact List.mem_of_mem_drop h
    · exact List.mem_of_mem_take h
    · exact sqz_some h
    · split at h
      · have := List.eq_of_mem_replicate h; cases this
      · exact h
theorem runM_some {x : Nat} : ∀ {m : Mask} {r : Row}, some x ∈ runM m r → some x ∈ r
  | [], r, h => h
  | s :: m, r, h => stepped_some (runM_some (m := m) h)
theorem tmpl_some {m : Mask} {n x : Nat} (h : some x ∈ tmpl m n) : x < n := by
  have := runM_some h
  simpa using this
theorem fdif_lt {m o : Mask} : ∀ {k L j : Nat}, fdif m o k L = some j → L ≤ j ∧ j < L + k
  | k + 1, L, j, h => by
    rw [fdif] at h
    split at h
    · have := fdif_lt h; omega
    · cases h; omega
def diffP (m o : Mask) : Option T := (first m o).map fun L => shown L (tmpl m L) (tmpl o L)
def encS : Option T → PV
  | none => .non
  | some l => .str (strT l)
def p_difference : PSp := fun as Q => ∃ (m o : Mask), as = [encM m, encM o] ∧ OkM m ∧ OkM o ∧ Q (encS (diffP m o))
theorem m_difference : MonoP p_difference := fun _ _ _ h ⟨v, a, e, z, y, q⟩ => ⟨v, a, e, z, y, h _ q⟩
def d_difference : DS := (dSeq (dDrop (dCall 1 p_need_mask (dCons (dVar 0) dNil))) (dSeq (dDrop (dCall 1 p_need_mask (dCons (dVar 1) dNil))) (dSeq (dSet 2 (dCall 2 p_first_difference (dCons (dVar 0) (dCons (dVar 1) dNil)))) (dRet
      (dIf (dB (dOp isNQ (dVar 2) (dC .non))) (dC .non) (dCall 3 p_showing (dCons (dOp ixQ (dVar 2) (dC (.int 0))) (dCons (dOp ixQ (dVar 2) (dC (.int 1))) (dCons (dOp ixQ (dVar 2) (dC (.int 2))) dNil)))))))))
theorem h_difference : ∀ (as : List PV) (post : PV → Prop), as.length = 2 → p_difference as post → d_difference (endsOf post) (startR 3 as) := by
  rintro as post _ ⟨m, o, rfl, hm, ho, q⟩
  show d_difference _ [.val (encM m), .val (encM o), .un]
  simp only [d_difference, dSeq, dNext, dIfS, dRet, dRetN, dSet, dOwn, dVar, dC, dOp, dB, dChain, dAnd, dOr, dNot, dAndV, dOrV, dNotV, dIf, dNil, dCons, dTup, dLst, dDrop, dgName, dgNil, dgCons, dgTup, dAsg, dPar, dPar3, dParO, dParV, dAug, dCall, dBi, dIsi, dInS, dSl, doNone, doSome, dRevL, dRevS, dM1, dRg1, dListOf, dJoin, dNeg, dApp, dExt, dSetIx, endsOf, dFor, dIt, dZip, dEnum, dRange1, dRange2, itemsQ, dLc, wipeR, dTwn, dTwnSet, dTwnAug, dScrE, dScrL, dScrX, List.getElem?_cons_zero, List.getElem?_cons_succ, List.set_cons_zero, List.set_cons_succ, List.length_cons, List.length_nil, if_true, if_false, Bool.true_eq_false, Bool.false_eq_true, if_pos, ite_true, ite_false, reduceIte, true_and, and_true, true_or, or_true, PV.scr.injEq, PV.int.injEq, PV.bl.injEq, PV.str.injEq, PV.lst.injEq, PV.tup.injEq, exists_eq_left, exists_eq_left', exists_eq_right, exists_eq_right', reduceCtorEq, or_false, false_or, forall_const, Nat.zero_le, Bool.not_true, Bool.not_false, decide_true, decide_false]
  refine ⟨encM m, rfl, mask_dat m 15, maskB_enc hm, encM o, rfl, mask_dat o 15, maskB_enc ho, m, o, rfl, hm, ho, ?_⟩
  unfold diffP at q
  cases e : first m o with
  | none =>
    rw [e] at q
    simp only [encD, isNQ, isNon, List.getElem?_cons_zero, List.getElem?_cons_succ, List.set_cons_zero, List.set_cons_succ, List.length_cons, List.length_nil, if_true, if_false, Bool.true_eq_false, Bool.false_eq_true, if_pos, ite_true, ite_false, reduceIte, true_and, and_true, true_or, or_true, PV.scr.injEq, PV.int.injEq, PV.bl.injEq, PV.str.injEq, PV.lst.injEq, PV.tup.injEq, exists_eq_left, exists_eq_left', exists_eq_right, exists_eq_right', reduceCtorEq, or_false, false_or, forall_const, Nat.zero_le, Bool.not_true, Bool.not_false, decide_true, decide_false]
    exact q
  | some L =>
    rw [e] at q
    simp only [encD, isNQ, isNon, List.getElem?_cons_zero, List.getElem?_cons_succ, List.set_cons_zero, List.set_cons_succ, List.length_cons, List.length_nil, if_true, if_false, Bool.true_eq_false, Bool.false_eq_true, if_pos, ite_true, ite_false, reduceIte, true_and, and_true, true_or, or_true, PV.scr.injEq, PV.int.injEq, PV.bl.injEq, PV.str.injEq, PV.lst.injEq, PV.tup.injEq, exists_eq_left, exists_eq_left', exists_eq_right, exists_eq_right', reduceCtorEq, or_false, false_or, forall_const, Nat.zero_le, Bool.not_true, Bool.not_false, decide_true, decide_false, ixQ_0, ixQ_1, ixQ_2]
    have hL := fdif_lt e
    have b1 := msum_le hm
    have b2 := msum_le ho
    have b3 := bnd2 m o
    exact ⟨L, tmpl m L, tmpl o L, rfl, by omega, fun a ha => tmpl_some ha, q⟩
end PL

set_option Elab.async false
set_option linter.all false
set_option maxRecDepth 100000
set_option maxHeartbeats 4000000
/-! two masks that agree up to the bound agree always -/
namespace PL

theorem seqR_one (lo : Nat) (r : Bool) : seqR lo 1 r = [some lo] := by cases r <;> rfl
theorem seqR_first (lo n : Nat) (r : Bool) (h : 0 < n) : (seqR lo n r)[0]? = some (some (if r = true then lo + (n - 1) else lo)) := by
  unfold seqR
  cases r
  · simp [h]
  · simp [List.getElem?_reverse, h]
theorem seqR_last (lo n : Nat) (r : Bool) (h : 0 < n) : (seqR lo n r)[n - 1]? = some (some (if r = true then lo else lo + (n - 1))) := by
  have hl := seqR_length lo n r
  rw [show (seqR lo n r)[n - 1]? = (seqR lo n r).reverse[0]? by rw [List.getElem?_reverse (by omega), hl]; rfl, seqR_reverse, seqR_first _ _ _ h]
  cases r <;> rfl
theorem seqR_inj {lo lo' n : Nat} {r r' : Bool} (hn : 0 < n) (e : seqR lo n r = seqR lo' n r') : lo = lo' ∧ (n = 1 ∨ r = r') := by
  have h1 := seqR_first lo n r hn
  rw [e, seqR_first lo' n r' hn] at h1
  have h2 := seqR_last lo n r hn
  rw [e, seqR_last lo' n r' hn] at h2
  injection h1 with h1; injection h1 with h1
  injection h2 with h2; injection h2 with h2
  cases r <;> cases r' <;> simp only [if_true, Bool.false_eq_true, if_false] at h1 h2
  · exact ⟨by omega, .inr rfl⟩
  · exact ⟨by omega, .inl (by omega)⟩
  · exact ⟨by omega, .inl (by omega)⟩
  · exact ⟨by omega, .inr rfl⟩
theorem pre_inj {n n' : Nat} {r r' : Bool} {lo lo' : Nat} (hn : 0 < n) (hn' : 0 < n') : ∀ {a a' : Nat} {s s' : Row}, st a ++ (seqR lo n r ++ s) = st a' ++ (seqR lo' n' r' ++ s') → a = a'
  | 0, 0, _, _, _ => rfl
  | a + 1, a' + 1, s, s', e => by
    have e : (none :: (st a ++ (seqR lo n r ++ s)) : Row) = none :: (st a' ++ (seqR lo' n' r' ++ s')) := e
    injection e with _ e
    rw [pre_inj hn hn' e]
  | 0, a' + 1, s, s', e => by
    have h := congrArg (fun x : Row => x[0]?) e
    simp only [List.replicate_zero, List.nil_append] at h
    rw [List.getElem?_append_left (by rw [seqR_length]; exact hn), seqR_first _ _ _ hn] at h
    simp [List.replicate_succ] at h
  | a + 1, 0, s, s', e => by
    have h := congrArg (fun x : Row => x[0]?) e.symm
    simp only [List.replicate_zero, List.nil_append] at h
    rw [List.getElem?_append_left (by rw [seqR_length]; exact hn'), seqR_first _ _ _ hn'] at h
    simp [List.replicate_succ] at h
def lettersN (r : Row) : Nat := (r.filterMap id).length
theorem letters_blk (a lo n : Nat) (r : Bool) (b : Nat) : lettersN (blk a lo n r b) = n := by
  unfold lettersN blk
  have e1 : ∀ k, (st k).filterMap id = ([] : List Nat) := fun k => by
    induction k with
    | zero => rfl
    | succ k ih => exact ih
  have e2 : ((seqR lo n r).filterMap id).length = n := by
    unfold seqR
    have e3 : ((List.range n).map fun i => some (lo + i)).filterMap id = (List.range n).map (lo + ·) := by
      rw [List.filterMap_map]
      show (List.range n).filterMap (fun i => some (lo + i)) = _
      rw [← List.filterMap_eq_map]; rfl
    cases r
    · simp only [Bool.false_eq_true, if_false]; rw [e3]; simp
    · simp only [if_true]; rw [List.filterMap_reverse, e3]; simp
  rw [List.filterMap_append, List.filterMap_append, e1, e1, List.nil_append, List.append_nil, e2]
theorem blk_inj {a a' lo lo' n n' b b' : Nat} {r r' : Bool} (e : blk a lo n r b = blk a' lo' n' r' b') : n = n' ∧ a + b = a' + b' ∧ (0 < n → a = a' ∧ b = b' ∧ lo = lo' ∧ (n = 1 ∨ r = r')) := by
  have hn := congrArg lettersN e
  rw [letters_blk, letters_blk] at hn
  subst hn
  have hl := congrArg List.length e
  rw [blk_length, blk_length] at hl
  refine ⟨rfl, by omega, fun h => ?_⟩
  have ha := pre_inj h h e
  subst ha
  have hb : b = b' := by omega
  subst hb
  unfold blk at e
  have e := List.append_cancel_right (List.append_cancel_left e)
  obtain ⟨h1, h2⟩ := seqR_inj h e
  exact ⟨rfl, rfl, h1, h2⟩
theorem val_nn {s : Nat} {c k : Int} (h : Cm s c k) {L : Nat} (h1 : s + 1 ≤ L) : 0 ≤ c + k * L := by
  unfold Cm at h
  rcases h with ⟨rfl, h⟩ | ⟨rfl, h⟩ <;> simp only [Int.zero_mul, Int.one_mul, Int.add_zero] <;> omega
theorem aff_eq {s s' : Nat} {c k c' k' : Int} (h : Cm s c k) (h' : Cm s' c' k') {L : Nat} (h1 : s + 1 ≤ L) (h2 : s' + 1 ≤ L) (e1 : (c + k * L).toNat = (c' + k' * L).toNat) (e2 : (c + k * (L + 1 : Nat)).toNat = (c' + k' * (L + 1 : Nat)).toNat) : c = c' ∧ k = k' := by
  have f1 : c + k * L = c' + k' * L := by rw [← Int.toNat_of_nonneg (val_nn h h1), ← Int.toNat_of_nonneg (val_nn h' h2), e1]
  have f2 : c + k * (L + 1 : Nat) = c' + k' * (L + 1 : Nat) := by rw [← Int.toNat_of_nonneg (val_nn h (L := L + 1) (by omega)), ← Int.toNat_of_nonneg (val_nn h' (L := L + 1) (by omega)), e2]
  clear e1 e2
  unfold Cm at h h'
  rcases h with ⟨rfl, h⟩ | ⟨rfl, h⟩ <;> rcases h' with ⟨rfl, h'⟩ | ⟨rfl, h'⟩ <;> simp only [Int.zero_mul, Int.one_mul, Int.add_zero] at f1 f2 <;> omega
theorem sum_nat {s : Nat} {a ka b kb : Int} (h : Cm s a ka) (h' : Cm s b kb) {L : Nat} (h1 : s + 1 ≤ L) : (a + ka * L).toNat + (b + kb * L).toNat = ((a + b) + (ka + kb) * L).toNat := by
  rw [← Int.toNat_add (val_nn h h1) (val_nn h' h1), Int.add_mul]
  congr 1
  generalize ka * (L : Int) = x
  generalize kb * (L : Int) = y
  omega
theorem Cm.sum {s : Nat} {a ka b kb : Int} (h : Cm s a ka) (h' : Cm s b kb) (h1 : ka + kb ≤ 1) : Cm s (a + b) (ka + kb) := by
  unfold Cm at *; omega
theorem row_agree {s s' : Nat} {d d' : D} (h : Inv s d) (h' : Inv s' d') {L : Nat} (h1 : s + 1 ≤ L) (h2 : s' + 1 ≤ L) (e1 : d.row L = d'.row L) (e2 : d.row (L + 1) = d'.row (L + 1)) : ∀ M : Nat, L ≤ M → d.row M = d'.row M := by
  obtain ⟨a, ka, lo, kl, n, kn, rev, b, kb⟩ := d
  obtain ⟨a', ka', lo', kl', n', kn', rev', b', kb'⟩ := d'
  obtain ⟨p1, p2, p3, p4, p5, p6, _⟩ := h
  obtain ⟨q1, q2, q3, q4, q5, q6, _⟩ := h'
  unfold D.row at e1 e2 ⊢
  simp only at p1 p2 p3 p4 p5 p6 q1 q2 q3 q4 q5 q6 e1 e2 ⊢
  intro M hM
  have m1 : s + 1 ≤ M := Nat.le_trans h1 hM
  have m2 : s' + 1 ≤ M := Nat.le_trans h2 hM
  have l1 : s + 1 ≤ L + 1 := Nat.le_succ_of_le h1
  have l2 : s' + 1 ≤ L + 1 := Nat.le_succ_of_le h2
  have hk : kn = 0 ∨ kn = 1 := by clear e1 e2; unfold Cm at p3; omega
  have u1 : ka + kb ≤ 1 := by clear e1 e2; omega
  have u2 : ka' + kb' ≤ 1 := by clear e1 e2; unfold Cm at q3; omega
  have np := fun (X : Nat) (h : s + 1 ≤ X) => val_nn p3 h
  have hp4 : kn = 0 → ∀ M : Nat, (n + kn * (M : Int)).toNat = (n + kn * (L : Int)).toNat := by
    clear e1 e2; rintro rfl M; simp only [Int.zero_mul, Int.add_zero]
  have hpos : ¬(kn = 0 ∧ n = 0) → 0 < (n + kn * (L : Int)).toNat ∧ 0 < (n + kn * ((L + 1 : Nat) : Int)).toNat ∧ (kn = 1 → (n + kn * ((L + 1 : Nat) : Int)).toNat ≠ 1) := by
    clear e1 e2
    intro hz
    unfold Cm at p3
    rcases p3 with ⟨rfl, p3⟩ | ⟨rfl, p3⟩
    · simp only [Int.zero_mul, Int.add_zero]
      exact ⟨by omega, by omega, fun z => by omega⟩
    · simp only [Int.one_mul]
      exact ⟨by omega, by omega, fun _ => by omega⟩
  obtain ⟨x1, x2, x3⟩ := blk_inj e1
  obtain ⟨y1, y2, y3⟩ := blk_inj e2
  obtain ⟨rfl, rfl⟩ := aff_eq p3 q3 h1 h2 x1 y1
  by_cases hz : kn = 0 ∧ n = 0
  · obtain ⟨rfl, rfl⟩ := hz
    rw [show ((0 : Int) + 0 * (M : Int)).toNat = 0 by simp, blk_zero, blk_zero]
    rw [sum_nat p1 p4 m1, sum_nat q1 q4 m2]
    rw [sum_nat p1 p4 h1, sum_nat q1 q4 h2] at x2
    rw [sum_nat p1 p4 l1, sum_nat q1 q4 l2] at y2
    obtain ⟨z1, z2⟩ := aff_eq (p1.sum p4 u1) (q1.sum q4 u2) h1 h2 x2 y2
    rw [z1, z2]
  · obtain ⟨hp1, hp2, hp3⟩ := hpos hz
    obtain ⟨xa, xb, xl, xr⟩ := x3 hp1
    obtain ⟨ya, yb, yl, yr⟩ := y3 hp2
    obtain ⟨rfl, rfl⟩ := aff_eq p1 q1 h1 h2 xa ya
    obtain ⟨rfl, rfl⟩ := aff_eq p4 q4 h1 h2 xb yb
    obtain ⟨rfl, rfl⟩ := aff_eq p2 q2 h1 h2 xl yl
    rcases hk with rfl | rfl
    · rcases xr with xr | xr
      · have e := hp4 rfl M
        rw [xr] at e
        unfold blk
        rw [e, seqR_one, seqR_one]
      · subst xr; rfl
    · rcases yr with yr | yr
      · exact absurd yr (hp3 rfl)
      · subst yr; rfl
theorem fdif_none {m o : Mask} : ∀ {k L : Nat}, fdif m o k L = none → ∀ j, L ≤ j → j < L + k → tmpl m j = tmpl o j
  | 0, L, _, j, h1, h2 => by omega
  | k + 1, L, h, j, h1, h2 => by
    rw [fdif] at h
    split at h
    · rename_i e
      by_cases hj : j = L
      · rw [hj]; exact e
      · exact fdif_none h j (by omega) (by omega)
    · cases h
theorem fdif_some {m o : Mask} : ∀ {k L j : Nat}, fdif m o k L = some j → tmpl m j ≠ tmpl o j ∧ ∀ i, L ≤ i → i < j → tmpl m i = tmpl o i
  | k + 1, L, j, h => by
    rw [fdif] at h
    split at h
    · rename_i e
      obtain ⟨h1, h2⟩ := fdif_some h
      refine ⟨h1, fun i hi hj => ?_⟩
      by_cases hh : i = L
      · rw [hh]; exact e
      · exact h2 i (by omega) hj
    · rename_i e
      cases h
      exact ⟨e, fun i hi hj => by omega⟩
/-- the bound -/
theorem first_none {m o : Mask} (h : first m o = none) : ∀ L, tmpl m L = tmpl o L := by
  have hb := bnd2 m o
  have hle : ∀ j, j ≤ 2 + (msum m + msum o) → tmpl m j = tmpl o j := fun j hj => fdif_none h j (Nat.zero_le _) (by omega)
  obtain ⟨d, i1, f1⟩ := tmpl_form m
  obtain ⟨d', i2, f2⟩ := tmpl_form o
  have s1 : (m.map Step.num).sum = msum m := rfl
  have s2 : (o.map Step.num).sum = msum o := rfl
  rw [s1] at i1 f1
  rw [s2] at i2 f2
  intro L
  by_cases hL : L ≤ 2 + (msum m + msum o)
  · exact hle L hL
  · rw [f1 L (by omega), f2 L (by omega)]
    refine row_agree i1 i2 (L := msum m + msum o + 1) (by omega) (by omega) ?_ ?_ L (by omega)
    · rw [← f1 _ (by omega), ← f2 _ (by omega)]; exact hle _ (by omega)
    · rw [← f1 _ (by omega), ← f2 _ (by omega)]; exact hle _ (by omega)
theorem first_iff {m o : Mask} : first m o = none ↔ ∀ L, tmpl m L = tmpl o L := by
  refine ⟨first_none, fun h => ?_⟩
  cases e : first m o with
  | none => rfl
  | some L => exact absurd (h L) (fdif_some e).1
end PL

set_option Elab.async false
set_option linter.all false
set_option maxRecDepth 100000
set_option maxHeartbeats 4000000
/-! strings, outputs, templates; the laws' own masks, strings, steps -/
namespace PL
open PySem PySem.Spec L2
open TL (tl len_tl ext_tl tl_append joinL tl_join join_eq)

abbrev sLet : Str := Str.ofString "abcdefghijklmnopqrstuvwxyz"
def lower (c : Nat) : Bool := decide (97 ≤ c) && decide (c ≤ 122)
theorem let_mem (c : Nat) : decide (c ∈ sLet.cps.toList) = lower c := by
  have e : sLet.cps.toList = (List.range 26).map (97 + ·) := by decide +kernel
  rw [e]
  unfold lower
  by_cases h : 97 ≤ c
  · by_cases h2 : c ≤ 122
    · rw [decide_eq_true h, decide_eq_true h2]
      exact decide_eq_true (List.mem_map.mpr ⟨c - 97, List.mem_range.mpr (by omega), by omega⟩)
    · rw [decide_eq_false h2, Bool.and_false]
      refine decide_eq_false fun hm => ?_
      obtain ⟨i, hi, rfl⟩ := List.mem_map.mp hm
      have := List.mem_range.mp hi; omega
  · rw [decide_eq_false h, Bool.false_and]
    refine decide_eq_false fun hm => ?_
    obtain ⟨i, hi, rfl⟩ := List.mem_map.mp hm
    omega
theorem inSQ_ch (c : Nat) (z : Str) (Q : PV → Prop) : inSQ (chP c) (.str z) Q = Q (.bl (decide (c ∈ z.cps.toList))) := rfl
theorem lenQ_str (z : Str) (Q : PV → Prop) : lenQ [.str z] Q = Q (.int z.length) := rfl
def strB : PV → Bool
  | .str z => decide (z.length ≤ 40) && (tl z).all lower
  | _ => false
def p_is_string : PSp := fun as Q => ∃ v : PV, as = [v] ∧ v.plain = true ∧ Q (.bl (strB v))
theorem m_is_string : MonoP p_is_string := fun _ _ _ h ⟨v, e, z, q⟩ => ⟨v, e, z, h _ q⟩
def d_is_string : DS := (dRet (dAndV (dIsi "str" (dVar 0)) (dAndV (dOp (cmpQ fun i j => decide (i ≤ j)) (dBi lenQ (dCons (dVar 0) dNil)) (dC (.int 40))) (dBi allQ (dCons (dLc (dIt (dVar 0)) (dgName 1) dYes (dOp inSQ (dVar 1) (dC
      (.str (Str.ofString "abcdefghijklmnopqrstuvwxyz")))) [1]) dNil)))))
theorem h_is_string : ∀ (as : List PV) (post : PV → Prop), as.length = 1 → p_is_string as post → d_is_string (endsOf post) (startR 2 as) := by
  rintro as post _ ⟨v, rfl, zp, q⟩
  show d_is_string _ [.val v, .un]
  simp only [d_is_string, dSeq, dNext, dIfS, dRet, dRetN, dSet, dOwn, dVar, dC, dOp, dB, dChain, dAnd, dOr, dNot, dAndV, dOrV, dNotV, dIf, dNil, dCons, dTup, dLst, dDrop, dgName, dgNil, dgCons, dgTup, dAsg, dPar, dPar3, dParO, dParV, dAug, dCall, dBi, dIsi, dInS, dSl, doNone, doSome, dRevL, dRevS, dM1, dRg1, dListOf, dJoin, dNeg, dApp, dExt, dSetIx, endsOf, dFor, dIt, dZip, dEnum, dRange1, dRange2, itemsQ, dLc, wipeR, dTwn, dTwnSet, dTwnAug, dScrE, dScrL, dScrX, List.getElem?_cons_zero, List.getElem?_cons_succ, List.set_cons_zero, List.set_cons_succ, List.length_cons, List.length_nil, if_true, if_false, Bool.true_eq_false, Bool.false_eq_true, if_pos, ite_true, ite_false, reduceIte, true_and, and_true, true_or, or_true, PV.scr.injEq, PV.int.injEq, PV.bl.injEq, PV.str.injEq, PV.lst.injEq, PV.tup.injEq, exists_eq_left, exists_eq_left', exists_eq_right, exists_eq_right', reduceCtorEq, or_false, false_or, forall_const, Nat.zero_le, Bool.not_true, Bool.not_false, decide_true, decide_false, isi_str zp]
  cases v with
  | str z =>
    simp only [isS, List.getElem?_cons_zero, List.getElem?_cons_succ, List.set_cons_zero, List.set_cons_succ, List.length_cons, List.length_nil, if_true, if_false, Bool.true_eq_false, Bool.false_eq_true, if_pos, ite_true, ite_false, reduceIte, true_and, and_true, true_or, or_true, PV.scr.injEq, PV.int.injEq, PV.bl.injEq, PV.str.injEq, PV.lst.injEq, PV.tup.injEq, exists_eq_left, exists_eq_left', exists_eq_right, exists_eq_right', reduceCtorEq, or_false, false_or, forall_const, Nat.zero_le, Bool.not_true, Bool.not_false, decide_true, decide_false, lenQ, cmpQ]
    have q : post (.bl (decide (z.length ≤ 40) && (tl z).all lower)) := q
    by_cases hl : z.length ≤ 40
    · rw [decide_eq_true hl] at q
      rw [if_pos (by rw [decide_eq_true_eq]; omega)]
      refine ⟨fun i hi s hs => ?_, ?_, lcLoop_map (f := fun x => match x with | .str c => .bl ((tl c).all lower) | p => p) (fun x hx P hP => ?_) ?_⟩
      · have e : i = 1 := by simpa using hi
        subst e
        simp only [List.getElem?_cons_zero, List.getElem?_cons_succ, List.set_cons_zero, List.set_cons_succ, List.length_cons, List.length_nil, if_true, if_false, Bool.true_eq_false, Bool.false_eq_true, if_pos, ite_true, ite_false, reduceIte, true_and, and_true, true_or, or_true, PV.scr.injEq, PV.int.injEq, PV.bl.injEq, PV.str.injEq, PV.lst.injEq, PV.tup.injEq, exists_eq_left, exists_eq_left', exists_eq_right, exists_eq_right', reduceCtorEq, or_false, false_or, forall_const, Nat.zero_le, Bool.not_true, Bool.not_false, decide_true, decide_false, Option.some.injEq] at hs
        subst hs; rfl
      · unfold signs
        rw [List.length_map]
        exact Nat.le_trans (by rw [← len_tl]; exact hl) (by decide)
      · obtain ⟨c, hc, rfl⟩ := List.mem_map.mp hx
        simp only [dYes, dSeq, dNext, dIfS, dRet, dRetN, dSet, dOwn, dVar, dC, dOp, dB, dChain, dAnd, dOr, dNot, dAndV, dOrV, dNotV, dIf, dNil, dCons, dTup, dLst, dDrop, dgName, dgNil, dgCons, dgTup, dAsg, dPar, dPar3, dParO, dParV, dAug, dCall, dBi, dIsi, dInS, dSl, doNone, doSome, dRevL, dRevS, dM1, dRg1, dListOf, dJoin, dNeg, dApp, dExt, dSetIx, endsOf, dFor, dIt, dZip, dEnum, dRange1, dRange2, itemsQ, dLc, wipeR, dTwn, dTwnSet, dTwnAug, dScrE, dScrL, dScrX, List.getElem?_cons_zero, List.getElem?_cons_succ, List.set_cons_zero, List.set_cons_succ, List.length_cons, List.length_nil, if_true, if_false, Bool.true_eq_false, Bool.false_eq_true, if_pos, ite_true, ite_false, reduceIte, true_and, and_true, true_or, or_true, PV.scr.injEq, PV.int.injEq, PV.bl.injEq, PV.str.injEq, PV.lst.injEq, PV.tup.injEq, exists_eq_left, exists_eq_left', exists_eq_right, exists_eq_right', reduceCtorEq, or_false, false_or, forall_const, Nat.zero_le, Bool.not_true, Bool.not_false, decide_true, decide_false]
        show inSQ (chP c) (.str sLet) fun z => P [z]
        rw [inSQ_ch, let_mem]
        have e : (tl ⟨#[c]⟩).all lower = lower c := by show (lower c && true) = lower c; rw [Bool.and_true]
        have hP : P [.bl ((tl ⟨#[c]⟩).all lower)] := hP
        rw [e] at hP; exact hP
      · simp only [allQ, signs]
        rw [List.map_map]
        have e : (z.cps.toList.map ((fun x => match x with | PV.str c => PV.bl ((tl c).all lower) | p => p) ∘ fun c => PV.str ⟨#[c]⟩)) = (z.cps.toList.map fun c => PV.bl (lower c)) := by
          apply List.map_congr_left
          intro c _
          show PV.bl (lower c && true) = _
          rw [Bool.and_true]
        rw [e]
        have e2 : (z.cps.toList.map fun c => PV.bl (lower c)) = ((z.cps.toList.map chP).map fun x => .bl (match x with | .str c => (tl c).all lower | _ => false)) := by
          rw [List.map_map]
          apply List.map_congr_left
          intro c _
          show PV.bl (lower c) = PV.bl (lower c && true)
          rw [Bool.and_true]
        rw [e2, blsOf_map]
        simp only [List.map_map]
        have e3 : ((z.cps.toList.map ((fun x => match x with | .str c => (tl c).all lower | _ => false) ∘ chP))).all id = (tl z).all lower := by
          rw [List.all_map]
          congr 1
          funext c
          show (lower c && true) = lower c
          rw [Bool.and_true]
        rw [e3]
        rw [Bool.true_and] at q
        exact q
    · rw [decide_eq_false hl] at q
      rw [if_neg (by rw [decide_eq_true_eq]; omega)]
      exact q
  | _ => first | exact q | exact absurd zp (by simp [PV.plain])
def p_need_string : PSp := fun as Q => ∃ v : PV, as = [v] ∧ v.plain = true ∧ strB v = true ∧ Q .non
theorem m_need_string : MonoP p_need_string := fun _ _ _ h ⟨v, e, z, y, q⟩ => ⟨v, e, z, y, h _ q⟩
def d_need_string : DS := (dIfS (dNot (dB (dCall 1 p_is_string (dCons (dVar 0) dNil)))) dNever dNext)
theorem h_need_string : ∀ (as : List PV) (post : PV → Prop), as.length = 1 → p_need_string as post → d_need_string (endsOf post) (startR 1 as) := by
  rintro as post _ ⟨v, rfl, z, y, q⟩
  show d_need_string _ [.val v]
  simp only [d_need_string, dSeq, dNext, dIfS, dRet, dRetN, dSet, dOwn, dVar, dC, dOp, dB, dChain, dAnd, dOr, dNot, dAndV, dOrV, dNotV, dIf, dNil, dCons, dTup, dLst, dDrop, dgName, dgNil, dgCons, dgTup, dAsg, dPar, dPar3, dParO, dParV, dAug, dCall, dBi, dIsi, dInS, dSl, doNone, doSome, dRevL, dRevS, dM1, dRg1, dListOf, dJoin, dNeg, dApp, dExt, dSetIx, endsOf, dFor, dIt, dZip, dEnum, dRange1, dRange2, itemsQ, dLc, wipeR, dTwn, dTwnSet, dTwnAug, dScrE, dScrL, dScrX, List.getElem?_cons_zero, List.getElem?_cons_succ, List.set_cons_zero, List.set_cons_succ, List.length_cons, List.length_nil, if_true, if_false, Bool.true_eq_false, Bool.false_eq_true, if_pos, ite_true, ite_false, reduceIte, true_and, and_true, true_or, or_true, PV.scr.injEq, PV.int.injEq, PV.bl.injEq, PV.str.injEq, PV.lst.injEq, PV.tup.injEq, exists_eq_left, exists_eq_left', exists_eq_right, exists_eq_right', reduceCtorEq, or_false, false_or, forall_const, Nat.zero_le, Bool.not_true, Bool.not_false, decide_true, decide_false]
  refine ⟨v, rfl, z, ?_⟩
  rw [y]
  exact q
/-! ### what a mask makes of a string -/
def gOf (t : T) : Option Nat → Nat
  | none => 42
  | some i => t.getD i 0
def outT (m : Mask) (t : T) : T := (tmpl m t.length).map (gOf t)
/-- a good string -/
def OkS (t : T) : Prop := t.length ≤ 40 ∧ ∀ c ∈ t, 97 ≤ c ∧ c ≤ 122
theorem OkS.small {t : T} (h : OkS t) : ∀ c ∈ t, c < 0x110000 := fun c hc => by have := (h.2 c hc).2; omega
theorem OkS.b {t : T} (h : OkS t) : strB (.str (strT t)) = true := by
  show (decide ((strT t).length ≤ 40) && (tl (strT t)).all lower) = true
  rw [strT_len, decide_eq_true h.1, Bool.true_and, tl_strT, List.all_eq_true]
  intro c hc
  have := h.2 c hc
  unfold lower
  rw [decide_eq_true this.1, decide_eq_true this.2]; rfl
theorem gOf_small {t : T} (h : ∀ c ∈ t, c < 0x110000) (x : Option Nat) : gOf t x < 0x110000 := by
  cases x with
  | none => show (42 : Nat) < _; decide
  | some i =>
    show t.getD i 0 < _
    rw [List.getD_eq_getElem?_getD]
    cases e : t[i]? with
    | none => decide
    | some c => exact h c (List.mem_of_getElem? e)
def p_output_of : PSp := fun as Q => ∃ (m : Mask) (t : T), as = [encM m, .str (strT t)] ∧ OkM m ∧ t.length ≤ 1600 ∧ (∀ c ∈ t, c < 0x110000) ∧ Q (.str (strT (outT m t)))
theorem m_output_of : MonoP p_output_of := fun _ _ _ h ⟨v, a, e, z, y, x, q⟩ => ⟨v, a, e, z, y, x, h _ q⟩
def d_output_of : DS := (dRet (dJoin (dC (.str (Str.ofString ""))) (dLc (dIt (dCall 2 p_template_of (dCons (dVar 0) (dCons (dBi lenQ (dCons (dVar 1) dNil)) dNil)))) (dgName 2) dYes (dIf (dB (dOp isNQ (dVar 2) (dC .non))) (dC (.str
      (Str.ofString "*"))) (dOp ixQ (dVar 1) (dVar 2))) [2])))
def outF (t : T) : PV → PV
  | .non => chP 42
  | .int i => chP (t.getD i.toNat 0)
  | p => p
theorem outF_enc (t : T) (x : Option Nat) : outF t (encO x) = chP (gOf t x) := by cases x <;> rfl
theorem ixQ_ch {t : T} {i : Nat} (h : i < t.length) (Q : PV → Prop) : ixQ (.str (strT t)) (.int i) Q = Q (chP (t.getD i 0)) := by
  show (match L2.atI t (i : Int) with | some c => Q (.str ⟨#[c]⟩) | none => False) = _
  rw [atI_nat, List.getElem?_eq_getElem h, List.getD_eq_getElem?_getD, List.getElem?_eq_getElem h]
  rfl
theorem h_output_of : ∀ (as : List PV) (post : PV → Prop), as.length = 2 → p_output_of as post → d_output_of (endsOf post) (startR 3 as) := by
  rintro as post _ ⟨m, t, rfl, hm, hl, hc, q⟩
  show d_output_of _ [.val (encM m), .val (.str (strT t)), .un]
  have fit : (tmpl m t.length).length ≤ 1000000 := runM_fits hm (by rw [List.length_map, List.length_range]; exact hl)
  have big := big
  simp only [d_output_of, dSeq, dNext, dIfS, dRet, dRetN, dSet, dOwn, dVar, dC, dOp, dB, dChain, dAnd, dOr, dNot, dAndV, dOrV, dNotV, dIf, dNil, dCons, dTup, dLst, dDrop, dgName, dgNil, dgCons, dgTup, dAsg, dPar, dPar3, dParO, dParV, dAug, dCall, dBi, dIsi, dInS, dSl, doNone, doSome, dRevL, dRevS, dM1, dRg1, dListOf, dJoin, dNeg, dApp, dExt, dSetIx, endsOf, dFor, dIt, dZip, dEnum, dRange1, dRange2, itemsQ, dLc, wipeR, dTwn, dTwnSet, dTwnAug, dScrE, dScrL, dScrX, List.getElem?_cons_zero, List.getElem?_cons_succ, List.set_cons_zero, List.set_cons_succ, List.length_cons, List.length_nil, if_true, if_false, Bool.true_eq_false, Bool.false_eq_true, if_pos, ite_true, ite_false, reduceIte, true_and, and_true, true_or, or_true, PV.scr.injEq, PV.int.injEq, PV.bl.injEq, PV.str.injEq, PV.lst.injEq, PV.tup.injEq, exists_eq_left, exists_eq_left', exists_eq_right, exists_eq_right', reduceCtorEq, or_false, false_or, forall_const, Nat.zero_le, Bool.not_true, Bool.not_false, decide_true, decide_false, lenQ_str, strT_len, isS]
  refine ⟨m, t.length, rfl, hm, hl, ?_⟩
  simp only [encT, List.getElem?_cons_zero, List.getElem?_cons_succ, List.set_cons_zero, List.set_cons_succ, List.length_cons, List.length_nil, if_true, if_false, Bool.true_eq_false, Bool.false_eq_true, if_pos, ite_true, ite_false, reduceIte, true_and, and_true, true_or, or_true, PV.scr.injEq, PV.int.injEq, PV.bl.injEq, PV.str.injEq, PV.lst.injEq, PV.tup.injEq, exists_eq_left, exists_eq_left', exists_eq_right, exists_eq_right', reduceCtorEq, or_false, false_or, forall_const, Nat.zero_le, Bool.not_true, Bool.not_false, decide_true, decide_false]
  refine ⟨fun i hi s hs => ?_, by rw [List.length_map]; omega, lcLoop_map (f := outF t) (fun x hx P hP => ?_) ?_⟩
  · have e : i = 2 := by simpa using hi
    subst e
    simp only [List.getElem?_cons_zero, List.getElem?_cons_succ, List.set_cons_zero, List.set_cons_succ, List.length_cons, List.length_nil, if_true, if_false, Bool.true_eq_false, Bool.false_eq_true, if_pos, ite_true, ite_false, reduceIte, true_and, and_true, true_or, or_true, PV.scr.injEq, PV.int.injEq, PV.bl.injEq, PV.str.injEq, PV.lst.injEq, PV.tup.injEq, exists_eq_left, exists_eq_left', exists_eq_right, exists_eq_right', reduceCtorEq, or_false, false_or, forall_const, Nat.zero_le, Bool.not_true, Bool.not_false, decide_true, decide_false, Option.some.injEq] at hs
    subst hs; rfl
  · obtain ⟨a, ha, rfl⟩ := List.mem_map.mp hx
    simp only [dYes, dSeq, dNext, dIfS, dRet, dRetN, dSet, dOwn, dVar, dC, dOp, dB, dChain, dAnd, dOr, dNot, dAndV, dOrV, dNotV, dIf, dNil, dCons, dTup, dLst, dDrop, dgName, dgNil, dgCons, dgTup, dAsg, dPar, dPar3, dParO, dParV, dAug, dCall, dBi, dIsi, dInS, dSl, doNone, doSome, dRevL, dRevS, dM1, dRg1, dListOf, dJoin, dNeg, dApp, dExt, dSetIx, endsOf, dFor, dIt, dZip, dEnum, dRange1, dRange2, itemsQ, dLc, wipeR, dTwn, dTwnSet, dTwnAug, dScrE, dScrL, dScrX, List.getElem?_cons_zero, List.getElem?_cons_succ, List.set_cons_zero, List.set_cons_succ, List.length_cons, List.length_nil, if_true, if_false, Bool.true_eq_false, Bool.false_eq_true, if_pos, ite_true, ite_false, reduceIte, true_and, and_true, true_or, or_true, PV.scr.injEq, PV.int.injEq, PV.bl.injEq, PV.str.injEq, PV.lst.injEq, PV.tup.injEq, exists_eq_left, exists_eq_left', exists_eq_right, exists_eq_right', reduceCtorEq, or_false, false_or, forall_const, Nat.zero_le, Bool.not_true, Bool.not_false, decide_true, decide_false]
    rw [outF_enc] at hP
    cases a with
    | none =>
      simp only [encO, isNQ, isNon, List.getElem?_cons_zero, List.getElem?_cons_succ, List.set_cons_zero, List.set_cons_succ, List.length_cons, List.length_nil, if_true, if_false, Bool.true_eq_false, Bool.false_eq_true, if_pos, ite_true, ite_false, reduceIte, true_and, and_true, true_or, or_true, PV.scr.injEq, PV.int.injEq, PV.bl.injEq, PV.str.injEq, PV.lst.injEq, PV.tup.injEq, exists_eq_left, exists_eq_left', exists_eq_right, exists_eq_right', reduceCtorEq, or_false, false_or, forall_const, Nat.zero_le, Bool.not_true, Bool.not_false, decide_true, decide_false]
      exact hP
    | some i =>
      simp only [encO, isNQ, isNon, List.getElem?_cons_zero, List.getElem?_cons_succ, List.set_cons_zero, List.set_cons_succ, List.length_cons, List.length_nil, if_true, if_false, Bool.true_eq_false, Bool.false_eq_true, if_pos, ite_true, ite_false, reduceIte, true_and, and_true, true_or, or_true, PV.scr.injEq, PV.int.injEq, PV.bl.injEq, PV.str.injEq, PV.lst.injEq, PV.tup.injEq, exists_eq_left, exists_eq_left', exists_eq_right, exists_eq_right', reduceCtorEq, or_false, false_or, forall_const, Nat.zero_le, Bool.not_true, Bool.not_false, decide_true, decide_false]
      rw [ixQ_ch (tmpl_some ha)]
      exact hP
  · rw [List.map_map]
    have e : (tmpl m t.length).map (outF t ∘ encO) = (outT m t).map chP := by
      unfold outT
      rw [List.map_map]
      apply List.map_congr_left
      intro x _
      exact outF_enc t x
    rw [e]
    refine joinC_ch (by unfold outT; rw [List.length_map]; exact fit) (fun c hc2 => ?_) _ q
    obtain ⟨x, _, rfl⟩ := List.mem_map.mp hc2
    exact gOf_small hc x
def p_apply : PSp := fun as Q => ∃ (m : Mask) (t : T), as = [encM m, .str (strT t)] ∧ OkM m ∧ OkS t ∧ Q (.str (strT (outT m t)))
theorem m_apply : MonoP p_apply := fun _ _ _ h ⟨v, a, e, z, y, q⟩ => ⟨v, a, e, z, y, h _ q⟩
def d_apply : DS := (dSeq (dDrop (dCall 1 p_need_mask (dCons (dVar 0) dNil))) (dSeq (dDrop (dCall 1 p_need_string (dCons (dVar 1) dNil))) (dRet (dCall 2 p_output_of (dCons (dVar 0) (dCons (dVar 1) dNil))))))
theorem h_apply : ∀ (as : List PV) (post : PV → Prop), as.length = 2 → p_apply as post → d_apply (endsOf post) (startR 2 as) := by
  rintro as post _ ⟨m, t, rfl, hm, ht, q⟩
  show d_apply _ [.val (encM m), .val (.str (strT t))]
  simp only [d_apply, dSeq, dNext, dIfS, dRet, dRetN, dSet, dOwn, dVar, dC, dOp, dB, dChain, dAnd, dOr, dNot, dAndV, dOrV, dNotV, dIf, dNil, dCons, dTup, dLst, dDrop, dgName, dgNil, dgCons, dgTup, dAsg, dPar, dPar3, dParO, dParV, dAug, dCall, dBi, dIsi, dInS, dSl, doNone, doSome, dRevL, dRevS, dM1, dRg1, dListOf, dJoin, dNeg, dApp, dExt, dSetIx, endsOf, dFor, dIt, dZip, dEnum, dRange1, dRange2, itemsQ, dLc, wipeR, dTwn, dTwnSet, dTwnAug, dScrE, dScrL, dScrX, List.getElem?_cons_zero, List.getElem?_cons_succ, List.set_cons_zero, List.set_cons_succ, List.length_cons, List.length_nil, if_true, if_false, Bool.true_eq_false, Bool.false_eq_true, if_pos, ite_true, ite_false, reduceIte, true_and, and_true, true_or, or_true, PV.scr.injEq, PV.int.injEq, PV.bl.injEq, PV.str.injEq, PV.lst.injEq, PV.tup.injEq, exists_eq_left, exists_eq_left', exists_eq_right, exists_eq_right', reduceCtorEq, or_false, false_or, forall_const, Nat.zero_le, Bool.not_true, Bool.not_false, decide_true, decide_false]
  have := ht.1
  exact ⟨encM m, rfl, mask_dat m 15, maskB_enc hm, _, rfl, rfl, ht.b, m, t, rfl, hm, by omega, ht.small, q⟩
def p_template : PSp := fun as Q => ∃ (m : Mask) (n : Nat), as = [encM m, .int n] ∧ OkM m ∧ n ≤ 40 ∧ Q (encT (tmpl m n))
theorem m_template : MonoP p_template := fun _ _ _ h ⟨v, a, e, z, y, q⟩ => ⟨v, a, e, z, y, h _ q⟩
def d_template : DS := (dSeq (dDrop (dCall 1 p_need_mask (dCons (dVar 0) dNil))) (dSeq (dIfS (dNot (dB (dCall 3 p_is_count (dCons (dVar 1) (dCons (dC (.int 0)) (dCons (dC (.int 40)) dNil)))))) dNever dNext) (dRet (dCall 2
      p_template_of (dCons (dVar 0) (dCons (dVar 1) dNil))))))
theorem h_template : ∀ (as : List PV) (post : PV → Prop), as.length = 2 → p_template as post → d_template (endsOf post) (startR 2 as) := by
  rintro as post _ ⟨m, n, rfl, hm, hn, q⟩
  show d_template _ [.val (encM m), .val (.int n)]
  refine (show dSeq _ _ _ _ from ?_)
  simp only [dSeq, dNext, dIfS, dRet, dRetN, dSet, dOwn, dVar, dC, dOp, dB, dChain, dAnd, dOr, dNot, dAndV, dOrV, dNotV, dIf, dNil, dCons, dTup, dLst, dDrop, dgName, dgNil, dgCons, dgTup, dAsg, dPar, dPar3, dParO, dParV, dAug, dCall, dBi, dIsi, dInS, dSl, doNone, doSome, dRevL, dRevS, dM1, dRg1, dListOf, dJoin, dNeg, dApp, dExt, dSetIx, endsOf, dFor, dIt, dZip, dEnum, dRange1, dRange2, itemsQ, dLc, wipeR, dTwn, dTwnSet, dTwnAug, dScrE, dScrL, dScrX, List.getElem?_cons_zero, List.getElem?_cons_succ, List.set_cons_zero, List.set_cons_succ, List.length_cons, List.length_nil, if_true, if_false, Bool.true_eq_false, Bool.false_eq_true, if_pos, ite_true, ite_false, reduceIte, true_and, and_true, true_or, or_true, PV.scr.injEq, PV.int.injEq, PV.bl.injEq, PV.str.injEq, PV.lst.injEq, PV.tup.injEq, exists_eq_left, exists_eq_left', exists_eq_right, exists_eq_right', reduceCtorEq, or_false, false_or, forall_const, Nat.zero_le, Bool.not_true, Bool.not_false, decide_true, decide_false]
  refine ⟨encM m, rfl, mask_dat m 15, maskB_enc hm, _, 0, 40, rfl, rfl, ?_⟩
  have e : cntB 0 40 (.int n) = true := by
    show (decide ((0 : Int) ≤ n) && decide ((n : Int) ≤ 40)) = true
    rw [decide_eq_true (by omega), decide_eq_true (by omega)]; rfl
  rw [e]
  exact ⟨m, n, rfl, hm, by omega, q⟩
end PL

set_option Elab.async false
set_option linter.all false
set_option maxRecDepth 100000
set_option maxHeartbeats 4000000
/-! growth of a template's length; a place in the middle taken out -/
namespace PL

theorem row_len {s : Nat} {d : D} (h : Inv s d) {L : Nat} (hL : s + 1 ≤ L) : ((d.row L).length : Int) = d.a + d.n + d.b + d.sl * L := by
  unfold D.row D.sl
  rw [blk_length, Int.natCast_add, Int.natCast_add, Int.toNat_of_nonneg (val_nn h.a hL), Int.toNat_of_nonneg (val_nn h.n hL), Int.toNat_of_nonneg (val_nn h.b hL), Int.add_mul, Int.add_mul]
  generalize d.ka * (L : Int) = x
  generalize d.kb * (L : Int) = y
  generalize d.kn * (L : Int) = z
  omega
theorem row_big {s : Nat} {d : D} (h : Inv s d) (h1 : d.sl = 1) {L : Nat} (hL : s + 1 ≤ L) : ((d.row L).length : Int) = d.a + d.n + d.b + L ∧ -(s : Int) ≤ d.a + d.n + d.b := by
  have e := row_len h hL
  rw [h1, Int.one_mul] at e
  refine ⟨e, ?_⟩
  obtain ⟨p1, p2, p3, p4, p5, p6, _⟩ := h
  unfold D.sl at h1
  unfold Cm at p1 p3 p4
  omega
def cutN : Step → Nat
  | .st .cf n => n
  | .st .cl n => n
  | _ => 0
def isSq : Step → Bool
  | .st .sq _ => true
  | _ => false
theorem len_step {x : Step} (hx : isSq x = false) (r : Row) : (stepped x r).length = r.length - cutN x := by
  cases x with
  | rev => simp [stepped, cutN]
  | st k n =>
    cases k <;> simp only [stepped, cutN, hid_length, List.length_drop, List.length_take, Nat.sub_zero]
    · omega
    · simp [isSq] at hx
    · split
      · rw [List.length_replicate]
      · rfl
theorem cutN_le (x : Step) : cutN x ≤ x.num := by
  cases x with
  | rev => exact Nat.le_refl _
  | st k n => cases k <;> first | exact Nat.zero_le _ | exact Nat.le_refl _
theorem letters_sqz (c : Nat) : ∀ (r : Row) (p : Bool), lettersN (sqz c p r) = lettersN r
  | [], _ => rfl
  | some x :: r, p => by
    have := letters_sqz c r false
    unfold lettersN at this ⊢
    simp only [sqz, List.filterMap_cons_some (show id (some x) = some x from rfl), List.length_cons, this]
  | none :: r, p => by
    have := letters_sqz c r true
    unfold lettersN at this ⊢
    have e : ∀ k, (List.replicate k (none : Option Nat)).filterMap id = [] := fun k => by
      induction k with
      | zero => rfl
      | succ k ih => rw [List.replicate_succ]; exact ih
    rw [sqz, List.filterMap_append]
    have e2 : (if p = true then [] else List.replicate c (none : Option Nat)).filterMap id = [] := by
      split
      · rfl
      · exact e c
    rw [e2, List.nil_append, List.filterMap_cons_none rfl]
    exact this
theorem letters_le (r : Row) : lettersN r ≤ r.length := List.length_filterMap_le _ _
theorem letters_st (x : Nat) : lettersN (st x) = 0 := by
  unfold lettersN
  induction x with
  | zero => rfl
  | succ k ih => exact ih
theorem letters_row (d : D) (L : Nat) : lettersN (d.row L) = (d.n + d.kn * L).toNat := by unfold D.row; rw [letters_blk]
structure J (s : Nat) (d : D) (L1 L2 : Nat) (r : Row) : Prop where
  len : d.sl = 1 → r.length + (L1 - max L2 s) ≤ (d.row L1).length
  sr : d.kn = 1 → SR d L2 r
theorem step_grow (s : Nat) (x : Step) (d : D) (h : Inv s d) : ∃ d', Inv (s + x.num) d' ∧ (∀ L : Nat, s + x.num + 1 ≤ L → stepped x (d.row L) = d'.row L) ∧
    ∀ L1 L2 r, s + x.num + 1 ≤ L1 → L2 < L1 → J s d L1 L2 r → J (s + x.num) d' L1 L2 (stepped x r) := by
  by_cases hx : isSq x = false
  · obtain ⟨d', h1, h2, h3, h4⟩ := good_step s x d h
    refine ⟨d', h1, h2, fun L1 L2 r hL hlt j => ⟨fun z => ?_, fun z => (h3 z).2 _ _ (j.sr (h3 z).1)⟩⟩
    have z0 := h4 z
    obtain ⟨e1, e2⟩ := row_big h z0 (L := L1) (by omega)
    have jl := j.len z0
    have hc := cutN_le x
    rw [← h2 L1 hL, len_step hx, len_step hx]
    omega
  · obtain ⟨c, rfl⟩ : ∃ c, x = .st .sq c := by
      cases x with
      | rev => simp [isSq] at hx
      | st k n => cases k <;> first | exact ⟨n, rfl⟩ | simp [isSq] at hx
    obtain ⟨d', h1, h2, h3, h4⟩ := good_sq' s c d h
    refine ⟨d', h1, h2, fun L1 L2 r hL hlt j => ⟨fun z => ?_, fun z => (h3 z).2 _ _ (j.sr (h3 z).1)⟩⟩
    obtain ⟨z0, z1⟩ := h4 z
    obtain ⟨z2, z3⟩ := h3 z1
    have hL : s + c + 1 ≤ L1 := hL
    show (sqz c false r).length + (L1 - max L2 (s + c)) ≤ _
    have nn : -(s : Int) ≤ d.n := by
      have := h.n
      unfold Cm at this; omega
    rcases j.sr z2 with ⟨y, rfl⟩ | ⟨hp, rfl⟩
    · rw [sq_st, List.length_replicate]
      have b1 := letters_le (d'.row L1)
      rw [← h2 L1 hL, letters_sqz, letters_row, z2, Int.one_mul] at b1
      have : (if y = 0 then 0 else c) ≤ c := by split <;> omega
      rw [← h2 L1 hL]
      omega
    · rcases z3 L2 _ (.inr ⟨hp, rfl⟩) with ⟨x, e⟩ | ⟨hq, e⟩
      · exfalso
        have b := congrArg lettersN e
        rw [letters_sqz, letters_st, letters_row, z2, Int.one_mul] at b
        omega
      · rw [e]
        have k1 : d'.ka = 0 ∧ d'.kb = 0 := by
          unfold D.sl at z
          have := h1.a
          have := h1.b
          unfold Cm at *
          omega
        have a0 : 0 ≤ d'.a ∧ 0 ≤ d'.b := by
          have := h1.a
          have := h1.b
          unfold Cm at *
          omega
        unfold D.row
        rw [blk_length, blk_length, k1.1, k1.2, z1]
        simp only [Int.zero_mul, Int.one_mul, Int.add_zero]
        omega
theorem run_grow : ∀ (m : Mask) (s : Nat) (d : D), Inv s d → ∃ d' : D, Inv (s + msum m) d' ∧ (∀ L : Nat, s + msum m + 1 ≤ L → runM m (d.row L) = d'.row L) ∧
    ∀ L1 L2 r, s + msum m + 1 ≤ L1 → L2 < L1 → J s d L1 L2 r → J (s + msum m) d' L1 L2 (runM m r)
  | [], s, d, h => ⟨d, h, fun L _ => rfl, fun _ _ _ _ _ j => j⟩
  | x :: m, s, d, h => by
    obtain ⟨d1, h1, e1, j1⟩ := step_grow s x d h
    obtain ⟨d2, h2, e2, j2⟩ := run_grow m _ d1 h1
    have e : s + msum (x :: m) = s + x.num + msum m := by unfold msum; rw [List.map_cons, List.sum_cons]; omega
    refine ⟨d2, by rw [e]; exact h2, fun L hL => ?_, fun L1 L2 r hL hlt j => ?_⟩
    · rw [e] at hL
      show runM m (stepped x (d.row L)) = _
      rw [e1 L (by omega), e2 L hL]
    · rw [e] at hL ⊢
      exact j2 L1 L2 _ hL hlt (j1 L1 L2 r (by omega) hlt j)
def d0 : D := ⟨0, 0, 0, 0, 0, 1, false, 0, 0⟩
theorem d0_row (L : Nat) : d0.row L = (List.range L).map some := by
  show blk (0 + 0 * (L : Int)).toNat (0 + 0 * (L : Int)).toNat (0 + 1 * (L : Int)).toNat false (0 + 0 * (L : Int)).toNat = _
  rw [show ((0 : Int) + 0 * (L : Int)).toNat = 0 by simp, show (0 + 1 * (L : Int)).toNat = L by simp]
  unfold blk seqR
  simp
theorem d0_inv : Inv 0 d0 := ⟨.inl ⟨rfl, Int.le_refl _⟩, .inl ⟨rfl, Int.le_refl _⟩, .inr ⟨rfl, by simp [d0]⟩, .inl ⟨rfl, Int.le_refl _⟩, by simp [d0], by simp [d0], by simp [d0]⟩
/-- the form of a mask's templates -/
structure Fo (m : Mask) (d : D) : Prop where
  inv : Inv (msum m) d
  row : ∀ L : Nat, msum m + 1 ≤ L → tmpl m L = d.row L
  grow : ∀ L1 L2 : Nat, msum m + 1 ≤ L1 → L2 < L1 → d.sl = 1 → (tmpl m L2).length < (tmpl m L1).length
theorem fo_ex (m : Mask) : ∃ d, Fo m d := by
  obtain ⟨d, h1, h2, h3⟩ := run_grow m 0 d0 d0_inv
  rw [Nat.zero_add] at h1 h2 h3
  have h2' : ∀ L : Nat, msum m + 1 ≤ L → tmpl m L = d.row L := fun L hL => by rw [← h2 L hL, d0_row]; rfl
  refine ⟨d, h1, h2', fun L1 L2 hL hlt hs => ?_⟩
  have j := h3 L1 L2 ((List.range L2).map some) hL hlt ⟨fun _ => by rw [d0_row]; simp only [List.length_map, List.length_range]; omega, fun _ => ?_⟩
  · have := j.len hs
    rw [← h2' L1 hL] at this
    have e : (tmpl m L2).length = (runM m ((List.range L2).map some)).length := rfl
    omega
  · cases L2 with
    | zero => exact .inl ⟨0, rfl⟩
    | succ k => exact .inr ⟨by show (0 : Int) < 0 + ((k + 1 : Nat) : Int); omega, (d0_row _).symm⟩
/-- the form chosen -/
noncomputable def fo (m : Mask) : D := Classical.choose (fo_ex m)
theorem fo_is (m : Mask) : Fo m (fo m) := Classical.choose_spec (fo_ex m)
theorem sl_cases {s : Nat} {d : D} (h : Inv s d) : d.sl = 0 ∨ d.sl = 1 := by
  unfold D.sl
  obtain ⟨p1, p2, p3, p4, p5, p6, _⟩ := h
  unfold Cm at p1 p3 p4
  omega
/-! ### a place taken out -/
def sk (p i : Nat) : Nat := if i < p then i else i + 1
theorem map_seq_lo (p lo len : Nat) (rev : Bool) (h : lo + len ≤ p) : (seqR lo len rev).map (Option.map (sk p)) = seqR lo len rev := by
  have e : ((List.range len).map fun i => some (lo + i)).map (Option.map (sk p)) = (List.range len).map fun i => some (lo + i) := by
    rw [List.map_map]
    apply List.map_congr_left
    intro i hi
    have := List.mem_range.mp hi
    show some (sk p (lo + i)) = _
    unfold sk
    rw [if_pos (by omega)]
  unfold seqR
  cases rev
  · simpa using e
  · simp only [if_true, List.map_reverse]; rw [e]
theorem map_seq_hi (p lo len : Nat) (rev : Bool) (h : p ≤ lo) : (seqR lo len rev).map (Option.map (sk p)) = seqR (lo + 1) len rev := by
  have e : ((List.range len).map fun i => some (lo + i)).map (Option.map (sk p)) = (List.range len).map fun i => some (lo + 1 + i) := by
    rw [List.map_map]
    apply List.map_congr_left
    intro i hi
    show some (sk p (lo + i)) = _
    unfold sk
    rw [if_neg (by omega)]
    congr 1; omega
  unfold seqR
  cases rev
  · simpa using e
  · simp only [if_true, List.map_reverse]; rw [e]
theorem map_st (f : Nat → Nat) (x : Nat) : (st x).map (Option.map f) = st x := by rw [List.map_replicate]; rfl
theorem map_blk_lo (p a lo len : Nat) (rev : Bool) (b : Nat) (h : lo + len ≤ p) : (blk a lo len rev b).map (Option.map (sk p)) = blk a lo len rev b := by
  unfold blk
  rw [List.map_append, List.map_append, map_st, map_st, map_seq_lo _ _ _ _ h]
theorem map_blk_hi (p a lo len : Nat) (rev : Bool) (b : Nat) (h : p ≤ lo) : (blk a lo len rev b).map (Option.map (sk p)) = blk a (lo + 1) len rev b := by
  unfold blk
  rw [List.map_append, List.map_append, map_st, map_st, map_seq_hi _ _ _ _ h]
theorem seqR_split (lo x y : Nat) : seqR lo (x + y) false = seqR lo x false ++ seqR (lo + x) y false := by
  unfold seqR
  simp only [Bool.false_eq_true, if_false]
  rw [List.range_add, List.map_append, List.map_map]
  congr 1
  apply List.map_congr_left
  intro i _
  show some (lo + (x + i)) = _
  rw [Nat.add_assoc]
theorem seqR_split_rev (lo x y : Nat) : seqR lo (x + y) true = seqR (lo + x) y true ++ seqR lo x true := by
  have := congrArg List.reverse (seqR_split lo x y)
  rw [List.reverse_append, seqR_reverse, seqR_reverse, seqR_reverse] at this
  exact this
/-- how far a form reaches from the front, from the end -/
def D.fr (d : D) : Nat := if d.kl + d.kn = 0 then (d.lo + d.n).toNat else if d.kn = 1 then d.lo.toNat else 0
def D.bk (d : D) : Nat := if d.kl + d.kn = 0 then 0 else if d.kn = 1 then (-(d.lo + d.n)).toNat else (-d.lo).toNat
theorem fr_bk {s : Nat} {d : D} (h : Inv s d) : d.fr + d.bk ≤ s := by
  obtain ⟨a, ka, lo, kl, n, kn, rev, b, kb⟩ := d
  obtain ⟨p1, p2, p3, p4, p5, p6, p7⟩ := h
  unfold D.fr D.bk
  unfold Cm at p1 p2 p3 p4
  simp only at *
  split
  · rename_i h
    have := p7.1 h
    omega
  · have q : kl + kn = 1 := by omega
    have := p7.2 q
    split <;> omega
theorem rem_const {s : Nat} {d : D} (h : Inv s d) (h0 : d.sl = 0) {L p : Nat} (hL : s + 1 ≤ L) (hf : d.fr ≤ p) (hb : p + d.bk ≤ L) : (d.row L).map (Option.map (sk p)) = d.row (L + 1) := by
  obtain ⟨a, ka, lo, kl, n, kn, rev, b, kb⟩ := d
  obtain ⟨p1, p2, p3, p4, p5, p6, p7⟩ := h
  unfold D.fr at hf
  unfold D.bk at hb
  unfold D.sl at h0
  unfold Cm at p1 p2 p3 p4
  simp only at *
  obtain ⟨rfl, rfl, rfl⟩ : ka = 0 ∧ kn = 0 ∧ kb = 0 := by omega
  unfold D.row
  simp only [Int.zero_mul, Int.add_zero]
  rcases p2 with ⟨rfl, p2⟩ | ⟨rfl, p2⟩
  · simp only [Int.zero_mul, Int.add_zero] at *
    rw [if_pos (by omega)] at hf
    exact map_blk_lo _ _ _ _ _ _ (by omega)
  · simp only [Int.one_mul, Int.add_zero] at *
    rw [if_neg (by omega), if_neg (by omega)] at hb
    rw [map_blk_hi _ _ _ _ _ _ (by omega)]
    exact blk_eq rfl (by omega) rfl rfl rfl
theorem rem_grow {s : Nat} {d : D} (h : Inv s d) (h1 : d.sl = 1) {L p : Nat} (hL : s + 1 ≤ L) (hf : d.fr ≤ p) (hb : p + d.bk ≤ L) : ∃ X Y z, (z = none ∨ z = some p) ∧ (d.row L).map (Option.map (sk p)) = X ++ Y ∧ d.row (L + 1) = X ++ z :: Y := by
  obtain ⟨a, ka, lo, kl, n, kn, rev, b, kb⟩ := d
  obtain ⟨p1, p2, p3, p4, p5, p6, p7⟩ := h
  unfold D.fr at hf
  unfold D.bk at hb
  unfold D.sl at h1
  unfold Cm at p1 p2 p3 p4
  simp only at *
  by_cases hkn : kn = 1
  · subst hkn
    obtain ⟨rfl, rfl, rfl⟩ : ka = 0 ∧ kl = 0 ∧ kb = 0 := by omega
    rw [if_neg (by omega), if_pos rfl] at hf hb
    have e7 := p7.2 (by omega)
    unfold D.row
    simp only [Int.zero_mul, Int.one_mul, Int.add_zero]
    obtain ⟨l, hl⟩ : ∃ l : Nat, lo = l := ⟨lo.toNat, by omega⟩
    subst hl
    rw [Int.toNat_natCast] at hf ⊢
    obtain ⟨x, hx⟩ : ∃ x, p = l + x := ⟨p - l, by omega⟩
    obtain ⟨y, hy⟩ : ∃ y, (n + (L : Int)).toNat = x + y := ⟨(n + (L : Int)).toNat - x, by omega⟩
    have hy2 : (n + ((L + 1 : Nat) : Int)).toNat = x + (1 + y) := by omega
    rw [hy, hy2]
    subst hx
    unfold blk
    cases rev
    · refine ⟨st a.toNat ++ seqR l x false, seqR (l + x + 1) y false ++ st b.toNat, some (l + x), .inr rfl, ?_, ?_⟩
      · rw [List.map_append, List.map_append, map_st, map_st, seqR_split, List.map_append, map_seq_lo _ _ _ _ (by omega), map_seq_hi _ _ _ _ (by omega)]
        simp only [List.append_assoc]
      · rw [seqR_split, seqR_split, seqR_one]
        simp only [List.append_assoc, List.cons_append, List.nil_append]
    · refine ⟨st a.toNat ++ seqR (l + x + 1) y true, seqR l x true ++ st b.toNat, some (l + x), .inr rfl, ?_, ?_⟩
      · rw [List.map_append, List.map_append, map_st, map_st, seqR_split_rev, List.map_append, map_seq_hi (l + x) (l + x) y true (by omega), map_seq_lo (l + x) l x true (by omega)]
        simp only [List.append_assoc]
      · rw [seqR_split_rev, seqR_split_rev, seqR_one]
        simp only [List.append_assoc, List.cons_append, List.nil_append]
  · obtain rfl : kn = 0 := by omega
    have core : (blk (a + ka * (L : Int)).toNat (lo + kl * (L : Int)).toNat (n + 0 * (L : Int)).toNat rev (b + kb * (L : Int)).toNat).map (Option.map (sk p)) = blk (a + ka * (L : Int)).toNat (lo + kl * ((L + 1 : Nat) : Int)).toNat (n + 0 * ((L + 1 : Nat) : Int)).toNat rev (b + kb * (L : Int)).toNat := by
      simp only [Int.zero_mul, Int.add_zero]
      rcases p2 with ⟨rfl, p2⟩ | ⟨rfl, p2⟩
      · simp only [Int.zero_mul, Int.add_zero]
        rw [if_pos (by omega)] at hf
        exact map_blk_lo _ _ _ _ _ _ (by omega)
      · simp only [Int.one_mul]
        rw [if_neg (by omega), if_neg (by omega)] at hb
        rw [map_blk_hi _ _ _ _ _ _ (by omega)]
        exact blk_eq rfl (by omega) rfl rfl rfl
    unfold D.row
    by_cases hka : ka = 1
    · subst hka
      obtain rfl : kb = 0 := by omega
      refine ⟨[], _, none, .inl rfl, core, ?_⟩
      simp only [Int.zero_mul, Int.one_mul, Int.add_zero]
      have e : (a + ((L + 1 : Nat) : Int)).toNat = (a + (L : Int)).toNat + 1 := by omega
      rw [e]
      unfold blk
      rw [show st ((a + (L : Int)).toNat + 1) = none :: st (a + (L : Int)).toNat from List.replicate_succ]
      rfl
    · obtain ⟨rfl, rfl⟩ : ka = 0 ∧ kb = 1 := by omega
      refine ⟨blk (a + 0 * (L : Int)).toNat (lo + kl * ((L + 1 : Nat) : Int)).toNat (n + 0 * ((L + 1 : Nat) : Int)).toNat rev (b + 1 * (L : Int)).toNat, [], none, .inl rfl, (by rw [List.append_nil]; exact core), ?_⟩
      simp only [Int.zero_mul, Int.one_mul, Int.add_zero]
      have e : (b + ((L + 1 : Nat) : Int)).toNat = (b + (L : Int)).toNat + 1 := by omega
      rw [e, ← blk_app]
      rfl
end PL

set_option Elab.async false
set_option linter.all false
set_option maxRecDepth 100000
set_option maxHeartbeats 4000000
/-! the laws' own masks, strings, releases, steps -/
namespace PL
open PySem PySem.Spec L2
open TL (tl len_tl ext_tl tl_append joinL tl_join join_eq)

theorem draw_i {K : PySem.W.Frag} {ns : List Int} {m : Nat} {Q : PV → Prop} (h : ∀ k : Nat, k < m → Q (.int k)) (h0 : 0 < m) (h1 : m < 1073741824) : p__law_draw K [.scr K ns, .town, .int m] Q :=
  ⟨ns, m, rfl, by omega, by omega, fun k k0 k1 => by
    obtain ⟨j, rfl⟩ : ∃ j : Nat, k = j := ⟨k.toNat, by omega⟩
    exact h j (by omega)⟩
theorem draw_s {K : PySem.W.Frag} {ns : List Int} {m : Nat} {Q : PV → Prop} (h : ∀ k : Nat, k ≤ m → Q (.int k)) (h1 : m < 1073741820) : p__law_draw K [.scr K ns, .town, .int ((m : Int) + 1)] Q := by
  have e : (m : Int) + 1 = ((m + 1 : Nat) : Int) := by omega
  rw [e]
  exact draw_i (fun k hk => h k (by omega)) (by omega) (by omega)
theorem seq_i {a b : DS} {PD : PEnds} {ρ : Rho} (h : a { PD with nx := b PD } ρ) : dSeq a b PD ρ := h
theorem ite_i {p : Prop} [Decidable p] {A B : Prop} (h : p → B → A) (hb : B) : if p then A else B := by
  split
  · rename_i hp; exact h hp hb
  · exact hb
theorem dLoop_nil (g : DG) (b : DS) (PD : PEnds) (ρ : Rho) : dLoop g b PD [] ρ = PD.nx ρ := rfl
theorem dLoop_cons (g : DG) (b : DS) (PD : PEnds) (x : PV) (xs : List PV) (ρ : Rho) : dLoop g b PD (x :: xs) ρ = g x ρ fun ρ1 => b { PD with nx := dLoop g b PD xs, ct := dLoop g b PD xs, bk := PD.nx } ρ1 := rfl
theorem addQ_tup (xs ys : List PV) (Q : PV → Prop) : addQ (.tup xs) (.tup ys) Q = (xs.length + ys.length ≤ sizeLine ∧ Q (.tup (xs ++ ys))) := rfl
theorem addQ_lst (xs ys : List PV) (Q : PV → Prop) : addQ (.lst xs) (.lst ys) Q = (xs.length + ys.length ≤ sizeLine ∧ Q (.lst (xs ++ ys))) := rfl
theorem addQ_str (x y : Str) (Q : PV → Prop) : addQ (.str x) (.str y) Q = (x.length + y.length ≤ sizeLine ∧ Q (.str (x ++ y))) := rfl
theorem sz0 : (0 ≤ sizeLine) = True := eq_true (Nat.zero_le _)
theorem sz1 : (0 + 1 ≤ sizeLine) = True := eq_true (by decide)
theorem sz2 : (0 + 1 + 1 ≤ sizeLine) = True := eq_true (by decide)
theorem sz3 : (0 + 1 + 1 + 1 ≤ sizeLine) = True := eq_true (by decide)
theorem no_nil : ∀ s ∈ ([] : Mask), s.num ≤ 5 := fun _ h => by cases h
theorem no_st {k : Kd} {n : Nat} {m : Mask} (h : n ≤ 5) (h' : ∀ s ∈ m, s.num ≤ 5) : ∀ s ∈ (Step.st k n :: m), s.num ≤ 5 := fun s hs => by
  rcases List.mem_cons.mp hs with rfl | hs
  · exact h
  · exact h' s hs
theorem no_rev {m : Mask} (h' : ∀ s ∈ m, s.num ≤ 5) : ∀ s ∈ (Step.rev :: m), s.num ≤ 5 := fun s hs => by
  rcases List.mem_cons.mp hs with rfl | hs
  · exact Nat.zero_le _
  · exact h' s hs
/-! ### a drawn mask -/
/-- a mask of at most n steps with numbers of at most k -/
def Mk (n k : Nat) (m : Mask) : Prop := m.length ≤ n ∧ ∀ s ∈ m, s.num ≤ k
theorem Mk.ok {n k : Nat} {m : Mask} (h : Mk n k m) (hn : n ≤ 4) (hk : k ≤ 5) : OkM m := ⟨Nat.le_trans h.1 hn, fun s hs => Nat.le_trans (h.2 s hs) hk⟩
def p__law_mask (K : PySem.W.Frag) : PSp := fun as Q => ∃ (ns : List Int) (n k : Nat), as = [.scr K ns, .town, .int n, .int k] ∧ n ≤ 100 ∧ k ≤ 100 ∧ ∀ m : Mask, Mk n k m → Q (encM m)
theorem m__law_mask {K : PySem.W.Frag} : MonoP (p__law_mask K) := fun _ _ _ h ⟨ns, n, k, e, a, b, q⟩ => ⟨ns, n, k, e, a, b, fun m hm => h _ (q m hm)⟩
def bd__law_mask_0 (K : PySem.W.Frag) : DS := (dSeq (dSet 7 (dCall 3 (p__law_pick K) (dCons (dVar 0) (dCons (dVar 1) (dCons (dOp addQ (dVar 4) (dLst (dCons (dC (.str (Str.ofString "reverse"))) dNil))) dNil))))) (dApp 5 (dIf (dB
      (dOp eqQ (dVar 7) (dC (.str (Str.ofString "reverse"))))) (dTup (dCons (dVar 7) dNil)) (dTup (dCons (dVar 7) (dCons (dCall 3 (p__law_draw K) (dCons (dVar 0) (dCons (dVar 1) (dCons (dOp addQ (dVar 3) (dC (.int 1))) dNil))))
      dNil))))))
theorem ebd__law_mask_0 {K : PySem.W.Frag} (PD : PEnds) (ρ : Rho) : bd__law_mask_0 K PD ρ = (dSeq (dSet 7 (dCall 3 (p__law_pick K) (dCons (dVar 0) (dCons (dVar 1) (dCons (dOp addQ (dVar 4) (dLst (dCons (dC (.str (Str.ofString
      "reverse"))) dNil))) dNil))))) (dApp 5 (dIf (dB (dOp eqQ (dVar 7) (dC (.str (Str.ofString "reverse"))))) (dTup (dCons (dVar 7) dNil)) (dTup (dCons (dVar 7) (dCons (dCall 3 (p__law_draw K) (dCons (dVar 0) (dCons (dVar 1) (dCons
      (dOp addQ (dVar 3) (dC (.int 1))) dNil)))) dNil)))))) PD ρ := rfl
def d__law_mask (K : PySem.W.Frag) : DS := (dSeq (dOwn 4 (dLst (dCons (dC (.str (Str.ofString "keep_first"))) (dCons (dC (.str (Str.ofString "keep_last"))) (dCons (dC (.str (Str.ofString "hide_first"))) (dCons (dC (.str
      (Str.ofString "hide_last"))) (dCons (dC (.str (Str.ofString "cut_first"))) (dCons (dC (.str (Str.ofString "cut_last"))) dNil)))))))) (dSeq (dExt 4 (dLst (dCons (dC (.str (Str.ofString "squeeze"))) (dCons (dC (.str (Str.ofString
      "squeeze"))) (dCons (dC (.str (Str.ofString "short"))) dNil))))) (dSeq (dOwn 5 (dLst dNil)) (dSeq (dFor (dRange1 (dCons (dCall 3 (p__law_draw K) (dCons (dVar 0) (dCons (dVar 1) (dCons (dOp addQ (dVar 2) (dC (.int 1))) dNil))))
      dNil)) (dgName 6) (bd__law_mask_0 K)) (dRet (dBi tupleQ (dCons (dVar 5) dNil)))))))
def drawn : List PV := [.str (Kd.str .kf), .str (Kd.str .kl), .str (Kd.str .hf), .str (Kd.str .hl), .str (Kd.str .cf), .str (Kd.str .cl), .str (Kd.str .sq), .str (Kd.str .sq), .str (Kd.str .sh)]
theorem drawn_mem {x : PV} (h : x ∈ drawn ++ [.str sRev]) : x = .str sRev ∨ ∃ k : Kd, x = .str k.str := by
  simp only [drawn, List.cons_append, List.nil_append, List.mem_cons, List.not_mem_nil, or_false] at h
  rcases h with h | h | h | h | h | h | h | h | h | h <;> first | exact .inr ⟨_, h⟩ | exact .inl h
theorem lm_loop {K : PySem.W.Frag} (ns : List Int) (v2 : Slot) (k : Nat) (hk : k ≤ 100) (n : Nat) (hn : n ≤ 100) (PD : PEnds) : ∀ (c L : Nat) (acc : Mask) (s4 s6 s7 : Slot), (s4 = .own (.lst drawn) ∨ s4 = .val (.lst drawn)) → Mk L k acc → L + c ≤ n →
    (∀ (m : Mask) (s4 s6 s7 : Slot), Mk n k m → PD.nx [.val (.scr K ns), .val .town, v2, .val (.int k), s4, .own (.lst (m.map encStep)), s6, s7]) →
    dLoop (dgName 6) (bd__law_mask_0 K) PD (rngP L c) [.val (.scr K ns), .val .town, v2, .val (.int k), s4, .own (.lst (acc.map encStep)), s6, s7]
  | 0, L, acc, s4, s6, s7, hs, ha, hl, h => h acc s4 s6 s7 ⟨by have := ha.1; omega, ha.2⟩
  | c + 1, L, acc, s4, s6, s7, hs, ha, hl, h => by
    have big := big
    have hacc := ha.1
    rw [rngP, dLoop_cons]
    have go : ∀ s6 : Slot, pickQ (.lst (drawn ++ [.str sRev])) fun x => dApp 5 (dIf (dB (dOp eqQ (dVar 7) (dC (.str (Str.ofString "reverse"))))) (dTup (dCons (dVar 7) dNil)) (dTup (dCons (dVar 7) (dCons (dCall 3 (p__law_draw K) (dCons (dVar 0) (dCons (dVar 1) (dCons (dOp addQ (dVar 3) (dC (.int 1))) dNil)))) dNil))))
        { PD with nx := dLoop (dgName 6) (bd__law_mask_0 K) PD (rngP ((L : Int) + 1) c), ct := dLoop (dgName 6) (bd__law_mask_0 K) PD (rngP ((L : Int) + 1) c), bk := PD.nx } [.val (.scr K ns), .val .town, v2, .val (.int k), .val (.lst drawn), .own (.lst (acc.map encStep)), s6, .val x] := fun s6 => by
      refine ⟨by decide, by decide, fun x hx => ?_⟩
      have app : ∀ (s : Step) (s7 : Slot), s.num ≤ k → (acc.map encStep).length < sizeLine ∧ dLoop (dgName 6) (bd__law_mask_0 K) PD (rngP ((L : Int) + 1) c) [.val (.scr K ns), .val .town, v2, .val (.int k), .val (.lst drawn), .own (.lst (acc.map encStep ++ [encStep s])), s6, s7] := fun s s7 hs => by
        refine ⟨by rw [List.length_map]; omega, ?_⟩
        have e : acc.map encStep ++ [encStep s] = (acc ++ [s]).map encStep := by rw [List.map_append]; rfl
        rw [e]
        refine lm_loop ns v2 k hk n hn PD c (L + 1) (acc ++ [s]) _ _ _ (.inr rfl) ⟨by rw [List.length_append, List.length_singleton]; omega, fun y hy => ?_⟩ (by omega) h
        rcases List.mem_append.mp hy with hy | hy
        · exact ha.2 y hy
        · rw [List.mem_singleton.mp hy]; exact hs
      rcases drawn_mem hx with rfl | ⟨kd, rfl⟩
      · simp only [dSeq, dNext, dIfS, dRet, dRetN, dSet, dOwn, dVar, dC, dOp, dB, dChain, dAnd, dOr, dNot, dAndV, dOrV, dNotV, dIf, dNil, dCons, dTup, dLst, dDrop, dgName, dgNil, dgCons, dgTup, dAsg, dPar, dPar3, dParO, dParV, dAug, dCall, dBi, dIsi, dInS, dSl, doNone, doSome, dRevL, dRevS, dM1, dRg1, dListOf, dJoin, dNeg, dApp, dExt, dSetIx, endsOf, dFor, dIt, dZip, dEnum, dRange1, dRange2, itemsQ, dLc, wipeR, dTwn, dTwnSet, dTwnAug, dScrE, dScrL, dScrX, List.getElem?_cons_zero, List.getElem?_cons_succ, List.set_cons_zero, List.set_cons_succ, List.length_cons, List.length_nil, if_true, if_false, Bool.true_eq_false, Bool.false_eq_true, if_pos, ite_true, ite_false, reduceIte, true_and, and_true, true_or, or_true, PV.scr.injEq, PV.int.injEq, PV.bl.injEq, PV.str.injEq, PV.lst.injEq, PV.tup.injEq, exists_eq_left, exists_eq_left', exists_eq_right, exists_eq_right', reduceCtorEq, or_false, false_or, forall_const, Nat.zero_le, Bool.not_true, Bool.not_false, decide_true, decide_false, eqQ_str, ownL, sz1]
        exact app .rev _ (Nat.zero_le _)
      · simp only [dSeq, dNext, dIfS, dRet, dRetN, dSet, dOwn, dVar, dC, dOp, dB, dChain, dAnd, dOr, dNot, dAndV, dOrV, dNotV, dIf, dNil, dCons, dTup, dLst, dDrop, dgName, dgNil, dgCons, dgTup, dAsg, dPar, dPar3, dParO, dParV, dAug, dCall, dBi, dIsi, dInS, dSl, doNone, doSome, dRevL, dRevS, dM1, dRg1, dListOf, dJoin, dNeg, dApp, dExt, dSetIx, endsOf, dFor, dIt, dZip, dEnum, dRange1, dRange2, itemsQ, dLc, wipeR, dTwn, dTwnSet, dTwnAug, dScrE, dScrL, dScrX, List.getElem?_cons_zero, List.getElem?_cons_succ, List.set_cons_zero, List.set_cons_succ, List.length_cons, List.length_nil, if_true, if_false, Bool.true_eq_false, Bool.false_eq_true, if_pos, ite_true, ite_false, reduceIte, true_and, and_true, true_or, or_true, PV.scr.injEq, PV.int.injEq, PV.bl.injEq, PV.str.injEq, PV.lst.injEq, PV.tup.injEq, exists_eq_left, exists_eq_left', exists_eq_right, exists_eq_right', reduceCtorEq, or_false, false_or, forall_const, Nat.zero_le, Bool.not_true, Bool.not_false, decide_true, decide_false, eqQ_str, ownL, (kd_q kd).1, sz2, addQ_int]
        exact draw_s (fun j hj => app (.st kd j) _ hj) (by omega)
    rcases hs with rfl | rfl
    · simp only [ebd__law_mask_0, dSeq, dSet, dCall, dCons, dNil, dVar, dOp, dLst, dC, dgName, List.getElem?_cons_zero, List.getElem?_cons_succ, List.set_cons_zero, List.set_cons_succ, List.length_cons, List.length_nil, if_true, if_false, Bool.true_eq_false, Bool.false_eq_true, if_pos, ite_true, ite_false, reduceIte, true_and, and_true, true_or, or_true, PV.scr.injEq, PV.int.injEq, PV.bl.injEq, PV.str.injEq, PV.lst.injEq, PV.tup.injEq, exists_eq_left, exists_eq_left', exists_eq_right, exists_eq_right', reduceCtorEq, or_false, false_or, forall_const, Nat.zero_le, Bool.not_true, Bool.not_false, decide_true, decide_false, addQ_lst, sz1]
      exact ⟨by decide, ns, _, rfl, go _⟩
    · simp only [ebd__law_mask_0, dSeq, dSet, dCall, dCons, dNil, dVar, dOp, dLst, dC, dgName, List.getElem?_cons_zero, List.getElem?_cons_succ, List.set_cons_zero, List.set_cons_succ, List.length_cons, List.length_nil, if_true, if_false, Bool.true_eq_false, Bool.false_eq_true, if_pos, ite_true, ite_false, reduceIte, true_and, and_true, true_or, or_true, PV.scr.injEq, PV.int.injEq, PV.bl.injEq, PV.str.injEq, PV.lst.injEq, PV.tup.injEq, exists_eq_left, exists_eq_left', exists_eq_right, exists_eq_right', reduceCtorEq, or_false, false_or, forall_const, Nat.zero_le, Bool.not_true, Bool.not_false, decide_true, decide_false, addQ_lst, sz1]
      exact ⟨by decide, ns, _, rfl, go _⟩
theorem h__law_mask {K : PySem.W.Frag} : ∀ (as : List PV) (post : PV → Prop), as.length = 4 → p__law_mask K as post → d__law_mask K (endsOf post) (startR 8 as) := by
  rintro as post _ ⟨ns, n, k, rfl, hn, hk, q⟩
  show d__law_mask K _ [.val (.scr K ns), .val .town, .val (.int n), .val (.int k), .un, .un, .un, .un]
  refine seq_i ?_
  simp only [dNext, dIfS, dRet, dRetN, dSet, dOwn, dVar, dC, dOp, dB, dChain, dAnd, dOr, dNot, dAndV, dOrV, dNotV, dIf, dNil, dCons, dTup, dLst, dDrop, dgName, dgNil, dgCons, dgTup, dAsg, dPar, dPar3, dParO, dParV, dAug, dCall, dBi, dIsi, dInS, dSl, doNone, doSome, dRevL, dRevS, dM1, dRg1, dListOf, dJoin, dNeg, dApp, dExt, dSetIx, endsOf, dFor, dIt, dZip, dEnum, dRange1, dRange2, itemsQ, dLc, wipeR, dTwn, dTwnSet, dTwnAug, dScrE, dScrL, dScrX, List.getElem?_cons_zero, List.getElem?_cons_succ, List.set_cons_zero, List.set_cons_succ, List.length_cons, List.length_nil, if_true, if_false, Bool.true_eq_false, Bool.false_eq_true, if_pos, ite_true, ite_false, reduceIte, true_and, and_true, true_or, or_true, PV.scr.injEq, PV.int.injEq, PV.bl.injEq, PV.str.injEq, PV.lst.injEq, PV.tup.injEq, exists_eq_left, exists_eq_left', exists_eq_right, exists_eq_right', reduceCtorEq, or_false, false_or, forall_const, Nat.zero_le, Bool.not_true, Bool.not_false, decide_true, decide_false]
  refine ⟨by decide, seq_i ?_⟩
  simp only [dNext, dIfS, dRet, dRetN, dSet, dOwn, dVar, dC, dOp, dB, dChain, dAnd, dOr, dNot, dAndV, dOrV, dNotV, dIf, dNil, dCons, dTup, dLst, dDrop, dgName, dgNil, dgCons, dgTup, dAsg, dPar, dPar3, dParO, dParV, dAug, dCall, dBi, dIsi, dInS, dSl, doNone, doSome, dRevL, dRevS, dM1, dRg1, dListOf, dJoin, dNeg, dApp, dExt, dSetIx, endsOf, dFor, dIt, dZip, dEnum, dRange1, dRange2, itemsQ, dLc, wipeR, dTwn, dTwnSet, dTwnAug, dScrE, dScrL, dScrX, List.getElem?_cons_zero, List.getElem?_cons_succ, List.set_cons_zero, List.set_cons_succ, List.length_cons, List.length_nil, if_true, if_false, Bool.true_eq_false, Bool.false_eq_true, if_pos, ite_true, ite_false, reduceIte, true_and, and_true, true_or, or_true, PV.scr.injEq, PV.int.injEq, PV.bl.injEq, PV.str.injEq, PV.lst.injEq, PV.tup.injEq, exists_eq_left, exists_eq_left', exists_eq_right, exists_eq_right', reduceCtorEq, or_false, false_or, forall_const, Nat.zero_le, Bool.not_true, Bool.not_false, decide_true, decide_false, ownL, addQ_int]
  refine ⟨by decide, by decide, seq_i ?_⟩
  simp only [dNext, dIfS, dRet, dRetN, dSet, dOwn, dVar, dC, dOp, dB, dChain, dAnd, dOr, dNot, dAndV, dOrV, dNotV, dIf, dNil, dCons, dTup, dLst, dDrop, dgName, dgNil, dgCons, dgTup, dAsg, dPar, dPar3, dParO, dParV, dAug, dCall, dBi, dIsi, dInS, dSl, doNone, doSome, dRevL, dRevS, dM1, dRg1, dListOf, dJoin, dNeg, dApp, dExt, dSetIx, endsOf, dFor, dIt, dZip, dEnum, dRange1, dRange2, itemsQ, dLc, wipeR, dTwn, dTwnSet, dTwnAug, dScrE, dScrL, dScrX, List.getElem?_cons_zero, List.getElem?_cons_succ, List.set_cons_zero, List.set_cons_succ, List.length_cons, List.length_nil, if_true, if_false, Bool.true_eq_false, Bool.false_eq_true, if_pos, ite_true, ite_false, reduceIte, true_and, and_true, true_or, or_true, PV.scr.injEq, PV.int.injEq, PV.bl.injEq, PV.str.injEq, PV.lst.injEq, PV.tup.injEq, exists_eq_left, exists_eq_left', exists_eq_right, exists_eq_right', reduceCtorEq, or_false, false_or, forall_const, Nat.zero_le, Bool.not_true, Bool.not_false, decide_true, decide_false]
  refine seq_i ?_
  simp only [dNext, dIfS, dRet, dRetN, dSet, dOwn, dVar, dC, dOp, dB, dChain, dAnd, dOr, dNot, dAndV, dOrV, dNotV, dIf, dNil, dCons, dTup, dLst, dDrop, dgName, dgNil, dgCons, dgTup, dAsg, dPar, dPar3, dParO, dParV, dAug, dCall, dBi, dIsi, dInS, dSl, doNone, doSome, dRevL, dRevS, dM1, dRg1, dListOf, dJoin, dNeg, dApp, dExt, dSetIx, endsOf, dFor, dIt, dZip, dEnum, dRange1, dRange2, itemsQ, dLc, wipeR, dTwn, dTwnSet, dTwnAug, dScrE, dScrL, dScrX, List.getElem?_cons_zero, List.getElem?_cons_succ, List.set_cons_zero, List.set_cons_succ, List.length_cons, List.length_nil, if_true, if_false, Bool.true_eq_false, Bool.false_eq_true, if_pos, ite_true, ite_false, reduceIte, true_and, and_true, true_or, or_true, PV.scr.injEq, PV.int.injEq, PV.bl.injEq, PV.str.injEq, PV.lst.injEq, PV.tup.injEq, exists_eq_left, exists_eq_left', exists_eq_right, exists_eq_right', reduceCtorEq, or_false, false_or, forall_const, Nat.zero_le, Bool.not_true, Bool.not_false, decide_true, decide_false, addQ_int]
  refine draw_s (fun c hc => ?_) (by omega)
  refine ⟨by omega, by omega, ?_⟩
  rw [Int.toNat_natCast]
  refine lm_loop ns _ k hk n hn _ c 0 [] _ _ _ (.inl rfl) ⟨Nat.zero_le _, fun s hs => by cases hs⟩ (by omega) fun m s4 s6 s7 hm => ?_
  simp only [dNext, dIfS, dRet, dRetN, dSet, dOwn, dVar, dC, dOp, dB, dChain, dAnd, dOr, dNot, dAndV, dOrV, dNotV, dIf, dNil, dCons, dTup, dLst, dDrop, dgName, dgNil, dgCons, dgTup, dAsg, dPar, dPar3, dParO, dParV, dAug, dCall, dBi, dIsi, dInS, dSl, doNone, doSome, dRevL, dRevS, dM1, dRg1, dListOf, dJoin, dNeg, dApp, dExt, dSetIx, endsOf, dFor, dIt, dZip, dEnum, dRange1, dRange2, itemsQ, dLc, wipeR, dTwn, dTwnSet, dTwnAug, dScrE, dScrL, dScrX, List.getElem?_cons_zero, List.getElem?_cons_succ, List.set_cons_zero, List.set_cons_succ, List.length_cons, List.length_nil, if_true, if_false, Bool.true_eq_false, Bool.false_eq_true, if_pos, ite_true, ite_false, reduceIte, true_and, and_true, true_or, or_true, PV.scr.injEq, PV.int.injEq, PV.bl.injEq, PV.str.injEq, PV.lst.injEq, PV.tup.injEq, exists_eq_left, exists_eq_left', exists_eq_right, exists_eq_right', reduceCtorEq, or_false, false_or, forall_const, Nat.zero_le, Bool.not_true, Bool.not_false, decide_true, decide_false, tupleQ]
  exact q m hm
/-! ### comprehensions whose turns are drawn -/
theorem lcLoop_any {g : DG} {tt : DT} {te : DE} {vs : List Nat} {ρ : Rho} {S : PV → Prop} : ∀ {xs : List PV} {Q : List PV → Prop}, (∀ x ∈ xs, ∀ P : List PV → Prop, (∀ y, S y → P [y]) → g x ρ fun ρ2 => tt ρ2 fun b ρ3 => if b = true then te ρ3 fun y ρ4 => wipeR ρ4 vs = ρ ∧ P [y] else wipeR ρ3 vs = ρ ∧ P []) →
    (∀ ys : List PV, ys.length = xs.length → (∀ y ∈ ys, S y) → Q ys) → lcLoop g tt te vs ρ xs Q
  | [], _, _, q => q [] rfl fun _ h => by cases h
  | x :: xs, Q, h, q => by
    have h1 := h x List.mem_cons_self (fun ys => lcLoop g tt te vs ρ xs fun zs => Q (ys ++ zs)) (fun y hy => lcLoop_any (fun z hz => h z (List.mem_cons_of_mem _ hz)) fun zs h1 h2 => q (y :: zs) (by simp [h1]) fun z hz => by
      rcases List.mem_cons.mp hz with rfl | hz
      · exact hy
      · exact h2 z hz)
    exact h1
/-! ### a drawn string -/
def p__law_string (K : PySem.W.Frag) : PSp := fun as Q => ∃ (ns : List Int) (ls : T) (n : Nat), as = [.scr K ns, .town, .str (strT ls), .int n] ∧ 0 < ls.length ∧ ls.length ≤ 1000 ∧ (∀ c ∈ ls, c < 0x110000) ∧ n ≤ 1000 ∧ ∀ t : T, t.length ≤ n → (∀ c ∈ t, c ∈ ls) → Q (.str (strT t))
theorem m__law_string {K : PySem.W.Frag} : MonoP (p__law_string K) := fun _ _ _ h ⟨ns, n, k, e, a, b, c, d, q⟩ => ⟨ns, n, k, e, a, b, c, d, fun t h1 h2 => h _ (q t h1 h2)⟩
def d__law_string (K : PySem.W.Frag) : DS := (dRet (dJoin (dC (.str (Str.ofString ""))) (dLc (dRange1 (dCons (dCall 3 (p__law_draw K) (dCons (dVar 0) (dCons (dVar 1) (dCons (dOp addQ (dVar 3) (dC (.int 1))) dNil)))) dNil)) (dgName
      4) dYes (dCall 3 (p__law_pick K) (dCons (dVar 0) (dCons (dVar 1) (dCons (dVar 2) dNil)))) [4])))
theorem rngP_mem {n : Nat} {lo : Int} {x : PV} (h : x ∈ rngP lo n) : ∃ i : Nat, i < n ∧ x = .int (lo + i) := by
  obtain ⟨i, hi⟩ := List.getElem?_of_mem h
  have hl := (List.getElem?_eq_some_iff.mp hi).1
  rw [rngP_length] at hl
  exact ⟨i, hl, rngP_get hi⟩
theorem chs_of : ∀ {ys : List PV} {ls : T}, (∀ y ∈ ys, ∃ c, c ∈ ls ∧ y = chP c) → ∃ t : T, ys = t.map chP ∧ ∀ c ∈ t, c ∈ ls
  | [], ls, _ => ⟨[], rfl, fun _ h => by cases h⟩
  | y :: ys, ls, h => by
    obtain ⟨c, hc, rfl⟩ := h y List.mem_cons_self
    obtain ⟨t, rfl, ht⟩ := chs_of (ys := ys) (ls := ls) fun z hz => h z (List.mem_cons_of_mem _ hz)
    exact ⟨c :: t, rfl, fun d hd => by
      rcases List.mem_cons.mp hd with rfl | hd
      · exact hc
      · exact ht d hd⟩
theorem h__law_string {K : PySem.W.Frag} : ∀ (as : List PV) (post : PV → Prop), as.length = 4 → p__law_string K as post → d__law_string K (endsOf post) (startR 5 as) := by
  rintro as post _ ⟨ns, ls, n, rfl, h0, h1, hc, hn, q⟩
  show d__law_string K _ [.val (.scr K ns), .val .town, .val (.str (strT ls)), .val (.int n), .un]
  have big := big
  simp only [d__law_string, dSeq, dNext, dIfS, dRet, dRetN, dSet, dOwn, dVar, dC, dOp, dB, dChain, dAnd, dOr, dNot, dAndV, dOrV, dNotV, dIf, dNil, dCons, dTup, dLst, dDrop, dgName, dgNil, dgCons, dgTup, dAsg, dPar, dPar3, dParO, dParV, dAug, dCall, dBi, dIsi, dInS, dSl, doNone, doSome, dRevL, dRevS, dM1, dRg1, dListOf, dJoin, dNeg, dApp, dExt, dSetIx, endsOf, dFor, dIt, dZip, dEnum, dRange1, dRange2, itemsQ, dLc, wipeR, dTwn, dTwnSet, dTwnAug, dScrE, dScrL, dScrX, List.getElem?_cons_zero, List.getElem?_cons_succ, List.set_cons_zero, List.set_cons_succ, List.length_cons, List.length_nil, if_true, if_false, Bool.true_eq_false, Bool.false_eq_true, if_pos, ite_true, ite_false, reduceIte, true_and, and_true, true_or, or_true, PV.scr.injEq, PV.int.injEq, PV.bl.injEq, PV.str.injEq, PV.lst.injEq, PV.tup.injEq, exists_eq_left, exists_eq_left', exists_eq_right, exists_eq_right', reduceCtorEq, or_false, false_or, forall_const, Nat.zero_le, Bool.not_true, Bool.not_false, decide_true, decide_false, addQ_int, isS]
  refine draw_s (fun k hk => ?_) (by omega)
  refine ⟨by omega, by omega, fun i hi s hs => ?_, by rw [rngP_length, Int.toNat_natCast]; omega, lcLoop_any (S := fun y => ∃ c, c ∈ ls ∧ y = chP c) (fun x hx P hP => ?_) fun ys hy hm => ?_⟩
  · have e : i = 4 := by simpa using hi
    subst e
    simp only [List.getElem?_cons_zero, List.getElem?_cons_succ, List.set_cons_zero, List.set_cons_succ, List.length_cons, List.length_nil, if_true, if_false, Bool.true_eq_false, Bool.false_eq_true, if_pos, ite_true, ite_false, reduceIte, true_and, and_true, true_or, or_true, PV.scr.injEq, PV.int.injEq, PV.bl.injEq, PV.str.injEq, PV.lst.injEq, PV.tup.injEq, exists_eq_left, exists_eq_left', exists_eq_right, exists_eq_right', reduceCtorEq, or_false, false_or, forall_const, Nat.zero_le, Bool.not_true, Bool.not_false, decide_true, decide_false, Option.some.injEq] at hs
    subst hs; rfl
  · simp only [dYes, dSeq, dNext, dIfS, dRet, dRetN, dSet, dOwn, dVar, dC, dOp, dB, dChain, dAnd, dOr, dNot, dAndV, dOrV, dNotV, dIf, dNil, dCons, dTup, dLst, dDrop, dgName, dgNil, dgCons, dgTup, dAsg, dPar, dPar3, dParO, dParV, dAug, dCall, dBi, dIsi, dInS, dSl, doNone, doSome, dRevL, dRevS, dM1, dRg1, dListOf, dJoin, dNeg, dApp, dExt, dSetIx, endsOf, dFor, dIt, dZip, dEnum, dRange1, dRange2, itemsQ, dLc, wipeR, dTwn, dTwnSet, dTwnAug, dScrE, dScrL, dScrX, List.getElem?_cons_zero, List.getElem?_cons_succ, List.set_cons_zero, List.set_cons_succ, List.length_cons, List.length_nil, if_true, if_false, Bool.true_eq_false, Bool.false_eq_true, if_pos, ite_true, ite_false, reduceIte, true_and, and_true, true_or, or_true, PV.scr.injEq, PV.int.injEq, PV.bl.injEq, PV.str.injEq, PV.lst.injEq, PV.tup.injEq, exists_eq_left, exists_eq_left', exists_eq_right, exists_eq_right', reduceCtorEq, or_false, false_or, forall_const, Nat.zero_le, Bool.not_true, Bool.not_false, decide_true, decide_false]
    exact ⟨ns, _, rfl, h0, Nat.lt_of_le_of_lt h1 (by decide), fun c hc => hP _ ⟨c, hc, rfl⟩⟩
  · obtain ⟨t, rfl, ht⟩ := chs_of hm
    rw [List.length_map, rngP_length, Int.toNat_natCast] at hy
    exact joinC_ch (by omega) (fun c h => hc c (ht c h)) _ (q t (by omega) ht)
/-! ### a drawn release -/
abbrev Rel := List Mask
def encRel (r : Rel) : PV := .tup (r.map encM)
def Rk (c n k : Nat) (r : Rel) : Prop := r.length ≤ c ∧ ∀ m ∈ r, Mk n k m
def OkR (r : Rel) : Prop := r.length ≤ 3 ∧ ∀ m ∈ r, OkM m
theorem Rk.ok {c n k : Nat} {r : Rel} (h : Rk c n k r) (hc : c ≤ 3) (hn : n ≤ 4) (hk : k ≤ 5) : OkR r := ⟨Nat.le_trans h.1 hc, fun m hm => (h.2 m hm).ok hn hk⟩
def p__law_release (K : PySem.W.Frag) : PSp := fun as Q => ∃ (ns : List Int) (c n k : Nat), as = [.scr K ns, .town, .int c, .int n, .int k] ∧ c ≤ 100 ∧ n ≤ 100 ∧ k ≤ 100 ∧ ∀ r : Rel, Rk c n k r → Q (encRel r)
theorem m__law_release {K : PySem.W.Frag} : MonoP (p__law_release K) := fun _ _ _ h ⟨ns, c, n, k, e, a, b, d, q⟩ => ⟨ns, c, n, k, e, a, b, d, fun m hm => h _ (q m hm)⟩
def d__law_release (K : PySem.W.Frag) : DS := (dRet (dBi tupleQ (dCons (dLc (dRange1 (dCons (dCall 3 (p__law_draw K) (dCons (dVar 0) (dCons (dVar 1) (dCons (dOp addQ (dVar 2) (dC (.int 1))) dNil)))) dNil)) (dgName 5) dYes (dCall 4
      (p__law_mask K) (dCons (dVar 0) (dCons (dVar 1) (dCons (dVar 3) (dCons (dVar 4) dNil))))) [5]) dNil)))
theorem masks_of {n k : Nat} : ∀ {ys : List PV}, (∀ y ∈ ys, ∃ m, Mk n k m ∧ y = encM m) → ∃ r : Rel, ys = r.map encM ∧ ∀ m ∈ r, Mk n k m
  | [], _ => ⟨[], rfl, fun _ h => by cases h⟩
  | y :: ys, h => by
    obtain ⟨c, hc, rfl⟩ := h y List.mem_cons_self
    obtain ⟨t, rfl, ht⟩ := masks_of (ys := ys) fun z hz => h z (List.mem_cons_of_mem _ hz)
    exact ⟨c :: t, rfl, fun d hd => by
      rcases List.mem_cons.mp hd with rfl | hd
      · exact hc
      · exact ht d hd⟩
theorem h__law_release {K : PySem.W.Frag} : ∀ (as : List PV) (post : PV → Prop), as.length = 5 → p__law_release K as post → d__law_release K (endsOf post) (startR 6 as) := by
  rintro as post _ ⟨ns, c, n, k, rfl, hc, hn, hk, q⟩
  show d__law_release K _ [.val (.scr K ns), .val .town, .val (.int c), .val (.int n), .val (.int k), .un]
  have big := big
  simp only [d__law_release, dSeq, dNext, dIfS, dRet, dRetN, dSet, dOwn, dVar, dC, dOp, dB, dChain, dAnd, dOr, dNot, dAndV, dOrV, dNotV, dIf, dNil, dCons, dTup, dLst, dDrop, dgName, dgNil, dgCons, dgTup, dAsg, dPar, dPar3, dParO, dParV, dAug, dCall, dBi, dIsi, dInS, dSl, doNone, doSome, dRevL, dRevS, dM1, dRg1, dListOf, dJoin, dNeg, dApp, dExt, dSetIx, endsOf, dFor, dIt, dZip, dEnum, dRange1, dRange2, itemsQ, dLc, wipeR, dTwn, dTwnSet, dTwnAug, dScrE, dScrL, dScrX, List.getElem?_cons_zero, List.getElem?_cons_succ, List.set_cons_zero, List.set_cons_succ, List.length_cons, List.length_nil, if_true, if_false, Bool.true_eq_false, Bool.false_eq_true, if_pos, ite_true, ite_false, reduceIte, true_and, and_true, true_or, or_true, PV.scr.injEq, PV.int.injEq, PV.bl.injEq, PV.str.injEq, PV.lst.injEq, PV.tup.injEq, exists_eq_left, exists_eq_left', exists_eq_right, exists_eq_right', reduceCtorEq, or_false, false_or, forall_const, Nat.zero_le, Bool.not_true, Bool.not_false, decide_true, decide_false, addQ_int]
  refine draw_s (fun j hj => ?_) (by omega)
  refine ⟨by omega, by omega, fun i hi s hs => ?_, by rw [rngP_length, Int.toNat_natCast]; omega, lcLoop_any (S := fun y => ∃ m, Mk n k m ∧ y = encM m) (fun x hx P hP => ?_) fun ys hy hm => ?_⟩
  · have e : i = 5 := by simpa using hi
    subst e
    simp only [List.getElem?_cons_zero, List.getElem?_cons_succ, List.set_cons_zero, List.set_cons_succ, List.length_cons, List.length_nil, if_true, if_false, Bool.true_eq_false, Bool.false_eq_true, if_pos, ite_true, ite_false, reduceIte, true_and, and_true, true_or, or_true, PV.scr.injEq, PV.int.injEq, PV.bl.injEq, PV.str.injEq, PV.lst.injEq, PV.tup.injEq, exists_eq_left, exists_eq_left', exists_eq_right, exists_eq_right', reduceCtorEq, or_false, false_or, forall_const, Nat.zero_le, Bool.not_true, Bool.not_false, decide_true, decide_false, Option.some.injEq] at hs
    subst hs; rfl
  · simp only [dYes, dSeq, dNext, dIfS, dRet, dRetN, dSet, dOwn, dVar, dC, dOp, dB, dChain, dAnd, dOr, dNot, dAndV, dOrV, dNotV, dIf, dNil, dCons, dTup, dLst, dDrop, dgName, dgNil, dgCons, dgTup, dAsg, dPar, dPar3, dParO, dParV, dAug, dCall, dBi, dIsi, dInS, dSl, doNone, doSome, dRevL, dRevS, dM1, dRg1, dListOf, dJoin, dNeg, dApp, dExt, dSetIx, endsOf, dFor, dIt, dZip, dEnum, dRange1, dRange2, itemsQ, dLc, wipeR, dTwn, dTwnSet, dTwnAug, dScrE, dScrL, dScrX, List.getElem?_cons_zero, List.getElem?_cons_succ, List.set_cons_zero, List.set_cons_succ, List.length_cons, List.length_nil, if_true, if_false, Bool.true_eq_false, Bool.false_eq_true, if_pos, ite_true, ite_false, reduceIte, true_and, and_true, true_or, or_true, PV.scr.injEq, PV.int.injEq, PV.bl.injEq, PV.str.injEq, PV.lst.injEq, PV.tup.injEq, exists_eq_left, exists_eq_left', exists_eq_right, exists_eq_right', reduceCtorEq, or_false, false_or, forall_const, Nat.zero_le, Bool.not_true, Bool.not_false, decide_true, decide_false]
    exact ⟨ns, n, k, rfl, hn, hk, fun m hm => hP _ ⟨m, hm, rfl⟩⟩
  · obtain ⟨r, rfl, hr⟩ := masks_of hm
    rw [List.length_map, rngP_length, Int.toNat_natCast] at hy
    simp only [tupleQ]
    exact q r ⟨by omega, hr⟩
end PL

set_option Elab.async false
set_option linter.all false
set_option maxRecDepth 100000
set_option maxHeartbeats 4000000
/-! the laws' own step on a text, and that it is what the template says -/
namespace PL
open PySem PySem.Spec L2
open TL (tl len_tl ext_tl tl_append joinL tl_join join_eq)

/-! ### texts cut, multiplied, turned -/
theorem cutS_drop (t : T) (n : Nat) : cutS (strT t) (some n) none = strT (t.drop n) := by
  refine ext_tl ?_
  show ((t.drop (HT.sIx t.length 0 (some n))).take (HT.sIx t.length t.length none - HT.sIx t.length 0 (some n))) = _
  rw [HT.sIx_nat, HT.sIx_none, tl_strT]
  by_cases h : n ≤ t.length
  · rw [Nat.min_eq_left h, List.take_of_length_le (by rw [List.length_drop]; omega)]
  · rw [Nat.min_eq_right (by omega), List.drop_eq_nil_of_le (by omega : t.length ≤ n), List.drop_eq_nil_of_le (Nat.le_refl _)]; simp
theorem cutS_take (t : T) (n : Nat) : cutS (strT t) none (some n) = strT (t.take n) := by
  refine ext_tl ?_
  show ((t.drop (HT.sIx t.length 0 none)).take (HT.sIx t.length t.length (some n) - HT.sIx t.length 0 none)) = _
  rw [HT.sIx_nat, HT.sIx_none, tl_strT, List.drop_zero, Nat.sub_zero]
  by_cases h : n ≤ t.length
  · rw [Nat.min_eq_left h]
  · rw [Nat.min_eq_right (by omega), List.take_of_length_le (Nat.le_refl _), List.take_of_length_le (by omega)]
theorem slQ_str (z : Str) (lo hi : Option Int) (Q : PV → Prop) : slQ (.str z) lo hi Q = Q (.str (cutS z lo hi)) := rfl
theorem fold_rep (c : Nat) : ∀ (n : Nat) (acc : Array Nat), ((List.replicate n #[c]).foldl (· ++ ·) acc).toList = acc.toList ++ List.replicate n c
  | 0, acc => by simp
  | n + 1, acc => by
    rw [List.replicate_succ, List.foldl_cons, fold_rep c n, List.replicate_succ, Array.toList_append, List.append_assoc]; rfl
theorem mul_star (n : Nat) : Txt.mul (strT [42]) n = strT (List.replicate n 42) := by
  unfold Txt.mul
  by_cases h0 : (n : Int) < 1
  · have : n = 0 := by omega
    subst this; rfl
  · rw [if_neg h0]
    by_cases h1 : n = 1
    · subst h1; rfl
    · have e : ((n : Int) == 1 || (strT [42]).length == 0) = false := by
        rw [show ((n : Int) == 1) = false from beq_eq_false_iff_ne.mpr (by omega)]; rfl
      rw [e, if_neg Bool.false_ne_true]
      refine ext_tl ?_
      show (List.foldl (· ++ ·) #[] (List.replicate (Int.toNat n) #[42])).toList = _
      rw [Int.toNat_natCast, fold_rep]; rfl
theorem mulQ_star (n : Nat) (hn : n ≤ 1000000) (Q : PV → Prop) (h : Q (.str (strT (List.replicate n 42)))) : mulQ (.str (Str.ofString "*")) (.int n) Q := by
  have e0 : (sizeLine : Nat) = 16777216 := by decide
  show -16777216 ≤ (n : Int) ∧ (n : Int) ≤ 16777216 ∧ (strT [42]).length * (n : Int).toNat ≤ 16777216 ∧ Sok (Txt.mul (strT [42]) n) ∧ Q (.str (Txt.mul (strT [42]) n))
  rw [mul_star, strT_len]
  refine ⟨by omega, by omega, by rw [Int.toNat_natCast]; show 1 * n ≤ _; omega, sok_strT (by rw [List.length_replicate]; omega) (fun c hc => by rw [List.eq_of_mem_replicate hc]; decide), h⟩
theorem revT_strT (t : T) : revT (strT t) = strT t.reverse := rfl
/-! ### the step -/
/-- runs of stars made n stars; p: a star stood before -/
def sqT (n : Nat) : Bool → T → T
  | _, [] => []
  | p, c :: t => if c = 42 then (if p = true then [] else List.replicate n 42) ++ sqT n true t else c :: sqT n false t
def lstep : Step → T → T
  | .rev, t => t.reverse
  | .st .kf n, t => t.take n ++ List.replicate (t.length - n) 42
  | .st .kl n, t => List.replicate (t.length - n) 42 ++ t.drop (t.length - n)
  | .st .hf n, t => List.replicate (min t.length n) 42 ++ t.drop n
  | .st .hl n, t => t.take (t.length - n) ++ List.replicate (min t.length n) 42
  | .st .cf n, t => t.drop n
  | .st .cl n, t => t.take (t.length - n)
  | .st .sq n, t => sqT n false t
  | .st .sh n, t => if t.length < n then List.replicate t.length 42 else t
theorem sqT_length {n : Nat} (hn : n ≤ 5) : ∀ (t : T) (p : Bool), (sqT n p t).length ≤ 5 * t.length
  | [], p => Nat.zero_le _
  | c :: t, p => by
    rw [sqT, List.length_cons]
    split
    · rw [List.length_append]
      have := sqT_length hn t true
      split
      · simp only [List.length_nil]; omega
      · rw [List.length_replicate]; omega
    · rw [List.length_cons]
      have := sqT_length hn t false
      omega
theorem lstep_length {s : Step} (h : s.num ≤ 5) (t : T) : (lstep s t).length ≤ 5 * t.length := by
  cases s with
  | rev => rw [lstep, List.length_reverse]; omega
  | st k n =>
    cases k <;> simp only [lstep]
    · rw [List.length_append, List.length_take, List.length_replicate]; omega
    · rw [List.length_append, List.length_drop, List.length_replicate]; omega
    · rw [List.length_append, List.length_drop, List.length_replicate]; omega
    · rw [List.length_append, List.length_take, List.length_replicate]; omega
    · rw [List.length_drop]; omega
    · rw [List.length_take]; omega
    · exact sqT_length h t false
    · split
      · rw [List.length_replicate]; omega
      · omega
theorem sqT_mem {n c : Nat} : ∀ {t : T} {p : Bool}, c ∈ sqT n p t → c = 42 ∨ c ∈ t
  | d :: t, p, h => by
    rw [sqT] at h
    split at h
    · rcases List.mem_append.mp h with h | h
      · split at h
        · cases h
        · exact .inl (List.eq_of_mem_replicate h)
      · exact (sqT_mem h).imp id (List.mem_cons_of_mem _)
    · rcases List.mem_cons.mp h with rfl | h
      · exact .inr List.mem_cons_self
      · exact (sqT_mem h).imp id (List.mem_cons_of_mem _)
theorem lstep_mem {s : Step} {t : T} {c : Nat} (h : c ∈ lstep s t) : c = 42 ∨ c ∈ t := by
  cases s with
  | rev => rw [lstep] at h; exact .inr (by simpa using h)
  | st k n =>
    cases k <;> simp only [lstep] at h
    · rcases List.mem_append.mp h with h | h
      · exact .inr (List.mem_of_mem_take h)
      · exact .inl (List.eq_of_mem_replicate h)
    · rcases List.mem_append.mp h with h | h
      · exact .inl (List.eq_of_mem_replicate h)
      · exact .inr (List.mem_of_mem_drop h)
    · rcases List.mem_append.mp h with h | h
      · exact .inl (List.eq_of_mem_replicate h)
      · exact .inr (List.mem_of_mem_drop h)
    · rcases List.mem_append.mp h with h | h
      · exact .inr (List.mem_of_mem_take h)
      · exact .inl (List.eq_of_mem_replicate h)
    · exact .inr (List.mem_of_mem_drop h)
    · exact .inr (List.mem_of_mem_take h)
    · exact sqT_mem h
    · split at h
      · exact .inl (List.eq_of_mem_replicate h)
      · exact .inr h
def p__law_step : PSp := fun as Q => ∃ (s : Step) (t : T), as = [encStep s, .str (strT t)] ∧ s.num ≤ 5 ∧ t.length ≤ 1000000 ∧ (∀ c ∈ t, c < 0x110000) ∧ Q (.str (strT (lstep s t)))
theorem m__law_step : MonoP p__law_step := fun _ _ _ h ⟨v, a, e, z, y, x, q⟩ => ⟨v, a, e, z, y, x, h _ q⟩
def bd__law_step_0 : DS := (dSeq (dIfS (dB (dOp neQ (dVar 6) (dC (.str (Str.ofString "*"))))) (dSet 4 (dOp addQ (dVar 4) (dVar 6))) (dIfS (dB (dOp neQ (dVar 5) (dC (.str (Str.ofString "*"))))) (dSet 4 (dOp addQ (dVar 4) (dOp mulQ
      (dC (.str (Str.ofString "*"))) (dVar 3)))) dNext)) (dSet 5 (dVar 6)))
theorem ebd__law_step_0 (PD : PEnds) (ρ : Rho) : bd__law_step_0 PD ρ = (dSeq (dIfS (dB (dOp neQ (dVar 6) (dC (.str (Str.ofString "*"))))) (dSet 4 (dOp addQ (dVar 4) (dVar 6))) (dIfS (dB (dOp neQ (dVar 5) (dC (.str (Str.ofString
      "*"))))) (dSet 4 (dOp addQ (dVar 4) (dOp mulQ (dC (.str (Str.ofString "*"))) (dVar 3)))) dNext)) (dSet 5 (dVar 6))) PD ρ := rfl
def d__law_step : DS := (dSeq (dPar 2 3 (dCons (dBi lenQ (dCons (dVar 1) dNil)) (dCons (dIf (dB (dOp (cmpQ fun i j => decide (j < i)) (dBi lenQ (dCons (dVar 0) dNil)) (dC (.int 1)))) (dOp ixQ (dVar 0) (dC (.int 1))) (dC (.int 0)))
      dNil))) (dSeq (dIfS (dB (dOp eqQ (dOp ixQ (dVar 0) (dC (.int 0))) (dC (.str (Str.ofString "reverse"))))) (dRet (dRevS (dVar 1))) dNext) (dSeq (dIfS (dB (dOp eqQ (dOp ixQ (dVar 0) (dC (.int 0))) (dC (.str (Str.ofString
      "keep_first"))))) (dRet (dOp addQ (dSl (dVar 1) doNone (doSome (dVar 3))) (dOp mulQ (dC (.str (Str.ofString "*"))) (dBi maxQ (dCons (dOp (int0Q fun i j => i - j) (dVar 2) (dVar 3)) (dCons (dC (.int 0)) dNil)))))) dNext) (dSeq
      (dIfS (dB (dOp eqQ (dOp ixQ (dVar 0) (dC (.int 0))) (dC (.str (Str.ofString "keep_last"))))) (dRet (dOp addQ (dOp mulQ (dC (.str (Str.ofString "*"))) (dBi maxQ (dCons (dOp (int0Q fun i j => i - j) (dVar 2) (dVar 3)) (dCons (dC
      (.int 0)) dNil)))) (dSl (dVar 1) (doSome (dBi maxQ (dCons (dOp (int0Q fun i j => i - j) (dVar 2) (dVar 3)) (dCons (dC (.int 0)) dNil)))) doNone))) dNext) (dSeq (dIfS (dB (dOp eqQ (dOp ixQ (dVar 0) (dC (.int 0))) (dC (.str
      (Str.ofString "hide_first"))))) (dRet (dOp addQ (dOp mulQ (dC (.str (Str.ofString "*"))) (dBi minQ (dCons (dVar 2) (dCons (dVar 3) dNil)))) (dSl (dVar 1) (doSome (dVar 3)) doNone))) dNext) (dSeq (dIfS (dB (dOp eqQ (dOp ixQ (dVar
      0) (dC (.int 0))) (dC (.str (Str.ofString "hide_last"))))) (dRet (dOp addQ (dSl (dVar 1) doNone (doSome (dBi maxQ (dCons (dOp (int0Q fun i j => i - j) (dVar 2) (dVar 3)) (dCons (dC (.int 0)) dNil))))) (dOp mulQ (dC (.str
      (Str.ofString "*"))) (dBi minQ (dCons (dVar 2) (dCons (dVar 3) dNil)))))) dNext) (dSeq (dIfS (dB (dOp eqQ (dOp ixQ (dVar 0) (dC (.int 0))) (dC (.str (Str.ofString "cut_first"))))) (dRet (dSl (dVar 1) (doSome (dVar 3)) doNone))
      dNext) (dSeq (dIfS (dB (dOp eqQ (dOp ixQ (dVar 0) (dC (.int 0))) (dC (.str (Str.ofString "cut_last"))))) (dRet (dSl (dVar 1) doNone (doSome (dBi maxQ (dCons (dOp (int0Q fun i j => i - j) (dVar 2) (dVar 3)) (dCons (dC (.int 0))
      dNil)))))) dNext) (dSeq (dIfS (dB (dOp eqQ (dOp ixQ (dVar 0) (dC (.int 0))) (dC (.str (Str.ofString "short"))))) (dRet (dIf (dB (dOp (cmpQ fun i j => decide (i < j)) (dVar 2) (dVar 3))) (dOp mulQ (dC (.str (Str.ofString "*")))
      (dVar 2)) (dVar 1))) dNext) (dSeq (dAsg (dTup (dCons (dC (.str (Str.ofString ""))) (dCons (dC (.str (Str.ofString ""))) dNil))) (dgTup 2 (dgCons (dgName 4) (dgCons (dgName 5) dgNil)))) (dSeq (dFor (dIt (dVar 1)) (dgName 6)
      bd__law_step_0) (dRet (dVar 4)))))))))))))
theorem kd_q2 (k : Kd) : decide (k.str = Str.ofString "short") = decide (k = .sh) := by cases k <;> decide +kernel
theorem star_ne (c : Nat) (Q : PV → Prop) : neQ (chP c) (.str (Str.ofString "*")) Q = Q (.bl (!decide (c = 42))) := by
  show neQ (.str (strT [c])) (.str (strT [42])) Q = _
  rw [neQ_str]
  have e : decide (strT [c] = strT [42]) = decide (c = 42) := by
    refine decide_eq_decide.mpr ⟨fun h => ?_, fun h => by rw [h]⟩
    have := strT_inj h
    simpa using this
  rw [e]
/-- was the last sign a star? (the empty text at the start: no) -/
def lastP : Option Nat → PV
  | none => .str (strT [])
  | some c => chP c
def lastB : Option Nat → Bool
  | none => false
  | some c => decide (c = 42)
theorem last_ne (o : Option Nat) (Q : PV → Prop) : neQ (lastP o) (.str (Str.ofString "*")) Q = Q (.bl (!lastB o)) := by
  cases o with
  | none =>
    show neQ (.str (strT [])) (.str (strT [42])) Q = _
    rw [neQ_str]
    rw [show decide (strT [] = strT [42]) = false from decide_eq_false fun h => by have := strT_inj h; cases this]; rfl
  | some c => exact star_ne c Q
theorem min_nat' (a n : Nat) : min (a : Int) (n : Int) = ((min a n : Nat) : Int) := by omega
theorem ls_loop (v0 v1 v2 : Slot) (n : Nat) (hn : n ≤ 5) (PD : PEnds) : ∀ (t : T) (o : Option Nat) (acc : T) (s6 : Slot), acc.length + 5 * t.length ≤ 5000000 → (∀ c ∈ acc, c < 0x110000) → (∀ c ∈ t, c < 0x110000) → (∀ (p : PV) (s6 : Slot), PD.nx [v0, v1, v2, .val (.int n), .val (.str (strT (acc ++ sqT n (lastB o) t))), .val p, s6]) →
    dLoop (dgName 6) bd__law_step_0 PD (t.map chP) [v0, v1, v2, .val (.int n), .val (.str (strT acc)), .val (lastP o), s6]
  | [], o, acc, s6, hl, ha, ht, h => by
    have h := h (lastP o) s6
    rw [sqT, List.append_nil] at h
    exact h
  | c :: t, o, acc, s6, hl, ha, ht, h => by
    have e0 : (sizeLine : Nat) = 16777216 := by decide
    rw [List.length_cons] at hl
    have hc : c < 0x110000 := ht c List.mem_cons_self
    have ht2 : ∀ d ∈ t, d < 0x110000 := fun d hd => ht d (List.mem_cons_of_mem _ hd)
    rw [List.map_cons, dLoop_cons]
    simp only [ebd__law_step_0, dSeq, dNext, dIfS, dRet, dRetN, dSet, dOwn, dVar, dC, dOp, dB, dChain, dAnd, dOr, dNot, dAndV, dOrV, dNotV, dIf, dNil, dCons, dTup, dLst, dDrop, dgName, dgNil, dgCons, dgTup, dAsg, dPar, dPar3, dParO, dParV, dAug, dCall, dBi, dIsi, dInS, dSl, doNone, doSome, dRevL, dRevS, dM1, dRg1, dListOf, dJoin, dNeg, dApp, dExt, dSetIx, endsOf, dFor, dIt, dZip, dEnum, dRange1, dRange2, itemsQ, dLc, wipeR, dTwn, dTwnSet, dTwnAug, dScrE, dScrL, dScrX, List.getElem?_cons_zero, List.getElem?_cons_succ, List.set_cons_zero, List.set_cons_succ, List.length_cons, List.length_nil, if_true, if_false, Bool.true_eq_false, Bool.false_eq_true, if_pos, ite_true, ite_false, reduceIte, true_and, and_true, true_or, or_true, PV.scr.injEq, PV.int.injEq, PV.bl.injEq, PV.str.injEq, PV.lst.injEq, PV.tup.injEq, exists_eq_left, exists_eq_left', exists_eq_right, exists_eq_right', reduceCtorEq, or_false, false_or, forall_const, Nat.zero_le, Bool.not_true, Bool.not_false, decide_true, decide_false, star_ne, last_ne]
    by_cases hs : c = 42
    · simp only [decide_eq_true hs, List.getElem?_cons_zero, List.getElem?_cons_succ, List.set_cons_zero, List.set_cons_succ, List.length_cons, List.length_nil, if_true, if_false, Bool.true_eq_false, Bool.false_eq_true, if_pos, ite_true, ite_false, reduceIte, true_and, and_true, true_or, or_true, PV.scr.injEq, PV.int.injEq, PV.bl.injEq, PV.str.injEq, PV.lst.injEq, PV.tup.injEq, exists_eq_left, exists_eq_left', exists_eq_right, exists_eq_right', reduceCtorEq, or_false, false_or, forall_const, Nat.zero_le, Bool.not_true, Bool.not_false, decide_true, decide_false]
      cases hb : lastB o with
      | true =>
        simp only [List.getElem?_cons_zero, List.getElem?_cons_succ, List.set_cons_zero, List.set_cons_succ, List.length_cons, List.length_nil, if_true, if_false, Bool.true_eq_false, Bool.false_eq_true, if_pos, ite_true, ite_false, reduceIte, true_and, and_true, true_or, or_true, PV.scr.injEq, PV.int.injEq, PV.bl.injEq, PV.str.injEq, PV.lst.injEq, PV.tup.injEq, exists_eq_left, exists_eq_left', exists_eq_right, exists_eq_right', reduceCtorEq, or_false, false_or, forall_const, Nat.zero_le, Bool.not_true, Bool.not_false, decide_true, decide_false]
        refine ls_loop v0 v1 v2 n hn PD t (some c) acc _ (by omega) ha ht2 fun p s6 => ?_
        have h := h p s6
        rw [sqT, if_pos hs, hb, if_pos rfl, List.nil_append] at h
        rw [show lastB (some c) = true from decide_eq_true hs]; exact h
      | false =>
        simp only [List.getElem?_cons_zero, List.getElem?_cons_succ, List.set_cons_zero, List.set_cons_succ, List.length_cons, List.length_nil, if_true, if_false, Bool.true_eq_false, Bool.false_eq_true, if_pos, ite_true, ite_false, reduceIte, true_and, and_true, true_or, or_true, PV.scr.injEq, PV.int.injEq, PV.bl.injEq, PV.str.injEq, PV.lst.injEq, PV.tup.injEq, exists_eq_left, exists_eq_left', exists_eq_right, exists_eq_right', reduceCtorEq, or_false, false_or, forall_const, Nat.zero_le, Bool.not_true, Bool.not_false, decide_true, decide_false]
        refine mulQ_star n (by omega) _ ?_
        simp only [addQ_str, strT_len, List.length_replicate, strT_add]
        refine ⟨by omega, ?_⟩
        refine ls_loop v0 v1 v2 n hn PD t (some c) (acc ++ List.replicate n 42) _ (by rw [List.length_append, List.length_replicate]; omega) (fun d hd => ?_) ht2 fun p s6 => ?_
        · rcases List.mem_append.mp hd with hd | hd
          · exact ha d hd
          · rw [List.eq_of_mem_replicate hd]; decide
        · have h := h p s6
          rw [sqT, if_pos hs, hb, if_neg Bool.false_ne_true] at h
          rw [show lastB (some c) = true from decide_eq_true hs, List.append_assoc]; exact h
    · simp only [decide_eq_false hs, List.getElem?_cons_zero, List.getElem?_cons_succ, List.set_cons_zero, List.set_cons_succ, List.length_cons, List.length_nil, if_true, if_false, Bool.true_eq_false, Bool.false_eq_true, if_pos, ite_true, ite_false, reduceIte, true_and, and_true, true_or, or_true, PV.scr.injEq, PV.int.injEq, PV.bl.injEq, PV.str.injEq, PV.lst.injEq, PV.tup.injEq, exists_eq_left, exists_eq_left', exists_eq_right, exists_eq_right', reduceCtorEq, or_false, false_or, forall_const, Nat.zero_le, Bool.not_true, Bool.not_false, decide_true, decide_false]
      show addQ (.str (strT acc)) (.str (strT [c])) _
      simp only [addQ_str, strT_len, strT_add]
      refine ⟨by show acc.length + 1 ≤ _; omega, ?_⟩
      refine ls_loop v0 v1 v2 n hn PD t (some c) (acc ++ [c]) _ (by rw [List.length_append, List.length_singleton]; omega) (fun d hd => ?_) ht2 fun p s6 => ?_
      · rcases List.mem_append.mp hd with hd | hd
        · exact ha d hd
        · rw [List.mem_singleton.mp hd]; exact hc
      · have h := h p s6
        rw [sqT, if_neg hs] at h
        rw [show lastB (some c) = false from decide_eq_false hs, List.append_assoc]; exact h
theorem h__law_step : ∀ (as : List PV) (post : PV → Prop), as.length = 2 → p__law_step as post → d__law_step (endsOf post) (startR 7 as) := by
  rintro as post _ ⟨s, t, rfl, hs, hl, hc, q⟩
  have e0 : (sizeLine : Nat) = 16777216 := by decide
  show d__law_step _ [.val (encStep s), .val (.str (strT t)), .un, .un, .un, .un, .un]
  refine seq_i ?_
  cases s with
  | rev =>
    have e : decide (sRev = Str.ofString "reverse") = true := decide_eq_true rfl
    simp only [dNext, dIfS, dRet, dRetN, dSet, dOwn, dVar, dC, dOp, dB, dChain, dAnd, dOr, dNot, dAndV, dOrV, dNotV, dIf, dNil, dCons, dTup, dLst, dDrop, dgName, dgNil, dgCons, dgTup, dAsg, dPar, dPar3, dParO, dParV, dAug, dCall, dBi, dIsi, dInS, dSl, doNone, doSome, dRevL, dRevS, dM1, dRg1, dListOf, dJoin, dNeg, dApp, dExt, dSetIx, endsOf, dFor, dIt, dZip, dEnum, dRange1, dRange2, itemsQ, dLc, wipeR, dTwn, dTwnSet, dTwnAug, dScrE, dScrL, dScrX, List.getElem?_cons_zero, List.getElem?_cons_succ, List.set_cons_zero, List.set_cons_succ, List.length_cons, List.length_nil, if_true, if_false, Bool.true_eq_false, Bool.false_eq_true, if_pos, ite_true, ite_false, reduceIte, true_and, and_true, true_or, or_true, PV.scr.injEq, PV.int.injEq, PV.bl.injEq, PV.str.injEq, PV.lst.injEq, PV.tup.injEq, exists_eq_left, exists_eq_left', exists_eq_right, exists_eq_right', reduceCtorEq, or_false, false_or, forall_const, Nat.zero_le, Bool.not_true, Bool.not_false, decide_true, decide_false, encStep, lenQ_str, lenQ_tup, strT_len, cmpQ_int]
    rw [if_neg (by decide)]
    refine seq_i ?_
    simp only [dNext, dIfS, dRet, dRetN, dSet, dOwn, dVar, dC, dOp, dB, dChain, dAnd, dOr, dNot, dAndV, dOrV, dNotV, dIf, dNil, dCons, dTup, dLst, dDrop, dgName, dgNil, dgCons, dgTup, dAsg, dPar, dPar3, dParO, dParV, dAug, dCall, dBi, dIsi, dInS, dSl, doNone, doSome, dRevL, dRevS, dM1, dRg1, dListOf, dJoin, dNeg, dApp, dExt, dSetIx, endsOf, dFor, dIt, dZip, dEnum, dRange1, dRange2, itemsQ, dLc, wipeR, dTwn, dTwnSet, dTwnAug, dScrE, dScrL, dScrX, List.getElem?_cons_zero, List.getElem?_cons_succ, List.set_cons_zero, List.set_cons_succ, List.length_cons, List.length_nil, if_true, if_false, Bool.true_eq_false, Bool.false_eq_true, if_pos, ite_true, ite_false, reduceIte, true_and, and_true, true_or, or_true, PV.scr.injEq, PV.int.injEq, PV.bl.injEq, PV.str.injEq, PV.lst.injEq, PV.tup.injEq, exists_eq_left, exists_eq_left', exists_eq_right, exists_eq_right', reduceCtorEq, or_false, false_or, forall_const, Nat.zero_le, Bool.not_true, Bool.not_false, decide_true, decide_false, ixQ_0, eqQ_str, revT_strT]
    exact q
  | st k n =>
    have hn : n ≤ 5 := hs
    obtain ⟨k0, k1, k2, k3, k4, k5, k6, k7⟩ := kd_q k
    have k8 := kd_q2 k
    simp only [dNext, dIfS, dRet, dRetN, dSet, dOwn, dVar, dC, dOp, dB, dChain, dAnd, dOr, dNot, dAndV, dOrV, dNotV, dIf, dNil, dCons, dTup, dLst, dDrop, dgName, dgNil, dgCons, dgTup, dAsg, dPar, dPar3, dParO, dParV, dAug, dCall, dBi, dIsi, dInS, dSl, doNone, doSome, dRevL, dRevS, dM1, dRg1, dListOf, dJoin, dNeg, dApp, dExt, dSetIx, endsOf, dFor, dIt, dZip, dEnum, dRange1, dRange2, itemsQ, dLc, wipeR, dTwn, dTwnSet, dTwnAug, dScrE, dScrL, dScrX, List.getElem?_cons_zero, List.getElem?_cons_succ, List.set_cons_zero, List.set_cons_succ, List.length_cons, List.length_nil, if_true, if_false, Bool.true_eq_false, Bool.false_eq_true, if_pos, ite_true, ite_false, reduceIte, true_and, and_true, true_or, or_true, PV.scr.injEq, PV.int.injEq, PV.bl.injEq, PV.str.injEq, PV.lst.injEq, PV.tup.injEq, exists_eq_left, exists_eq_left', exists_eq_right, exists_eq_right', reduceCtorEq, or_false, false_or, forall_const, Nat.zero_le, Bool.not_true, Bool.not_false, decide_true, decide_false, encStep, lenQ_str, lenQ_tup, strT_len, cmpQ_int]
    rw [if_pos (by decide)]
    simp only [List.getElem?_cons_zero, List.getElem?_cons_succ, List.set_cons_zero, List.set_cons_succ, List.length_cons, List.length_nil, if_true, if_false, Bool.true_eq_false, Bool.false_eq_true, if_pos, ite_true, ite_false, reduceIte, true_and, and_true, true_or, or_true, PV.scr.injEq, PV.int.injEq, PV.bl.injEq, PV.str.injEq, PV.lst.injEq, PV.tup.injEq, exists_eq_left, exists_eq_left', exists_eq_right, exists_eq_right', reduceCtorEq, or_false, false_or, forall_const, Nat.zero_le, Bool.not_true, Bool.not_false, decide_true, decide_false, ixQ_1]
    have st : ∀ i : Nat, i ≤ 1000000 → ∀ Q : PV → Prop, Q (.str (strT (List.replicate i 42))) → mulQ (.str (Str.ofString "*")) (.int i) Q := fun i hi Q h => mulQ_star i hi Q h
    refine seq_i ?_
    simp only [dNext, dIfS, dRet, dRetN, dSet, dOwn, dVar, dC, dOp, dB, dChain, dAnd, dOr, dNot, dAndV, dOrV, dNotV, dIf, dNil, dCons, dTup, dLst, dDrop, dgName, dgNil, dgCons, dgTup, dAsg, dPar, dPar3, dParO, dParV, dAug, dCall, dBi, dIsi, dInS, dSl, doNone, doSome, dRevL, dRevS, dM1, dRg1, dListOf, dJoin, dNeg, dApp, dExt, dSetIx, endsOf, dFor, dIt, dZip, dEnum, dRange1, dRange2, itemsQ, dLc, wipeR, dTwn, dTwnSet, dTwnAug, dScrE, dScrL, dScrX, List.getElem?_cons_zero, List.getElem?_cons_succ, List.set_cons_zero, List.set_cons_succ, List.length_cons, List.length_nil, if_true, if_false, Bool.true_eq_false, Bool.false_eq_true, if_pos, ite_true, ite_false, reduceIte, true_and, and_true, true_or, or_true, PV.scr.injEq, PV.int.injEq, PV.bl.injEq, PV.str.injEq, PV.lst.injEq, PV.tup.injEq, exists_eq_left, exists_eq_left', exists_eq_right, exists_eq_right', reduceCtorEq, or_false, false_or, forall_const, Nat.zero_le, Bool.not_true, Bool.not_false, decide_true, decide_false, ixQ_0, eqQ_str, k0]
    refine seq_i ?_
    simp only [dNext, dIfS, dRet, dRetN, dSet, dOwn, dVar, dC, dOp, dB, dChain, dAnd, dOr, dNot, dAndV, dOrV, dNotV, dIf, dNil, dCons, dTup, dLst, dDrop, dgName, dgNil, dgCons, dgTup, dAsg, dPar, dPar3, dParO, dParV, dAug, dCall, dBi, dIsi, dInS, dSl, doNone, doSome, dRevL, dRevS, dM1, dRg1, dListOf, dJoin, dNeg, dApp, dExt, dSetIx, endsOf, dFor, dIt, dZip, dEnum, dRange1, dRange2, itemsQ, dLc, wipeR, dTwn, dTwnSet, dTwnAug, dScrE, dScrL, dScrX, List.getElem?_cons_zero, List.getElem?_cons_succ, List.set_cons_zero, List.set_cons_succ, List.length_cons, List.length_nil, if_true, if_false, Bool.true_eq_false, Bool.false_eq_true, if_pos, ite_true, ite_false, reduceIte, true_and, and_true, true_or, or_true, PV.scr.injEq, PV.int.injEq, PV.bl.injEq, PV.str.injEq, PV.lst.injEq, PV.tup.injEq, exists_eq_left, exists_eq_left', exists_eq_right, exists_eq_right', reduceCtorEq, or_false, false_or, forall_const, Nat.zero_le, Bool.not_true, Bool.not_false, decide_true, decide_false, ixQ_0, eqQ_str, k1, int0Q_int, maxQ_int, max_nat, slQ_str, cutS_take, cutS_drop]
    by_cases c1 : k = .kf
    · subst c1
      simp only [List.getElem?_cons_zero, List.getElem?_cons_succ, List.set_cons_zero, List.set_cons_succ, List.length_cons, List.length_nil, if_true, if_false, Bool.true_eq_false, Bool.false_eq_true, if_pos, ite_true, ite_false, reduceIte, true_and, and_true, true_or, or_true, PV.scr.injEq, PV.int.injEq, PV.bl.injEq, PV.str.injEq, PV.lst.injEq, PV.tup.injEq, exists_eq_left, exists_eq_left', exists_eq_right, exists_eq_right', reduceCtorEq, or_false, false_or, forall_const, Nat.zero_le, Bool.not_true, Bool.not_false, decide_true, decide_false]
      refine st _ (by omega) _ ?_
      simp only [addQ_str, strT_len, strT_add, List.length_take, List.length_replicate]
      exact ⟨by omega, q⟩
    simp only [decide_eq_false c1, List.getElem?_cons_zero, List.getElem?_cons_succ, List.set_cons_zero, List.set_cons_succ, List.length_cons, List.length_nil, if_true, if_false, Bool.true_eq_false, Bool.false_eq_true, if_pos, ite_true, ite_false, reduceIte, true_and, and_true, true_or, or_true, PV.scr.injEq, PV.int.injEq, PV.bl.injEq, PV.str.injEq, PV.lst.injEq, PV.tup.injEq, exists_eq_left, exists_eq_left', exists_eq_right, exists_eq_right', reduceCtorEq, or_false, false_or, forall_const, Nat.zero_le, Bool.not_true, Bool.not_false, decide_true, decide_false]
    refine seq_i ?_
    simp only [dNext, dIfS, dRet, dRetN, dSet, dOwn, dVar, dC, dOp, dB, dChain, dAnd, dOr, dNot, dAndV, dOrV, dNotV, dIf, dNil, dCons, dTup, dLst, dDrop, dgName, dgNil, dgCons, dgTup, dAsg, dPar, dPar3, dParO, dParV, dAug, dCall, dBi, dIsi, dInS, dSl, doNone, doSome, dRevL, dRevS, dM1, dRg1, dListOf, dJoin, dNeg, dApp, dExt, dSetIx, endsOf, dFor, dIt, dZip, dEnum, dRange1, dRange2, itemsQ, dLc, wipeR, dTwn, dTwnSet, dTwnAug, dScrE, dScrL, dScrX, List.getElem?_cons_zero, List.getElem?_cons_succ, List.set_cons_zero, List.set_cons_succ, List.length_cons, List.length_nil, if_true, if_false, Bool.true_eq_false, Bool.false_eq_true, if_pos, ite_true, ite_false, reduceIte, true_and, and_true, true_or, or_true, PV.scr.injEq, PV.int.injEq, PV.bl.injEq, PV.str.injEq, PV.lst.injEq, PV.tup.injEq, exists_eq_left, exists_eq_left', exists_eq_right, exists_eq_right', reduceCtorEq, or_false, false_or, forall_const, Nat.zero_le, Bool.not_true, Bool.not_false, decide_true, decide_false, ixQ_0, eqQ_str, k2, int0Q_int, maxQ_int, max_nat, slQ_str, cutS_take, cutS_drop]
    by_cases c2 : k = .kl
    · subst c2
      simp only [List.getElem?_cons_zero, List.getElem?_cons_succ, List.set_cons_zero, List.set_cons_succ, List.length_cons, List.length_nil, if_true, if_false, Bool.true_eq_false, Bool.false_eq_true, if_pos, ite_true, ite_false, reduceIte, true_and, and_true, true_or, or_true, PV.scr.injEq, PV.int.injEq, PV.bl.injEq, PV.str.injEq, PV.lst.injEq, PV.tup.injEq, exists_eq_left, exists_eq_left', exists_eq_right, exists_eq_right', reduceCtorEq, or_false, false_or, forall_const, Nat.zero_le, Bool.not_true, Bool.not_false, decide_true, decide_false]
      refine st _ (by omega) _ ?_
      simp only [addQ_str, strT_len, strT_add, List.length_drop, List.length_replicate]
      exact ⟨by omega, q⟩
    simp only [decide_eq_false c2, List.getElem?_cons_zero, List.getElem?_cons_succ, List.set_cons_zero, List.set_cons_succ, List.length_cons, List.length_nil, if_true, if_false, Bool.true_eq_false, Bool.false_eq_true, if_pos, ite_true, ite_false, reduceIte, true_and, and_true, true_or, or_true, PV.scr.injEq, PV.int.injEq, PV.bl.injEq, PV.str.injEq, PV.lst.injEq, PV.tup.injEq, exists_eq_left, exists_eq_left', exists_eq_right, exists_eq_right', reduceCtorEq, or_false, false_or, forall_const, Nat.zero_le, Bool.not_true, Bool.not_false, decide_true, decide_false]
    refine seq_i ?_
    simp only [dNext, dIfS, dRet, dRetN, dSet, dOwn, dVar, dC, dOp, dB, dChain, dAnd, dOr, dNot, dAndV, dOrV, dNotV, dIf, dNil, dCons, dTup, dLst, dDrop, dgName, dgNil, dgCons, dgTup, dAsg, dPar, dPar3, dParO, dParV, dAug, dCall, dBi, dIsi, dInS, dSl, doNone, doSome, dRevL, dRevS, dM1, dRg1, dListOf, dJoin, dNeg, dApp, dExt, dSetIx, endsOf, dFor, dIt, dZip, dEnum, dRange1, dRange2, itemsQ, dLc, wipeR, dTwn, dTwnSet, dTwnAug, dScrE, dScrL, dScrX, List.getElem?_cons_zero, List.getElem?_cons_succ, List.set_cons_zero, List.set_cons_succ, List.length_cons, List.length_nil, if_true, if_false, Bool.true_eq_false, Bool.false_eq_true, if_pos, ite_true, ite_false, reduceIte, true_and, and_true, true_or, or_true, PV.scr.injEq, PV.int.injEq, PV.bl.injEq, PV.str.injEq, PV.lst.injEq, PV.tup.injEq, exists_eq_left, exists_eq_left', exists_eq_right, exists_eq_right', reduceCtorEq, or_false, false_or, forall_const, Nat.zero_le, Bool.not_true, Bool.not_false, decide_true, decide_false, ixQ_0, eqQ_str, k3, int0Q_int, minQ_int, min_nat', slQ_str, cutS_take, cutS_drop]
    by_cases c3 : k = .hf
    · subst c3
      simp only [List.getElem?_cons_zero, List.getElem?_cons_succ, List.set_cons_zero, List.set_cons_succ, List.length_cons, List.length_nil, if_true, if_false, Bool.true_eq_false, Bool.false_eq_true, if_pos, ite_true, ite_false, reduceIte, true_and, and_true, true_or, or_true, PV.scr.injEq, PV.int.injEq, PV.bl.injEq, PV.str.injEq, PV.lst.injEq, PV.tup.injEq, exists_eq_left, exists_eq_left', exists_eq_right, exists_eq_right', reduceCtorEq, or_false, false_or, forall_const, Nat.zero_le, Bool.not_true, Bool.not_false, decide_true, decide_false]
      refine st _ (by omega) _ ?_
      simp only [addQ_str, strT_len, strT_add, List.length_drop, List.length_replicate]
      exact ⟨by omega, q⟩
    simp only [decide_eq_false c3, List.getElem?_cons_zero, List.getElem?_cons_succ, List.set_cons_zero, List.set_cons_succ, List.length_cons, List.length_nil, if_true, if_false, Bool.true_eq_false, Bool.false_eq_true, if_pos, ite_true, ite_false, reduceIte, true_and, and_true, true_or, or_true, PV.scr.injEq, PV.int.injEq, PV.bl.injEq, PV.str.injEq, PV.lst.injEq, PV.tup.injEq, exists_eq_left, exists_eq_left', exists_eq_right, exists_eq_right', reduceCtorEq, or_false, false_or, forall_const, Nat.zero_le, Bool.not_true, Bool.not_false, decide_true, decide_false]
    refine seq_i ?_
    simp only [dNext, dIfS, dRet, dRetN, dSet, dOwn, dVar, dC, dOp, dB, dChain, dAnd, dOr, dNot, dAndV, dOrV, dNotV, dIf, dNil, dCons, dTup, dLst, dDrop, dgName, dgNil, dgCons, dgTup, dAsg, dPar, dPar3, dParO, dParV, dAug, dCall, dBi, dIsi, dInS, dSl, doNone, doSome, dRevL, dRevS, dM1, dRg1, dListOf, dJoin, dNeg, dApp, dExt, dSetIx, endsOf, dFor, dIt, dZip, dEnum, dRange1, dRange2, itemsQ, dLc, wipeR, dTwn, dTwnSet, dTwnAug, dScrE, dScrL, dScrX, List.getElem?_cons_zero, List.getElem?_cons_succ, List.set_cons_zero, List.set_cons_succ, List.length_cons, List.length_nil, if_true, if_false, Bool.true_eq_false, Bool.false_eq_true, if_pos, ite_true, ite_false, reduceIte, true_and, and_true, true_or, or_true, PV.scr.injEq, PV.int.injEq, PV.bl.injEq, PV.str.injEq, PV.lst.injEq, PV.tup.injEq, exists_eq_left, exists_eq_left', exists_eq_right, exists_eq_right', reduceCtorEq, or_false, false_or, forall_const, Nat.zero_le, Bool.not_true, Bool.not_false, decide_true, decide_false, ixQ_0, eqQ_str, k4, int0Q_int, maxQ_int, minQ_int, max_nat, min_nat', slQ_str, cutS_take, cutS_drop]
    by_cases c4 : k = .hl
    · subst c4
      simp only [List.getElem?_cons_zero, List.getElem?_cons_succ, List.set_cons_zero, List.set_cons_succ, List.length_cons, List.length_nil, if_true, if_false, Bool.true_eq_false, Bool.false_eq_true, if_pos, ite_true, ite_false, reduceIte, true_and, and_true, true_or, or_true, PV.scr.injEq, PV.int.injEq, PV.bl.injEq, PV.str.injEq, PV.lst.injEq, PV.tup.injEq, exists_eq_left, exists_eq_left', exists_eq_right, exists_eq_right', reduceCtorEq, or_false, false_or, forall_const, Nat.zero_le, Bool.not_true, Bool.not_false, decide_true, decide_false]
      refine st _ (by omega) _ ?_
      simp only [addQ_str, strT_len, strT_add, List.length_take, List.length_replicate]
      exact ⟨by omega, q⟩
    simp only [decide_eq_false c4, List.getElem?_cons_zero, List.getElem?_cons_succ, List.set_cons_zero, List.set_cons_succ, List.length_cons, List.length_nil, if_true, if_false, Bool.true_eq_false, Bool.false_eq_true, if_pos, ite_true, ite_false, reduceIte, true_and, and_true, true_or, or_true, PV.scr.injEq, PV.int.injEq, PV.bl.injEq, PV.str.injEq, PV.lst.injEq, PV.tup.injEq, exists_eq_left, exists_eq_left', exists_eq_right, exists_eq_right', reduceCtorEq, or_false, false_or, forall_const, Nat.zero_le, Bool.not_true, Bool.not_false, decide_true, decide_false]
    refine seq_i ?_
    simp only [dNext, dIfS, dRet, dRetN, dSet, dOwn, dVar, dC, dOp, dB, dChain, dAnd, dOr, dNot, dAndV, dOrV, dNotV, dIf, dNil, dCons, dTup, dLst, dDrop, dgName, dgNil, dgCons, dgTup, dAsg, dPar, dPar3, dParO, dParV, dAug, dCall, dBi, dIsi, dInS, dSl, doNone, doSome, dRevL, dRevS, dM1, dRg1, dListOf, dJoin, dNeg, dApp, dExt, dSetIx, endsOf, dFor, dIt, dZip, dEnum, dRange1, dRange2, itemsQ, dLc, wipeR, dTwn, dTwnSet, dTwnAug, dScrE, dScrL, dScrX, List.getElem?_cons_zero, List.getElem?_cons_succ, List.set_cons_zero, List.set_cons_succ, List.length_cons, List.length_nil, if_true, if_false, Bool.true_eq_false, Bool.false_eq_true, if_pos, ite_true, ite_false, reduceIte, true_and, and_true, true_or, or_true, PV.scr.injEq, PV.int.injEq, PV.bl.injEq, PV.str.injEq, PV.lst.injEq, PV.tup.injEq, exists_eq_left, exists_eq_left', exists_eq_right, exists_eq_right', reduceCtorEq, or_false, false_or, forall_const, Nat.zero_le, Bool.not_true, Bool.not_false, decide_true, decide_false, ixQ_0, eqQ_str, k5, slQ_str, cutS_take, cutS_drop]
    by_cases c5 : k = .cf
    · subst c5
      simp only [List.getElem?_cons_zero, List.getElem?_cons_succ, List.set_cons_zero, List.set_cons_succ, List.length_cons, List.length_nil, if_true, if_false, Bool.true_eq_false, Bool.false_eq_true, if_pos, ite_true, ite_false, reduceIte, true_and, and_true, true_or, or_true, PV.scr.injEq, PV.int.injEq, PV.bl.injEq, PV.str.injEq, PV.lst.injEq, PV.tup.injEq, exists_eq_left, exists_eq_left', exists_eq_right, exists_eq_right', reduceCtorEq, or_false, false_or, forall_const, Nat.zero_le, Bool.not_true, Bool.not_false, decide_true, decide_false]
      exact q
    simp only [decide_eq_false c5, List.getElem?_cons_zero, List.getElem?_cons_succ, List.set_cons_zero, List.set_cons_succ, List.length_cons, List.length_nil, if_true, if_false, Bool.true_eq_false, Bool.false_eq_true, if_pos, ite_true, ite_false, reduceIte, true_and, and_true, true_or, or_true, PV.scr.injEq, PV.int.injEq, PV.bl.injEq, PV.str.injEq, PV.lst.injEq, PV.tup.injEq, exists_eq_left, exists_eq_left', exists_eq_right, exists_eq_right', reduceCtorEq, or_false, false_or, forall_const, Nat.zero_le, Bool.not_true, Bool.not_false, decide_true, decide_false]
    refine seq_i ?_
    simp only [dNext, dIfS, dRet, dRetN, dSet, dOwn, dVar, dC, dOp, dB, dChain, dAnd, dOr, dNot, dAndV, dOrV, dNotV, dIf, dNil, dCons, dTup, dLst, dDrop, dgName, dgNil, dgCons, dgTup, dAsg, dPar, dPar3, dParO, dParV, dAug, dCall, dBi, dIsi, dInS, dSl, doNone, doSome, dRevL, dRevS, dM1, dRg1, dListOf, dJoin, dNeg, dApp, dExt, dSetIx, endsOf, dFor, dIt, dZip, dEnum, dRange1, dRange2, itemsQ, dLc, wipeR, dTwn, dTwnSet, dTwnAug, dScrE, dScrL, dScrX, List.getElem?_cons_zero, List.getElem?_cons_succ, List.set_cons_zero, List.set_cons_succ, List.length_cons, List.length_nil, if_true, if_false, Bool.true_eq_false, Bool.false_eq_true, if_pos, ite_true, ite_false, reduceIte, true_and, and_true, true_or, or_true, PV.scr.injEq, PV.int.injEq, PV.bl.injEq, PV.str.injEq, PV.lst.injEq, PV.tup.injEq, exists_eq_left, exists_eq_left', exists_eq_right, exists_eq_right', reduceCtorEq, or_false, false_or, forall_const, Nat.zero_le, Bool.not_true, Bool.not_false, decide_true, decide_false, ixQ_0, eqQ_str, k6, int0Q_int, maxQ_int, max_nat, slQ_str, cutS_take, cutS_drop]
    by_cases c6 : k = .cl
    · subst c6
      simp only [List.getElem?_cons_zero, List.getElem?_cons_succ, List.set_cons_zero, List.set_cons_succ, List.length_cons, List.length_nil, if_true, if_false, Bool.true_eq_false, Bool.false_eq_true, if_pos, ite_true, ite_false, reduceIte, true_and, and_true, true_or, or_true, PV.scr.injEq, PV.int.injEq, PV.bl.injEq, PV.str.injEq, PV.lst.injEq, PV.tup.injEq, exists_eq_left, exists_eq_left', exists_eq_right, exists_eq_right', reduceCtorEq, or_false, false_or, forall_const, Nat.zero_le, Bool.not_true, Bool.not_false, decide_true, decide_false]
      exact q
    simp only [decide_eq_false c6, List.getElem?_cons_zero, List.getElem?_cons_succ, List.set_cons_zero, List.set_cons_succ, List.length_cons, List.length_nil, if_true, if_false, Bool.true_eq_false, Bool.false_eq_true, if_pos, ite_true, ite_false, reduceIte, true_and, and_true, true_or, or_true, PV.scr.injEq, PV.int.injEq, PV.bl.injEq, PV.str.injEq, PV.lst.injEq, PV.tup.injEq, exists_eq_left, exists_eq_left', exists_eq_right, exists_eq_right', reduceCtorEq, or_false, false_or, forall_const, Nat.zero_le, Bool.not_true, Bool.not_false, decide_true, decide_false]
    refine seq_i ?_
    simp only [dNext, dIfS, dRet, dRetN, dSet, dOwn, dVar, dC, dOp, dB, dChain, dAnd, dOr, dNot, dAndV, dOrV, dNotV, dIf, dNil, dCons, dTup, dLst, dDrop, dgName, dgNil, dgCons, dgTup, dAsg, dPar, dPar3, dParO, dParV, dAug, dCall, dBi, dIsi, dInS, dSl, doNone, doSome, dRevL, dRevS, dM1, dRg1, dListOf, dJoin, dNeg, dApp, dExt, dSetIx, endsOf, dFor, dIt, dZip, dEnum, dRange1, dRange2, itemsQ, dLc, wipeR, dTwn, dTwnSet, dTwnAug, dScrE, dScrL, dScrX, List.getElem?_cons_zero, List.getElem?_cons_succ, List.set_cons_zero, List.set_cons_succ, List.length_cons, List.length_nil, if_true, if_false, Bool.true_eq_false, Bool.false_eq_true, if_pos, ite_true, ite_false, reduceIte, true_and, and_true, true_or, or_true, PV.scr.injEq, PV.int.injEq, PV.bl.injEq, PV.str.injEq, PV.lst.injEq, PV.tup.injEq, exists_eq_left, exists_eq_left', exists_eq_right, exists_eq_right', reduceCtorEq, or_false, false_or, forall_const, Nat.zero_le, Bool.not_true, Bool.not_false, decide_true, decide_false, ixQ_0, eqQ_str, k8, cmpQ_int]
    by_cases c7 : k = .sh
    · subst c7
      simp only [List.getElem?_cons_zero, List.getElem?_cons_succ, List.set_cons_zero, List.set_cons_succ, List.length_cons, List.length_nil, if_true, if_false, Bool.true_eq_false, Bool.false_eq_true, if_pos, ite_true, ite_false, reduceIte, true_and, and_true, true_or, or_true, PV.scr.injEq, PV.int.injEq, PV.bl.injEq, PV.str.injEq, PV.lst.injEq, PV.tup.injEq, exists_eq_left, exists_eq_left', exists_eq_right, exists_eq_right', reduceCtorEq, or_false, false_or, forall_const, Nat.zero_le, Bool.not_true, Bool.not_false, decide_true, decide_false]
      have q : post (.str (strT (if t.length < n then List.replicate t.length 42 else t))) := q
      by_cases hh : t.length < n
      · rw [if_pos (decide_eq_true (by omega))]
        rw [if_pos hh] at q
        exact st _ (by omega) _ q
      · rw [if_neg (by rw [decide_eq_true_eq]; omega)]
        rw [if_neg hh] at q
        exact q
    simp only [decide_eq_false c7, List.getElem?_cons_zero, List.getElem?_cons_succ, List.set_cons_zero, List.set_cons_succ, List.length_cons, List.length_nil, if_true, if_false, Bool.true_eq_false, Bool.false_eq_true, if_pos, ite_true, ite_false, reduceIte, true_and, and_true, true_or, or_true, PV.scr.injEq, PV.int.injEq, PV.bl.injEq, PV.str.injEq, PV.lst.injEq, PV.tup.injEq, exists_eq_left, exists_eq_left', exists_eq_right, exists_eq_right', reduceCtorEq, or_false, false_or, forall_const, Nat.zero_le, Bool.not_true, Bool.not_false, decide_true, decide_false]
    have c8 : k = .sq := by cases k <;> first | rfl | contradiction
    subst c8
    refine seq_i ?_
    simp only [dNext, dIfS, dRet, dRetN, dSet, dOwn, dVar, dC, dOp, dB, dChain, dAnd, dOr, dNot, dAndV, dOrV, dNotV, dIf, dNil, dCons, dTup, dLst, dDrop, dgName, dgNil, dgCons, dgTup, dAsg, dPar, dPar3, dParO, dParV, dAug, dCall, dBi, dIsi, dInS, dSl, doNone, doSome, dRevL, dRevS, dM1, dRg1, dListOf, dJoin, dNeg, dApp, dExt, dSetIx, endsOf, dFor, dIt, dZip, dEnum, dRange1, dRange2, itemsQ, dLc, wipeR, dTwn, dTwnSet, dTwnAug, dScrE, dScrL, dScrX, List.getElem?_cons_zero, List.getElem?_cons_succ, List.set_cons_zero, List.set_cons_succ, List.length_cons, List.length_nil, if_true, if_false, Bool.true_eq_false, Bool.false_eq_true, if_pos, ite_true, ite_false, reduceIte, true_and, and_true, true_or, or_true, PV.scr.injEq, PV.int.injEq, PV.bl.injEq, PV.str.injEq, PV.lst.injEq, PV.tup.injEq, exists_eq_left, exists_eq_left', exists_eq_right, exists_eq_right', reduceCtorEq, or_false, false_or, forall_const, Nat.zero_le, Bool.not_true, Bool.not_false, decide_true, decide_false, sz2]
    refine seq_i ?_
    simp only [dNext, dIfS, dRet, dRetN, dSet, dOwn, dVar, dC, dOp, dB, dChain, dAnd, dOr, dNot, dAndV, dOrV, dNotV, dIf, dNil, dCons, dTup, dLst, dDrop, dgName, dgNil, dgCons, dgTup, dAsg, dPar, dPar3, dParO, dParV, dAug, dCall, dBi, dIsi, dInS, dSl, doNone, doSome, dRevL, dRevS, dM1, dRg1, dListOf, dJoin, dNeg, dApp, dExt, dSetIx, endsOf, dFor, dIt, dZip, dEnum, dRange1, dRange2, itemsQ, dLc, wipeR, dTwn, dTwnSet, dTwnAug, dScrE, dScrL, dScrX, List.getElem?_cons_zero, List.getElem?_cons_succ, List.set_cons_zero, List.set_cons_succ, List.length_cons, List.length_nil, if_true, if_false, Bool.true_eq_false, Bool.false_eq_true, if_pos, ite_true, ite_false, reduceIte, true_and, and_true, true_or, or_true, PV.scr.injEq, PV.int.injEq, PV.bl.injEq, PV.str.injEq, PV.lst.injEq, PV.tup.injEq, exists_eq_left, exists_eq_left', exists_eq_right, exists_eq_right', reduceCtorEq, or_false, false_or, forall_const, Nat.zero_le, Bool.not_true, Bool.not_false, decide_true, decide_false, signs_strT]
    refine ls_loop _ _ _ n hn _ t none [] _ (by simp only [List.length_nil]; omega) (fun _ h => by cases h) hc fun p s6 => ?_
    simp only [dNext, dIfS, dRet, dRetN, dSet, dOwn, dVar, dC, dOp, dB, dChain, dAnd, dOr, dNot, dAndV, dOrV, dNotV, dIf, dNil, dCons, dTup, dLst, dDrop, dgName, dgNil, dgCons, dgTup, dAsg, dPar, dPar3, dParO, dParV, dAug, dCall, dBi, dIsi, dInS, dSl, doNone, doSome, dRevL, dRevS, dM1, dRg1, dListOf, dJoin, dNeg, dApp, dExt, dSetIx, endsOf, dFor, dIt, dZip, dEnum, dRange1, dRange2, itemsQ, dLc, wipeR, dTwn, dTwnSet, dTwnAug, dScrE, dScrL, dScrX, List.getElem?_cons_zero, List.getElem?_cons_succ, List.set_cons_zero, List.set_cons_succ, List.length_cons, List.length_nil, if_true, if_false, Bool.true_eq_false, Bool.false_eq_true, if_pos, ite_true, ite_false, reduceIte, true_and, and_true, true_or, or_true, PV.scr.injEq, PV.int.injEq, PV.bl.injEq, PV.str.injEq, PV.lst.injEq, PV.tup.injEq, exists_eq_left, exists_eq_left', exists_eq_right, exists_eq_right', reduceCtorEq, or_false, false_or, forall_const, Nat.zero_le, Bool.not_true, Bool.not_false, decide_true, decide_false]
    exact q
end PL

set_option Elab.async false
set_option linter.all false
set_option maxRecDepth 100000
set_option maxHeartbeats 4000000
/-! the laws' own run of a mask; what it says is what the template says -/
namespace PL
open PySem PySem.Spec L2
open TL (tl len_tl ext_tl tl_append joinL tl_join join_eq)

def lrun (m : Mask) (t : T) : T := m.foldl (fun t s => lstep s t) t
theorem lrun_length : ∀ (m : Mask) (t : T), (∀ s ∈ m, s.num ≤ 5) → (lrun m t).length ≤ 5 ^ m.length * t.length
  | [], t, _ => by simp [lrun]
  | s :: m, t, h => by
    have h1 := lstep_length (h s List.mem_cons_self) t
    have h2 := lrun_length m (lstep s t) fun x hx => h x (List.mem_cons_of_mem _ hx)
    rw [List.length_cons, Nat.pow_succ]
    refine Nat.le_trans (show (lrun (s :: m) t).length ≤ _ from h2) ?_
    rw [Nat.mul_assoc]
    exact Nat.mul_le_mul_left _ h1
theorem lrun_fits {m : Mask} (h : OkM m) {t : T} (ht : t.length ≤ 1600) : (lrun m t).length ≤ 1000000 := by
  have h1 := lrun_length m t h.2
  have h2 := Nat.mul_le_mul (pow5 h.1) ht
  omega
theorem lrun_mem {c : Nat} : ∀ {m : Mask} {t : T}, c ∈ lrun m t → c = 42 ∨ c ∈ t
  | [], t, h => .inr h
  | s :: m, t, h => by
    rcases lrun_mem (m := m) (t := lstep s t) h with h | h
    · exact .inl h
    · exact lstep_mem h
def p__law_run : PSp := fun as Q => ∃ (m : Mask) (t : T), as = [encM m, .str (strT t)] ∧ (∀ s ∈ m, s.num ≤ 5) ∧ 5 ^ m.length * t.length ≤ 1000000 ∧ (∀ c ∈ t, c < 0x110000) ∧ Q (.str (strT (lrun m t)))
theorem m__law_run : MonoP p__law_run := fun _ _ _ h ⟨v, a, e, z, y, x, q⟩ => ⟨v, a, e, z, y, x, h _ q⟩
def bd__law_run_0 : DS := (dSet 1 (dCall 2 p__law_step (dCons (dVar 2) (dCons (dVar 1) dNil))))
theorem ebd__law_run_0 (PD : PEnds) (ρ : Rho) : bd__law_run_0 PD ρ = (dSet 1 (dCall 2 p__law_step (dCons (dVar 2) (dCons (dVar 1) dNil)))) PD ρ := rfl
def d__law_run : DS := (dSeq (dFor (dIt (dVar 0)) (dgName 2) bd__law_run_0) (dRet (dVar 1)))
theorem lr_loop (v0 : Slot) (PD : PEnds) : ∀ (m : Mask) (t : T) (s : Slot), (∀ s ∈ m, s.num ≤ 5) → 5 ^ m.length * t.length ≤ 1000000 → (∀ c ∈ t, c < 0x110000) → (∀ s, PD.nx [v0, .val (.str (strT (lrun m t))), s]) →
    dLoop (dgName 2) bd__law_run_0 PD (m.map encStep) [v0, .val (.str (strT t)), s]
  | [], t, s, _, _, _, h => h s
  | x :: m, t, s, hn, hl, hc, h => by
    rw [List.map_cons, dLoop_cons]
    simp only [ebd__law_run_0, dSeq, dNext, dIfS, dRet, dRetN, dSet, dOwn, dVar, dC, dOp, dB, dChain, dAnd, dOr, dNot, dAndV, dOrV, dNotV, dIf, dNil, dCons, dTup, dLst, dDrop, dgName, dgNil, dgCons, dgTup, dAsg, dPar, dPar3, dParO, dParV, dAug, dCall, dBi, dIsi, dInS, dSl, doNone, doSome, dRevL, dRevS, dM1, dRg1, dListOf, dJoin, dNeg, dApp, dExt, dSetIx, endsOf, dFor, dIt, dZip, dEnum, dRange1, dRange2, itemsQ, dLc, wipeR, dTwn, dTwnSet, dTwnAug, dScrE, dScrL, dScrX, List.getElem?_cons_zero, List.getElem?_cons_succ, List.set_cons_zero, List.set_cons_succ, List.length_cons, List.length_nil, if_true, if_false, Bool.true_eq_false, Bool.false_eq_true, if_pos, ite_true, ite_false, reduceIte, true_and, and_true, true_or, or_true, PV.scr.injEq, PV.int.injEq, PV.bl.injEq, PV.str.injEq, PV.lst.injEq, PV.tup.injEq, exists_eq_left, exists_eq_left', exists_eq_right, exists_eq_right', reduceCtorEq, or_false, false_or, forall_const, Nat.zero_le, Bool.not_true, Bool.not_false, decide_true, decide_false]
    have hx := hn x List.mem_cons_self
    have h1 := lstep_length hx t
    have hp : 5 ^ m.length ≥ 1 := Nat.pos_of_ne_zero (by simp)
    have hl' : 5 ^ m.length * (5 * t.length) ≤ 1000000 := by
      rw [List.length_cons, Nat.pow_succ, Nat.mul_assoc] at hl; exact hl
    refine ⟨x, t, rfl, hx, ?_, hc, ?_⟩
    · have := Nat.mul_le_mul hp (Nat.le_refl (5 * t.length)); omega
    · exact lr_loop v0 PD m (lstep x t) _ (fun y hy => hn y (List.mem_cons_of_mem _ hy)) (Nat.le_trans (Nat.mul_le_mul_left _ h1) hl') (fun c hc2 => (lstep_mem hc2).elim (fun e => by rw [e]; decide) (hc c)) h
theorem h__law_run : ∀ (as : List PV) (post : PV → Prop), as.length = 2 → p__law_run as post → d__law_run (endsOf post) (startR 3 as) := by
  rintro as post _ ⟨m, t, rfl, hm, hl, hc, q⟩
  show d__law_run _ [.val (encM m), .val (.str (strT t)), .un]
  refine seq_i ?_
  simp only [dNext, dIfS, dRet, dRetN, dSet, dOwn, dVar, dC, dOp, dB, dChain, dAnd, dOr, dNot, dAndV, dOrV, dNotV, dIf, dNil, dCons, dTup, dLst, dDrop, dgName, dgNil, dgCons, dgTup, dAsg, dPar, dPar3, dParO, dParV, dAug, dCall, dBi, dIsi, dInS, dSl, doNone, doSome, dRevL, dRevS, dM1, dRg1, dListOf, dJoin, dNeg, dApp, dExt, dSetIx, endsOf, dFor, dIt, dZip, dEnum, dRange1, dRange2, itemsQ, dLc, wipeR, dTwn, dTwnSet, dTwnAug, dScrE, dScrL, dScrX, List.getElem?_cons_zero, List.getElem?_cons_succ, List.set_cons_zero, List.set_cons_succ, List.length_cons, List.length_nil, if_true, if_false, Bool.true_eq_false, Bool.false_eq_true, if_pos, ite_true, ite_false, reduceIte, true_and, and_true, true_or, or_true, PV.scr.injEq, PV.int.injEq, PV.bl.injEq, PV.str.injEq, PV.lst.injEq, PV.tup.injEq, exists_eq_left, exists_eq_left', exists_eq_right, exists_eq_right', reduceCtorEq, or_false, false_or, forall_const, Nat.zero_le, Bool.not_true, Bool.not_false, decide_true, decide_false, encM]
  refine lr_loop _ _ m t _ hm hl hc fun s => ?_
  simp only [dNext, dIfS, dRet, dRetN, dSet, dOwn, dVar, dC, dOp, dB, dChain, dAnd, dOr, dNot, dAndV, dOrV, dNotV, dIf, dNil, dCons, dTup, dLst, dDrop, dgName, dgNil, dgCons, dgTup, dAsg, dPar, dPar3, dParO, dParV, dAug, dCall, dBi, dIsi, dInS, dSl, doNone, doSome, dRevL, dRevS, dM1, dRg1, dListOf, dJoin, dNeg, dApp, dExt, dSetIx, endsOf, dFor, dIt, dZip, dEnum, dRange1, dRange2, itemsQ, dLc, wipeR, dTwn, dTwnSet, dTwnAug, dScrE, dScrL, dScrX, List.getElem?_cons_zero, List.getElem?_cons_succ, List.set_cons_zero, List.set_cons_succ, List.length_cons, List.length_nil, if_true, if_false, Bool.true_eq_false, Bool.false_eq_true, if_pos, ite_true, ite_false, reduceIte, true_and, and_true, true_or, or_true, PV.scr.injEq, PV.int.injEq, PV.bl.injEq, PV.str.injEq, PV.lst.injEq, PV.tup.injEq, exists_eq_left, exists_eq_left', exists_eq_right, exists_eq_right', reduceCtorEq, or_false, false_or, forall_const, Nat.zero_le, Bool.not_true, Bool.not_false, decide_true, decide_false]
  exact q
theorem run_i {m : Mask} {t : T} {Q : PV → Prop} (hm : OkM m) (ht : t.length ≤ 1600) (hc : ∀ c ∈ t, c < 0x110000) (h : Q (.str (strT (lrun m t)))) : p__law_run [encM m, .str (strT t)] Q := by
  have h2 := Nat.mul_le_mul (pow5 hm.1) ht
  exact ⟨m, t, rfl, hm.2, by omega, hc, h⟩
/-! ### the two ways agree -/
section
variable {g : Option Nat → Nat}
theorem hid_lo (h0 : g none = 42) (n : Nat) : ∀ (r : Row) (i : Nat), (hid n ((i + r.length : Nat) : Int) i r).map g = (r.map g).take (n - i) ++ List.replicate (r.length - (n - i)) 42
  | [], i => by simp [hid]
  | x :: r, i => by
    have ih := hid_lo h0 n r (i + 1)
    rw [show i + 1 + r.length = i + (x :: r).length by rw [List.length_cons]; omega] at ih
    rw [hid, List.map_cons, List.map_cons, ih, List.length_cons]
    by_cases h : n ≤ i
    · rw [if_pos ⟨by omega, by omega⟩, h0, Nat.sub_eq_zero_of_le h, Nat.sub_eq_zero_of_le (by omega : n ≤ i + 1), List.take_zero, List.take_zero, List.nil_append, List.nil_append, Nat.sub_zero, Nat.sub_zero, List.replicate_succ]
    · rw [if_neg (by omega)]
      obtain ⟨k, hk⟩ : ∃ k, n - i = k + 1 := ⟨n - i - 1, by omega⟩
      rw [hk, show n - (i + 1) = k by omega, List.take_succ_cons, List.cons_append, show r.length + 1 - (k + 1) = r.length - k by omega]
theorem hid_hi (h0 : g none = 42) (b : Int) : ∀ (r : Row) (i : Nat), (hid 0 b i r).map g = List.replicate (min r.length (b - i).toNat) 42 ++ (r.map g).drop (b - i).toNat
  | [], i => by simp [hid]
  | x :: r, i => by
    have ih := hid_hi h0 b r (i + 1)
    rw [hid, List.map_cons, List.map_cons, ih, List.length_cons]
    by_cases h : (i : Int) < b
    · rw [if_pos ⟨by omega, h⟩, h0]
      obtain ⟨k, hk⟩ : ∃ k, (b - i).toNat = k + 1 := ⟨(b - i).toNat - 1, by omega⟩
      rw [hk, show (b - ((i + 1 : Nat) : Int)).toNat = k by omega, show min (r.length + 1) (k + 1) = min r.length k + 1 by omega, List.replicate_succ, List.cons_append, List.drop_succ_cons]
    · rw [if_neg (fun z => h z.2), show (b - i).toNat = 0 by omega, show (b - ((i + 1 : Nat) : Int)).toNat = 0 by omega]
      simp
theorem hid_up (h0 : g none = 42) (a : Int) : ∀ (r : Row) (i : Nat), (hid a ((i + r.length : Nat) : Int) i r).map g = (r.map g).take (a - i).toNat ++ List.replicate (r.length - (a - i).toNat) 42
  | [], i => by simp [hid]
  | x :: r, i => by
    have ih := hid_up h0 a r (i + 1)
    rw [show i + 1 + r.length = i + (x :: r).length by rw [List.length_cons]; omega] at ih
    rw [hid, List.map_cons, List.map_cons, ih, List.length_cons]
    by_cases h : a ≤ i
    · rw [if_pos ⟨h, by omega⟩, h0, show (a - i).toNat = 0 by omega, show (a - ((i + 1 : Nat) : Int)).toNat = 0 by omega, List.take_zero, List.take_zero, List.nil_append, List.nil_append, Nat.sub_zero, Nat.sub_zero, List.replicate_succ]
    · rw [if_neg (fun z => h z.1)]
      obtain ⟨k, hk⟩ : ∃ k, (a - i).toNat = k + 1 := ⟨(a - i).toNat - 1, by omega⟩
      rw [hk, show (a - ((i + 1 : Nat) : Int)).toNat = k by omega, List.take_succ_cons, List.cons_append, show r.length + 1 - (k + 1) = r.length - k by omega]
theorem sqz_map (h0 : g none = 42) (n : Nat) : ∀ (r : Row) (p : Bool), (∀ i, some i ∈ r → g (some i) ≠ 42) → (sqz n p r).map g = sqT n p (r.map g)
  | [], p, _ => rfl
  | some i :: r, p, h => by
    rw [sqz, List.map_cons, List.map_cons, sqT, if_neg (h i List.mem_cons_self), sqz_map h0 n r false fun j hj => h j (List.mem_cons_of_mem _ hj)]
  | none :: r, p, h => by
    rw [sqz, List.map_append, List.map_cons, sqT, if_pos h0, sqz_map h0 n r true fun j hj => h j (List.mem_cons_of_mem _ hj)]
    congr 1
    split
    · rfl
    · rw [List.map_replicate, h0]
theorem lstep_map (h0 : g none = 42) (s : Step) {r : Row} (h : ∀ i, some i ∈ r → g (some i) ≠ 42) : lstep s (r.map g) = (stepped s r).map g := by
  cases s with
  | rev => rw [lstep, stepped, List.map_reverse]
  | st k n =>
    cases k <;> simp only [lstep, stepped, List.length_map]
    · have := hid_lo h0 n r 0
      rw [Nat.zero_add, Nat.sub_zero] at this; exact this.symm
    · have := hid_hi h0 ((r.length : Int) - n) r 0
      rw [this, show (((r.length : Int) - n) - ((0 : Nat) : Int)).toNat = r.length - n by omega, show min r.length (r.length - n) = r.length - n by omega]
    · have := hid_hi h0 (n : Int) r 0
      rw [this, show ((n : Int) - ((0 : Nat) : Int)).toNat = n by omega]
    · have := hid_up h0 ((r.length : Int) - n) r 0
      rw [Nat.zero_add] at this
      rw [this, show (((r.length : Int) - n) - ((0 : Nat) : Int)).toNat = r.length - n by omega, show r.length - (r.length - n) = min r.length n by omega]
    · rw [List.map_drop]
    · rw [List.map_take]
    · exact (sqz_map h0 n r false h).symm
    · split
      · rw [List.map_replicate, h0]
      · rfl
theorem lrun_map (h0 : g none = 42) : ∀ (m : Mask) {r : Row}, (∀ i, some i ∈ r → g (some i) ≠ 42) → lrun m (r.map g) = (runM m r).map g
  | [], r, _ => rfl
  | s :: m, r, h => by
    show lrun m (lstep s (r.map g)) = (runM m (stepped s r)).map g
    rw [lstep_map h0 s h]
    exact lrun_map h0 m fun i hi => h i (stepped_some hi)
end
/-- what the law's run makes is the output -/
theorem lrun_out (m : Mask) {t : T} (h : 42 ∉ t) : lrun m t = outT m t := by
  have e : t = ((List.range t.length).map some).map (gOf t) := by
    rw [List.map_map]
    apply List.ext_getElem
    · simp
    · intro i h1 h2
      simp [gOf, List.getD_eq_getElem?_getD, h1]
  have := lrun_map (g := gOf t) rfl m (r := (List.range t.length).map some) fun i hi => by
    have hi : i < t.length := by simpa using hi
    show t.getD i 0 ≠ 42
    rw [List.getD_eq_getElem?_getD, List.getElem?_eq_getElem hi]
    exact fun z => h (z ▸ List.getElem_mem hi)
  rw [← e] at this
  exact this
theorem OkS.no {t : T} (h : OkS t) : 42 ∉ t := fun z => by have := (h.2 _ z).1; omega
end PL

set_option Elab.async false
set_option linter.all false
set_option maxRecDepth 100000
set_option maxHeartbeats 4000000
/-! pairs of strings that a release confuses: the bound -/
namespace PL

def del (p : Nat) (u : T) : T := u.eraseIdx p
theorem del_len {p L : Nat} {u : T} (hu : u.length = L + 1) (hp : p ≤ L) : (del p u).length = L := by
  unfold del; rw [List.length_eraseIdx, if_pos (by omega), hu]; rfl
theorem del_get (p : Nat) (u : T) (i : Nat) : (del p u).getD i 0 = u.getD (sk p i) 0 := by
  unfold del sk
  rw [List.getD_eq_getElem?_getD, List.getD_eq_getElem?_getD, List.getElem?_eraseIdx]
  split <;> rfl
theorem del_mem {p : Nat} {u : T} {c : Nat} (h : c ∈ del p u) : c ∈ u := List.mem_of_mem_eraseIdx h
theorem gOf_del (p : Nat) (u : T) (x : Option Nat) : gOf (del p u) x = gOf u (x.map (sk p)) := by
  cases x with
  | none => rfl
  | some i => exact del_get p u i
theorem out_del {m : Mask} {p L : Nat} {u : T} (hu : u.length = L + 1) (hp : p ≤ L) : outT m (del p u) = ((tmpl m L).map (Option.map (sk p))).map (gOf u) := by
  unfold outT
  rw [del_len hu hp, List.map_map]
  apply List.map_congr_left
  intro x _
  exact gOf_del p u x
/-- p lies in the middle for m -/
structure Mid (m : Mask) (p L : Nat) : Prop where
  f : (fo m).fr ≤ p
  b : p + (fo m).bk ≤ L
  l : msum m + 1 ≤ L
theorem out_const {m : Mask} {p L : Nat} {u : T} (h : Mid m p L) (h0 : (fo m).sl = 0) (hu : u.length = L + 1) : outT m (del p u) = outT m u := by
  have hl := h.l
  have hb := h.b
  rw [out_del hu (by omega), (fo_is m).row L hl, rem_const (fo_is m).inv h0 hl h.f hb, ← (fo_is m).row (L + 1) (by omega)]
  unfold outT
  rw [hu]
theorem tm_split {m : Mask} {p L : Nat} (h : Mid m p L) : (tmpl m L).map (Option.map (sk p)) = tmpl m (L + 1) ∨ ∃ X Y z, (z = none ∨ z = some p) ∧ (tmpl m L).map (Option.map (sk p)) = X ++ Y ∧ tmpl m (L + 1) = X ++ z :: Y := by
  have hl := h.l
  rw [(fo_is m).row L hl, (fo_is m).row (L + 1) (by omega)]
  rcases sl_cases (fo_is m).inv with h0 | h1
  · exact .inl (rem_const (fo_is m).inv h0 hl h.f h.b)
  · exact .inr (rem_grow (fo_is m).inv h1 hl h.f h.b)
theorem out_both {m : Mask} {p L : Nat} {u v : T} (h : Mid m p L) (hu : u.length = L + 1) (hv : v.length = L + 1) (e : outT m u = outT m v) : outT m (del p u) = outT m (del p v) := by
  have hb := h.b
  rw [out_del hu (by omega), out_del hv (by omega)]
  unfold outT at e
  rw [hu, hv] at e
  rcases tm_split h with h | ⟨X, Y, z, _, e1, e2⟩
  · rw [h]; exact e
  · rw [e2] at e
    rw [e1]
    rw [List.map_append, List.map_append, List.map_cons, List.map_cons] at e
    obtain ⟨h1, h2⟩ := List.append_inj e (by rw [List.length_map, List.length_map])
    injection h2 with _ h2
    rw [List.map_append, List.map_append, h1, h2]
theorem map_ne {α β : Type} {f g : α → β} : ∀ {l : List α}, l.map f ≠ l.map g → ∃ x ∈ l, f x ≠ g x
  | [], h => absurd rfl h
  | x :: l, h => by
    by_cases e : f x = g x
    · obtain ⟨y, hy, h⟩ := map_ne (f := f) (g := g) (l := l) fun z => h (by rw [List.map_cons, List.map_cons, e, z])
      exact ⟨y, List.mem_cons_of_mem _ hy, h⟩
    · exact ⟨x, List.mem_cons_self, e⟩
theorem out_ne {m : Mask} {u v : T} (hl : u.length = v.length) (h : outT m u ≠ outT m v) : ∃ q, some q ∈ tmpl m u.length ∧ u.getD q 0 ≠ v.getD q 0 := by
  unfold outT at h
  rw [← hl] at h
  obtain ⟨x, hx, h⟩ := map_ne h
  cases x with
  | none => exact absurd rfl h
  | some q => exact ⟨q, hx, h⟩
theorem out_ne_both {m : Mask} {p q L : Nat} {u v : T} (h : Mid m p L) (hu : u.length = L + 1) (hv : v.length = L + 1) (hq : some q ∈ tmpl m (L + 1)) (hn : u.getD q 0 ≠ v.getD q 0) (hpq : p ≠ q) : outT m (del p u) ≠ outT m (del p v) := by
  have hb := h.b
  rw [out_del hu (by omega), out_del hv (by omega)]
  have hm : some q ∈ (tmpl m L).map (Option.map (sk p)) := by
    rcases tm_split h with h | ⟨X, Y, z, hz, e1, e2⟩
    · rw [h]; exact hq
    · rw [e1]
      rw [e2] at hq
      rcases List.mem_append.mp hq with h | h
      · exact List.mem_append_left _ h
      · rcases List.mem_cons.mp h with h | h
        · rcases hz with rfl | rfl
          · cases h
          · cases h; exact absurd rfl hpq
        · exact List.mem_append_right _ h
  intro e
  have key : ∀ (l : Row), l.map (gOf u) = l.map (gOf v) → some q ∈ l → gOf u (some q) = gOf v (some q) := fun l => by
    induction l with
    | nil => intro _ h; cases h
    | cons x l ih =>
      intro e h
      rw [List.map_cons, List.map_cons] at e
      injection e with e1 e2
      rcases List.mem_cons.mp h with h | h
      · rw [h]; exact e1
      · exact ih e2 h
  exact hn (key _ e hm)
theorem out_len_lt {m : Mask} {u v : T} (h1 : (fo m).sl = 1) (hu : msum m + 1 ≤ u.length) (hv : v.length < u.length) : outT m u ≠ outT m v := fun e => by
  have e := congrArg List.length e
  unfold outT at e
  rw [List.length_map, List.length_map] at e
  have := (fo_is m).grow _ _ hu hv h1
  omega
/-- the release tells u and v not apart -/
def Conf (r : List Mask) (u v : T) : Prop := ∀ m ∈ r, outT m u = outT m v
theorem Conf.symm {r : List Mask} {u v : T} (h : Conf r u v) : Conf r v u := fun m hm => (h m hm).symm
def rsum (r : List Mask) : Nat := (r.map msum).sum
noncomputable def frs (r : List Mask) : Nat := (r.map fun m => (fo m).fr).sum
noncomputable def bks (r : List Mask) : Nat := (r.map fun m => (fo m).bk).sum
theorem frbk_le : ∀ r : List Mask, frs r + bks r ≤ rsum r
  | [] => Nat.le_refl _
  | m :: r => by
    have h1 := frbk_le r
    have h2 := fr_bk (fo_is m).inv
    unfold frs bks rsum at *
    rw [List.map_cons, List.map_cons, List.map_cons, List.sum_cons, List.sum_cons, List.sum_cons]
    omega
theorem frs_mem {m : Mask} : ∀ {r : List Mask}, m ∈ r → (fo m).fr ≤ frs r ∧ (fo m).bk ≤ bks r ∧ msum m ≤ rsum r
  | x :: r, h => by
    unfold frs bks rsum at *
    rw [List.map_cons, List.map_cons, List.map_cons, List.sum_cons, List.sum_cons, List.sum_cons]
    rcases List.mem_cons.mp h with rfl | h
    · omega
    · have := frs_mem (r := r) h
      unfold frs bks rsum at this
      omega
theorem mid_of {m : Mask} {r : List Mask} (h : m ∈ r) {p L : Nat} (h1 : frs r ≤ p) (h2 : p ≤ frs r + 1) (hL : rsum r + 1 ≤ L) : Mid m p L := by
  have := frbk_le r
  have := frs_mem h
  exact ⟨by omega, by omega, by omega⟩
/-- a smaller pair, when the longer one is long -/
theorem smaller {r : List Mask} {m : Mask} {u v : T} (hc : Conf r u v) (hn : outT m u ≠ outT m v) (hvu : v.length ≤ u.length) (hl : rsum (r ++ [m]) + 4 ≤ u.length) :
    ∃ u' v' : T, Conf r u' v' ∧ outT m u' ≠ outT m v' ∧ u'.length + v'.length < u.length + v.length ∧ (∀ c ∈ u', c ∈ u) ∧ (∀ c ∈ v', c ∈ v) := by
  obtain ⟨L, hL⟩ : ∃ L, u.length = L + 1 := ⟨u.length - 1, by omega⟩
  have hm : m ∈ r ++ [m] := List.mem_append_right _ List.mem_cons_self
  have hr : ∀ x ∈ r, x ∈ r ++ [m] := fun x hx => List.mem_append_left _ hx
  have hms := (frs_mem hm).2.2
  have hfb := frbk_le (r ++ [m])
  by_cases he : v.length = u.length
  · obtain ⟨q, hq, hqn⟩ := out_ne he.symm hn
    rw [hL] at hq
    obtain ⟨p, hp1, hp2, hpq⟩ : ∃ p, frs (r ++ [m]) ≤ p ∧ p ≤ frs (r ++ [m]) + 1 ∧ p ≠ q := by
      by_cases h : frs (r ++ [m]) = q
      · exact ⟨frs (r ++ [m]) + 1, by omega, by omega, by omega⟩
      · exact ⟨frs (r ++ [m]), by omega, by omega, h⟩
    refine ⟨del p u, del p v, fun x hx => out_both (mid_of (hr x hx) hp1 hp2 (by omega)) hL (by omega) (hc x hx), out_ne_both (mid_of hm hp1 hp2 (by omega)) hL (by omega) hq hqn hpq, ?_, fun c hc => del_mem hc, fun c hc => del_mem hc⟩
    rw [del_len hL (by omega), del_len (L := L) (by omega) (by omega)]
    omega
  · have hlt : v.length < u.length := by omega
    have s0 : ∀ x ∈ r, (fo x).sl = 0 := fun x hx => by
      have := (frs_mem (hr x hx)).2.2
      rcases sl_cases (fo_is x).inv with h | h
      · exact h
      · exact absurd (hc x hx) (out_len_lt h (by omega) hlt)
    have mi : ∀ x ∈ r ++ [m], Mid x (frs (r ++ [m])) L := fun x hx => mid_of hx (Nat.le_refl _) (by omega) (by omega)
    have cu : Conf r (del (frs (r ++ [m])) u) v := fun x hx => by
      rw [out_const (mi x (hr x hx)) (s0 x hx) hL]; exact hc x hx
    have lu : (del (frs (r ++ [m])) u).length = L := del_len hL (by omega)
    rcases sl_cases (fo_is m).inv with h0 | h1
    · refine ⟨_, v, cu, ?_, by rw [lu]; omega, fun c hc => del_mem hc, fun c hc => hc⟩
      rw [out_const (mi m hm) h0 hL]; exact hn
    · by_cases hvl : v.length < L
      · refine ⟨_, v, cu, ?_, by rw [lu]; omega, fun c hc => del_mem hc, fun c hc => hc⟩
        exact out_len_lt h1 (by rw [lu]; omega) (by rw [lu]; exact hvl)
      · obtain ⟨K, hK⟩ : ∃ K, v.length = K + 1 := ⟨v.length - 1, by omega⟩
        have mv : ∀ x ∈ r ++ [m], Mid x (frs (r ++ [m])) K := fun x hx => mid_of hx (Nat.le_refl _) (by omega) (by omega)
        have lv : (del (frs (r ++ [m])) v).length = K := del_len hK (by omega)
        refine ⟨_, del (frs (r ++ [m])) v, fun x hx => ?_, ?_, by rw [lu, lv]; omega, fun c hc => del_mem hc, fun c hc => del_mem hc⟩
        · rw [out_const (mv x (hr x hx)) (s0 x hx) hK]; exact cu x hx
        · exact out_len_lt h1 (by rw [lu]; omega) (by rw [lu, lv]; omega)
/-- u and v show that the release does not determine m -/
structure Cex (r : List Mask) (m : Mask) (u v : T) : Prop where
  c : Conf r u v
  n : outT m u ≠ outT m v
theorem Cex.symm {r : List Mask} {m : Mask} {u v : T} (h : Cex r m u v) : Cex r m v u := ⟨h.c.symm, fun e => h.n e.symm⟩
theorem cex_bound {r : List Mask} {m : Mask} : ∀ (k : Nat) (u v : T), u.length + v.length ≤ k → Cex r m u v → ∃ u' v' : T, Cex r m u' v' ∧ v'.length ≤ u'.length ∧ u'.length ≤ rsum (r ++ [m]) + 3 ∧ u'.length + v'.length ≤ u.length + v.length ∧ (∀ c, c ∈ u' ∨ c ∈ v' → c ∈ u ∨ c ∈ v)
  | k, u, v, hk, h => by
    have main : ∀ u v : T, u.length + v.length ≤ k → Cex r m u v → v.length ≤ u.length → ∃ u' v' : T, Cex r m u' v' ∧ v'.length ≤ u'.length ∧ u'.length ≤ rsum (r ++ [m]) + 3 ∧ u'.length + v'.length ≤ u.length + v.length ∧ (∀ c, c ∈ u' ∨ c ∈ v' → c ∈ u ∨ c ∈ v) := fun u v hk h hvu => by
      by_cases hl : u.length ≤ rsum (r ++ [m]) + 3
      · exact ⟨u, v, h, hvu, hl, Nat.le_refl _, fun _ h => h⟩
      · obtain ⟨u1, v1, c1, n1, l1, i1, i2⟩ := smaller h.c h.n hvu (by omega)
        cases k with
        | zero => omega
        | succ k =>
          obtain ⟨u2, v2, c2, w2, l2, t2, i3⟩ := cex_bound k u1 v1 (by omega) ⟨c1, n1⟩
          exact ⟨u2, v2, c2, w2, l2, by omega, fun c hc => (i3 c hc).elim (fun h => .inl (i1 c h)) fun h => .inr (i2 c h)⟩
    by_cases hvu : v.length ≤ u.length
    · exact main u v hk h hvu
    · obtain ⟨u', v', h1, h2, h3, h4, h5⟩ := main v u (by omega) h.symm (by omega)
      exact ⟨u', v', h1, h2, h3, by omega, fun c hc => (h5 c hc).symm⟩
end PL

set_option Elab.async false
set_option linter.all false
set_option maxRecDepth 100000
set_option maxHeartbeats 4000000
/-! releases: what is one; classes of letters -/
namespace PL
open PySem PySem.Spec L2
open TL (tl len_tl ext_tl tl_append joinL tl_join join_eq)

/-- a comprehension over encoded things, each turn giving one value -/
theorem lcLoop_mapA {α : Type} {enc f : α → PV} {g : DG} {tt : DT} {te : DE} {vs : List Nat} {ρ : Rho} : ∀ {xs : List α} {Q : List PV → Prop}, (∀ x ∈ xs, ∀ P : List PV → Prop, P [f x] → g (enc x) ρ fun ρ2 => tt ρ2 fun b ρ3 => if b = true then te ρ3 fun y ρ4 => wipeR ρ4 vs = ρ ∧ P [y] else wipeR ρ3 vs = ρ ∧ P []) → Q (xs.map f) → lcLoop g tt te vs ρ (xs.map enc) Q
  | [], _, _, q => q
  | x :: xs, Q, h, q => h x List.mem_cons_self (fun ys => lcLoop g tt te vs ρ (xs.map enc) fun zs => Q (ys ++ zs)) (lcLoop_mapA (fun y hy => h y (List.mem_cons_of_mem _ hy)) q)
/-- a comprehension with a test -/
theorem lcLoop_filA {α : Type} {enc f : α → PV} {t : α → Bool} {g : DG} {tt : DT} {te : DE} {vs : List Nat} {ρ : Rho} : ∀ {xs : List α} {Q : List PV → Prop}, (∀ x ∈ xs, ∀ P : List PV → Prop, (if t x = true then P [f x] else P []) → g (enc x) ρ fun ρ2 => tt ρ2 fun b ρ3 => if b = true then te ρ3 fun y ρ4 => wipeR ρ4 vs = ρ ∧ P [y] else wipeR ρ3 vs = ρ ∧ P []) → Q ((xs.filter t).map f) → lcLoop g tt te vs ρ (xs.map enc) Q
  | [], _, _, q => q
  | x :: xs, Q, h, q => by
    refine h x List.mem_cons_self (fun ys => lcLoop g tt te vs ρ (xs.map enc) fun zs => Q (ys ++ zs)) ?_
    by_cases hx : t x = true
    · rw [if_pos hx]
      rw [List.filter_cons, if_pos hx] at q
      exact lcLoop_filA (fun y hy => h y (List.mem_cons_of_mem _ hy)) q
    · rw [if_neg hx]
      rw [List.filter_cons, if_neg hx] at q
      exact lcLoop_filA (fun y hy => h y (List.mem_cons_of_mem _ hy)) q
theorem one_un {ρ : Rho} {k : Nat} {v : Slot} (hk : ρ[k]? = some v) (hv : isOwn v = false) : ∀ i ∈ [k], ∀ s, ρ[i]? = some s → isOwn s = false := fun i hi s hs => by
  have e : i = k := by simpa using hi
  subst e
  rw [hk] at hs
  cases hs
  exact hv
theorem two_un {ρ : Rho} {k l : Nat} {v w : Slot} (hk : ρ[k]? = some v) (hv : isOwn v = false) (hl : ρ[l]? = some w) (hw : isOwn w = false) : ∀ i ∈ [k, l], ∀ s, ρ[i]? = some s → isOwn s = false := fun i hi s hs => by
  rcases List.mem_cons.mp hi with rfl | hi
  · rw [hk] at hs; cases hs; exact hv
  · exact one_un hl hw i hi s hs
/-! ### is_release -/
def relB : PV → Bool
  | .tup xs => decide (xs.length ≤ 3) && xs.all maskB
  | _ => false
def p_is_release : PSp := fun as Q => ∃ v : PV, as = [v] ∧ v.dat 18 = true ∧ Q (.bl (relB v))
theorem m_is_release : MonoP p_is_release := fun _ _ _ h ⟨v, e, z, q⟩ => ⟨v, e, z, h _ q⟩
def d_is_release : DS := (dRet (dAndV (dIsi "tuple" (dVar 0)) (dAndV (dOp (cmpQ fun i j => decide (i ≤ j)) (dBi lenQ (dCons (dVar 0) dNil)) (dC (.int 3))) (dBi allQ (dCons (dLc (dIt (dVar 0)) (dgName 1) dYes (dCall 1 p_is_mask
      (dCons (dVar 1) dNil)) [1]) dNil)))))
theorem h_is_release : ∀ (as : List PV) (post : PV → Prop), as.length = 1 → p_is_release as post → d_is_release (endsOf post) (startR 2 as) := by
  rintro as post _ ⟨v, rfl, z, q⟩
  show d_is_release _ [.val v, .un]
  have zp := plain_of_dat z
  simp only [d_is_release, dSeq, dNext, dIfS, dRet, dRetN, dSet, dOwn, dVar, dC, dOp, dB, dChain, dAnd, dOr, dNot, dAndV, dOrV, dNotV, dIf, dNil, dCons, dTup, dLst, dDrop, dgName, dgNil, dgCons, dgTup, dAsg, dPar, dPar3, dParO, dParV, dAug, dCall, dBi, dIsi, dInS, dSl, doNone, doSome, dRevL, dRevS, dM1, dRg1, dListOf, dJoin, dNeg, dApp, dExt, dSetIx, endsOf, dFor, dIt, dZip, dEnum, dRange1, dRange2, itemsQ, dLc, wipeR, dTwn, dTwnSet, dTwnAug, dScrE, dScrL, dScrX, List.getElem?_cons_zero, List.getElem?_cons_succ, List.set_cons_zero, List.set_cons_succ, List.length_cons, List.length_nil, if_true, if_false, Bool.true_eq_false, Bool.false_eq_true, if_pos, ite_true, ite_false, reduceIte, true_and, and_true, true_or, or_true, PV.scr.injEq, PV.int.injEq, PV.bl.injEq, PV.str.injEq, PV.lst.injEq, PV.tup.injEq, exists_eq_left, exists_eq_left', exists_eq_right, exists_eq_right', reduceCtorEq, or_false, false_or, forall_const, Nat.zero_le, Bool.not_true, Bool.not_false, decide_true, decide_false, isi_tup zp]
  cases v with
  | tup xs =>
    have zd : dats 17 xs = true := by simpa [PV.dat] using z
    simp only [isTupB, List.getElem?_cons_zero, List.getElem?_cons_succ, List.set_cons_zero, List.set_cons_succ, List.length_cons, List.length_nil, if_true, if_false, Bool.true_eq_false, Bool.false_eq_true, if_pos, ite_true, ite_false, reduceIte, true_and, and_true, true_or, or_true, PV.scr.injEq, PV.int.injEq, PV.bl.injEq, PV.str.injEq, PV.lst.injEq, PV.tup.injEq, exists_eq_left, exists_eq_left', exists_eq_right, exists_eq_right', reduceCtorEq, or_false, false_or, forall_const, Nat.zero_le, Bool.not_true, Bool.not_false, decide_true, decide_false, lenQ, cmpQ]
    have q : post (.bl (decide (xs.length ≤ 3) && xs.all maskB)) := q
    by_cases hl : xs.length ≤ 3
    · rw [decide_eq_true hl] at q
      rw [if_pos (by rw [decide_eq_true_eq]; omega)]
      refine ⟨fun i hi s hs => ?_, Nat.le_trans hl (by decide), lcLoop_map (f := fun x => .bl (maskB x)) (fun x hx P hP => ?_) ?_⟩
      · have e : i = 1 := by simpa using hi
        subst e
        simp only [List.getElem?_cons_zero, List.getElem?_cons_succ, List.set_cons_zero, List.set_cons_succ, List.length_cons, List.length_nil, if_true, if_false, Bool.true_eq_false, Bool.false_eq_true, if_pos, ite_true, ite_false, reduceIte, true_and, and_true, true_or, or_true, PV.scr.injEq, PV.int.injEq, PV.bl.injEq, PV.str.injEq, PV.lst.injEq, PV.tup.injEq, exists_eq_left, exists_eq_left', exists_eq_right, exists_eq_right', reduceCtorEq, or_false, false_or, forall_const, Nat.zero_le, Bool.not_true, Bool.not_false, decide_true, decide_false, Option.some.injEq] at hs
        subst hs; rfl
      · simp only [dYes, if_true]
        exact ⟨rfl, x, rfl, dats_mem zd hx, rfl, hP⟩
      · simp only [allQ]
        rw [blsOf_map]
        simpa using q
    · rw [decide_eq_false hl] at q
      rw [if_neg (by rw [decide_eq_true_eq]; omega)]
      exact q
  | _ => first | exact q | exact absurd zp (by simp [PV.plain])
def p_need_release : PSp := fun as Q => ∃ v : PV, as = [v] ∧ v.dat 18 = true ∧ relB v = true ∧ Q .non
theorem m_need_release : MonoP p_need_release := fun _ _ _ h ⟨v, e, z, y, q⟩ => ⟨v, e, z, y, h _ q⟩
def d_need_release : DS := (dIfS (dNot (dB (dCall 1 p_is_release (dCons (dVar 0) dNil)))) dNever dNext)
theorem h_need_release : ∀ (as : List PV) (post : PV → Prop), as.length = 1 → p_need_release as post → d_need_release (endsOf post) (startR 1 as) := by
  rintro as post _ ⟨v, rfl, z, y, q⟩
  show d_need_release _ [.val v]
  simp only [d_need_release, dSeq, dNext, dIfS, dRet, dRetN, dSet, dOwn, dVar, dC, dOp, dB, dChain, dAnd, dOr, dNot, dAndV, dOrV, dNotV, dIf, dNil, dCons, dTup, dLst, dDrop, dgName, dgNil, dgCons, dgTup, dAsg, dPar, dPar3, dParO, dParV, dAug, dCall, dBi, dIsi, dInS, dSl, doNone, doSome, dRevL, dRevS, dM1, dRg1, dListOf, dJoin, dNeg, dApp, dExt, dSetIx, endsOf, dFor, dIt, dZip, dEnum, dRange1, dRange2, itemsQ, dLc, wipeR, dTwn, dTwnSet, dTwnAug, dScrE, dScrL, dScrX, List.getElem?_cons_zero, List.getElem?_cons_succ, List.set_cons_zero, List.set_cons_succ, List.length_cons, List.length_nil, if_true, if_false, Bool.true_eq_false, Bool.false_eq_true, if_pos, ite_true, ite_false, reduceIte, true_and, and_true, true_or, or_true, PV.scr.injEq, PV.int.injEq, PV.bl.injEq, PV.str.injEq, PV.lst.injEq, PV.tup.injEq, exists_eq_left, exists_eq_left', exists_eq_right, exists_eq_right', reduceCtorEq, or_false, false_or, forall_const, Nat.zero_le, Bool.not_true, Bool.not_false, decide_true, decide_false]
  refine ⟨v, rfl, z, ?_⟩
  rw [y]
  exact q
theorem masks_dat (n : Nat) : ∀ r : Rel, dats (n + 2) (r.map encM) = true
  | [] => rfl
  | m :: r => by rw [List.map_cons, dats, mask_dat, masks_dat n r]; rfl
theorem rel_dat (r : Rel) (n : Nat) : (encRel r).dat (n + 3) = true := by
  unfold encRel; rw [PV.dat]; exact masks_dat n r
theorem relB_enc {r : Rel} (h : OkR r) : relB (encRel r) = true := by
  show (decide ((r.map encM).length ≤ 3) && (r.map encM).all maskB) = true
  rw [List.length_map, decide_eq_true h.1, Bool.true_and, List.all_map, List.all_eq_true]
  exact fun m hm => maskB_enc (h.2 m hm)
/-! ### nodes, parents, heads -/
abbrev Nd := Nat × Nat
def encN (n : Nd) : PV := .tup [.int n.1, .int n.2]
def keyN (n : Nd) : List Key := [.inl n.1, .inl n.2]
def encPs (ps : List (Nd × Nd)) : List (List Key × PV) := ps.map fun e => (keyN e.1, encN e.2)
def lk : List (Nd × Nd) → Nd → Option Nd
  | [], _ => none
  | (k, v) :: r, n => if k = n then some v else lk r n
theorem keyN_inj {a b : Nd} (h : keyN a = keyN b) : a = b := by
  obtain ⟨a1, a2⟩ := a
  obtain ⟨b1, b2⟩ := b
  unfold keyN at h
  simp only [List.cons.injEq, Sum.inl.injEq, and_true] at h
  have h1 := h.1
  have h2 := h.2
  congr 1 <;> omega
theorem getP_encPs (n : Nd) : ∀ ps : List (Nd × Nd), getP (encPs ps) (keyN n) = (lk ps n).map encN
  | [] => rfl
  | (k, v) :: r => by
    show getP ((keyN k, encN v) :: encPs r) (keyN n) = _
    rw [getP, lk, getP_encPs n r]
    by_cases h : k = n
    · rw [if_pos h, if_pos (by rw [h])]; rfl
    · rw [if_neg h, if_neg (fun e => h (keyN_inj e))]
theorem keysOf_n (n : Nd) : keysOf [.int n.1, .int n.2] = some (keyN n) := rfl
theorem dictAt_n (ps : List (Nd × Nd)) (n : Nd) (P : Option PV → Prop) : dictAt (.dit (encPs ps)) (encN n) P = P ((lk ps n).map encN) := by
  show P (getP (encPs ps) (keyN n)) = _
  rw [getP_encPs]
/-- the walk up from a node ends at a root -/
inductive Fin' (ps : List (Nd × Nd)) : Nat → Nd → Nd → Prop
  | nil {n : Nd} (h : lk ps n = none) : Fin' ps 0 n n
  | cons {k : Nat} {n m r : Nd} (h : lk ps n = some m) (t : Fin' ps k m r) : Fin' ps (k + 1) n r
theorem Fin'.root {ps : List (Nd × Nd)} {k : Nat} {n r : Nd} (h : Fin' ps k n r) : lk ps r = none := by
  induction h with
  | nil h => exact h
  | cons _ _ ih => exact ih
def IsRep (ps : List (Nd × Nd)) (rep : Nd → Nd) : Prop := ∀ n, ∃ k, Fin' ps k n (rep n)
theorem lk_app (ps : List (Nd × Nd)) (h t n : Nd) : lk (ps ++ [(h, t)]) n = match lk ps n with
    | some m => some m
    | none => if h = n then some t else none := by
  induction ps with
  | nil => rfl
  | cons e ps ih =>
    obtain ⟨k, v⟩ := e
    rw [List.cons_append, lk, lk, ih]
    split <;> rfl
theorem Fin'.add {ps : List (Nd × Nd)} {h t : Nd} (hh : lk ps h = none) (ht : lk ps t = none) (hn : h ≠ t) {k : Nat} {n r : Nd} (f : Fin' ps k n r) : ∃ k', Fin' (ps ++ [(h, t)]) k' n (if r = h then t else r) := by
  induction f with
  | nil e =>
    rename_i n
    by_cases hq : n = h
    · subst hq
      rw [if_pos rfl]
      refine ⟨1, .cons (m := t) ?_ (.nil ?_)⟩
      · rw [lk_app, e]; exact if_pos rfl
      · rw [lk_app, ht]; exact if_neg hn
    · rw [if_neg hq]
      refine ⟨0, .nil ?_⟩
      rw [lk_app, e]
      exact if_neg (fun z => hq z.symm)
  | cons e _ ih =>
    obtain ⟨k', ih⟩ := ih
    refine ⟨k' + 1, .cons ?_ ih⟩
    rw [lk_app, e]
/-- two nodes' classes made one -/
def uni (rep : Nd → Nd) (x y : Nd) : Nd → Nd := fun n => if rep n = rep x then rep y else rep n
theorem IsRep.uni {ps : List (Nd × Nd)} {rep : Nd → Nd} (h : IsRep ps rep) {x y : Nd} (hn : rep x ≠ rep y) : IsRep (ps ++ [(rep x, rep y)]) (uni rep x y) := fun n => by
  obtain ⟨k, f⟩ := h n
  obtain ⟨k1, f1⟩ := h x
  obtain ⟨k2, f2⟩ := h y
  exact f.add f1.root f2.root hn
theorem uni_same {rep : Nd → Nd} {x y : Nd} (h : rep x = rep y) : PL.uni rep x y = rep := by
  funext n
  unfold PL.uni
  split
  · rename_i e; rw [e, h]
  · rfl
def p_head : PSp := fun as Q => ∃ (ps : List (Nd × Nd)) (rep : Nd → Nd) (n : Nd), as = [.dit (encPs ps), encN n] ∧ IsRep ps rep ∧ Q (encN (rep n))
theorem m_head : MonoP p_head := fun _ _ _ h ⟨ps, rep, n, e, z, q⟩ => ⟨ps, rep, n, e, z, h _ q⟩
def d_head : DS := (dSeq (dWhile (dB (dIn (dVar 1) (dVar 0))) (dSet 1 (dGet (dVar 0) (dVar 1)))) (dRet (dVar 1)))
theorem hd_loop (ps : List (Nd × Nd)) (PD : PEnds) {k : Nat} {n r : Nd} (f : Fin' ps k n r) (h : PD.nx [.val (.dit (encPs ps)), .val (encN r)]) :
    dWhileN (dB (dIn (dVar 1) (dVar 0))) (dSet 1 (dGet (dVar 0) (dVar 1))) PD (k + 1) [.val (.dit (encPs ps)), .val (encN n)] := by
  induction f with
  | nil e =>
    rename_i n
    rw [dWhileN]
    simp only [dB, dIn, dVar, List.getElem?_cons_zero, List.getElem?_cons_succ, List.set_cons_zero, List.set_cons_succ, List.length_cons, List.length_nil, if_true, if_false, Bool.true_eq_false, Bool.false_eq_true, if_pos, ite_true, ite_false, reduceIte, true_and, and_true, true_or, or_true, PV.scr.injEq, PV.int.injEq, PV.bl.injEq, PV.str.injEq, PV.lst.injEq, PV.tup.injEq, exists_eq_left, exists_eq_left', exists_eq_right, exists_eq_right', reduceCtorEq, or_false, false_or, forall_const, Nat.zero_le, Bool.not_true, Bool.not_false, decide_true, decide_false, dictAt_n, e, Option.map_none, Option.isSome_none]
    exact h
  | cons e _ ih =>
    rename_i k n m r
    rw [dWhileN]
    simp only [dB, dIn, dVar, List.getElem?_cons_zero, List.getElem?_cons_succ, List.set_cons_zero, List.set_cons_succ, List.length_cons, List.length_nil, if_true, if_false, Bool.true_eq_false, Bool.false_eq_true, if_pos, ite_true, ite_false, reduceIte, true_and, and_true, true_or, or_true, PV.scr.injEq, PV.int.injEq, PV.bl.injEq, PV.str.injEq, PV.lst.injEq, PV.tup.injEq, exists_eq_left, exists_eq_left', exists_eq_right, exists_eq_right', reduceCtorEq, or_false, false_or, forall_const, Nat.zero_le, Bool.not_true, Bool.not_false, decide_true, decide_false, dictAt_n, e, Option.map_some, Option.isSome_some, dSet, dGet]
    exact ih h
theorem h_head : ∀ (as : List PV) (post : PV → Prop), as.length = 2 → p_head as post → d_head (endsOf post) (startR 2 as) := by
  rintro as post _ ⟨ps, rep, n, rfl, hr, q⟩
  show d_head _ [.val (.dit (encPs ps)), .val (encN n)]
  obtain ⟨k, f⟩ := hr n
  refine seq_i ⟨k + 1, ?_⟩
  refine hd_loop ps _ f ?_
  simp only [dNext, dIfS, dRet, dRetN, dSet, dOwn, dVar, dC, dOp, dB, dChain, dAnd, dOr, dNot, dAndV, dOrV, dNotV, dIf, dNil, dCons, dTup, dLst, dDrop, dgName, dgNil, dgCons, dgTup, dAsg, dPar, dPar3, dParO, dParV, dAug, dCall, dBi, dIsi, dInS, dSl, doNone, doSome, dRevL, dRevS, dM1, dRg1, dListOf, dJoin, dNeg, dApp, dExt, dSetIx, endsOf, dFor, dIt, dZip, dEnum, dRange1, dRange2, itemsQ, dLc, wipeR, dTwn, dTwnSet, dTwnAug, dScrE, dScrL, dScrX, List.getElem?_cons_zero, List.getElem?_cons_succ, List.set_cons_zero, List.set_cons_succ, List.length_cons, List.length_nil, if_true, if_false, Bool.true_eq_false, Bool.false_eq_true, if_pos, ite_true, ite_false, reduceIte, true_and, and_true, true_or, or_true, PV.scr.injEq, PV.int.injEq, PV.bl.injEq, PV.str.injEq, PV.lst.injEq, PV.tup.injEq, exists_eq_left, exists_eq_left', exists_eq_right, exists_eq_right', reduceCtorEq, or_false, false_or, forall_const, Nat.zero_le, Bool.not_true, Bool.not_false, decide_true, decide_false]
  exact q
/-! ### similar rows -/
def simB (r s : Row) : Bool := decide (r.length = s.length) && (r.zip s).all fun x => x.1.isNone == x.2.isNone
def p_are_similar : PSp := fun as Q => ∃ (r s : Row), as = [encT r, encT s] ∧ r.length ≤ 1000000 ∧ Q (.bl (simB r s))
theorem m_are_similar : MonoP p_are_similar := fun _ _ _ h ⟨v, a, e, z, q⟩ => ⟨v, a, e, z, h _ q⟩
def d_are_similar : DS := (dRet (dAndV (dOp eqQ (dBi lenQ (dCons (dVar 0) dNil)) (dBi lenQ (dCons (dVar 1) dNil))) (dBi allQ (dCons (dLc (dZip (dCons (dVar 0) (dCons (dVar 1) dNil))) (dgTup 2 (dgCons (dgName 2) (dgCons (dgName 3)
      dgNil))) dYes (dOp eqQ (dOp isNQ (dVar 2) (dC .non)) (dOp isNQ (dVar 3) (dC .non))) [2, 3]) dNil))))
theorem zipP_map {α β : Type} (f : α → PV) (g : β → PV) : ∀ (r : List α) (s : List β), zipP (r.map f) (s.map g) = (r.zip s).map fun x => PV.tup [f x.1, g x.2]
  | [], s => by cases s <;> rfl
  | x :: r, [] => rfl
  | x :: r, y :: s => by rw [List.map_cons, List.map_cons, zipP, zipP_map f g r s, List.zip_cons_cons, List.map_cons]
theorem isNon_encO (x : Option Nat) : isNon (encO x) = x.isNone := by cases x <;> rfl
theorem eqQ_bl (a b : Bool) (Q : PV → Prop) : eqQ (.bl a) (.bl b) Q = Q (.bl (a == b)) := by
  unfold eqQ
  simp only [PV.dat, true_and, PV.eqv, PV.toD, PyData.eqv]
theorem blsOf_mapA {α : Type} (f : α → Bool) : ∀ l : List α, blsOf (l.map fun x => .bl (f x)) = some (l.map f)
  | [] => rfl
  | x :: l => by
    show (blsOf (l.map fun x => PV.bl (f x))).map (f x :: ·) = _
    rw [blsOf_mapA f l]; rfl
theorem allQ_map {α : Type} (f : α → Bool) (l : List α) (Q : PV → Prop) : allQ [.lst (l.map fun x => .bl (f x))] Q = Q (.bl (l.all f)) := by
  show (match blsOf (l.map fun x => PV.bl (f x)) with | some bs => Q (.bl (bs.all id)) | none => False) = _
  rw [blsOf_mapA]
  show Q (.bl ((l.map f).all id)) = _
  rw [List.all_map]; rfl
theorem anyQ_map {α : Type} (f : α → Bool) (l : List α) (Q : PV → Prop) : anyQ [.lst (l.map fun x => .bl (f x))] Q = Q (.bl (l.any f)) := by
  show (match blsOf (l.map fun x => PV.bl (f x)) with | some bs => Q (.bl (bs.any id)) | none => False) = _
  rw [blsOf_mapA]
  show Q (.bl ((l.map f).any id)) = _
  rw [List.any_map]; rfl
def simF : PV → PV
  | .tup [x, y] => .bl (isNon x == isNon y)
  | p => p
theorem h_are_similar : ∀ (as : List PV) (post : PV → Prop), as.length = 2 → p_are_similar as post → d_are_similar (endsOf post) (startR 4 as) := by
  rintro as post _ ⟨r, s, rfl, hl, q⟩
  have big := big
  show d_are_similar _ [.val (encT r), .val (encT s), .un, .un]
  simp only [d_are_similar, dSeq, dNext, dIfS, dRet, dRetN, dSet, dOwn, dVar, dC, dOp, dB, dChain, dAnd, dOr, dNot, dAndV, dOrV, dNotV, dIf, dNil, dCons, dTup, dLst, dDrop, dgName, dgNil, dgCons, dgTup, dAsg, dPar, dPar3, dParO, dParV, dAug, dCall, dBi, dIsi, dInS, dSl, doNone, doSome, dRevL, dRevS, dM1, dRg1, dListOf, dJoin, dNeg, dApp, dExt, dSetIx, endsOf, dFor, dIt, dZip, dEnum, dRange1, dRange2, itemsQ, dLc, wipeR, dTwn, dTwnSet, dTwnAug, dScrE, dScrL, dScrX, List.getElem?_cons_zero, List.getElem?_cons_succ, List.set_cons_zero, List.set_cons_succ, List.length_cons, List.length_nil, if_true, if_false, Bool.true_eq_false, Bool.false_eq_true, if_pos, ite_true, ite_false, reduceIte, true_and, and_true, true_or, or_true, PV.scr.injEq, PV.int.injEq, PV.bl.injEq, PV.str.injEq, PV.lst.injEq, PV.tup.injEq, exists_eq_left, exists_eq_left', exists_eq_right, exists_eq_right', reduceCtorEq, or_false, false_or, forall_const, Nat.zero_le, Bool.not_true, Bool.not_false, decide_true, decide_false, encT, lenQ_tup, List.length_map, eqQ_int]
  have q : post (.bl (decide (r.length = s.length) && (r.zip s).all fun x => x.1.isNone == x.2.isNone)) := q
  by_cases h : r.length = s.length
  · rw [if_pos (by rw [decide_eq_true_eq]; omega)]
    rw [decide_eq_true h, Bool.true_and] at q
    rw [zipP_map]
    refine ⟨fun i hi s hs => ?_, by rw [List.length_map, List.length_zip]; omega, lcLoop_map (f := simF) (fun x hx P hP => ?_) ?_⟩
    · rcases List.mem_cons.mp hi with rfl | hi
      · simp only [List.getElem?_cons_zero, List.getElem?_cons_succ, List.set_cons_zero, List.set_cons_succ, List.length_cons, List.length_nil, if_true, if_false, Bool.true_eq_false, Bool.false_eq_true, if_pos, ite_true, ite_false, reduceIte, true_and, and_true, true_or, or_true, PV.scr.injEq, PV.int.injEq, PV.bl.injEq, PV.str.injEq, PV.lst.injEq, PV.tup.injEq, exists_eq_left, exists_eq_left', exists_eq_right, exists_eq_right', reduceCtorEq, or_false, false_or, forall_const, Nat.zero_le, Bool.not_true, Bool.not_false, decide_true, decide_false, Option.some.injEq] at hs; subst hs; rfl
      · rcases List.mem_cons.mp hi with rfl | hi
        · simp only [List.getElem?_cons_zero, List.getElem?_cons_succ, List.set_cons_zero, List.set_cons_succ, List.length_cons, List.length_nil, if_true, if_false, Bool.true_eq_false, Bool.false_eq_true, if_pos, ite_true, ite_false, reduceIte, true_and, and_true, true_or, or_true, PV.scr.injEq, PV.int.injEq, PV.bl.injEq, PV.str.injEq, PV.lst.injEq, PV.tup.injEq, exists_eq_left, exists_eq_left', exists_eq_right, exists_eq_right', reduceCtorEq, or_false, false_or, forall_const, Nat.zero_le, Bool.not_true, Bool.not_false, decide_true, decide_false, Option.some.injEq] at hs; subst hs; rfl
        · cases hi
    · obtain ⟨y, _, rfl⟩ := List.mem_map.mp hx
      simp only [dYes, dSeq, dNext, dIfS, dRet, dRetN, dSet, dOwn, dVar, dC, dOp, dB, dChain, dAnd, dOr, dNot, dAndV, dOrV, dNotV, dIf, dNil, dCons, dTup, dLst, dDrop, dgName, dgNil, dgCons, dgTup, dAsg, dPar, dPar3, dParO, dParV, dAug, dCall, dBi, dIsi, dInS, dSl, doNone, doSome, dRevL, dRevS, dM1, dRg1, dListOf, dJoin, dNeg, dApp, dExt, dSetIx, endsOf, dFor, dIt, dZip, dEnum, dRange1, dRange2, itemsQ, dLc, wipeR, dTwn, dTwnSet, dTwnAug, dScrE, dScrL, dScrX, List.getElem?_cons_zero, List.getElem?_cons_succ, List.set_cons_zero, List.set_cons_succ, List.length_cons, List.length_nil, if_true, if_false, Bool.true_eq_false, Bool.false_eq_true, if_pos, ite_true, ite_false, reduceIte, true_and, and_true, true_or, or_true, PV.scr.injEq, PV.int.injEq, PV.bl.injEq, PV.str.injEq, PV.lst.injEq, PV.tup.injEq, exists_eq_left, exists_eq_left', exists_eq_right, exists_eq_right', reduceCtorEq, or_false, false_or, forall_const, Nat.zero_le, Bool.not_true, Bool.not_false, decide_true, decide_false, isNQ, eqQ_bl]
      exact hP
    · rw [List.map_map]
      have e : (r.zip s).map (simF ∘ fun x => PV.tup [encO x.1, encO x.2]) = (r.zip s).map fun x => PV.bl (x.1.isNone == x.2.isNone) := by
        apply List.map_congr_left
        intro x _
        show PV.bl (isNon (encO x.1) == isNon (encO x.2)) = _
        rw [isNon_encO, isNon_encO]
      rw [e]
      rw [allQ_map]
      exact q
  · rw [if_neg (by rw [decide_eq_true_eq]; omega)]
    rw [decide_eq_false h, Bool.false_and] at q
    exact q
/-! ### equated -/
def eqd1 (rep : Nd → Nd) : Row → Row → Nd → Nd
  | some i :: r, some j :: s => eqd1 (uni rep (0, i) (1, j)) r s
  | _ :: r, _ :: s => eqd1 rep r s
  | _, _ => rep
def eqdA (rep : Nd → Nd) : List Row → List Row → Nd → Nd
  | r :: R, s :: S => eqdA (eqd1 rep r s) R S
  | _, _ => rep
def simA (R S : List Row) : Bool := (R.zip S).all fun x => simB x.1 x.2
def p_equated : PSp := fun as Q => ∃ (R S : List Row), as = [.lst (R.map encT), .lst (S.map encT)] ∧ R.length ≤ 3 ∧ (∀ r ∈ R, r.length ≤ 1000000) ∧
  (simA R S = false → Q .non) ∧ (simA R S = true → ∀ ps, IsRep ps (eqdA id R S) → Q (.dit (encPs ps)))
theorem m_equated : MonoP p_equated := fun _ _ _ h ⟨v, a, e, z, y, q, q'⟩ => ⟨v, a, e, z, y, fun c => h _ (q c), fun c ps x => h _ (q' c ps x)⟩
def bd_equated_0 : DS := (dIfS (dB (dOp notNQ (dVar 5) (dC .non))) (dSeq (dPar 7 8 (dCons (dLend 4 (dCall 2 p_head (dCons (dVar 4) (dCons (dTup (dCons (dC (.int 0)) (dCons (dVar 5) dNil))) dNil)))) (dCons (dLend 4 (dCall 2 p_head
      (dCons (dVar 4) (dCons (dTup (dCons (dC (.int 1)) (dCons (dVar 6) dNil))) dNil)))) dNil))) (dIfS (dB (dOp neQ (dVar 7) (dVar 8))) (dPut 4 (dVar 7) (dVar 8)) dNext)) dNext)
theorem ebd_equated_0 (PD : PEnds) (ρ : Rho) : bd_equated_0 PD ρ = (dIfS (dB (dOp notNQ (dVar 5) (dC .non))) (dSeq (dPar 7 8 (dCons (dLend 4 (dCall 2 p_head (dCons (dVar 4) (dCons (dTup (dCons (dC (.int 0)) (dCons (dVar 5) dNil)))
      dNil)))) (dCons (dLend 4 (dCall 2 p_head (dCons (dVar 4) (dCons (dTup (dCons (dC (.int 1)) (dCons (dVar 6) dNil))) dNil)))) dNil))) (dIfS (dB (dOp neQ (dVar 7) (dVar 8))) (dPut 4 (dVar 7) (dVar 8)) dNext)) dNext) PD ρ := rfl
def bd_equated_1 : DS := (dFor (dZip (dCons (dVar 2) (dCons (dVar 3) dNil))) (dgTup 2 (dgCons (dgName 5) (dgCons (dgName 6) dgNil))) bd_equated_0)
theorem ebd_equated_1 (PD : PEnds) (ρ : Rho) : bd_equated_1 PD ρ = (dFor (dZip (dCons (dVar 2) (dCons (dVar 3) dNil))) (dgTup 2 (dgCons (dgName 5) (dgCons (dgName 6) dgNil))) bd_equated_0) PD ρ := rfl
def d_equated : DS := (dSeq (dIfS (dNot (dB (dBi allQ (dCons (dLc (dZip (dCons (dVar 0) (dCons (dVar 1) dNil))) (dgTup 2 (dgCons (dgName 2) (dgCons (dgName 3) dgNil))) dYes (dCall 2 p_are_similar (dCons (dVar 2) (dCons (dVar 3)
      dNil))) [2, 3]) dNil)))) (dRet (dC .non)) dNext) (dSeq (dOwn 4 dNewT) (dSeq (dFor (dZip (dCons (dVar 0) (dCons (dVar 1) dNil))) (dgTup 2 (dgCons (dgName 2) (dgCons (dgName 3) dgNil))) bd_equated_1) (dRet (dVar 4)))))
theorem neQ_n (a b : Nd) (Q : PV → Prop) : neQ (encN a) (encN b) Q = Q (.bl (!decide (a = b))) := by
  unfold neQ encN
  simp only [PV.dat, dats, Bool.and_true, true_and, PV.eqv, PV.toD, toDs, PyData.eqv, PyData.eqvAll]
  have e : (((a.1 : Int) == (b.1 : Int)) && ((a.2 : Int) == (b.2 : Int))) = decide (a = b) := by
    obtain ⟨a1, a2⟩ := a
    obtain ⟨b1, b2⟩ := b
    by_cases h1 : a1 = b1
    · by_cases h2 : a2 = b2
      · subst h1; subst h2; simp
      · rw [decide_eq_false (fun z => h2 (by injection z))]
        rw [show ((a2 : Int) == (b2 : Int)) = false from beq_eq_false_iff_ne.mpr (fun z => h2 (by exact Int.ofNat.inj z)), Bool.and_false]
    · rw [decide_eq_false (fun z => h1 (by injection z))]
      rw [show ((a1 : Int) == (b1 : Int)) = false from beq_eq_false_iff_ne.mpr (fun z => h1 (by exact Int.ofNat.inj z)), Bool.false_and]
  rw [e]
theorem putP_n {ps : List (Nd × Nd)} {h t : Nd} (hh : lk ps h = none) : putP (encPs ps) (keyN h) (encN t) = encPs (ps ++ [(h, t)]) := by
  unfold putP
  have e : ((encPs ps).any fun kv => decide (kv.1 = keyN h)) = false := by
    induction ps with
    | nil => rfl
    | cons e ps ih =>
      obtain ⟨k, v⟩ := e
      rw [lk] at hh
      split at hh
      · cases hh
      · rename_i hk
        show (decide (keyN k = keyN h) || _) = false
        rw [decide_eq_false (fun z => hk (keyN_inj z)), Bool.false_or]
        exact ih hh
  rw [e, if_neg (by decide)]
  unfold encPs
  rw [List.map_append]; rfl
theorem encN_imm (n : Nd) : (encN n).imm = true := rfl
theorem eq_loop (v0 v1 v2 v3 : Slot) (h0 : isOwn v0 = false) (h1 : isOwn v1 = false) (h2 : isOwn v2 = false) (h3 : isOwn v3 = false) (PD : PEnds) : ∀ (r s : Row) (ps : List (Nd × Nd)) (rep : Nd → Nd) (s5 s6 s7 s8 : Slot), isOwn s5 = false → isOwn s6 = false → isOwn s7 = false → isOwn s8 = false →
    (r.zip s).all (fun x => x.1.isNone == x.2.isNone) = true → IsRep ps rep → ps.length + r.length ≤ 10000000 →
    (∀ ps' s5 s6 s7 s8, isOwn s5 = false → isOwn s6 = false → isOwn s7 = false → isOwn s8 = false → IsRep ps' (eqd1 rep r s) → ps'.length ≤ ps.length + r.length → PD.nx [v0, v1, v2, v3, .own (.dit (encPs ps')), s5, s6, s7, s8]) →
    dLoop (dgTup 2 (dgCons (dgName 5) (dgCons (dgName 6) dgNil))) bd_equated_0 PD (zipP (r.map encO) (s.map encO)) [v0, v1, v2, v3, .own (.dit (encPs ps)), s5, s6, s7, s8]
  | [], s, ps, rep, s5, s6, s7, s8, g5, g6, g7, g8, _, hr, _, h => by
    rw [List.map_nil, show zipP [] (s.map encO) = [] by cases s <;> rfl, dLoop_nil]
    exact h ps s5 s6 s7 s8 g5 g6 g7 g8 (by rw [eqd1.eq_def]; exact hr) (by simp)
  | x :: r, [], ps, rep, s5, s6, s7, s8, g5, g6, g7, g8, _, hr, _, h => by
    rw [List.map_nil, show zipP ((x :: r).map encO) [] = [] from rfl, dLoop_nil]
    exact h ps s5 s6 s7 s8 g5 g6 g7 g8 (by cases x <;> exact hr) (by omega)
  | x :: r, y :: s, ps, rep, s5, s6, s7, s8, g5, g6, g7, g8, ha, hr, hl, h => by
    have e0 : (sizeLine : Nat) = 16777216 := by decide
    rw [List.zip_cons_cons, List.all_cons, Bool.and_eq_true] at ha
    obtain ⟨hxy, ha⟩ := ha
    rw [List.length_cons] at hl
    rw [List.map_cons, List.map_cons, zipP, dLoop_cons]
    show dgTup 2 _ _ _ _
    have own : ∀ (a b c d : Slot), isOwn a = false → isOwn b = false → isOwn c = false → isOwn d = false → noOwn [v0, v1, v2, v3, .un, a, b, c, d] = true := fun a b c d ga gb gc gd => by
      show (!isOwn v0 && (!isOwn v1 && (!isOwn v2 && (!isOwn v3 && (!isOwn Slot.un && (!isOwn a && (!isOwn b && (!isOwn c && (!isOwn d && true))))))))) = true
      rw [h0, h1, h2, h3, ga, gb, gc, gd]; rfl
    simp only [ebd_equated_0, dIfS, dB, dOp, dVar, dC, dgTup, dgCons, dgName, dgNil, notNQ, isNon_encO, List.getElem?_cons_zero, List.getElem?_cons_succ, List.set_cons_zero, List.set_cons_succ, List.length_cons, List.length_nil, if_true, if_false, Bool.true_eq_false, Bool.false_eq_true, if_pos, ite_true, ite_false, reduceIte, true_and, and_true, true_or, or_true, PV.scr.injEq, PV.int.injEq, PV.bl.injEq, PV.str.injEq, PV.lst.injEq, PV.tup.injEq, exists_eq_left, exists_eq_left', exists_eq_right, exists_eq_right', reduceCtorEq, or_false, false_or, forall_const, Nat.zero_le, Bool.not_true, Bool.not_false, decide_true, decide_false]
    cases x with
    | none =>
      have ey : y = none := by cases y <;> first | rfl | cases hxy
      subst ey
      simp only [Option.isNone_none, List.getElem?_cons_zero, List.getElem?_cons_succ, List.set_cons_zero, List.set_cons_succ, List.length_cons, List.length_nil, if_true, if_false, Bool.true_eq_false, Bool.false_eq_true, if_pos, ite_true, ite_false, reduceIte, true_and, and_true, true_or, or_true, PV.scr.injEq, PV.int.injEq, PV.bl.injEq, PV.str.injEq, PV.lst.injEq, PV.tup.injEq, exists_eq_left, exists_eq_left', exists_eq_right, exists_eq_right', reduceCtorEq, or_false, false_or, forall_const, Nat.zero_le, Bool.not_true, Bool.not_false, decide_true, decide_false, dNext]
      refine eq_loop v0 v1 v2 v3 h0 h1 h2 h3 PD r s ps rep _ _ _ _ rfl rfl g7 g8 ha hr (by omega) fun ps' s5 s6 s7 s8 g5 g6 g7 g8 i1 i2 => h ps' s5 s6 s7 s8 g5 g6 g7 g8 i1 (by rw [List.length_cons]; omega)
    | some i =>
      obtain ⟨j, rfl⟩ : ∃ j, y = some j := by cases y with
        | none => cases hxy
        | some j => exact ⟨j, rfl⟩
      simp only [Option.isNone_some, Bool.not_false, List.getElem?_cons_zero, List.getElem?_cons_succ, List.set_cons_zero, List.set_cons_succ, List.length_cons, List.length_nil, if_true, if_false, Bool.true_eq_false, Bool.false_eq_true, if_pos, ite_true, ite_false, reduceIte, true_and, and_true, true_or, or_true, PV.scr.injEq, PV.int.injEq, PV.bl.injEq, PV.str.injEq, PV.lst.injEq, PV.tup.injEq, exists_eq_left, exists_eq_left', exists_eq_right, exists_eq_right', reduceCtorEq, or_false, false_or, forall_const, Nat.zero_le, Bool.not_true, Bool.not_false, decide_true, decide_false]
      refine seq_i ?_
      simp only [dPar, dCons, dLend, dCall, dVar, dTup, dC, dNil, List.getElem?_cons_zero, List.getElem?_cons_succ, List.set_cons_zero, List.set_cons_succ, List.length_cons, List.length_nil, if_true, if_false, Bool.true_eq_false, Bool.false_eq_true, if_pos, ite_true, ite_false, reduceIte, true_and, and_true, true_or, or_true, PV.scr.injEq, PV.int.injEq, PV.bl.injEq, PV.str.injEq, PV.lst.injEq, PV.tup.injEq, exists_eq_left, exists_eq_left', exists_eq_right, exists_eq_right', reduceCtorEq, or_false, false_or, forall_const, Nat.zero_le, Bool.not_true, Bool.not_false, decide_true, decide_false, encO, sz2]
      refine ⟨own _ _ _ _ rfl rfl g7 g8, ps, rep, (0, i), rfl, hr, rfl, own _ _ _ _ rfl rfl g7 g8, ps, rep, (1, j), rfl, hr, rfl, ?_⟩
      simp only [dNext, dIfS, dRet, dRetN, dSet, dOwn, dVar, dC, dOp, dB, dChain, dAnd, dOr, dNot, dAndV, dOrV, dNotV, dIf, dNil, dCons, dTup, dLst, dDrop, dgName, dgNil, dgCons, dgTup, dAsg, dPar, dPar3, dParO, dParV, dAug, dCall, dBi, dIsi, dInS, dSl, doNone, doSome, dRevL, dRevS, dM1, dRg1, dListOf, dJoin, dNeg, dApp, dExt, dSetIx, endsOf, dFor, dIt, dZip, dEnum, dRange1, dRange2, itemsQ, dLc, wipeR, dTwn, dTwnSet, dTwnAug, dScrE, dScrL, dScrX, List.getElem?_cons_zero, List.getElem?_cons_succ, List.set_cons_zero, List.set_cons_succ, List.length_cons, List.length_nil, if_true, if_false, Bool.true_eq_false, Bool.false_eq_true, if_pos, ite_true, ite_false, reduceIte, true_and, and_true, true_or, or_true, PV.scr.injEq, PV.int.injEq, PV.bl.injEq, PV.str.injEq, PV.lst.injEq, PV.tup.injEq, exists_eq_left, exists_eq_left', exists_eq_right, exists_eq_right', reduceCtorEq, or_false, false_or, forall_const, Nat.zero_le, Bool.not_true, Bool.not_false, decide_true, decide_false, neQ_n]
      have fin : ∀ ps' : List (Nd × Nd), IsRep ps' (uni rep (0, i) (1, j)) → ps'.length ≤ ps.length + 1 → dLoop (dgTup 2 (dgCons (dgName 5) (dgCons (dgName 6) dgNil))) bd_equated_0 PD (zipP (r.map encO) (s.map encO)) [v0, v1, v2, v3, .own (.dit (encPs ps')), .val (.int i), .val (.int j), .val (encN (rep (0, i))), .val (encN (rep (1, j)))] := fun ps' hr' hl' =>
        eq_loop v0 v1 v2 v3 h0 h1 h2 h3 PD r s ps' _ _ _ _ _ rfl rfl rfl rfl ha hr' (by omega) fun ps2 s5 s6 s7 s8 g5 g6 g7 g8 i1 i2 => h ps2 s5 s6 s7 s8 g5 g6 g7 g8 i1 (by rw [List.length_cons]; omega)
      by_cases e : rep (0, i) = rep (1, j)
      · simp only [e, decide_true, Bool.not_true, List.getElem?_cons_zero, List.getElem?_cons_succ, List.set_cons_zero, List.set_cons_succ, List.length_cons, List.length_nil, if_true, if_false, Bool.true_eq_false, Bool.false_eq_true, if_pos, ite_true, ite_false, reduceIte, true_and, and_true, true_or, or_true, PV.scr.injEq, PV.int.injEq, PV.bl.injEq, PV.str.injEq, PV.lst.injEq, PV.tup.injEq, exists_eq_left, exists_eq_left', exists_eq_right, exists_eq_right', reduceCtorEq, or_false, false_or, forall_const, Nat.zero_le, Bool.not_true, Bool.not_false, decide_true, decide_false]
        have := fin ps (by rw [uni_same e]; exact hr) (by omega)
        rw [e] at this
        exact this
      · simp only [decide_eq_false e, Bool.not_false, List.getElem?_cons_zero, List.getElem?_cons_succ, List.set_cons_zero, List.set_cons_succ, List.length_cons, List.length_nil, if_true, if_false, Bool.true_eq_false, Bool.false_eq_true, if_pos, ite_true, ite_false, reduceIte, true_and, and_true, true_or, or_true, PV.scr.injEq, PV.int.injEq, PV.bl.injEq, PV.str.injEq, PV.lst.injEq, PV.tup.injEq, exists_eq_left, exists_eq_left', exists_eq_right, exists_eq_right', reduceCtorEq, or_false, false_or, forall_const, Nat.zero_le, Bool.not_true, Bool.not_false, decide_true, decide_false]
        obtain ⟨k0, f0⟩ := hr (0, i)
        simp only [dPut, dVar, List.getElem?_cons_zero, List.getElem?_cons_succ, List.set_cons_zero, List.set_cons_succ, List.length_cons, List.length_nil, if_true, if_false, Bool.true_eq_false, Bool.false_eq_true, if_pos, ite_true, ite_false, reduceIte, true_and, and_true, true_or, or_true, PV.scr.injEq, PV.int.injEq, PV.bl.injEq, PV.str.injEq, PV.lst.injEq, PV.tup.injEq, exists_eq_left, exists_eq_left', exists_eq_right, exists_eq_right', reduceCtorEq, or_false, false_or, forall_const, Nat.zero_le, Bool.not_true, Bool.not_false, decide_true, decide_false, ownD, true_and]
        show (encPs ps).length < sizeLine ∧ _
        refine ⟨by unfold encPs; rw [List.length_map]; omega, ?_⟩
        rw [show ([.inl ((rep (0, i)).1 : Int), .inl ((rep (0, i)).2 : Int)] : List Key) = keyN (rep (0, i)) from rfl, putP_n f0.root]
        exact fin _ (hr.uni e) (by rw [List.length_append]; exact Nat.le_refl _)
theorem rng_map (n : Nat) : rngP 0 n = (List.range n).map fun i => PV.int (i : Nat) := by
  apply List.ext_getElem?
  intro i
  by_cases hi : i < n
  · rw [List.getElem?_map, List.getElem?_range hi]
    have hl : i < (rngP 0 n).length := by rw [rngP_length]; exact hi
    rw [List.getElem?_eq_getElem hl]
    have := rngP_get (List.getElem?_eq_getElem hl)
    rw [this, Int.zero_add]; rfl
  · rw [List.getElem?_eq_none (by rw [rngP_length]; omega), List.getElem?_eq_none (by rw [List.length_map, List.length_range]; omega)]
theorem simB_all {r s : Row} (h : simB r s = true) : (r.zip s).all (fun x => x.1.isNone == x.2.isNone) = true := by
  unfold simB at h
  rw [Bool.and_eq_true] at h
  exact h.2
theorem eqA_loop (v0 v1 : Slot) (h0 : isOwn v0 = false) (h1 : isOwn v1 = false) (PD : PEnds) : ∀ (R S : List Row) (ps : List (Nd × Nd)) (rep : Nd → Nd) (s2 s3 s5 s6 s7 s8 : Slot), isOwn s2 = false → isOwn s3 = false → isOwn s5 = false → isOwn s6 = false → isOwn s7 = false → isOwn s8 = false →
    simA R S = true → IsRep ps rep → ps.length + 1000000 * R.length ≤ 10000000 → (∀ r ∈ R, r.length ≤ 1000000) →
    (∀ ps' s2 s3 s5 s6 s7 s8, IsRep ps' (eqdA rep R S) → PD.nx [v0, v1, s2, s3, .own (.dit (encPs ps')), s5, s6, s7, s8]) →
    dLoop (dgTup 2 (dgCons (dgName 2) (dgCons (dgName 3) dgNil))) bd_equated_1 PD (zipP (R.map encT) (S.map encT)) [v0, v1, s2, s3, .own (.dit (encPs ps)), s5, s6, s7, s8]
  | [], S, ps, rep, s2, s3, s5, s6, s7, s8, _, _, _, _, _, _, _, hr, _, _, h => by
    rw [List.map_nil, show zipP [] (S.map encT) = [] by cases S <;> rfl, dLoop_nil]
    exact h ps _ _ _ _ _ _ (by rw [eqdA.eq_def]; exact hr)
  | r :: R, [], ps, rep, s2, s3, s5, s6, s7, s8, _, _, _, _, _, _, _, hr, _, _, h => by
    rw [List.map_nil, show zipP ((r :: R).map encT) [] = [] from rfl, dLoop_nil]
    exact h ps _ _ _ _ _ _ hr
  | r :: R, s :: S, ps, rep, s2, s3, s5, s6, s7, s8, g2, g3, g5, g6, g7, g8, ha, hr, hl, hb, h => by
    unfold simA at ha
    rw [List.zip_cons_cons, List.all_cons, Bool.and_eq_true] at ha
    rw [List.length_cons] at hl
    have hrl := hb r List.mem_cons_self
    rw [List.map_cons, List.map_cons, zipP, dLoop_cons]
    show dgTup 2 _ _ _ _
    simp only [ebd_equated_1, dFor, dZip, dCons, dNil, dVar, dgTup, dgCons, dgName, dgNil, List.getElem?_cons_zero, List.getElem?_cons_succ, List.set_cons_zero, List.set_cons_succ, List.length_cons, List.length_nil, if_true, if_false, Bool.true_eq_false, Bool.false_eq_true, if_pos, ite_true, ite_false, reduceIte, true_and, and_true, true_or, or_true, PV.scr.injEq, PV.int.injEq, PV.bl.injEq, PV.str.injEq, PV.lst.injEq, PV.tup.injEq, exists_eq_left, exists_eq_left', exists_eq_right, exists_eq_right', reduceCtorEq, or_false, false_or, forall_const, Nat.zero_le, Bool.not_true, Bool.not_false, decide_true, decide_false, encT, itemsQ]
    refine eq_loop v0 v1 _ _ h0 h1 rfl rfl _ r s ps rep _ _ _ _ g5 g6 g7 g8 (simB_all ha.1) hr (by omega) fun ps' s5 s6 s7 s8 g5 g6 g7 g8 i1 i2 => ?_
    exact eqA_loop v0 v1 h0 h1 PD R S ps' _ _ _ _ _ _ _ rfl rfl g5 g6 g7 g8 ha.2 i1 (by omega) (fun x hx => hb x (List.mem_cons_of_mem _ hx)) h
theorem IsRep.nil : IsRep [] id := fun n => ⟨0, .nil rfl⟩
theorem h_equated : ∀ (as : List PV) (post : PV → Prop), as.length = 2 → p_equated as post → d_equated (endsOf post) (startR 9 as) := by
  rintro as post _ ⟨R, S, rfl, hl, hb, q1, q2⟩
  have e0 : (sizeLine : Nat) = 16777216 := by decide
  show d_equated _ [.val (.lst (R.map encT)), .val (.lst (S.map encT)), .un, .un, .un, .un, .un, .un, .un]
  refine seq_i ?_
  simp only [dNext, dIfS, dRet, dRetN, dSet, dOwn, dVar, dC, dOp, dB, dChain, dAnd, dOr, dNot, dAndV, dOrV, dNotV, dIf, dNil, dCons, dTup, dLst, dDrop, dgName, dgNil, dgCons, dgTup, dAsg, dPar, dPar3, dParO, dParV, dAug, dCall, dBi, dIsi, dInS, dSl, doNone, doSome, dRevL, dRevS, dM1, dRg1, dListOf, dJoin, dNeg, dApp, dExt, dSetIx, endsOf, dFor, dIt, dZip, dEnum, dRange1, dRange2, itemsQ, dLc, wipeR, dTwn, dTwnSet, dTwnAug, dScrE, dScrL, dScrX, List.getElem?_cons_zero, List.getElem?_cons_succ, List.set_cons_zero, List.set_cons_succ, List.length_cons, List.length_nil, if_true, if_false, Bool.true_eq_false, Bool.false_eq_true, if_pos, ite_true, ite_false, reduceIte, true_and, and_true, true_or, or_true, PV.scr.injEq, PV.int.injEq, PV.bl.injEq, PV.str.injEq, PV.lst.injEq, PV.tup.injEq, exists_eq_left, exists_eq_left', exists_eq_right, exists_eq_right', reduceCtorEq, or_false, false_or, forall_const, Nat.zero_le, Bool.not_true, Bool.not_false, decide_true, decide_false]
  rw [zipP_map]
  refine ⟨fun i hi s hs => ?_, by rw [List.length_map, List.length_zip]; omega, lcLoop_map (f := fun p => match p with | .tup [.tup x, .tup y] => .bl (simB (x.map fun p => match p with | .int n => some n.toNat | _ => none) (y.map fun p => match p with | .int n => some n.toNat | _ => none)) | p => p) (fun x hx P hP => ?_) ?_⟩
  · rcases List.mem_cons.mp hi with rfl | hi
    · simp only [List.getElem?_cons_zero, List.getElem?_cons_succ, List.set_cons_zero, List.set_cons_succ, List.length_cons, List.length_nil, if_true, if_false, Bool.true_eq_false, Bool.false_eq_true, if_pos, ite_true, ite_false, reduceIte, true_and, and_true, true_or, or_true, PV.scr.injEq, PV.int.injEq, PV.bl.injEq, PV.str.injEq, PV.lst.injEq, PV.tup.injEq, exists_eq_left, exists_eq_left', exists_eq_right, exists_eq_right', reduceCtorEq, or_false, false_or, forall_const, Nat.zero_le, Bool.not_true, Bool.not_false, decide_true, decide_false, Option.some.injEq] at hs; subst hs; rfl
    · rcases List.mem_cons.mp hi with rfl | hi
      · simp only [List.getElem?_cons_zero, List.getElem?_cons_succ, List.set_cons_zero, List.set_cons_succ, List.length_cons, List.length_nil, if_true, if_false, Bool.true_eq_false, Bool.false_eq_true, if_pos, ite_true, ite_false, reduceIte, true_and, and_true, true_or, or_true, PV.scr.injEq, PV.int.injEq, PV.bl.injEq, PV.str.injEq, PV.lst.injEq, PV.tup.injEq, exists_eq_left, exists_eq_left', exists_eq_right, exists_eq_right', reduceCtorEq, or_false, false_or, forall_const, Nat.zero_le, Bool.not_true, Bool.not_false, decide_true, decide_false, Option.some.injEq] at hs; subst hs; rfl
      · cases hi
  · obtain ⟨y, hy, rfl⟩ := List.mem_map.mp hx
    have hy1 : y.1 ∈ R := (List.of_mem_zip hy).1
    simp only [dYes, dSeq, dNext, dIfS, dRet, dRetN, dSet, dOwn, dVar, dC, dOp, dB, dChain, dAnd, dOr, dNot, dAndV, dOrV, dNotV, dIf, dNil, dCons, dTup, dLst, dDrop, dgName, dgNil, dgCons, dgTup, dAsg, dPar, dPar3, dParO, dParV, dAug, dCall, dBi, dIsi, dInS, dSl, doNone, doSome, dRevL, dRevS, dM1, dRg1, dListOf, dJoin, dNeg, dApp, dExt, dSetIx, endsOf, dFor, dIt, dZip, dEnum, dRange1, dRange2, itemsQ, dLc, wipeR, dTwn, dTwnSet, dTwnAug, dScrE, dScrL, dScrX, List.getElem?_cons_zero, List.getElem?_cons_succ, List.set_cons_zero, List.set_cons_succ, List.length_cons, List.length_nil, if_true, if_false, Bool.true_eq_false, Bool.false_eq_true, if_pos, ite_true, ite_false, reduceIte, true_and, and_true, true_or, or_true, PV.scr.injEq, PV.int.injEq, PV.bl.injEq, PV.str.injEq, PV.lst.injEq, PV.tup.injEq, exists_eq_left, exists_eq_left', exists_eq_right, exists_eq_right', reduceCtorEq, or_false, false_or, forall_const, Nat.zero_le, Bool.not_true, Bool.not_false, decide_true, decide_false]
    refine ⟨y.1, y.2, rfl, hb _ hy1, ?_⟩
    have dec : ∀ r : Row, (r.map encO).map (fun p => match p with | PV.int n => some n.toNat | _ => none) = r := fun r => by
      rw [List.map_map]
      conv => rhs; rw [← List.map_id r]
      apply List.map_congr_left
      intro x _
      cases x with
      | none => rfl
      | some n => rfl
    simp only [encT, dec] at hP
    exact hP
  · rw [List.map_map]
    have dec : ∀ r : Row, (r.map encO).map (fun p => match p with | PV.int n => some n.toNat | _ => none) = r := fun r => by
      rw [List.map_map]
      conv => rhs; rw [← List.map_id r]
      apply List.map_congr_left
      intro x _
      cases x with
      | none => rfl
      | some n => rfl
    have e : (R.zip S).map ((fun p => match p with | PV.tup [.tup x, .tup y] => PV.bl (simB (x.map fun p => match p with | .int n => some n.toNat | _ => none) (y.map fun p => match p with | .int n => some n.toNat | _ => none)) | p => p) ∘ fun x => PV.tup [encT x.1, encT x.2]) = (R.zip S).map fun x => PV.bl (simB x.1 x.2) := by
      apply List.map_congr_left
      intro x _
      show PV.bl _ = _
      simp only [dec]
    rw [e]
    rw [allQ_map]
    show (if (!(simA R S)) = true then _ else _)
    cases hs : simA R S with
    | false => exact q1 hs
    | true =>
      simp only [Bool.not_true, List.getElem?_cons_zero, List.getElem?_cons_succ, List.set_cons_zero, List.set_cons_succ, List.length_cons, List.length_nil, if_true, if_false, Bool.true_eq_false, Bool.false_eq_true, if_pos, ite_true, ite_false, reduceIte, true_and, and_true, true_or, or_true, PV.scr.injEq, PV.int.injEq, PV.bl.injEq, PV.str.injEq, PV.lst.injEq, PV.tup.injEq, exists_eq_left, exists_eq_left', exists_eq_right, exists_eq_right', reduceCtorEq, or_false, false_or, forall_const, Nat.zero_le, Bool.not_true, Bool.not_false, decide_true, decide_false]
      refine seq_i ?_
      simp only [dOwn, dNewT, List.getElem?_cons_zero, List.getElem?_cons_succ, List.set_cons_zero, List.set_cons_succ, List.length_cons, List.length_nil, if_true, if_false, Bool.true_eq_false, Bool.false_eq_true, if_pos, ite_true, ite_false, reduceIte, true_and, and_true, true_or, or_true, PV.scr.injEq, PV.int.injEq, PV.bl.injEq, PV.str.injEq, PV.lst.injEq, PV.tup.injEq, exists_eq_left, exists_eq_left', exists_eq_right, exists_eq_right', reduceCtorEq, or_false, false_or, forall_const, Nat.zero_le, Bool.not_true, Bool.not_false, decide_true, decide_false]
      refine seq_i ?_
      simp only [dFor, dZip, dCons, dNil, dVar, List.getElem?_cons_zero, List.getElem?_cons_succ, List.set_cons_zero, List.set_cons_succ, List.length_cons, List.length_nil, if_true, if_false, Bool.true_eq_false, Bool.false_eq_true, if_pos, ite_true, ite_false, reduceIte, true_and, and_true, true_or, or_true, PV.scr.injEq, PV.int.injEq, PV.bl.injEq, PV.str.injEq, PV.lst.injEq, PV.tup.injEq, exists_eq_left, exists_eq_left', exists_eq_right, exists_eq_right', reduceCtorEq, or_false, false_or, forall_const, Nat.zero_le, Bool.not_true, Bool.not_false, decide_true, decide_false, itemsQ]
      refine eqA_loop _ _ rfl rfl _ R S [] id _ _ _ _ _ _ rfl rfl rfl rfl rfl rfl hs IsRep.nil (by simp only [List.length_nil]; omega) hb fun ps' s2 s3 s5 s6 s7 s8 i1 => ?_
      simp only [dRet, dVar, List.getElem?_cons_zero, List.getElem?_cons_succ, List.set_cons_zero, List.set_cons_succ, List.length_cons, List.length_nil, if_true, if_false, Bool.true_eq_false, Bool.false_eq_true, if_pos, ite_true, ite_false, reduceIte, true_and, and_true, true_or, or_true, PV.scr.injEq, PV.int.injEq, PV.bl.injEq, PV.str.injEq, PV.lst.injEq, PV.tup.injEq, exists_eq_left, exists_eq_left', exists_eq_right, exists_eq_right', reduceCtorEq, or_false, false_or, forall_const, Nat.zero_le, Bool.not_true, Bool.not_false, decide_true, decide_false]
      exact q2 hs ps' i1
end PL

set_option Elab.async false
set_option linter.all false
set_option maxRecDepth 100000
set_option maxHeartbeats 4000000
/-! counterexamples -/
namespace PL
open PySem PySem.Spec L2
open TL (tl len_tl ext_tl tl_append joinL tl_join join_eq)

/-! ### strings_of -/
def sideT (rep : Nd → Nd) (s l : Nat) (ch : Option Nd) : T := (List.range l).map fun i => if ch = some (rep (s, i)) then 98 else 97
def encCh : Option Nd → PV
  | none => .non
  | some n => encN n
def encTx (t : T) : PV := .str (strT t)
def p_strings_of : PSp := fun as Q => ∃ (ps : List (Nd × Nd)) (rep : Nd → Nd) (l o : Nat) (ch : Option Nd), as = [.dit (encPs ps), .int l, .int o, encCh ch] ∧ IsRep ps rep ∧ l ≤ 1000000 ∧ o ≤ 1000000 ∧ Q (.tup [encTx (sideT rep 0 l ch), encTx (sideT rep 1 o ch)])
theorem m_strings_of : MonoP p_strings_of := fun _ _ _ h ⟨v, a, b, c, d, e, z, y, x, q⟩ => ⟨v, a, b, c, d, e, z, y, x, h _ q⟩
def bd_strings_of_0 : DS := (dApp 4 (dJoin (dC (.str (Str.ofString ""))) (dLc (dRange1 (dCons (dVar 6) dNil)) (dgName 7) dYes (dIf (dB (dOp eqQ (dCall 2 p_head (dCons (dVar 0) (dCons (dTup (dCons (dVar 5) (dCons (dVar 7) dNil)))
      dNil))) (dVar 3))) (dC (.str (Str.ofString "b"))) (dC (.str (Str.ofString "a")))) [7])))
theorem ebd_strings_of_0 (PD : PEnds) (ρ : Rho) : bd_strings_of_0 PD ρ = (dApp 4 (dJoin (dC (.str (Str.ofString ""))) (dLc (dRange1 (dCons (dVar 6) dNil)) (dgName 7) dYes (dIf (dB (dOp eqQ (dCall 2 p_head (dCons (dVar 0) (dCons
      (dTup (dCons (dVar 5) (dCons (dVar 7) dNil))) dNil))) (dVar 3))) (dC (.str (Str.ofString "b"))) (dC (.str (Str.ofString "a")))) [7]))) PD ρ := rfl
def d_strings_of : DS := (dSeq (dOwn 4 (dLst dNil)) (dSeq (dFor (dIt (dTup (dCons (dTup (dCons (dC (.int 0)) (dCons (dVar 1) dNil))) (dCons (dTup (dCons (dC (.int 1)) (dCons (dVar 2) dNil))) dNil)))) (dgTup 2 (dgCons (dgName 5)
      (dgCons (dgName 6) dgNil))) bd_strings_of_0) (dRet (dBi tupleQ (dCons (dVar 4) dNil)))))
theorem eqQ_n (a b : Nd) (Q : PV → Prop) : eqQ (encN a) (encN b) Q = Q (.bl (decide (a = b))) := by
  have := neQ_n a b
  unfold neQ at this
  unfold eqQ
  have t1 : (encN a).dat 16 = true := rfl
  have t2 : (encN b).dat 16 = true := rfl
  simp only [t1, t2, true_and] at this ⊢
  have h := this (fun v => v = .bl (!decide (a = b)))
  have e : (encN a).eqv (encN b) = decide (a = b) := by
    have h2 : (PV.bl (!(encN a).eqv (encN b)) = PV.bl (!decide (a = b))) := by rw [h]
    injection h2 with h2
    simpa using h2
  rw [e]
theorem eqQ_nch (a : Nd) (ch : Option Nd) (Q : PV → Prop) : eqQ (encN a) (encCh ch) Q = Q (.bl (decide (ch = some a))) := by
  cases ch with
  | none =>
    have t1 : (encN a).dat 16 = true := rfl
    show ((encN a).dat 16 = true ∧ PV.non.dat 16 = true ∧ Q (.bl ((encN a).eqv .non))) = _
    rw [decide_eq_false (fun z => by cases z)]
    have t2 : PV.non.dat 16 = true := rfl
    rw [t1, t2]
    simp only [true_and]
    rfl
  | some b =>
    show eqQ (encN a) (encN b) Q = _
    rw [eqQ_n]
    congr 2
    rw [show decide (some b = some a) = decide (a = b) from decide_eq_decide.mpr ⟨fun h => by injection h with h; exact h.symm, fun h => by rw [h]⟩]
theorem so_i {ps : List (Nd × Nd)} {rep : Nd → Nd} (hr : IsRep ps rep) (l o s : Nat) (ch : Option Nd) (n : Nat) (hn : n ≤ 1000000) (acc : List T) (ha : acc.length ≤ 5) (s7 : Slot) (g7 : isOwn s7 = false) (PD : PEnds)
    (h : PD.nx [.val (.dit (encPs ps)), .val (.int l), .val (.int o), .val (encCh ch), .own (.lst ((acc ++ [sideT rep s n ch]).map encTx)), .val (.int s), .val (.int n), s7]) :
    bd_strings_of_0 PD [.val (.dit (encPs ps)), .val (.int l), .val (.int o), .val (encCh ch), .own (.lst (acc.map encTx)), .val (.int s), .val (.int n), s7] := by
  have big := big
  simp only [ebd_strings_of_0, dApp, ownL, List.getElem?_cons_zero, List.getElem?_cons_succ, List.set_cons_zero, List.set_cons_succ, List.length_cons, List.length_nil, if_true, if_false, Bool.true_eq_false, Bool.false_eq_true, if_pos, ite_true, ite_false, reduceIte, true_and, and_true, true_or, or_true, PV.scr.injEq, PV.int.injEq, PV.bl.injEq, PV.str.injEq, PV.lst.injEq, PV.tup.injEq, exists_eq_left, exists_eq_left', exists_eq_right, exists_eq_right', reduceCtorEq, or_false, false_or, forall_const, Nat.zero_le, Bool.not_true, Bool.not_false, decide_true, decide_false, dJoin, dC, isS, dLc, dRange1, dCons, dNil, dVar, wipeR]
  rw [Int.toNat_natCast, rng_map]
  refine ⟨by omega, by omega, one_un rfl g7, by rw [List.length_map, List.length_range]; omega, lcLoop_mapA (f := fun i => chP (if ch = some (rep (s, i)) then 98 else 97)) (fun i hi P hP => ?_) ?_⟩
  · simp only [dYes, dSeq, dNext, dIfS, dRet, dRetN, dSet, dOwn, dVar, dC, dOp, dB, dChain, dAnd, dOr, dNot, dAndV, dOrV, dNotV, dIf, dNil, dCons, dTup, dLst, dDrop, dgName, dgNil, dgCons, dgTup, dAsg, dPar, dPar3, dParO, dParV, dAug, dCall, dBi, dIsi, dInS, dSl, doNone, doSome, dRevL, dRevS, dM1, dRg1, dListOf, dJoin, dNeg, dApp, dExt, dSetIx, endsOf, dFor, dIt, dZip, dEnum, dRange1, dRange2, itemsQ, dLc, wipeR, dTwn, dTwnSet, dTwnAug, dScrE, dScrL, dScrX, List.getElem?_cons_zero, List.getElem?_cons_succ, List.set_cons_zero, List.set_cons_succ, List.length_cons, List.length_nil, if_true, if_false, Bool.true_eq_false, Bool.false_eq_true, if_pos, ite_true, ite_false, reduceIte, true_and, and_true, true_or, or_true, PV.scr.injEq, PV.int.injEq, PV.bl.injEq, PV.str.injEq, PV.lst.injEq, PV.tup.injEq, exists_eq_left, exists_eq_left', exists_eq_right, exists_eq_right', reduceCtorEq, or_false, false_or, forall_const, Nat.zero_le, Bool.not_true, Bool.not_false, decide_true, decide_false, sz2]
    refine ⟨ps, rep, (s, i), rfl, hr, ?_⟩
    simp only [eqQ_nch]
    by_cases hc : ch = some (rep (s, i))
    · rw [if_pos hc] at hP
      simp only [decide_eq_true hc, List.getElem?_cons_zero, List.getElem?_cons_succ, List.set_cons_zero, List.set_cons_succ, List.length_cons, List.length_nil, if_true, if_false, Bool.true_eq_false, Bool.false_eq_true, if_pos, ite_true, ite_false, reduceIte, true_and, and_true, true_or, or_true, PV.scr.injEq, PV.int.injEq, PV.bl.injEq, PV.str.injEq, PV.lst.injEq, PV.tup.injEq, exists_eq_left, exists_eq_left', exists_eq_right, exists_eq_right', reduceCtorEq, or_false, false_or, forall_const, Nat.zero_le, Bool.not_true, Bool.not_false, decide_true, decide_false]; exact hP
    · rw [if_neg hc] at hP
      simp only [decide_eq_false hc, List.getElem?_cons_zero, List.getElem?_cons_succ, List.set_cons_zero, List.set_cons_succ, List.length_cons, List.length_nil, if_true, if_false, Bool.true_eq_false, Bool.false_eq_true, if_pos, ite_true, ite_false, reduceIte, true_and, and_true, true_or, or_true, PV.scr.injEq, PV.int.injEq, PV.bl.injEq, PV.str.injEq, PV.lst.injEq, PV.tup.injEq, exists_eq_left, exists_eq_left', exists_eq_right, exists_eq_right', reduceCtorEq, or_false, false_or, forall_const, Nat.zero_le, Bool.not_true, Bool.not_false, decide_true, decide_false]; exact hP
  · have e : (List.range n).map (fun i => chP (if ch = some (rep (s, i)) then 98 else 97)) = (sideT rep s n ch).map chP := by
      unfold sideT
      rw [List.map_map]
      rfl
    rw [e]
    refine joinC_ch (by unfold sideT; rw [List.length_map, List.length_range]; exact hn) (fun c hc => ?_) _ ?_
    · unfold sideT at hc
      obtain ⟨i, _, rfl⟩ := List.mem_map.mp hc
      split <;> decide
    · refine ⟨by rw [List.length_map]; omega, ?_⟩
      rw [List.map_append] at h
      exact h
theorem h_strings_of : ∀ (as : List PV) (post : PV → Prop), as.length = 4 → p_strings_of as post → d_strings_of (endsOf post) (startR 8 as) := by
  rintro as post _ ⟨ps, rep, l, o, ch, rfl, hr, hl, ho, q⟩
  show d_strings_of _ [.val (.dit (encPs ps)), .val (.int l), .val (.int o), .val (encCh ch), .un, .un, .un, .un]
  refine seq_i ?_
  simp only [dOwn, dLst, dNil, List.getElem?_cons_zero, List.getElem?_cons_succ, List.set_cons_zero, List.set_cons_succ, List.length_cons, List.length_nil, if_true, if_false, Bool.true_eq_false, Bool.false_eq_true, if_pos, ite_true, ite_false, reduceIte, true_and, and_true, true_or, or_true, PV.scr.injEq, PV.int.injEq, PV.bl.injEq, PV.str.injEq, PV.lst.injEq, PV.tup.injEq, exists_eq_left, exists_eq_left', exists_eq_right, exists_eq_right', reduceCtorEq, or_false, false_or, forall_const, Nat.zero_le, Bool.not_true, Bool.not_false, decide_true, decide_false]
  refine seq_i ?_
  simp only [dFor, dIt, dTup, dCons, dNil, dC, dVar, List.getElem?_cons_zero, List.getElem?_cons_succ, List.set_cons_zero, List.set_cons_succ, List.length_cons, List.length_nil, if_true, if_false, Bool.true_eq_false, Bool.false_eq_true, if_pos, ite_true, ite_false, reduceIte, true_and, and_true, true_or, or_true, PV.scr.injEq, PV.int.injEq, PV.bl.injEq, PV.str.injEq, PV.lst.injEq, PV.tup.injEq, exists_eq_left, exists_eq_left', exists_eq_right, exists_eq_right', reduceCtorEq, or_false, false_or, forall_const, Nat.zero_le, Bool.not_true, Bool.not_false, decide_true, decide_false, sz2, itemsQ]
  rw [dLoop_cons]
  simp only [dgTup, dgCons, dgName, dgNil, List.getElem?_cons_zero, List.getElem?_cons_succ, List.set_cons_zero, List.set_cons_succ, List.length_cons, List.length_nil, if_true, if_false, Bool.true_eq_false, Bool.false_eq_true, if_pos, ite_true, ite_false, reduceIte, true_and, and_true, true_or, or_true, PV.scr.injEq, PV.int.injEq, PV.bl.injEq, PV.str.injEq, PV.lst.injEq, PV.tup.injEq, exists_eq_left, exists_eq_left', exists_eq_right, exists_eq_right', reduceCtorEq, or_false, false_or, forall_const, Nat.zero_le, Bool.not_true, Bool.not_false, decide_true, decide_false]
  refine so_i (acc := []) hr l o 0 ch l hl (by simp) _ rfl _ ?_
  dsimp only
  rw [dLoop_cons]
  simp only [dgTup, dgCons, dgName, dgNil, List.getElem?_cons_zero, List.getElem?_cons_succ, List.set_cons_zero, List.set_cons_succ, List.length_cons, List.length_nil, if_true, if_false, Bool.true_eq_false, Bool.false_eq_true, if_pos, ite_true, ite_false, reduceIte, true_and, and_true, true_or, or_true, PV.scr.injEq, PV.int.injEq, PV.bl.injEq, PV.str.injEq, PV.lst.injEq, PV.tup.injEq, exists_eq_left, exists_eq_left', exists_eq_right, exists_eq_right', reduceCtorEq, or_false, false_or, forall_const, Nat.zero_le, Bool.not_true, Bool.not_false, decide_true, decide_false]
  refine so_i (acc := [sideT rep 0 l ch]) hr l o 1 ch o ho (by simp) _ rfl _ ?_
  dsimp only
  rw [dLoop_nil]
  simp only [dRet, dBi, dCons, dNil, dVar, List.getElem?_cons_zero, List.getElem?_cons_succ, List.set_cons_zero, List.set_cons_succ, List.length_cons, List.length_nil, if_true, if_false, Bool.true_eq_false, Bool.false_eq_true, if_pos, ite_true, ite_false, reduceIte, true_and, and_true, true_or, or_true, PV.scr.injEq, PV.int.injEq, PV.bl.injEq, PV.str.injEq, PV.lst.injEq, PV.tup.injEq, exists_eq_left, exists_eq_left', exists_eq_right, exists_eq_right', reduceCtorEq, or_false, false_or, forall_const, Nat.zero_le, Bool.not_true, Bool.not_false, decide_true, decide_false, tupleQ]
  exact q
/-! ### parted -/
def findP (rep : Nd → Nd) : Row → Row → Option Nd
  | some i :: r, some j :: s => if rep (0, i) = rep (1, j) then findP rep r s else some (rep (0, i))
  | _ :: r, _ :: s => findP rep r s
  | _, _ => none
def pairT (rep : Nd → Nd) (l o : Nat) (ch : Option Nd) : T × T := (sideT rep 0 l ch, sideT rep 1 o ch)
def partP (rep : Nd → Nd) (r s : Row) (l o : Nat) : Option (T × T) :=
  if simB r s = true then (findP rep r s).map fun c => pairT rep l o (some c) else some (pairT rep l o none)
def encPr : Option (T × T) → PV
  | none => .non
  | some x => .tup [encTx x.1, encTx x.2]
def p_parted : PSp := fun as Q => ∃ (ps : List (Nd × Nd)) (rep : Nd → Nd) (r s : Row) (l o : Nat), as = [.dit (encPs ps), encT r, encT s, .int l, .int o] ∧ IsRep ps rep ∧ r.length ≤ 1000000 ∧ l ≤ 1000000 ∧ o ≤ 1000000 ∧ Q (encPr (partP rep r s l o))
theorem m_parted : MonoP p_parted := fun _ _ _ h ⟨v, a, b, c, d, f, e, z, y, x, w, q⟩ => ⟨v, a, b, c, d, f, e, z, y, x, w, h _ q⟩
def bd_parted_0 : DS := (dIfS (dAnd (dB (dOp notNQ (dVar 5) (dC .non))) (dB (dOp neQ (dCall 2 p_head (dCons (dVar 0) (dCons (dTup (dCons (dC (.int 0)) (dCons (dVar 5) dNil))) dNil))) (dCall 2 p_head (dCons (dVar 0) (dCons (dTup
      (dCons (dC (.int 1)) (dCons (dVar 6) dNil))) dNil)))))) (dRet (dCall 4 p_strings_of (dCons (dVar 0) (dCons (dVar 3) (dCons (dVar 4) (dCons (dCall 2 p_head (dCons (dVar 0) (dCons (dTup (dCons (dC (.int 0)) (dCons (dVar 5) dNil)))
      dNil))) dNil)))))) dNext)
theorem ebd_parted_0 (PD : PEnds) (ρ : Rho) : bd_parted_0 PD ρ = (dIfS (dAnd (dB (dOp notNQ (dVar 5) (dC .non))) (dB (dOp neQ (dCall 2 p_head (dCons (dVar 0) (dCons (dTup (dCons (dC (.int 0)) (dCons (dVar 5) dNil))) dNil))) (dCall
      2 p_head (dCons (dVar 0) (dCons (dTup (dCons (dC (.int 1)) (dCons (dVar 6) dNil))) dNil)))))) (dRet (dCall 4 p_strings_of (dCons (dVar 0) (dCons (dVar 3) (dCons (dVar 4) (dCons (dCall 2 p_head (dCons (dVar 0) (dCons (dTup (dCons
      (dC (.int 0)) (dCons (dVar 5) dNil))) dNil))) dNil)))))) dNext) PD ρ := rfl
def d_parted : DS := (dSeq (dIfS (dNot (dB (dCall 2 p_are_similar (dCons (dVar 1) (dCons (dVar 2) dNil))))) (dRet (dCall 4 p_strings_of (dCons (dVar 0) (dCons (dVar 3) (dCons (dVar 4) (dCons (dC .non) dNil)))))) dNext) (dSeq (dFor
      (dZip (dCons (dVar 1) (dCons (dVar 2) dNil))) (dgTup 2 (dgCons (dgName 5) (dgCons (dgName 6) dgNil))) bd_parted_0) (dRet (dC .non))))
theorem pt_loop {ps : List (Nd × Nd)} {rep : Nd → Nd} (hr : IsRep ps rep) (l o : Nat) (hl : l ≤ 1000000) (ho : o ≤ 1000000) (v1 v2 : Slot) (post : PV → Prop) (PD : PEnds) (hrt : ∀ r ρ, PD.rt r ρ = post r) : ∀ (r s : Row) (s5 s6 : Slot),
    (r.zip s).all (fun x => x.1.isNone == x.2.isNone) = true → (∀ c, findP rep r s = some c → post (encPr (some (pairT rep l o (some c))))) → (findP rep r s = none → ∀ s5 s6, PD.nx [.val (.dit (encPs ps)), v1, v2, .val (.int l), .val (.int o), s5, s6]) →
    dLoop (dgTup 2 (dgCons (dgName 5) (dgCons (dgName 6) dgNil))) bd_parted_0 PD (zipP (r.map encO) (s.map encO)) [.val (.dit (encPs ps)), v1, v2, .val (.int l), .val (.int o), s5, s6]
  | [], s, s5, s6, _, _, h => by
    rw [List.map_nil, show zipP [] (s.map encO) = [] by cases s <;> rfl, dLoop_nil]
    exact h (by rw [findP.eq_def]) _ _
  | x :: r, [], s5, s6, _, _, h => by
    rw [List.map_nil, show zipP ((x :: r).map encO) [] = [] from rfl, dLoop_nil]
    exact h (by cases x <;> rfl) _ _
  | x :: r, y :: s, s5, s6, ha, h, h' => by
    rw [List.zip_cons_cons, List.all_cons, Bool.and_eq_true] at ha
    obtain ⟨hxy, ha⟩ := ha
    rw [List.map_cons, List.map_cons, zipP, dLoop_cons]
    show dgTup 2 _ _ _ _
    simp only [ebd_parted_0, dIfS, dAnd, dB, dOp, dVar, dC, dgTup, dgCons, dgName, dgNil, notNQ, isNon_encO, List.getElem?_cons_zero, List.getElem?_cons_succ, List.set_cons_zero, List.set_cons_succ, List.length_cons, List.length_nil, if_true, if_false, Bool.true_eq_false, Bool.false_eq_true, if_pos, ite_true, ite_false, reduceIte, true_and, and_true, true_or, or_true, PV.scr.injEq, PV.int.injEq, PV.bl.injEq, PV.str.injEq, PV.lst.injEq, PV.tup.injEq, exists_eq_left, exists_eq_left', exists_eq_right, exists_eq_right', reduceCtorEq, or_false, false_or, forall_const, Nat.zero_le, Bool.not_true, Bool.not_false, decide_true, decide_false]
    cases x with
    | none =>
      have ey : y = none := by cases y <;> first | rfl | cases hxy
      subst ey
      simp only [Option.isNone_none, List.getElem?_cons_zero, List.getElem?_cons_succ, List.set_cons_zero, List.set_cons_succ, List.length_cons, List.length_nil, if_true, if_false, Bool.true_eq_false, Bool.false_eq_true, if_pos, ite_true, ite_false, reduceIte, true_and, and_true, true_or, or_true, PV.scr.injEq, PV.int.injEq, PV.bl.injEq, PV.str.injEq, PV.lst.injEq, PV.tup.injEq, exists_eq_left, exists_eq_left', exists_eq_right, exists_eq_right', reduceCtorEq, or_false, false_or, forall_const, Nat.zero_le, Bool.not_true, Bool.not_false, decide_true, decide_false, dNext]
      exact pt_loop hr l o hl ho v1 v2 post PD hrt r s _ _ ha h h'
    | some i =>
      obtain ⟨j, rfl⟩ : ∃ j, y = some j := by cases y with
        | none => cases hxy
        | some j => exact ⟨j, rfl⟩
      simp only [Option.isNone_some, Bool.not_false, List.getElem?_cons_zero, List.getElem?_cons_succ, List.set_cons_zero, List.set_cons_succ, List.length_cons, List.length_nil, if_true, if_false, Bool.true_eq_false, Bool.false_eq_true, if_pos, ite_true, ite_false, reduceIte, true_and, and_true, true_or, or_true, PV.scr.injEq, PV.int.injEq, PV.bl.injEq, PV.str.injEq, PV.lst.injEq, PV.tup.injEq, exists_eq_left, exists_eq_left', exists_eq_right, exists_eq_right', reduceCtorEq, or_false, false_or, forall_const, Nat.zero_le, Bool.not_true, Bool.not_false, decide_true, decide_false]
      rw [findP] at h h'
      simp only [dCall, dCons, dVar, dTup, dC, dNil, List.getElem?_cons_zero, List.getElem?_cons_succ, List.set_cons_zero, List.set_cons_succ, List.length_cons, List.length_nil, if_true, if_false, Bool.true_eq_false, Bool.false_eq_true, if_pos, ite_true, ite_false, reduceIte, true_and, and_true, true_or, or_true, PV.scr.injEq, PV.int.injEq, PV.bl.injEq, PV.str.injEq, PV.lst.injEq, PV.tup.injEq, exists_eq_left, exists_eq_left', exists_eq_right, exists_eq_right', reduceCtorEq, or_false, false_or, forall_const, Nat.zero_le, Bool.not_true, Bool.not_false, decide_true, decide_false, encO, sz2]
      refine ⟨ps, rep, (0, i), rfl, hr, ps, rep, (1, j), rfl, hr, ?_⟩
      simp only [neQ_n]
      by_cases e : rep (0, i) = rep (1, j)
      · rw [if_pos e] at h h'
        simp only [e, decide_true, Bool.not_true, List.getElem?_cons_zero, List.getElem?_cons_succ, List.set_cons_zero, List.set_cons_succ, List.length_cons, List.length_nil, if_true, if_false, Bool.true_eq_false, Bool.false_eq_true, if_pos, ite_true, ite_false, reduceIte, true_and, and_true, true_or, or_true, PV.scr.injEq, PV.int.injEq, PV.bl.injEq, PV.str.injEq, PV.lst.injEq, PV.tup.injEq, exists_eq_left, exists_eq_left', exists_eq_right, exists_eq_right', reduceCtorEq, or_false, false_or, forall_const, Nat.zero_le, Bool.not_true, Bool.not_false, decide_true, decide_false, dNext]
        exact pt_loop hr l o hl ho v1 v2 post PD hrt r s _ _ ha h h'
      · rw [if_neg e] at h h'
        simp only [decide_eq_false e, Bool.not_false, List.getElem?_cons_zero, List.getElem?_cons_succ, List.set_cons_zero, List.set_cons_succ, List.length_cons, List.length_nil, if_true, if_false, Bool.true_eq_false, Bool.false_eq_true, if_pos, ite_true, ite_false, reduceIte, true_and, and_true, true_or, or_true, PV.scr.injEq, PV.int.injEq, PV.bl.injEq, PV.str.injEq, PV.lst.injEq, PV.tup.injEq, exists_eq_left, exists_eq_left', exists_eq_right, exists_eq_right', reduceCtorEq, or_false, false_or, forall_const, Nat.zero_le, Bool.not_true, Bool.not_false, decide_true, decide_false]
        simp only [dRet, dCall, dCons, dVar, dTup, dC, dNil, List.getElem?_cons_zero, List.getElem?_cons_succ, List.set_cons_zero, List.set_cons_succ, List.length_cons, List.length_nil, if_true, if_false, Bool.true_eq_false, Bool.false_eq_true, if_pos, ite_true, ite_false, reduceIte, true_and, and_true, true_or, or_true, PV.scr.injEq, PV.int.injEq, PV.bl.injEq, PV.str.injEq, PV.lst.injEq, PV.tup.injEq, exists_eq_left, exists_eq_left', exists_eq_right, exists_eq_right', reduceCtorEq, or_false, false_or, forall_const, Nat.zero_le, Bool.not_true, Bool.not_false, decide_true, decide_false, encO, sz2]
        refine ⟨ps, rep, (0, i), rfl, hr, ?_⟩
        refine ⟨ps, rep, l, o, some (rep (0, i)), rfl, hr, hl, ho, ?_⟩
        simp only [hrt]
        exact h _ rfl
theorem h_parted : ∀ (as : List PV) (post : PV → Prop), as.length = 5 → p_parted as post → d_parted (endsOf post) (startR 7 as) := by
  rintro as post _ ⟨ps, rep, r, s, l, o, rfl, hr, hrl, hl, ho, q⟩
  show d_parted _ [.val (.dit (encPs ps)), .val (encT r), .val (encT s), .val (.int l), .val (.int o), .un, .un]
  refine seq_i ?_
  simp only [dIfS, dNot, dB, dCall, dCons, dVar, dNil, List.getElem?_cons_zero, List.getElem?_cons_succ, List.set_cons_zero, List.set_cons_succ, List.length_cons, List.length_nil, if_true, if_false, Bool.true_eq_false, Bool.false_eq_true, if_pos, ite_true, ite_false, reduceIte, true_and, and_true, true_or, or_true, PV.scr.injEq, PV.int.injEq, PV.bl.injEq, PV.str.injEq, PV.lst.injEq, PV.tup.injEq, exists_eq_left, exists_eq_left', exists_eq_right, exists_eq_right', reduceCtorEq, or_false, false_or, forall_const, Nat.zero_le, Bool.not_true, Bool.not_false, decide_true, decide_false]
  refine ⟨r, s, rfl, hrl, ?_⟩
  unfold partP at q
  cases e : simB r s with
  | false =>
    rw [e] at q
    simp only [Bool.not_false, List.getElem?_cons_zero, List.getElem?_cons_succ, List.set_cons_zero, List.set_cons_succ, List.length_cons, List.length_nil, if_true, if_false, Bool.true_eq_false, Bool.false_eq_true, if_pos, ite_true, ite_false, reduceIte, true_and, and_true, true_or, or_true, PV.scr.injEq, PV.int.injEq, PV.bl.injEq, PV.str.injEq, PV.lst.injEq, PV.tup.injEq, exists_eq_left, exists_eq_left', exists_eq_right, exists_eq_right', reduceCtorEq, or_false, false_or, forall_const, Nat.zero_le, Bool.not_true, Bool.not_false, decide_true, decide_false]
    simp only [dRet, dCall, dCons, dVar, dC, dNil, List.getElem?_cons_zero, List.getElem?_cons_succ, List.set_cons_zero, List.set_cons_succ, List.length_cons, List.length_nil, if_true, if_false, Bool.true_eq_false, Bool.false_eq_true, if_pos, ite_true, ite_false, reduceIte, true_and, and_true, true_or, or_true, PV.scr.injEq, PV.int.injEq, PV.bl.injEq, PV.str.injEq, PV.lst.injEq, PV.tup.injEq, exists_eq_left, exists_eq_left', exists_eq_right, exists_eq_right', reduceCtorEq, or_false, false_or, forall_const, Nat.zero_le, Bool.not_true, Bool.not_false, decide_true, decide_false]
    refine ⟨ps, rep, l, o, none, rfl, hr, hl, ho, ?_⟩
    exact q
  | true =>
    rw [e] at q
    simp only [Bool.not_true, List.getElem?_cons_zero, List.getElem?_cons_succ, List.set_cons_zero, List.set_cons_succ, List.length_cons, List.length_nil, if_true, if_false, Bool.true_eq_false, Bool.false_eq_true, if_pos, ite_true, ite_false, reduceIte, true_and, and_true, true_or, or_true, PV.scr.injEq, PV.int.injEq, PV.bl.injEq, PV.str.injEq, PV.lst.injEq, PV.tup.injEq, exists_eq_left, exists_eq_left', exists_eq_right, exists_eq_right', reduceCtorEq, or_false, false_or, forall_const, Nat.zero_le, Bool.not_true, Bool.not_false, decide_true, decide_false, dNext]
    refine seq_i ?_
    simp only [dFor, dZip, dCons, dNil, dVar, List.getElem?_cons_zero, List.getElem?_cons_succ, List.set_cons_zero, List.set_cons_succ, List.length_cons, List.length_nil, if_true, if_false, Bool.true_eq_false, Bool.false_eq_true, if_pos, ite_true, ite_false, reduceIte, true_and, and_true, true_or, or_true, PV.scr.injEq, PV.int.injEq, PV.bl.injEq, PV.str.injEq, PV.lst.injEq, PV.tup.injEq, exists_eq_left, exists_eq_left', exists_eq_right, exists_eq_right', reduceCtorEq, or_false, false_or, forall_const, Nat.zero_le, Bool.not_true, Bool.not_false, decide_true, decide_false, itemsQ, encT]
    refine pt_loop hr l o hl ho _ _ post _ (fun _ _ => rfl) r s _ _ (simB_all e) (fun c hc => ?_) fun hc s5 s6 => ?_
    · rw [if_pos rfl, hc] at q; exact q
    · rw [if_pos rfl, hc] at q
      simp only [dRet, dC]
      exact q
/-! ### the search -/
def tryP (r : Rel) (m : Mask) (l o : Nat) : Option (T × T) :=
  if simA (r.map fun x => tmpl x l) (r.map fun x => tmpl x o) = true then partP (eqdA id (r.map fun x => tmpl x l) (r.map fun x => tmpl x o)) (tmpl m l) (tmpl m o) l o else none
/-- the first of them from L on, k of them -/
def scanL (r : Rel) (m : Mask) (t : Nat) : Nat → Nat → Option (T × T)
  | 0, _ => none
  | k + 1, L => match tryP r m L (t - L) with
    | some x => some x
    | none => scanL r m t k (L + 1)
def scanT (r : Rel) (m : Mask) (most : Nat) : Nat → Nat → Option (T × T)
  | 0, _ => none
  | k + 1, t => match scanL r m t (t / 2 + 1 - (t - most)) (t - most) with
    | some x => some x
    | none => scanT r m most k (t + 1)
def mostP (r : Rel) (m : Mask) : Nat := bnd (r ++ [m]) + 1
def scex (r : Rel) (m : Mask) : Option (T × T) := scanT r m (mostP r m) (2 * mostP r m + 1) 0
def p_smallest_counterexample : PSp := fun as Q => ∃ (r : Rel) (m : Mask), as = [encRel r, encM m] ∧ OkR r ∧ OkM m ∧ Q (encPr (scex r m))
theorem m_smallest_counterexample : MonoP p_smallest_counterexample := fun _ _ _ h ⟨v, a, e, z, y, q⟩ => ⟨v, a, e, z, y, h _ q⟩
def bd_smallest_counterexample_0 : DS := (dSeq (dSet 8 (dOp (int0Q fun i j => i - j) (dVar 7) (dVar 5))) (dSeq (dSet 9 (dCall 2 p_equated (dCons (dOp ixQ (dVar 3) (dVar 5)) (dCons (dOp ixQ (dVar 3) (dVar 8)) dNil)))) (dIfS (dB (dOp
      notNQ (dVar 9) (dC .non))) (dSeq (dSet 10 (dCall 5 p_parted (dCons (dVar 9) (dCons (dOp ixQ (dVar 6) (dVar 5)) (dCons (dOp ixQ (dVar 6) (dVar 8)) (dCons (dVar 5) (dCons (dVar 8) dNil))))))) (dIfS (dB (dOp notNQ (dVar 10) (dC
      .non))) (dRet (dVar 10)) dNext)) dNext)))
theorem ebd_smallest_counterexample_0 (PD : PEnds) (ρ : Rho) : bd_smallest_counterexample_0 PD ρ = (dSeq (dSet 8 (dOp (int0Q fun i j => i - j) (dVar 7) (dVar 5))) (dSeq (dSet 9 (dCall 2 p_equated (dCons (dOp ixQ (dVar 3) (dVar 5))
      (dCons (dOp ixQ (dVar 3) (dVar 8)) dNil)))) (dIfS (dB (dOp notNQ (dVar 9) (dC .non))) (dSeq (dSet 10 (dCall 5 p_parted (dCons (dVar 9) (dCons (dOp ixQ (dVar 6) (dVar 5)) (dCons (dOp ixQ (dVar 6) (dVar 8)) (dCons (dVar 5) (dCons
      (dVar 8) dNil))))))) (dIfS (dB (dOp notNQ (dVar 10) (dC .non))) (dRet (dVar 10)) dNext)) dNext))) PD ρ := rfl
def bd_smallest_counterexample_1 : DS := (dFor (dRange2 (dCons (dBi maxQ (dCons (dC (.int 0)) (dCons (dOp (int0Q fun i j => i - j) (dVar 7) (dVar 2)) dNil))) (dCons (dOp addQ (dOp fdivQ (dVar 7) (dC (.int 2))) (dC (.int 1)))
      dNil))) (dgName 5) bd_smallest_counterexample_0)
theorem ebd_smallest_counterexample_1 (PD : PEnds) (ρ : Rho) : bd_smallest_counterexample_1 PD ρ = (dFor (dRange2 (dCons (dBi maxQ (dCons (dC (.int 0)) (dCons (dOp (int0Q fun i j => i - j) (dVar 7) (dVar 2)) dNil))) (dCons (dOp
      addQ (dOp fdivQ (dVar 7) (dC (.int 2))) (dC (.int 1))) dNil))) (dgName 5) bd_smallest_counterexample_0) PD ρ := rfl
def d_smallest_counterexample : DS := (dSeq (dSet 2 (dOp addQ (dCall 1 p_bound (dCons (dOp addQ (dListOf (dCons (dVar 0) dNil)) (dLst (dCons (dVar 1) dNil))) dNil)) (dC (.int 1)))) (dSeq (dSet 3 (dLc (dRange1 (dCons (dOp addQ (dVar
      2) (dC (.int 1))) dNil)) (dgName 5) dYes (dLc (dIt (dVar 0)) (dgName 4) dYes (dCall 2 p_template_of (dCons (dVar 4) (dCons (dVar 5) dNil))) [4]) [5])) (dSeq (dSet 6 (dLc (dRange1 (dCons (dOp addQ (dVar 2) (dC (.int 1))) dNil))
      (dgName 5) dYes (dCall 2 p_template_of (dCons (dVar 1) (dCons (dVar 5) dNil))) [5])) (dSeq (dFor (dRange1 (dCons (dOp addQ (dOp mulQ (dC (.int 2)) (dVar 2)) (dC (.int 1))) dNil)) (dgName 7) bd_smallest_counterexample_1) (dRet (dC
      .non))))))
theorem bnd_le {r : Rel} {m : Mask} (hr : OkR r) (hm : OkM m) : bnd (r ++ [m]) ≤ 82 := by
  have go : ∀ l : Rel, (∀ x ∈ l, OkM x) → (l.map msum).sum ≤ 20 * l.length := fun l => by
    induction l with
    | nil => intro _; exact Nat.le_refl _
    | cons x l ih =>
      intro h
      have h1 := msum_le (h x List.mem_cons_self)
      have h2 := ih fun y hy => h y (List.mem_cons_of_mem _ hy)
      rw [List.map_cons, List.sum_cons, List.length_cons]; omega
  have := go (r ++ [m]) fun x hx => (List.mem_append.mp hx).elim (hr.2 x) fun h => by rw [List.mem_singleton.mp h]; exact hm
  have := hr.1
  unfold bnd
  rw [List.length_append, List.length_singleton] at *
  omega
def rowsP (r : Rel) (n : Nat) : PV := .lst ((List.range n).map fun l => .lst ((r.map fun x => tmpl x l).map encT))
def goalsP (m : Mask) (n : Nat) : PV := .lst ((List.range n).map fun l => encT (tmpl m l))
theorem ixQ_range {n i : Nat} (f : Nat → PV) (h : i < n) (Q : PV → Prop) : ixQ (.lst ((List.range n).map f)) (.int i) Q = Q (f i) := by
  show (match L2.atI ((List.range n).map f) (i : Int) with | some v => Q v | none => False) = _
  rw [atI_nat, List.getElem?_map, List.getElem?_range h]
  rfl
theorem tmpl_fits {m : Mask} (h : OkM m) {n : Nat} (hn : n ≤ 1600) : (tmpl m n).length ≤ 1000000 := runM_fits h (by rw [List.length_map, List.length_range]; exact hn)
theorem sc_inner {r : Rel} {m : Mask} (hr : OkR r) (hm : OkM m) (M t : Nat) (hM : M ≤ 90) (v0 v1 v2 v4 : Slot) (post : PV → Prop) (PD : PEnds) (hrt : ∀ r ρ, PD.rt r ρ = post r) : ∀ (k L : Nat) (s5 s8 s9 s10 : Slot), (k = 0 ∨ (L + k ≤ t / 2 + 1 ∧ t - M ≤ L)) →
    (∀ x, scanL r m t k L = some x → post (encPr (some x))) → (scanL r m t k L = none → ∀ s5 s8 s9 s10, PD.nx [v0, v1, v2, .val (rowsP r (M + 1)), v4, s5, .val (goalsP m (M + 1)), .val (.int t), s8, s9, s10]) →
    dLoop (dgName 5) bd_smallest_counterexample_0 PD (rngP L k) [v0, v1, v2, .val (rowsP r (M + 1)), v4, s5, .val (goalsP m (M + 1)), .val (.int t), s8, s9, s10]
  | 0, L, s5, s8, s9, s10, _, _, h' => h' rfl _ _ _ _
  | k + 1, L, s5, s8, s9, s10, hk, h, h' => by
    have hk : L + (k + 1) ≤ t / 2 + 1 ∧ t - M ≤ L := hk.resolve_left (by omega)
    have hL : L < M + 1 ∨ M < L := by omega
    have hLt : L ≤ t := by omega
    have hO : t - L < M + 1 := by omega
    have hLM : L < M + 1 := by omega
    rw [rngP, dLoop_cons]
    simp only [dgName, ebd_smallest_counterexample_0, List.getElem?_cons_zero, List.getElem?_cons_succ, List.set_cons_zero, List.set_cons_succ, List.length_cons, List.length_nil, if_true, if_false, Bool.true_eq_false, Bool.false_eq_true, if_pos, ite_true, ite_false, reduceIte, true_and, and_true, true_or, or_true, PV.scr.injEq, PV.int.injEq, PV.bl.injEq, PV.str.injEq, PV.lst.injEq, PV.tup.injEq, exists_eq_left, exists_eq_left', exists_eq_right, exists_eq_right', reduceCtorEq, or_false, false_or, forall_const, Nat.zero_le, Bool.not_true, Bool.not_false, decide_true, decide_false]
    refine seq_i ?_
    simp only [dSet, dOp, dVar, List.getElem?_cons_zero, List.getElem?_cons_succ, List.set_cons_zero, List.set_cons_succ, List.length_cons, List.length_nil, if_true, if_false, Bool.true_eq_false, Bool.false_eq_true, if_pos, ite_true, ite_false, reduceIte, true_and, and_true, true_or, or_true, PV.scr.injEq, PV.int.injEq, PV.bl.injEq, PV.str.injEq, PV.lst.injEq, PV.tup.injEq, exists_eq_left, exists_eq_left', exists_eq_right, exists_eq_right', reduceCtorEq, or_false, false_or, forall_const, Nat.zero_le, Bool.not_true, Bool.not_false, decide_true, decide_false, int0Q_int]
    rw [show (t : Int) - (L : Int) = ((t - L : Nat) : Int) by omega]
    refine seq_i ?_
    simp only [dSet, dCall, dCons, dNil, dOp, dVar, List.getElem?_cons_zero, List.getElem?_cons_succ, List.set_cons_zero, List.set_cons_succ, List.length_cons, List.length_nil, if_true, if_false, Bool.true_eq_false, Bool.false_eq_true, if_pos, ite_true, ite_false, reduceIte, true_and, and_true, true_or, or_true, PV.scr.injEq, PV.int.injEq, PV.bl.injEq, PV.str.injEq, PV.lst.injEq, PV.tup.injEq, exists_eq_left, exists_eq_left', exists_eq_right, exists_eq_right', reduceCtorEq, or_false, false_or, forall_const, Nat.zero_le, Bool.not_true, Bool.not_false, decide_true, decide_false]
    unfold rowsP
    rw [ixQ_range _ hLM, ixQ_range _ hO]
    have rcv := sc_inner hr hm M t hM v0 v1 v2 v4 post PD hrt k (L + 1)
    rw [scanL] at h h'
    refine ⟨r.map fun x => tmpl x L, r.map fun x => tmpl x (t - L), rfl, by rw [List.length_map]; exact hr.1, fun x hx => ?_, fun e => ?_, fun e ps hp => ?_⟩
    · obtain ⟨y, hy, rfl⟩ := List.mem_map.mp hx
      exact tmpl_fits (hr.2 y hy) (by omega)
    · have e0 : tryP r m L (t - L) = none := by unfold tryP; rw [if_neg (by rw [e]; decide)]
      rw [e0] at h h'
      simp only [dIfS, dB, dOp, dVar, dC, notNQ, isNon, List.getElem?_cons_zero, List.getElem?_cons_succ, List.set_cons_zero, List.set_cons_succ, List.length_cons, List.length_nil, if_true, if_false, Bool.true_eq_false, Bool.false_eq_true, if_pos, ite_true, ite_false, reduceIte, true_and, and_true, true_or, or_true, PV.scr.injEq, PV.int.injEq, PV.bl.injEq, PV.str.injEq, PV.lst.injEq, PV.tup.injEq, exists_eq_left, exists_eq_left', exists_eq_right, exists_eq_right', reduceCtorEq, or_false, false_or, forall_const, Nat.zero_le, Bool.not_true, Bool.not_false, decide_true, decide_false, Bool.not_true, dNext]
      have := rcv (.val (.int L)) (.val (.int ((t - L : Nat) : Int))) (.val .non) s10 (by omega) h h'
      unfold rowsP at this
      exact this
    · have e0 : tryP r m L (t - L) = partP (eqdA id (r.map fun x => tmpl x L) (r.map fun x => tmpl x (t - L))) (tmpl m L) (tmpl m (t - L)) L (t - L) := by unfold tryP; rw [if_pos e]
      simp only [dIfS, dB, dOp, dVar, dC, notNQ, isNon, List.getElem?_cons_zero, List.getElem?_cons_succ, List.set_cons_zero, List.set_cons_succ, List.length_cons, List.length_nil, if_true, if_false, Bool.true_eq_false, Bool.false_eq_true, if_pos, ite_true, ite_false, reduceIte, true_and, and_true, true_or, or_true, PV.scr.injEq, PV.int.injEq, PV.bl.injEq, PV.str.injEq, PV.lst.injEq, PV.tup.injEq, exists_eq_left, exists_eq_left', exists_eq_right, exists_eq_right', reduceCtorEq, or_false, false_or, forall_const, Nat.zero_le, Bool.not_true, Bool.not_false, decide_true, decide_false, Bool.not_false]
      refine seq_i ?_
      simp only [dSet, dCall, dCons, dNil, dOp, dVar, List.getElem?_cons_zero, List.getElem?_cons_succ, List.set_cons_zero, List.set_cons_succ, List.length_cons, List.length_nil, if_true, if_false, Bool.true_eq_false, Bool.false_eq_true, if_pos, ite_true, ite_false, reduceIte, true_and, and_true, true_or, or_true, PV.scr.injEq, PV.int.injEq, PV.bl.injEq, PV.str.injEq, PV.lst.injEq, PV.tup.injEq, exists_eq_left, exists_eq_left', exists_eq_right, exists_eq_right', reduceCtorEq, or_false, false_or, forall_const, Nat.zero_le, Bool.not_true, Bool.not_false, decide_true, decide_false]
      unfold goalsP
      rw [ixQ_range _ hLM, ixQ_range _ hO]
      refine ⟨ps, _, tmpl m L, tmpl m (t - L), L, t - L, rfl, hp, tmpl_fits hm (by omega), by omega, by omega, ?_⟩
      rw [← e0]
      cases et : tryP r m L (t - L) with
      | none =>
        rw [et] at h h'
        simp only [encPr, dIfS, dB, dOp, dVar, dC, notNQ, isNon, List.getElem?_cons_zero, List.getElem?_cons_succ, List.set_cons_zero, List.set_cons_succ, List.length_cons, List.length_nil, if_true, if_false, Bool.true_eq_false, Bool.false_eq_true, if_pos, ite_true, ite_false, reduceIte, true_and, and_true, true_or, or_true, PV.scr.injEq, PV.int.injEq, PV.bl.injEq, PV.str.injEq, PV.lst.injEq, PV.tup.injEq, exists_eq_left, exists_eq_left', exists_eq_right, exists_eq_right', reduceCtorEq, or_false, false_or, forall_const, Nat.zero_le, Bool.not_true, Bool.not_false, decide_true, decide_false, Bool.not_true, dNext]
        have := rcv (.val (.int L)) (.val (.int ((t - L : Nat) : Int))) (.val (.dit (encPs ps))) (.val .non) (by omega) h h'
        unfold rowsP goalsP at this
        exact this
      | some x =>
        rw [et] at h
        simp only [encPr, dIfS, dB, dOp, dVar, dC, notNQ, isNon, List.getElem?_cons_zero, List.getElem?_cons_succ, List.set_cons_zero, List.set_cons_succ, List.length_cons, List.length_nil, if_true, if_false, Bool.true_eq_false, Bool.false_eq_true, if_pos, ite_true, ite_false, reduceIte, true_and, and_true, true_or, or_true, PV.scr.injEq, PV.int.injEq, PV.bl.injEq, PV.str.injEq, PV.lst.injEq, PV.tup.injEq, exists_eq_left, exists_eq_left', exists_eq_right, exists_eq_right', reduceCtorEq, or_false, false_or, forall_const, Nat.zero_le, Bool.not_true, Bool.not_false, decide_true, decide_false, Bool.not_false, dRet]
        rw [hrt]
        exact h x rfl
theorem sc_outer {r : Rel} {m : Mask} (hr : OkR r) (hm : OkM m) (M : Nat) (hM : M ≤ 90) (v0 v1 v4 : Slot) (post : PV → Prop) (PD : PEnds) (hrt : ∀ r ρ, PD.rt r ρ = post r) : ∀ (k t : Nat) (s5 s7 s8 s9 s10 : Slot), t + k ≤ 2 * M + 1 →
    (∀ x, scanT r m M k t = some x → post (encPr (some x))) → (scanT r m M k t = none → ∀ s5 s7 s8 s9 s10, PD.nx [v0, v1, .val (.int M), .val (rowsP r (M + 1)), v4, s5, .val (goalsP m (M + 1)), s7, s8, s9, s10]) →
    dLoop (dgName 7) bd_smallest_counterexample_1 PD (rngP t k) [v0, v1, .val (.int M), .val (rowsP r (M + 1)), v4, s5, .val (goalsP m (M + 1)), s7, s8, s9, s10]
  | 0, t, s5, s7, s8, s9, s10, _, _, h' => h' rfl _ _ _ _ _
  | k + 1, t, s5, s7, s8, s9, s10, hk, h, h' => by
    rw [rngP, dLoop_cons]
    rw [scanT] at h h'
    simp only [dgName, ebd_smallest_counterexample_1, List.getElem?_cons_zero, List.getElem?_cons_succ, List.set_cons_zero, List.set_cons_succ, List.length_cons, List.length_nil, if_true, if_false, Bool.true_eq_false, Bool.false_eq_true, if_pos, ite_true, ite_false, reduceIte, true_and, and_true, true_or, or_true, PV.scr.injEq, PV.int.injEq, PV.bl.injEq, PV.str.injEq, PV.lst.injEq, PV.tup.injEq, exists_eq_left, exists_eq_left', exists_eq_right, exists_eq_right', reduceCtorEq, or_false, false_or, forall_const, Nat.zero_le, Bool.not_true, Bool.not_false, decide_true, decide_false, dFor, dRange2, dCons, dNil, dBi, dC, dOp, dVar, int0Q_int, maxQ_int, fdivQ, intQ, addQ_int]
    refine ⟨⟨by decide, by decide⟩, ?_⟩
    have e1 : max (0 : Int) ((t : Int) - (M : Int)) = ((t - M : Nat) : Int) := by omega
    have e2 : (t : Int) / 2 + 1 = ((t / 2 + 1 : Nat) : Int) := by omega
    rw [e1, e2]
    have e3 : (((t / 2 + 1 : Nat) : Int) - ((t - M : Nat) : Int)).toNat = t / 2 + 1 - (t - M) := by omega
    rw [e3]
    refine ⟨by omega, by omega, by omega, by omega, ?_⟩
    refine sc_inner (PD := { nx := dLoop (dgName 7) bd_smallest_counterexample_1 PD (rngP ((t : Int) + 1) k), rt := PD.rt, bk := PD.nx, ct := dLoop (dgName 7) bd_smallest_counterexample_1 PD (rngP ((t : Int) + 1) k) }) hr hm M t hM v0 v1 _ v4 post hrt (t / 2 + 1 - (t - M)) (t - M) _ _ _ _ (by omega) (fun x hx => ?_) fun hx s5 s8 s9 s10 => ?_
    · rw [hx] at h; exact h x rfl
    · rw [hx] at h h'
      exact sc_outer hr hm M hM v0 v1 v4 post PD hrt k (t + 1) _ _ _ _ _ (by omega) h h'
theorem h_smallest_counterexample : ∀ (as : List PV) (post : PV → Prop), as.length = 2 → p_smallest_counterexample as post → d_smallest_counterexample (endsOf post) (startR 11 as) := by
  rintro as post _ ⟨r, m, rfl, hr, hm, q⟩
  have e0 : (sizeLine : Nat) = 16777216 := by decide
  have big := big
  have hb := bnd_le hr hm
  have hrl := hr.1
  have hM : mostP r m = bnd (r ++ [m]) + 1 := rfl
  show d_smallest_counterexample _ [.val (encRel r), .val (encM m), .un, .un, .un, .un, .un, .un, .un, .un, .un]
  refine seq_i ?_
  simp only [dSet, dOp, dCall, dCons, dNil, dListOf, dLst, dVar, dC, List.getElem?_cons_zero, List.getElem?_cons_succ, List.set_cons_zero, List.set_cons_succ, List.length_cons, List.length_nil, if_true, if_false, Bool.true_eq_false, Bool.false_eq_true, if_pos, ite_true, ite_false, reduceIte, true_and, and_true, true_or, or_true, PV.scr.injEq, PV.int.injEq, PV.bl.injEq, PV.str.injEq, PV.lst.injEq, PV.tup.injEq, exists_eq_left, exists_eq_left', exists_eq_right, exists_eq_right', reduceCtorEq, or_false, false_or, forall_const, Nat.zero_le, Bool.not_true, Bool.not_false, decide_true, decide_false, encRel, addQ_lst, sz1, List.length_map]
  refine ⟨by omega, r ++ [m], _, rfl, .inl (by rw [List.map_append]; rfl), by rw [List.length_append, List.length_singleton]; omega, fun x hx => ?_, ?_⟩
  · have h4 : x.length ≤ 4 := (List.mem_append.mp hx).elim (fun h => (hr.2 x h).1) fun h => by rw [List.mem_singleton.mp h]; exact hm.1
    omega
  simp only [addQ_int, List.getElem?_cons_zero, List.getElem?_cons_succ, List.set_cons_zero, List.set_cons_succ, List.length_cons, List.length_nil, if_true, if_false, Bool.true_eq_false, Bool.false_eq_true, if_pos, ite_true, ite_false, reduceIte, true_and, and_true, true_or, or_true, PV.scr.injEq, PV.int.injEq, PV.bl.injEq, PV.str.injEq, PV.lst.injEq, PV.tup.injEq, exists_eq_left, exists_eq_left', exists_eq_right, exists_eq_right', reduceCtorEq, or_false, false_or, forall_const, Nat.zero_le, Bool.not_true, Bool.not_false, decide_true, decide_false]
  rw [show ((bnd (r ++ [m]) : Nat) : Int) + 1 = ((mostP r m : Nat) : Int) by omega]
  refine seq_i ?_
  simp only [dSet, dLc, dRange1, dCons, dNil, dOp, dVar, dC, List.getElem?_cons_zero, List.getElem?_cons_succ, List.set_cons_zero, List.set_cons_succ, List.length_cons, List.length_nil, if_true, if_false, Bool.true_eq_false, Bool.false_eq_true, if_pos, ite_true, ite_false, reduceIte, true_and, and_true, true_or, or_true, PV.scr.injEq, PV.int.injEq, PV.bl.injEq, PV.str.injEq, PV.lst.injEq, PV.tup.injEq, exists_eq_left, exists_eq_left', exists_eq_right, exists_eq_right', reduceCtorEq, or_false, false_or, forall_const, Nat.zero_le, Bool.not_true, Bool.not_false, decide_true, decide_false, addQ_int]
  rw [show ((mostP r m : Nat) : Int) + 1 = ((mostP r m + 1 : Nat) : Int) by omega, Int.toNat_natCast]
  rw [rng_map]
  refine ⟨by omega, by omega, one_un rfl rfl, by rw [List.length_map, List.length_range]; omega, lcLoop_mapA (f := fun l => .lst ((r.map fun x => tmpl x l).map encT)) (fun l hl P hP => ?_) ?_⟩
  · have hl := List.mem_range.mp hl
    simp only [dgName, dYes, dLc, dIt, dVar, wipeR, List.getElem?_cons_zero, List.getElem?_cons_succ, List.set_cons_zero, List.set_cons_succ, List.length_cons, List.length_nil, if_true, if_false, Bool.true_eq_false, Bool.false_eq_true, if_pos, ite_true, ite_false, reduceIte, true_and, and_true, true_or, or_true, PV.scr.injEq, PV.int.injEq, PV.bl.injEq, PV.str.injEq, PV.lst.injEq, PV.tup.injEq, exists_eq_left, exists_eq_left', exists_eq_right, exists_eq_right', reduceCtorEq, or_false, false_or, forall_const, Nat.zero_le, Bool.not_true, Bool.not_false, decide_true, decide_false, itemsQ]
    refine ⟨one_un rfl rfl, by rw [List.length_map]; omega, lcLoop_mapA (f := fun x => encT (tmpl x l)) (fun x hx P hP => ?_) ?_⟩
    · simp only [dgName, dYes, dCall, dCons, dNil, dVar, wipeR, List.getElem?_cons_zero, List.getElem?_cons_succ, List.set_cons_zero, List.set_cons_succ, List.length_cons, List.length_nil, if_true, if_false, Bool.true_eq_false, Bool.false_eq_true, if_pos, ite_true, ite_false, reduceIte, true_and, and_true, true_or, or_true, PV.scr.injEq, PV.int.injEq, PV.bl.injEq, PV.str.injEq, PV.lst.injEq, PV.tup.injEq, exists_eq_left, exists_eq_left', exists_eq_right, exists_eq_right', reduceCtorEq, or_false, false_or, forall_const, Nat.zero_le, Bool.not_true, Bool.not_false, decide_true, decide_false]
      exact ⟨x, l, rfl, hr.2 x hx, by omega, hP⟩
    · rw [List.map_map] at hP
      exact hP
  refine seq_i ?_
  simp only [dSet, dLc, dRange1, dCons, dNil, dOp, dVar, dC, List.getElem?_cons_zero, List.getElem?_cons_succ, List.set_cons_zero, List.set_cons_succ, List.length_cons, List.length_nil, if_true, if_false, Bool.true_eq_false, Bool.false_eq_true, if_pos, ite_true, ite_false, reduceIte, true_and, and_true, true_or, or_true, PV.scr.injEq, PV.int.injEq, PV.bl.injEq, PV.str.injEq, PV.lst.injEq, PV.tup.injEq, exists_eq_left, exists_eq_left', exists_eq_right, exists_eq_right', reduceCtorEq, or_false, false_or, forall_const, Nat.zero_le, Bool.not_true, Bool.not_false, decide_true, decide_false, addQ_int]
  rw [show ((mostP r m : Nat) : Int) + 1 = ((mostP r m + 1 : Nat) : Int) by omega, Int.toNat_natCast]
  rw [rng_map]
  refine ⟨by omega, by omega, one_un rfl rfl, by rw [List.length_map, List.length_range]; omega, lcLoop_mapA (f := fun l => encT (tmpl m l)) (fun l hl P hP => ?_) ?_⟩
  · have hl := List.mem_range.mp hl
    simp only [dgName, dYes, dCall, dCons, dNil, dVar, wipeR, List.getElem?_cons_zero, List.getElem?_cons_succ, List.set_cons_zero, List.set_cons_succ, List.length_cons, List.length_nil, if_true, if_false, Bool.true_eq_false, Bool.false_eq_true, if_pos, ite_true, ite_false, reduceIte, true_and, and_true, true_or, or_true, PV.scr.injEq, PV.int.injEq, PV.bl.injEq, PV.str.injEq, PV.lst.injEq, PV.tup.injEq, exists_eq_left, exists_eq_left', exists_eq_right, exists_eq_right', reduceCtorEq, or_false, false_or, forall_const, Nat.zero_le, Bool.not_true, Bool.not_false, decide_true, decide_false]
    exact ⟨m, l, rfl, hm, by omega, hP⟩
  refine seq_i ?_
  simp only [dFor, dRange1, dCons, dNil, dOp, dVar, dC, List.getElem?_cons_zero, List.getElem?_cons_succ, List.set_cons_zero, List.set_cons_succ, List.length_cons, List.length_nil, if_true, if_false, Bool.true_eq_false, Bool.false_eq_true, if_pos, ite_true, ite_false, reduceIte, true_and, and_true, true_or, or_true, PV.scr.injEq, PV.int.injEq, PV.bl.injEq, PV.str.injEq, PV.lst.injEq, PV.tup.injEq, exists_eq_left, exists_eq_left', exists_eq_right, exists_eq_right', reduceCtorEq, or_false, false_or, forall_const, Nat.zero_le, Bool.not_true, Bool.not_false, decide_true, decide_false, mulQ_int, addQ_int]
  rw [show (2 : Int) * ((mostP r m : Nat) : Int) + 1 = ((2 * mostP r m + 1 : Nat) : Int) by omega, Int.toNat_natCast]
  refine ⟨CMul.ok (.inl (by constructor <;> decide)), by omega, by omega, ?_⟩
  refine sc_outer hr hm (mostP r m) (by omega) _ _ _ post _ (fun _ _ => rfl) _ 0 _ _ _ _ _ (by omega) (fun x hx => ?_) fun hx s5 s7 s8 s9 s10 => ?_
  · unfold scex at q
    rw [hx] at q; exact q
  · unfold scex at q
    rw [hx] at q
    simp only [dRet, dC]
    exact q
/-! ### counterexample, determines, redundant -/
def p_counterexample : PSp := fun as Q => ∃ (r : Rel) (m : Mask), as = [encRel r, encM m] ∧ OkR r ∧ OkM m ∧ Q (encPr (scex r m))
theorem m_counterexample : MonoP p_counterexample := fun _ _ _ h ⟨v, a, e, z, y, q⟩ => ⟨v, a, e, z, y, h _ q⟩
def d_counterexample : DS := (dSeq (dDrop (dCall 1 p_need_release (dCons (dVar 0) dNil))) (dSeq (dDrop (dCall 1 p_need_mask (dCons (dVar 1) dNil))) (dRet (dCall 2 p_smallest_counterexample (dCons (dVar 0) (dCons (dVar 1) dNil))))))
theorem h_counterexample : ∀ (as : List PV) (post : PV → Prop), as.length = 2 → p_counterexample as post → d_counterexample (endsOf post) (startR 2 as) := by
  rintro as post _ ⟨r, m, rfl, hr, hm, q⟩
  show d_counterexample _ [.val (encRel r), .val (encM m)]
  simp only [d_counterexample, dSeq, dNext, dIfS, dRet, dRetN, dSet, dOwn, dVar, dC, dOp, dB, dChain, dAnd, dOr, dNot, dAndV, dOrV, dNotV, dIf, dNil, dCons, dTup, dLst, dDrop, dgName, dgNil, dgCons, dgTup, dAsg, dPar, dPar3, dParO, dParV, dAug, dCall, dBi, dIsi, dInS, dSl, doNone, doSome, dRevL, dRevS, dM1, dRg1, dListOf, dJoin, dNeg, dApp, dExt, dSetIx, endsOf, dFor, dIt, dZip, dEnum, dRange1, dRange2, itemsQ, dLc, wipeR, dTwn, dTwnSet, dTwnAug, dScrE, dScrL, dScrX, List.getElem?_cons_zero, List.getElem?_cons_succ, List.set_cons_zero, List.set_cons_succ, List.length_cons, List.length_nil, if_true, if_false, Bool.true_eq_false, Bool.false_eq_true, if_pos, ite_true, ite_false, reduceIte, true_and, and_true, true_or, or_true, PV.scr.injEq, PV.int.injEq, PV.bl.injEq, PV.str.injEq, PV.lst.injEq, PV.tup.injEq, exists_eq_left, exists_eq_left', exists_eq_right, exists_eq_right', reduceCtorEq, or_false, false_or, forall_const, Nat.zero_le, Bool.not_true, Bool.not_false, decide_true, decide_false]
  exact ⟨encRel r, rfl, rel_dat r 15, relB_enc hr, encM m, rfl, mask_dat m 15, maskB_enc hm, r, m, rfl, hr, hm, q⟩
def detB (r : Rel) (m : Mask) : Bool := (scex r m).isNone
def p_determines : PSp := fun as Q => ∃ (r : Rel) (m : Mask), as = [encRel r, encM m] ∧ OkR r ∧ OkM m ∧ Q (.bl (detB r m))
theorem m_determines : MonoP p_determines := fun _ _ _ h ⟨v, a, e, z, y, q⟩ => ⟨v, a, e, z, y, h _ q⟩
def d_determines : DS := (dRet (dOp isNQ (dCall 2 p_counterexample (dCons (dVar 0) (dCons (dVar 1) dNil))) (dC .non)))
theorem isNon_encPr (x : Option (T × T)) : isNon (encPr x) = x.isNone := by cases x <;> rfl
theorem h_determines : ∀ (as : List PV) (post : PV → Prop), as.length = 2 → p_determines as post → d_determines (endsOf post) (startR 2 as) := by
  rintro as post _ ⟨r, m, rfl, hr, hm, q⟩
  show d_determines _ [.val (encRel r), .val (encM m)]
  simp only [d_determines, dSeq, dNext, dIfS, dRet, dRetN, dSet, dOwn, dVar, dC, dOp, dB, dChain, dAnd, dOr, dNot, dAndV, dOrV, dNotV, dIf, dNil, dCons, dTup, dLst, dDrop, dgName, dgNil, dgCons, dgTup, dAsg, dPar, dPar3, dParO, dParV, dAug, dCall, dBi, dIsi, dInS, dSl, doNone, doSome, dRevL, dRevS, dM1, dRg1, dListOf, dJoin, dNeg, dApp, dExt, dSetIx, endsOf, dFor, dIt, dZip, dEnum, dRange1, dRange2, itemsQ, dLc, wipeR, dTwn, dTwnSet, dTwnAug, dScrE, dScrL, dScrX, List.getElem?_cons_zero, List.getElem?_cons_succ, List.set_cons_zero, List.set_cons_succ, List.length_cons, List.length_nil, if_true, if_false, Bool.true_eq_false, Bool.false_eq_true, if_pos, ite_true, ite_false, reduceIte, true_and, and_true, true_or, or_true, PV.scr.injEq, PV.int.injEq, PV.bl.injEq, PV.str.injEq, PV.lst.injEq, PV.tup.injEq, exists_eq_left, exists_eq_left', exists_eq_right, exists_eq_right', reduceCtorEq, or_false, false_or, forall_const, Nat.zero_le, Bool.not_true, Bool.not_false, decide_true, decide_false]
  refine ⟨r, m, rfl, hr, hm, rfl, ?_⟩
  rw [isNon_encPr]
  exact q
/-- the release without the mask at i -/
def sans (r : Rel) (i : Nat) : Rel := r.take i ++ r.drop (i + 1)
def redF (r : Rel) : Nat → Rel → List Nat
  | _, [] => []
  | i, m :: s => (if detB (sans r i) m = true then [i] else []) ++ redF r (i + 1) s
def redP (r : Rel) : List Nat := redF r 0 r
def encIs (xs : List Nat) : PV := .lst (xs.map fun i => .int (i : Nat))
def p_redundant : PSp := fun as Q => ∃ (r : Rel), as = [encRel r] ∧ OkR r ∧ Q (encIs (redP r))
theorem m_redundant : MonoP p_redundant := fun _ _ _ h ⟨v, a, e, q⟩ => ⟨v, a, e, h _ q⟩
def bd_redundant_0 : DS := (dIfS (dB (dOp isNQ (dCall 2 p_smallest_counterexample (dCons (dOp addQ (dSl (dVar 0) doNone (doSome (dVar 2))) (dSl (dVar 0) (doSome (dOp addQ (dVar 2) (dC (.int 1)))) doNone)) (dCons (dVar 3) dNil)))
      (dC .non))) (dApp 1 (dVar 2)) dNext)
theorem ebd_redundant_0 (PD : PEnds) (ρ : Rho) : bd_redundant_0 PD ρ = (dIfS (dB (dOp isNQ (dCall 2 p_smallest_counterexample (dCons (dOp addQ (dSl (dVar 0) doNone (doSome (dVar 2))) (dSl (dVar 0) (doSome (dOp addQ (dVar 2) (dC
      (.int 1)))) doNone)) (dCons (dVar 3) dNil))) (dC .non))) (dApp 1 (dVar 2)) dNext) PD ρ := rfl
def d_redundant : DS := (dSeq (dDrop (dCall 1 p_need_release (dCons (dVar 0) dNil))) (dSeq (dOwn 1 (dLst dNil)) (dSeq (dFor (dEnum (dCons (dVar 0) dNil)) (dgTup 2 (dgCons (dgName 2) (dgCons (dgName 3) dgNil))) bd_redundant_0) (dRet
      (dVar 1)))))
theorem sans_ok {r : Rel} (h : OkR r) {i : Nat} (hi : i < r.length) : OkR (sans r i) := by
  refine ⟨?_, fun m hm => ?_⟩
  · have := h.1
    unfold sans
    rw [List.length_append, List.length_take, List.length_drop]; omega
  · unfold sans at hm
    exact (List.mem_append.mp hm).elim (fun h' => h.2 m (List.mem_of_mem_take h')) fun h' => h.2 m (List.mem_of_mem_drop h')
theorem enumP_map {α : Type} (f : α → PV) : ∀ (xs : List α) (i : Nat), enumP i (xs.map f) = (xs.zipIdx i).map fun x => PV.tup [.int (x.2 : Nat), f x.1]
  | [], _ => rfl
  | x :: xs, i => by rw [List.map_cons, enumP, enumP_map f xs (i + 1), List.zipIdx_cons, List.map_cons]
theorem rd_loop {r : Rel} (hr : OkR r) (PD : PEnds) : ∀ (s : Rel) (i : Nat) (acc : List Nat) (s2 s3 : Slot), r.drop i = s → acc.length ≤ i → (∀ s2 s3, PD.nx [.val (encRel r), .own (encIs (acc ++ redF r i s)), s2, s3]) →
    dLoop (dgTup 2 (dgCons (dgName 2) (dgCons (dgName 3) dgNil))) bd_redundant_0 PD (enumP i (s.map encM)) [.val (encRel r), .own (encIs acc), s2, s3]
  | [], i, acc, s2, s3, _, _, h => by
    have h := h s2 s3
    rw [redF, List.append_nil] at h
    exact h
  | m :: s, i, acc, s2, s3, hd, ha, h => by
    have e0 : (sizeLine : Nat) = 16777216 := by decide
    have hrl := hr.1
    have hi : i < r.length := by
      have := congrArg List.length hd
      rw [List.length_drop, List.length_cons] at this; omega
    have hm : m ∈ r := by
      have : m ∈ r.drop i := by rw [hd]; exact List.mem_cons_self
      exact List.mem_of_mem_drop this
    have hd2 : r.drop (i + 1) = s := by
      have := congrArg List.tail hd
      rw [List.tail_drop] at this; simpa using this
    rw [List.map_cons, enumP, dLoop_cons]
    show dgTup 2 _ _ _ _
    simp only [ebd_redundant_0, dIfS, dB, dOp, dCall, dCons, dNil, dVar, dC, dSl, doNone, doSome, dgTup, dgCons, dgName, dgNil, List.getElem?_cons_zero, List.getElem?_cons_succ, List.set_cons_zero, List.set_cons_succ, List.length_cons, List.length_nil, if_true, if_false, Bool.true_eq_false, Bool.false_eq_true, if_pos, ite_true, ite_false, reduceIte, true_and, and_true, true_or, or_true, PV.scr.injEq, PV.int.injEq, PV.bl.injEq, PV.str.injEq, PV.lst.injEq, PV.tup.injEq, exists_eq_left, exists_eq_left', exists_eq_right, exists_eq_right', reduceCtorEq, or_false, false_or, forall_const, Nat.zero_le, Bool.not_true, Bool.not_false, decide_true, decide_false, encRel, slQ_tup, addQ_int]
    rw [show ((i : Nat) : Int) + 1 = ((i + 1 : Nat) : Int) by omega, cutP_take, cutP_drop, addQ_tup]
    refine ⟨by rw [List.length_take, List.length_drop, List.length_map]; omega, sans r i, m, ?_, sans_ok hr hi, hr.2 m hm, rfl, ?_⟩
    · unfold sans encRel
      rw [List.map_append, List.map_take, List.map_drop]
    rw [isNon_encPr]
    show if detB (sans r i) m = true then _ else _
    have rcv := rd_loop hr PD s (i + 1)
    by_cases hb : detB (sans r i) m = true
    · rw [if_pos hb]
      simp only [dApp, ownL, dVar, List.getElem?_cons_zero, List.getElem?_cons_succ, List.set_cons_zero, List.set_cons_succ, List.length_cons, List.length_nil, if_true, if_false, Bool.true_eq_false, Bool.false_eq_true, if_pos, ite_true, ite_false, reduceIte, true_and, and_true, true_or, or_true, PV.scr.injEq, PV.int.injEq, PV.bl.injEq, PV.str.injEq, PV.lst.injEq, PV.tup.injEq, exists_eq_left, exists_eq_left', exists_eq_right, exists_eq_right', reduceCtorEq, or_false, false_or, forall_const, Nat.zero_le, Bool.not_true, Bool.not_false, decide_true, decide_false, encIs]
      refine ⟨by rw [List.length_map]; omega, ?_⟩
      have e : (acc.map fun i => PV.int (i : Nat)) ++ [PV.int (i : Nat)] = (acc ++ [i]).map fun i => PV.int (i : Nat) := by rw [List.map_append]; rfl
      rw [e]
      refine rcv (acc ++ [i]) _ _ hd2 (by rw [List.length_append]; simp; omega) fun s2 s3 => ?_
      have h := h s2 s3
      rw [redF, if_pos hb] at h
      rw [List.append_assoc]; exact h
    · rw [if_neg hb]
      simp only [dNext]
      refine rcv acc _ _ hd2 (by omega) fun s2 s3 => ?_
      have h := h s2 s3
      rw [redF, if_neg hb, List.nil_append] at h
      exact h
theorem h_redundant : ∀ (as : List PV) (post : PV → Prop), as.length = 1 → p_redundant as post → d_redundant (endsOf post) (startR 4 as) := by
  rintro as post _ ⟨r, rfl, hr, q⟩
  show d_redundant _ [.val (encRel r), .un, .un, .un]
  refine seq_i ?_
  simp only [dDrop, dCall, dCons, dNil, dVar, List.getElem?_cons_zero, List.getElem?_cons_succ, List.set_cons_zero, List.set_cons_succ, List.length_cons, List.length_nil, if_true, if_false, Bool.true_eq_false, Bool.false_eq_true, if_pos, ite_true, ite_false, reduceIte, true_and, and_true, true_or, or_true, PV.scr.injEq, PV.int.injEq, PV.bl.injEq, PV.str.injEq, PV.lst.injEq, PV.tup.injEq, exists_eq_left, exists_eq_left', exists_eq_right, exists_eq_right', reduceCtorEq, or_false, false_or, forall_const, Nat.zero_le, Bool.not_true, Bool.not_false, decide_true, decide_false]
  refine ⟨encRel r, rfl, rel_dat r 15, relB_enc hr, ?_⟩
  refine seq_i ?_
  simp only [dOwn, dLst, dNil, List.getElem?_cons_zero, List.getElem?_cons_succ, List.set_cons_zero, List.set_cons_succ, List.length_cons, List.length_nil, if_true, if_false, Bool.true_eq_false, Bool.false_eq_true, if_pos, ite_true, ite_false, reduceIte, true_and, and_true, true_or, or_true, PV.scr.injEq, PV.int.injEq, PV.bl.injEq, PV.str.injEq, PV.lst.injEq, PV.tup.injEq, exists_eq_left, exists_eq_left', exists_eq_right, exists_eq_right', reduceCtorEq, or_false, false_or, forall_const, Nat.zero_le, Bool.not_true, Bool.not_false, decide_true, decide_false]
  refine seq_i ?_
  simp only [dFor, dEnum, dCons, dNil, dVar, List.getElem?_cons_zero, List.getElem?_cons_succ, List.set_cons_zero, List.set_cons_succ, List.length_cons, List.length_nil, if_true, if_false, Bool.true_eq_false, Bool.false_eq_true, if_pos, ite_true, ite_false, reduceIte, true_and, and_true, true_or, or_true, PV.scr.injEq, PV.int.injEq, PV.bl.injEq, PV.str.injEq, PV.lst.injEq, PV.tup.injEq, exists_eq_left, exists_eq_left', exists_eq_right, exists_eq_right', reduceCtorEq, or_false, false_or, forall_const, Nat.zero_le, Bool.not_true, Bool.not_false, decide_true, decide_false, encRel, itemsQ]
  refine rd_loop hr _ r 0 [] _ _ rfl (Nat.le_refl _) fun s2 s3 => ?_
  simp only [dRet, dVar, List.getElem?_cons_zero, List.getElem?_cons_succ, List.set_cons_zero, List.set_cons_succ, List.length_cons, List.length_nil, if_true, if_false, Bool.true_eq_false, Bool.false_eq_true, if_pos, ite_true, ite_false, reduceIte, true_and, and_true, true_or, or_true, PV.scr.injEq, PV.int.injEq, PV.bl.injEq, PV.str.injEq, PV.lst.injEq, PV.tup.injEq, exists_eq_left, exists_eq_left', exists_eq_right, exists_eq_right', reduceCtorEq, or_false, false_or, forall_const, Nat.zero_le, Bool.not_true, Bool.not_false, decide_true, decide_false]
  exact q
end PL

set_option Elab.async false
set_option linter.all false
set_option maxRecDepth 100000
set_option maxHeartbeats 4000000
/-! what the search for counterexamples finds -/
namespace PL

/-- no star among the letters -/
abbrev NoStar (t : T) : Prop := 42 ∉ t
theorem gOf_star {t : T} (h : NoStar t) {i : Nat} (hi : i < t.length) : gOf t (some i) ≠ 42 := by
  show t.getD i 0 ≠ 42
  rw [List.getD_eq_getElem?_getD, List.getElem?_eq_getElem hi]
  exact fun z => h (z ▸ List.getElem_mem hi)
/-- rows that are similar; what equal outputs say -/
theorem sim_of_eq {u v : T} (hu : NoStar u) (hv : NoStar v) : ∀ {r s : Row}, (∀ i, some i ∈ r → i < u.length) → (∀ i, some i ∈ s → i < v.length) → r.map (gOf u) = s.map (gOf v) → simB r s = true
  | [], [], _, _, _ => rfl
  | [], _ :: _, _, _, e => by cases e
  | _ :: _, [], _, _, e => by cases e
  | x :: r, y :: s, h1, h2, e => by
    rw [List.map_cons, List.map_cons] at e
    injection e with e1 e2
    have ih := sim_of_eq hu hv (fun i hi => h1 i (List.mem_cons_of_mem _ hi)) (fun i hi => h2 i (List.mem_cons_of_mem _ hi)) e2
    have hxy : (x.isNone == y.isNone) = true := by
      cases x with
      | none => cases y with
        | none => rfl
        | some j => exact absurd e1.symm (gOf_star hv (h2 j List.mem_cons_self))
      | some i => cases y with
        | none => exact absurd e1 (gOf_star hu (h1 i List.mem_cons_self))
        | some j => rfl
    unfold simB at ih ⊢
    rw [Bool.and_eq_true, decide_eq_true_eq] at ih
    rw [List.zip_cons_cons, List.all_cons, hxy, ih.2, List.length_cons, List.length_cons, ih.1]
    simp
theorem simB_cons {x y : Option Nat} {r s : Row} (h : simB (x :: r) (y :: s) = true) : x.isNone = y.isNone ∧ simB r s = true := by
  unfold simB at h ⊢
  rw [List.zip_cons_cons, List.all_cons, Bool.and_eq_true, Bool.and_eq_true, decide_eq_true_eq, List.length_cons, List.length_cons] at h
  obtain ⟨h1, h2, h3⟩ := h
  rw [h3, decide_eq_true (by omega)]
  exact ⟨by simpa using h2, rfl⟩
theorem simB_len {r s : Row} (h : simB r s = true) : r.length = s.length := by
  unfold simB at h
  rw [Bool.and_eq_true, decide_eq_true_eq] at h
  exact h.1
theorem eq_of_sim {u v : T} : ∀ {r s : Row}, simB r s = true → (∀ x ∈ r.zip s, ∀ i j, x = (some i, some j) → u.getD i 0 = v.getD j 0) → r.map (gOf u) = s.map (gOf v)
  | [], [], _, _ => rfl
  | [], _ :: _, h, _ => by have := simB_len h; simp at this
  | _ :: _, [], h, _ => by have := simB_len h; simp at this
  | x :: r, y :: s, h, hp => by
    obtain ⟨h1, h2⟩ := simB_cons h
    rw [List.map_cons, List.map_cons, eq_of_sim h2 fun z hz => hp z (by rw [List.zip_cons_cons]; exact List.mem_cons_of_mem _ hz)]
    congr 1
    cases x with
    | none => cases y with
      | none => rfl
      | some j => cases h1
    | some i => cases y with
      | none => cases h1
      | some j => exact hp (some i, some j) (by rw [List.zip_cons_cons]; exact List.mem_cons_self) i j rfl
theorem pairs_of_eq {u v : T} : ∀ {r s : Row}, r.map (gOf u) = s.map (gOf v) → ∀ x ∈ r.zip s, ∀ i j, x = (some i, some j) → u.getD i 0 = v.getD j 0
  | [], _, _, x, hx, _, _, _ => by simp at hx
  | _ :: _, [], e, _, _, _, _, _ => by cases e
  | x :: r, y :: s, e, z, hz, i, j, ez => by
    rw [List.map_cons, List.map_cons] at e
    injection e with e1 e2
    rw [List.zip_cons_cons] at hz
    rcases List.mem_cons.mp hz with h | h
    · rw [h] at ez
      injection ez with a b
      subst a; subst b
      exact e1
    · exact pairs_of_eq e2 z h i j ez
/-! ### classes -/
/-- the pairs that are made equal -/
def prs (r s : Row) : List (Nd × Nd) := (r.zip s).filterMap fun x => match x with
  | (some i, some j) => some ((0, i), (1, j))
  | _ => none
theorem prs_cons (x y : Option Nat) (r s : Row) : prs (x :: r) (y :: s) = (match x, y with | some i, some j => [((0, i), (1, j))] | _, _ => []) ++ prs r s := by
  unfold prs
  rw [List.zip_cons_cons]
  cases x <;> cases y <;> rfl
theorem eqd1_prs (rep : Nd → Nd) : ∀ r s : Row, eqd1 rep r s = (prs r s).foldl (fun rep e => uni rep e.1 e.2) rep
  | [], s => by rw [eqd1.eq_def]; rfl
  | x :: r, [] => by cases x <;> rfl
  | some i :: r, some j :: s => by rw [eqd1, eqd1_prs _ r s, prs_cons]; rfl
  | none :: r, y :: s => by rw [eqd1.eq_def, prs_cons]; exact eqd1_prs rep r s
  | some i :: r, none :: s => by rw [eqd1.eq_def, prs_cons]; exact eqd1_prs rep r s
def prsA : List Row → List Row → List (Nd × Nd)
  | r :: R, s :: S => prs r s ++ prsA R S
  | _, _ => []
theorem eqdA_prs (rep : Nd → Nd) : ∀ R S : List Row, eqdA rep R S = (prsA R S).foldl (fun rep e => uni rep e.1 e.2) rep
  | [], S => by rw [eqdA.eq_def, prsA.eq_def]; rfl
  | r :: R, [] => rfl
  | r :: R, s :: S => by rw [eqdA, eqdA_prs _ R S, prsA, List.foldl_append, eqd1_prs]
/-- a function that is the same on each pair is the same on each class -/
theorem fold_fn {α : Type} (w : Nd → α) : ∀ (es : List (Nd × Nd)) (rep : Nd → Nd), (∀ n, w (rep n) = w n) → (∀ e ∈ es, w e.1 = w e.2) → ∀ n, w (es.foldl (fun rep e => uni rep e.1 e.2) rep n) = w n
  | [], rep, h, _ => h
  | e :: es, rep, h, he => by
    refine fold_fn w es (uni rep e.1 e.2) (fun n => ?_) fun x hx => he x (List.mem_cons_of_mem _ hx)
    unfold uni
    split
    · rename_i q
      rw [h, ← he e List.mem_cons_self, ← h e.1, ← q, h]
    · exact h n
theorem fold_keep : ∀ (es : List (Nd × Nd)) (rep : Nd → Nd) (a b : Nd), rep a = rep b → es.foldl (fun rep e => uni rep e.1 e.2) rep a = es.foldl (fun rep e => uni rep e.1 e.2) rep b
  | [], rep, a, b, h => h
  | e :: es, rep, a, b, h => fold_keep es (uni rep e.1 e.2) a b (by unfold uni; rw [h])
/-- the pairs are in one class -/
theorem fold_pair : ∀ (es : List (Nd × Nd)) (rep : Nd → Nd), ∀ e ∈ es, es.foldl (fun rep e => uni rep e.1 e.2) rep e.1 = es.foldl (fun rep e => uni rep e.1 e.2) rep e.2
  | x :: es, rep, e, he => by
    rcases List.mem_cons.mp he with h | h
    · subst h
      refine fold_keep es _ _ _ ?_
      show uni rep e.1 e.2 e.1 = uni rep e.1 e.2 e.2
      unfold uni
      rw [if_pos rfl]
      split
      · rfl
      · rfl
    · exact fold_pair es (uni rep x.1 x.2) e h
theorem mem_prs {r s : Row} {i j : Nat} (h : (some i, some j) ∈ r.zip s) : ((0, i), (1, j)) ∈ prs r s := by
  unfold prs
  exact List.mem_filterMap.mpr ⟨_, h, rfl⟩
theorem of_prs {r s : Row} {e : Nd × Nd} (h : e ∈ prs r s) : ∃ i j, e = ((0, i), (1, j)) ∧ (some i, some j) ∈ r.zip s := by
  unfold prs at h
  obtain ⟨x, hx, e⟩ := List.mem_filterMap.mp h
  obtain ⟨x1, x2⟩ := x
  cases x1 with
  | none => cases e
  | some i => cases x2 with
    | none => cases e
    | some j => injection e with e; exact ⟨i, j, e.symm, hx⟩
theorem mem_prsA {f g : Mask → Row} : ∀ {r : Rel} {m : Mask} {e : Nd × Nd}, m ∈ r → e ∈ prs (f m) (g m) → e ∈ prsA (r.map f) (r.map g)
  | x :: r, m, e, hm, he => by
    rw [List.map_cons, List.map_cons, prsA]
    rcases List.mem_cons.mp hm with rfl | h
    · exact List.mem_append_left _ he
    · exact List.mem_append_right _ (mem_prsA h he)
theorem of_prsA {f g : Mask → Row} : ∀ {r : Rel} {e : Nd × Nd}, e ∈ prsA (r.map f) (r.map g) → ∃ m ∈ r, e ∈ prs (f m) (g m)
  | [], e, h => by cases h
  | x :: r, e, h => by
    rw [List.map_cons, List.map_cons, prsA] at h
    rcases List.mem_append.mp h with h | h
    · exact ⟨x, List.mem_cons_self, h⟩
    · obtain ⟨m, hm, h⟩ := of_prsA h
      exact ⟨m, List.mem_cons_of_mem _ hm, h⟩
theorem simA_map {f g : Mask → Row} : ∀ {r : Rel}, simA (r.map f) (r.map g) = true ↔ ∀ m ∈ r, simB (f m) (g m) = true
  | [] => ⟨fun _ _ h => (by cases h), fun _ => rfl⟩
  | x :: r => by
    have ih := simA_map (f := f) (g := g) (r := r)
    unfold simA at ih ⊢
    rw [List.map_cons, List.map_cons, List.zip_cons_cons, List.all_cons, Bool.and_eq_true, ih]
    constructor
    · intro h m hm
      rcases List.mem_cons.mp hm with e | hm
      · rw [e]; exact h.1
      · exact h.2 m hm
    · exact fun h => ⟨h x List.mem_cons_self, fun m hm => h m (List.mem_cons_of_mem _ hm)⟩
theorem findP_none {rep : Nd → Nd} : ∀ {r s : Row}, findP rep r s = none → ∀ i j, (some i, some j) ∈ r.zip s → rep (0, i) = rep (1, j)
  | [], s, _, i, j, h => by simp at h
  | x :: r, [], _, i, j, h => by simp at h
  | some a :: r, some b :: s, e, i, j, h => by
    rw [findP] at e
    split at e
    · rename_i q
      rw [List.zip_cons_cons] at h
      rcases List.mem_cons.mp h with h | h
      · injection h with h1 h2
        injection h1 with h1; injection h2 with h2
        rw [h1, h2]; exact q
      · exact findP_none e i j h
    · cases e
  | none :: r, y :: s, e, i, j, h => by
    rw [findP.eq_def] at e
    rw [List.zip_cons_cons] at h
    rcases List.mem_cons.mp h with h | h
    · injection h with h1 h2; cases h1
    · exact findP_none e i j h
  | some a :: r, none :: s, e, i, j, h => by
    rw [findP.eq_def] at e
    rw [List.zip_cons_cons] at h
    rcases List.mem_cons.mp h with h | h
    · injection h with h1 h2; cases h2
    · exact findP_none e i j h
theorem findP_some {rep : Nd → Nd} {c : Nd} : ∀ {r s : Row}, findP rep r s = some c → ∃ i j, (some i, some j) ∈ r.zip s ∧ rep (0, i) = c ∧ rep (1, j) ≠ c
  | [], s, e => by rw [findP.eq_def] at e; cases e
  | x :: r, [], e => by cases x <;> cases e
  | some a :: r, some b :: s, e => by
    rw [findP] at e
    split at e
    · obtain ⟨i, j, h, q⟩ := findP_some e
      exact ⟨i, j, by rw [List.zip_cons_cons]; exact List.mem_cons_of_mem _ h, q⟩
    · rename_i q
      injection e with e
      exact ⟨a, b, by rw [List.zip_cons_cons]; exact List.mem_cons_self, e, fun z => q (by rw [e, z])⟩
  | none :: r, y :: s, e => by
    rw [findP.eq_def] at e
    obtain ⟨i, j, h, q⟩ := findP_some (r := r) (s := s) e
    exact ⟨i, j, by rw [List.zip_cons_cons]; exact List.mem_cons_of_mem _ h, q⟩
  | some a :: r, none :: s, e => by
    rw [findP.eq_def] at e
    obtain ⟨i, j, h, q⟩ := findP_some (r := r) (s := s) e
    exact ⟨i, j, by rw [List.zip_cons_cons]; exact List.mem_cons_of_mem _ h, q⟩
/-! ### the strings -/
theorem side_len (rep : Nd → Nd) (s l : Nat) (ch : Option Nd) : (sideT rep s l ch).length = l := by
  unfold sideT; rw [List.length_map, List.length_range]
theorem side_get (rep : Nd → Nd) (s : Nat) (ch : Option Nd) {l i : Nat} (h : i < l) : (sideT rep s l ch).getD i 0 = if ch = some (rep (s, i)) then 98 else 97 := by
  unfold sideT
  rw [List.getD_eq_getElem?_getD, List.getElem?_map, List.getElem?_range h]
  rfl
theorem side_mem {rep : Nd → Nd} {s l : Nat} {ch : Option Nd} {c : Nat} (h : c ∈ sideT rep s l ch) : c = 97 ∨ c = 98 := by
  unfold sideT at h
  obtain ⟨i, _, rfl⟩ := List.mem_map.mp h
  split
  · exact .inr rfl
  · exact .inl rfl
theorem side_nostar (rep : Nd → Nd) (s l : Nat) (ch : Option Nd) : NoStar (sideT rep s l ch) := fun h => by
  rcases side_mem h with h | h <;> cases h
structure Pr (l o : Nat) (u v : T) : Prop where
  l : u.length = l
  o : v.length = o
  u : ∀ c ∈ u, c = 97 ∨ c = 98
  v : ∀ c ∈ v, c = 97 ∨ c = 98
theorem Pr.nu {l o : Nat} {u v : T} (h : Pr l o u v) : NoStar u := fun z => by rcases h.u _ z with h | h <;> cases h
theorem Pr.nv {l o : Nat} {u v : T} (h : Pr l o u v) : NoStar v := fun z => by rcases h.v _ z with h | h <;> cases h
theorem pair_conf {r : Rel} {l o : Nat} (hs : simA (r.map fun x => tmpl x l) (r.map fun x => tmpl x o) = true) (ch : Option Nd) :
    Conf r (sideT (eqdA id (r.map fun x => tmpl x l) (r.map fun x => tmpl x o)) 0 l ch) (sideT (eqdA id (r.map fun x => tmpl x l) (r.map fun x => tmpl x o)) 1 o ch) := fun m hm => by
  unfold outT
  rw [side_len, side_len]
  refine eq_of_sim (simA_map.mp hs m hm) fun x hx i j ex => ?_
  subst ex
  have hi : i < l := tmpl_some (List.of_mem_zip hx).1
  have hj : j < o := tmpl_some (List.of_mem_zip hx).2
  rw [side_get _ _ _ hi, side_get _ _ _ hj]
  have e := fold_pair (prsA (r.map fun x => tmpl x l) (r.map fun x => tmpl x o)) id _ (mem_prsA hm (mem_prs hx))
  rw [← eqdA_prs] at e
  rw [e]
theorem tryP_some {r : Rel} {m : Mask} {l o : Nat} {x : T × T} (h : tryP r m l o = some x) : Pr l o x.1 x.2 ∧ Cex r m x.1 x.2 := by
  unfold tryP at h
  split at h
  · rename_i hs
    have mk : ∀ ch, Pr l o (sideT (eqdA id (r.map fun x => tmpl x l) (r.map fun x => tmpl x o)) 0 l ch) (sideT (eqdA id (r.map fun x => tmpl x l) (r.map fun x => tmpl x o)) 1 o ch) := fun ch => ⟨side_len _ _ _ _, side_len _ _ _ _, fun c hc => side_mem hc, fun c hc => side_mem hc⟩
    unfold partP at h
    split at h
    · rename_i hb
      cases hf : findP (eqdA id (r.map fun x => tmpl x l) (r.map fun x => tmpl x o)) (tmpl m l) (tmpl m o) with
      | none => rw [hf] at h; cases h
      | some c =>
        rw [hf] at h
        injection h with h
        subst h
        refine ⟨mk _, pair_conf hs _, fun e => ?_⟩
        obtain ⟨i, j, hij, h1, h2⟩ := findP_some hf
        have hi : i < l := tmpl_some (List.of_mem_zip hij).1
        have hj : j < o := tmpl_some (List.of_mem_zip hij).2
        unfold outT pairT at e
        simp only [side_len] at e
        have := pairs_of_eq e _ hij i j rfl
        rw [side_get _ _ _ hi, side_get _ _ _ hj, if_pos (by rw [h1]), if_neg (fun z => h2 (by injection z with z; exact z.symm))] at this
        cases this
    · rename_i hb
      injection h with h
      subst h
      refine ⟨mk _, pair_conf hs _, fun e => hb ?_⟩
      unfold outT pairT at e
      simp only [side_len] at e
      exact sim_of_eq (side_nostar _ _ _ _) (side_nostar _ _ _ _) (fun i hi => by rw [side_len]; exact tmpl_some hi) (fun i hi => by rw [side_len]; exact tmpl_some hi) e
  · cases h
theorem tryP_none {r : Rel} {m : Mask} {u v : T} (hu : NoStar u) (hv : NoStar v) (h : tryP r m u.length v.length = none) (hc : Conf r u v) : outT m u = outT m v := by
  have hs : simA (r.map fun x => tmpl x u.length) (r.map fun x => tmpl x v.length) = true := simA_map.mpr fun x hx => sim_of_eq hu hv (fun i hi => tmpl_some hi) (fun i hi => tmpl_some hi) (hc x hx)
  unfold tryP at h
  rw [if_pos hs] at h
  unfold partP at h
  split at h
  · rename_i hb
    cases hf : findP (eqdA id (r.map fun x => tmpl x u.length) (r.map fun x => tmpl x v.length)) (tmpl m u.length) (tmpl m v.length) with
    | some c => rw [hf] at h; cases h
    | none =>
      unfold outT
      refine eq_of_sim hb fun x hx i j ex => ?_
      subst ex
      have e := findP_none hf i j hx
      have key := fold_fn (fun n : Nd => if n.1 = 0 then u.getD n.2 0 else v.getD n.2 0) (prsA (r.map fun x => tmpl x u.length) (r.map fun x => tmpl x v.length)) id (fun _ => rfl) (fun e he => by
        obtain ⟨y, hy, he⟩ := of_prsA he
        obtain ⟨i, j, rfl, hij⟩ := of_prs he
        exact pairs_of_eq (hc y hy) _ hij i j rfl)
      rw [← eqdA_prs] at key
      have k1 := key (0, i)
      have k2 := key (1, j)
      rw [e] at k1
      have := k1.symm.trans k2
      simpa using this
  · cases h
/-! ### the search -/
theorem scanL_some {r : Rel} {m : Mask} {t : Nat} {x : T × T} : ∀ {k L : Nat}, scanL r m t k L = some x → ∃ l, L ≤ l ∧ l < L + k ∧ tryP r m l (t - l) = some x
  | k + 1, L, h => by
    rw [scanL] at h
    split at h
    · rename_i y e
      injection h with h
      subst h
      exact ⟨L, by omega, by omega, e⟩
    · obtain ⟨l, h1, h2, h3⟩ := scanL_some h
      exact ⟨l, by omega, by omega, h3⟩
theorem scanL_none {r : Rel} {m : Mask} {t : Nat} : ∀ {k L : Nat}, scanL r m t k L = none → ∀ l, L ≤ l → l < L + k → tryP r m l (t - l) = none
  | 0, L, _, l, h1, h2 => by omega
  | k + 1, L, h, l, h1, h2 => by
    rw [scanL] at h
    split at h
    · cases h
    · rename_i e
      by_cases hl : l = L
      · rw [hl]; exact e
      · exact scanL_none h l (by omega) (by omega)
theorem scanT_some {r : Rel} {m : Mask} {M : Nat} {x : T × T} : ∀ {k t : Nat}, scanT r m M k t = some x → ∃ s, t ≤ s ∧ s < t + k ∧ scanL r m s (s / 2 + 1 - (s - M)) (s - M) = some x ∧ ∀ s', t ≤ s' → s' < s → scanL r m s' (s' / 2 + 1 - (s' - M)) (s' - M) = none
  | k + 1, t, h => by
    rw [scanT] at h
    split at h
    · rename_i y e
      injection h with h
      subst h
      exact ⟨t, by omega, by omega, e, fun s' h1 h2 => by omega⟩
    · rename_i e
      obtain ⟨s, h1, h2, h3, h4⟩ := scanT_some h
      refine ⟨s, by omega, by omega, h3, fun s' q1 q2 => ?_⟩
      by_cases hs : s' = t
      · rw [hs]; exact e
      · exact h4 s' (by omega) q2
theorem scanT_none {r : Rel} {m : Mask} {M : Nat} : ∀ {k t : Nat}, scanT r m M k t = none → ∀ s, t ≤ s → s < t + k → scanL r m s (s / 2 + 1 - (s - M)) (s - M) = none
  | 0, t, _, s, h1, h2 => by omega
  | k + 1, t, h, s, h1, h2 => by
    rw [scanT] at h
    split at h
    · cases h
    · rename_i e
      by_cases hs : s = t
      · rw [hs]; exact e
      · exact scanT_none h s (by omega) (by omega)
theorem mostP_eq (r : Rel) (m : Mask) : mostP r m = rsum (r ++ [m]) + 3 := by
  unfold mostP bnd rsum; omega
/-- a pair within the bounds is met by the scan of its total -/
theorem scan_meets {r : Rel} {m : Mask} {u v : T} (hu : NoStar u) (hv : NoStar v) (h : Cex r m u v) (h1 : v.length ≤ u.length) (h2 : u.length ≤ mostP r m) (hs : scanL r m (u.length + v.length) ((u.length + v.length) / 2 + 1 - ((u.length + v.length) - mostP r m)) ((u.length + v.length) - mostP r m) = none) : False := by
  have := scanL_none hs v.length (by omega) (by omega)
  rw [show u.length + v.length - v.length = u.length by omega] at this
  exact h.symm.n (tryP_none hv hu this h.symm.c)
theorem scex_some {r : Rel} {m : Mask} {x : T × T} (h : scex r m = some x) : (∀ c ∈ x.1, c = 97 ∨ c = 98) ∧ (∀ c ∈ x.2, c = 97 ∨ c = 98) ∧ x.1.length ≤ x.2.length ∧ x.2.length ≤ mostP r m ∧ Cex r m x.1 x.2 ∧ ∀ u v : T, NoStar u → NoStar v → Cex r m u v → x.1.length + x.2.length ≤ u.length + v.length := by
  unfold scex at h
  obtain ⟨s, h1, h2, h3, h4⟩ := scanT_some h
  obtain ⟨l, q1, q2, q3⟩ := scanL_some h3
  obtain ⟨p, c⟩ := tryP_some q3
  refine ⟨p.u, p.v, by rw [p.l, p.o]; omega, by rw [p.o]; omega, c, fun u v hu hv hc => ?_⟩
  obtain ⟨u', v', c', w1, w2, w3, w4⟩ := cex_bound _ u v (Nat.le_refl _) hc
  have n1 : NoStar u' := fun z => (w4 _ (.inl z)).elim hu hv
  have n2 : NoStar v' := fun z => (w4 _ (.inr z)).elim hu hv
  rw [p.l, p.o]
  refine Nat.le_trans ?_ w3
  rw [← mostP_eq] at w2
  by_cases hlt : u'.length + v'.length < s
  · exact (scan_meets n1 n2 c' w1 w2 (h4 _ (Nat.zero_le _) hlt)).elim
  · omega
theorem scex_none {r : Rel} {m : Mask} (h : scex r m = none) {u v : T} (hu : NoStar u) (hv : NoStar v) (hc : Conf r u v) : outT m u = outT m v := by
  by_cases hn : outT m u = outT m v
  · exact hn
  · exfalso
    obtain ⟨u', v', c', w1, w2, w3, w4⟩ := cex_bound _ u v (Nat.le_refl _) ⟨hc, hn⟩
    have n1 : NoStar u' := fun z => (w4 _ (.inl z)).elim hu hv
    have n2 : NoStar v' := fun z => (w4 _ (.inr z)).elim hu hv
    rw [← mostP_eq] at w2
    unfold scex at h
    exact scan_meets n1 n2 c' w1 w2 (scanT_none h _ (Nat.zero_le _) (by omega))
/-- a release determines a mask: what it means -/
def Det (r : Rel) (m : Mask) : Prop := ∀ u v : T, NoStar u → NoStar v → Conf r u v → outT m u = outT m v
theorem detB_iff {r : Rel} {m : Mask} : detB r m = true ↔ Det r m := by
  unfold detB
  constructor
  · intro h u v hu hv hc
    exact scex_none (Option.isNone_iff_eq_none.mp h) hu hv hc
  · intro h
    cases e : scex r m with
    | none => rfl
    | some x =>
      obtain ⟨h1, h2, _, _, h5, _⟩ := scex_some e
      exact absurd (h x.1 x.2 (fun z => by rcases h1 _ z with h | h <;> cases h) (fun z => by rcases h2 _ z with h | h <;> cases h) h5.c) h5.n
end PL

set_option Elab.async false
set_option linter.all false
set_option maxRecDepth 100000
set_option maxHeartbeats 4000000
/-! all strings of some letters; commute, idempotent -/
namespace PL
open PySem PySem.Spec L2
open TL (tl len_tl ext_tl tl_append joinL tl_join join_eq)

/-- the strings of n letters -/
def lvl (ls : T) : Nat → List T
  | 0 => [[]]
  | n + 1 => (lvl ls n).flatMap fun t => ls.map fun c => t ++ [c]
/-- those of at most n -/
def allS (ls : T) : Nat → List T
  | 0 => lvl ls 0
  | n + 1 => allS ls n ++ lvl ls (n + 1)
theorem lvl_mem {ls : T} : ∀ {n : Nat} {t : T}, t ∈ lvl ls n → t.length = n ∧ ∀ c ∈ t, c ∈ ls
  | 0, t, h => by
    rw [lvl, List.mem_singleton] at h
    subst h
    exact ⟨rfl, fun _ h => by cases h⟩
  | n + 1, t, h => by
    rw [lvl, List.mem_flatMap] at h
    obtain ⟨s, hs, h⟩ := h
    obtain ⟨c, hc, rfl⟩ := List.mem_map.mp h
    obtain ⟨h1, h2⟩ := lvl_mem hs
    refine ⟨by rw [List.length_append, h1]; rfl, fun d hd => ?_⟩
    rcases List.mem_append.mp hd with hd | hd
    · exact h2 d hd
    · rw [List.mem_singleton.mp hd]; exact hc
theorem allS_mem {ls : T} : ∀ {n : Nat} {t : T}, t ∈ allS ls n → t.length ≤ n ∧ ∀ c ∈ t, c ∈ ls
  | 0, t, h => by
    have := lvl_mem (n := 0) h
    exact ⟨by omega, this.2⟩
  | n + 1, t, h => by
    rw [allS] at h
    rcases List.mem_append.mp h with h | h
    · have := allS_mem h
      exact ⟨by omega, this.2⟩
    · have := lvl_mem h
      exact ⟨by omega, this.2⟩
theorem lvl_length (ls : T) : ∀ n, (lvl ls n).length = ls.length ^ n
  | 0 => rfl
  | n + 1 => by
    rw [lvl, List.length_flatMap]
    have e : ((lvl ls n).map fun t => (ls.map fun c => t ++ [c]).length) = (lvl ls n).map fun _ => ls.length := by
      apply List.map_congr_left
      intro t _
      rw [List.length_map]
    rw [e, List.map_const', List.sum_replicate_nat, lvl_length ls n, Nat.pow_succ]
def stP (t : T) : PV := .str (strT t)
def p__law_strings : PSp := fun as Q => ∃ (ls : T) (n : Nat), as = [.str (strT ls), .int n] ∧ ls.length ≤ 3 ∧ (∀ c ∈ ls, c < 0x110000) ∧ n ≤ 10 ∧ Q (.lst ((allS ls n).map stP))
theorem m__law_strings : MonoP p__law_strings := fun _ _ _ h ⟨v, a, e, z, y, x, q⟩ => ⟨v, a, e, z, y, x, h _ q⟩
def bd__law_strings_0 : DS := (dExt 5 (dLc (dIt (dVar 0)) (dgName 7) dYes (dOp addQ (dVar 6) (dVar 7)) [7]))
theorem ebd__law_strings_0 (PD : PEnds) (ρ : Rho) : bd__law_strings_0 PD ρ = (dExt 5 (dLc (dIt (dVar 0)) (dgName 7) dYes (dOp addQ (dVar 6) (dVar 7)) [7])) PD ρ := rfl
def bd__law_strings_1 : DS := (dSeq (dOwn 5 (dLst dNil)) (dSeq (dFor (dIt (dVar 3)) (dgName 6) bd__law_strings_0) (dSeq (dExt 2 (dVar 5)) (dSet 3 (dVar 5)))))
theorem ebd__law_strings_1 (PD : PEnds) (ρ : Rho) : bd__law_strings_1 PD ρ = (dSeq (dOwn 5 (dLst dNil)) (dSeq (dFor (dIt (dVar 3)) (dgName 6) bd__law_strings_0) (dSeq (dExt 2 (dVar 5)) (dSet 3 (dVar 5))))) PD ρ := rfl
def d__law_strings : DS := (dSeq (dParO 2 3 (dLst (dCons (dC (.str (Str.ofString ""))) dNil)) (dLst (dCons (dC (.str (Str.ofString ""))) dNil))) (dSeq (dFor (dRange1 (dCons (dVar 1) dNil)) (dgName 4) bd__law_strings_1) (dRet (dVar
      2))))
theorem ext_map (ls : T) (t : T) : (ls.map chP).map (fun p => match p with | .str z => PV.str (strT t ++ z) | q => q) = (ls.map fun c => t ++ [c]).map stP := by
  rw [List.map_map, List.map_map]
  apply List.map_congr_left
  intro c _
  show PV.str (strT t ++ strT [c]) = stP (t ++ [c])
  rw [strT_add]; rfl
theorem st_loop (ls : T) (hls : ls.length ≤ 3) (v1 v2 v3 v4 : Slot) (PD : PEnds) : ∀ (ts : List T) (acc : List T) (s6 s7 : Slot), isOwn s7 = false → (∀ t ∈ ts, t.length ≤ 1000) → acc.length + 3 * ts.length ≤ 1000000 → (∀ s6 s7, isOwn s7 = false → PD.nx [.val (.str (strT ls)), v1, v2, v3, v4, .own (.lst ((acc ++ ts.flatMap fun t => ls.map fun c => t ++ [c]).map stP)), s6, s7]) →
    dLoop (dgName 6) bd__law_strings_0 PD (ts.map stP) [.val (.str (strT ls)), v1, v2, v3, v4, .own (.lst (acc.map stP)), s6, s7]
  | [], acc, s6, s7, h7, _, _, h => by
    have h := h s6 s7 h7
    rw [List.flatMap_nil, List.append_nil] at h
    exact h
  | t :: ts, acc, s6, s7, h7, ht, hl, h => by
    have big := big
    rw [List.length_cons] at hl
    have ht1 := ht t List.mem_cons_self
    rw [List.map_cons, dLoop_cons]
    simp only [ebd__law_strings_0, dSeq, dNext, dIfS, dRet, dRetN, dSet, dOwn, dVar, dC, dOp, dB, dChain, dAnd, dOr, dNot, dAndV, dOrV, dNotV, dIf, dNil, dCons, dTup, dLst, dDrop, dgName, dgNil, dgCons, dgTup, dAsg, dPar, dPar3, dParO, dParV, dAug, dCall, dBi, dIsi, dInS, dSl, doNone, doSome, dRevL, dRevS, dM1, dRg1, dListOf, dJoin, dNeg, dApp, dExt, dSetIx, endsOf, dFor, dIt, dZip, dEnum, dRange1, dRange2, itemsQ, dLc, wipeR, dTwn, dTwnSet, dTwnAug, dScrE, dScrL, dScrX, List.getElem?_cons_zero, List.getElem?_cons_succ, List.set_cons_zero, List.set_cons_succ, List.length_cons, List.length_nil, if_true, if_false, Bool.true_eq_false, Bool.false_eq_true, if_pos, ite_true, ite_false, reduceIte, true_and, and_true, true_or, or_true, PV.scr.injEq, PV.int.injEq, PV.bl.injEq, PV.str.injEq, PV.lst.injEq, PV.tup.injEq, exists_eq_left, exists_eq_left', exists_eq_right, exists_eq_right', reduceCtorEq, or_false, false_or, forall_const, Nat.zero_le, Bool.not_true, Bool.not_false, decide_true, decide_false, ownL, signs_strT]
    refine ⟨fun i hi s hs => ?_, by rw [List.length_map]; omega, lcLoop_map (f := fun p => match p with | .str z => PV.str (strT t ++ z) | q => q) (fun x hx P hP => ?_) ?_⟩
    · have e : i = 7 := by simpa using hi
      subst e
      simp only [List.getElem?_cons_zero, List.getElem?_cons_succ, List.set_cons_zero, List.set_cons_succ, List.length_cons, List.length_nil, if_true, if_false, Bool.true_eq_false, Bool.false_eq_true, if_pos, ite_true, ite_false, reduceIte, true_and, and_true, true_or, or_true, PV.scr.injEq, PV.int.injEq, PV.bl.injEq, PV.str.injEq, PV.lst.injEq, PV.tup.injEq, exists_eq_left, exists_eq_left', exists_eq_right, exists_eq_right', reduceCtorEq, or_false, false_or, forall_const, Nat.zero_le, Bool.not_true, Bool.not_false, decide_true, decide_false, Option.some.injEq] at hs
      subst hs; exact h7
    · obtain ⟨c, hc, rfl⟩ := List.mem_map.mp hx
      simp only [dYes, dSeq, dNext, dIfS, dRet, dRetN, dSet, dOwn, dVar, dC, dOp, dB, dChain, dAnd, dOr, dNot, dAndV, dOrV, dNotV, dIf, dNil, dCons, dTup, dLst, dDrop, dgName, dgNil, dgCons, dgTup, dAsg, dPar, dPar3, dParO, dParV, dAug, dCall, dBi, dIsi, dInS, dSl, doNone, doSome, dRevL, dRevS, dM1, dRg1, dListOf, dJoin, dNeg, dApp, dExt, dSetIx, endsOf, dFor, dIt, dZip, dEnum, dRange1, dRange2, itemsQ, dLc, wipeR, dTwn, dTwnSet, dTwnAug, dScrE, dScrL, dScrX, List.getElem?_cons_zero, List.getElem?_cons_succ, List.set_cons_zero, List.set_cons_succ, List.length_cons, List.length_nil, if_true, if_false, Bool.true_eq_false, Bool.false_eq_true, if_pos, ite_true, ite_false, reduceIte, true_and, and_true, true_or, or_true, PV.scr.injEq, PV.int.injEq, PV.bl.injEq, PV.str.injEq, PV.lst.injEq, PV.tup.injEq, exists_eq_left, exists_eq_left', exists_eq_right, exists_eq_right', reduceCtorEq, or_false, false_or, forall_const, Nat.zero_le, Bool.not_true, Bool.not_false, decide_true, decide_false]
      show addQ (.str (strT t)) (.str (strT [c])) _
      rw [addQ_str]
      exact ⟨by rw [strT_len, strT_len]; show t.length + 1 ≤ _; omega, hP⟩
    · rw [ext_map]
      refine ⟨by rw [List.length_map, List.length_map, List.length_map]; omega, ?_⟩
      rw [← List.map_append]
      refine st_loop ls hls v1 v2 v3 v4 PD ts (acc ++ ls.map fun c => t ++ [c]) _ _ h7 (fun s hs => ht s (List.mem_cons_of_mem _ hs)) (by rw [List.length_append, List.length_map]; omega) fun s6 s7 h7 => ?_
      have h := h s6 s7 h7
      rw [List.flatMap_cons, ← List.append_assoc] at h
      exact h
theorem allS_length (ls : T) (hls : ls.length ≤ 3) : ∀ n, n ≤ 10 → (allS ls n).length ≤ (n + 1) * 59049
  | 0, _ => by simp [allS, lvl]
  | n + 1, h => by
    rw [allS, List.length_append, lvl_length]
    have := allS_length ls hls n (by omega)
    have h2 : ls.length ^ (n + 1) ≤ 3 ^ 10 := Nat.le_trans (Nat.pow_le_pow_left hls _) (Nat.pow_le_pow_right (by decide) h)
    omega
theorem lvl_le (ls : T) (hls : ls.length ≤ 3) (n : Nat) (h : n ≤ 10) : (lvl ls n).length ≤ 59049 := by
  rw [lvl_length]
  exact Nat.le_trans (Nat.pow_le_pow_left hls _) (Nat.le_trans (Nat.pow_le_pow_right (by decide) h) (by decide))
theorem so_loop (ls : T) (hls : ls.length ≤ 3) (v1 : Slot) (PD : PEnds) : ∀ (k n : Nat) (L : Int) (s4 s5 s6 s7 : Slot), isOwn s7 = false → n + k ≤ 10 → (∀ s3 s4 s5 s6 s7, PD.nx [.val (.str (strT ls)), v1, .own (.lst ((allS ls (n + k)).map stP)), s3, s4, s5, s6, s7]) →
    dLoop (dgName 4) bd__law_strings_1 PD (rngP L k) [.val (.str (strT ls)), v1, .own (.lst ((allS ls n).map stP)), .val (.lst ((lvl ls n).map stP)), s4, s5, s6, s7]
  | 0, n, L, s4, s5, s6, s7, h7, hl, h => h _ _ _ _ _
  | k + 1, n, L, s4, s5, s6, s7, h7, hl, h => by
    have big := big
    have b1 := allS_length ls hls n (by omega)
    have b2 := lvl_le ls hls n (by omega)
    have b3 := lvl_le ls hls (n + 1) (by omega)
    have b4 : (n + 1) * 59049 ≤ 11 * 59049 := Nat.mul_le_mul_right _ (by omega)
    rw [rngP, dLoop_cons]
    simp only [dgName, ebd__law_strings_1, List.getElem?_cons_zero, List.getElem?_cons_succ, List.set_cons_zero, List.set_cons_succ, List.length_cons, List.length_nil, if_true, if_false, Bool.true_eq_false, Bool.false_eq_true, if_pos, ite_true, ite_false, reduceIte, true_and, and_true, true_or, or_true, PV.scr.injEq, PV.int.injEq, PV.bl.injEq, PV.str.injEq, PV.lst.injEq, PV.tup.injEq, exists_eq_left, exists_eq_left', exists_eq_right, exists_eq_right', reduceCtorEq, or_false, false_or, forall_const, Nat.zero_le, Bool.not_true, Bool.not_false, decide_true, decide_false]
    refine seq_i ?_
    simp only [dNext, dIfS, dRet, dRetN, dSet, dOwn, dVar, dC, dOp, dB, dChain, dAnd, dOr, dNot, dAndV, dOrV, dNotV, dIf, dNil, dCons, dTup, dLst, dDrop, dgName, dgNil, dgCons, dgTup, dAsg, dPar, dPar3, dParO, dParV, dAug, dCall, dBi, dIsi, dInS, dSl, doNone, doSome, dRevL, dRevS, dM1, dRg1, dListOf, dJoin, dNeg, dApp, dExt, dSetIx, endsOf, dFor, dIt, dZip, dEnum, dRange1, dRange2, itemsQ, dLc, wipeR, dTwn, dTwnSet, dTwnAug, dScrE, dScrL, dScrX, List.getElem?_cons_zero, List.getElem?_cons_succ, List.set_cons_zero, List.set_cons_succ, List.length_cons, List.length_nil, if_true, if_false, Bool.true_eq_false, Bool.false_eq_true, if_pos, ite_true, ite_false, reduceIte, true_and, and_true, true_or, or_true, PV.scr.injEq, PV.int.injEq, PV.bl.injEq, PV.str.injEq, PV.lst.injEq, PV.tup.injEq, exists_eq_left, exists_eq_left', exists_eq_right, exists_eq_right', reduceCtorEq, or_false, false_or, forall_const, Nat.zero_le, Bool.not_true, Bool.not_false, decide_true, decide_false]
    refine seq_i ?_
    simp only [dNext, dIfS, dRet, dRetN, dSet, dOwn, dVar, dC, dOp, dB, dChain, dAnd, dOr, dNot, dAndV, dOrV, dNotV, dIf, dNil, dCons, dTup, dLst, dDrop, dgName, dgNil, dgCons, dgTup, dAsg, dPar, dPar3, dParO, dParV, dAug, dCall, dBi, dIsi, dInS, dSl, doNone, doSome, dRevL, dRevS, dM1, dRg1, dListOf, dJoin, dNeg, dApp, dExt, dSetIx, endsOf, dFor, dIt, dZip, dEnum, dRange1, dRange2, itemsQ, dLc, wipeR, dTwn, dTwnSet, dTwnAug, dScrE, dScrL, dScrX, List.getElem?_cons_zero, List.getElem?_cons_succ, List.set_cons_zero, List.set_cons_succ, List.length_cons, List.length_nil, if_true, if_false, Bool.true_eq_false, Bool.false_eq_true, if_pos, ite_true, ite_false, reduceIte, true_and, and_true, true_or, or_true, PV.scr.injEq, PV.int.injEq, PV.bl.injEq, PV.str.injEq, PV.lst.injEq, PV.tup.injEq, exists_eq_left, exists_eq_left', exists_eq_right, exists_eq_right', reduceCtorEq, or_false, false_or, forall_const, Nat.zero_le, Bool.not_true, Bool.not_false, decide_true, decide_false]
    refine st_loop ls hls v1 _ _ _ _ (lvl ls n) [] s6 s7 h7 (fun t ht => by have := (lvl_mem ht).1; omega) (by simp only [List.length_nil]; omega) fun s6 s7 h7 => ?_
    simp only [List.nil_append]
    refine seq_i ?_
    simp only [dNext, dIfS, dRet, dRetN, dSet, dOwn, dVar, dC, dOp, dB, dChain, dAnd, dOr, dNot, dAndV, dOrV, dNotV, dIf, dNil, dCons, dTup, dLst, dDrop, dgName, dgNil, dgCons, dgTup, dAsg, dPar, dPar3, dParO, dParV, dAug, dCall, dBi, dIsi, dInS, dSl, doNone, doSome, dRevL, dRevS, dM1, dRg1, dListOf, dJoin, dNeg, dApp, dExt, dSetIx, endsOf, dFor, dIt, dZip, dEnum, dRange1, dRange2, itemsQ, dLc, wipeR, dTwn, dTwnSet, dTwnAug, dScrE, dScrL, dScrX, List.getElem?_cons_zero, List.getElem?_cons_succ, List.set_cons_zero, List.set_cons_succ, List.length_cons, List.length_nil, if_true, if_false, Bool.true_eq_false, Bool.false_eq_true, if_pos, ite_true, ite_false, reduceIte, true_and, and_true, true_or, or_true, PV.scr.injEq, PV.int.injEq, PV.bl.injEq, PV.str.injEq, PV.lst.injEq, PV.tup.injEq, exists_eq_left, exists_eq_left', exists_eq_right, exists_eq_right', reduceCtorEq, or_false, false_or, forall_const, Nat.zero_le, Bool.not_true, Bool.not_false, decide_true, decide_false, ownL]
    refine ⟨by rw [List.length_map, List.length_map]; show _ + (lvl ls (n + 1)).length ≤ _; omega, ?_⟩
    rw [← List.map_append]
    refine so_loop ls hls v1 PD k (n + 1) (L + 1) _ _ _ _ h7 (by omega) fun s3 s4 s5 s6 s7 => ?_
    have h := h s3 s4 s5 s6 s7
    rw [show n + (k + 1) = n + 1 + k by omega] at h
    exact h
theorem h__law_strings : ∀ (as : List PV) (post : PV → Prop), as.length = 2 → p__law_strings as post → d__law_strings (endsOf post) (startR 8 as) := by
  rintro as post _ ⟨ls, n, rfl, hls, hc, hn, q⟩
  show d__law_strings _ [.val (.str (strT ls)), .val (.int n), .un, .un, .un, .un, .un, .un]
  refine seq_i ?_
  simp only [dNext, dIfS, dRet, dRetN, dSet, dOwn, dVar, dC, dOp, dB, dChain, dAnd, dOr, dNot, dAndV, dOrV, dNotV, dIf, dNil, dCons, dTup, dLst, dDrop, dgName, dgNil, dgCons, dgTup, dAsg, dPar, dPar3, dParO, dParV, dAug, dCall, dBi, dIsi, dInS, dSl, doNone, doSome, dRevL, dRevS, dM1, dRg1, dListOf, dJoin, dNeg, dApp, dExt, dSetIx, endsOf, dFor, dIt, dZip, dEnum, dRange1, dRange2, itemsQ, dLc, wipeR, dTwn, dTwnSet, dTwnAug, dScrE, dScrL, dScrX, List.getElem?_cons_zero, List.getElem?_cons_succ, List.set_cons_zero, List.set_cons_succ, List.length_cons, List.length_nil, if_true, if_false, Bool.true_eq_false, Bool.false_eq_true, if_pos, ite_true, ite_false, reduceIte, true_and, and_true, true_or, or_true, PV.scr.injEq, PV.int.injEq, PV.bl.injEq, PV.str.injEq, PV.lst.injEq, PV.tup.injEq, exists_eq_left, exists_eq_left', exists_eq_right, exists_eq_right', reduceCtorEq, or_false, false_or, forall_const, Nat.zero_le, Bool.not_true, Bool.not_false, decide_true, decide_false, sz1]
  refine seq_i ?_
  simp only [dNext, dIfS, dRet, dRetN, dSet, dOwn, dVar, dC, dOp, dB, dChain, dAnd, dOr, dNot, dAndV, dOrV, dNotV, dIf, dNil, dCons, dTup, dLst, dDrop, dgName, dgNil, dgCons, dgTup, dAsg, dPar, dPar3, dParO, dParV, dAug, dCall, dBi, dIsi, dInS, dSl, doNone, doSome, dRevL, dRevS, dM1, dRg1, dListOf, dJoin, dNeg, dApp, dExt, dSetIx, endsOf, dFor, dIt, dZip, dEnum, dRange1, dRange2, itemsQ, dLc, wipeR, dTwn, dTwnSet, dTwnAug, dScrE, dScrL, dScrX, List.getElem?_cons_zero, List.getElem?_cons_succ, List.set_cons_zero, List.set_cons_succ, List.length_cons, List.length_nil, if_true, if_false, Bool.true_eq_false, Bool.false_eq_true, if_pos, ite_true, ite_false, reduceIte, true_and, and_true, true_or, or_true, PV.scr.injEq, PV.int.injEq, PV.bl.injEq, PV.str.injEq, PV.lst.injEq, PV.tup.injEq, exists_eq_left, exists_eq_left', exists_eq_right, exists_eq_right', reduceCtorEq, or_false, false_or, forall_const, Nat.zero_le, Bool.not_true, Bool.not_false, decide_true, decide_false]
  refine ⟨by omega, by omega, ?_⟩
  rw [Int.toNat_natCast]
  refine so_loop ls hls _ _ n 0 0 _ _ _ _ rfl (by omega) fun s3 s4 s5 s6 s7 => ?_
  simp only [Nat.zero_add]
  simp only [dNext, dIfS, dRet, dRetN, dSet, dOwn, dVar, dC, dOp, dB, dChain, dAnd, dOr, dNot, dAndV, dOrV, dNotV, dIf, dNil, dCons, dTup, dLst, dDrop, dgName, dgNil, dgCons, dgTup, dAsg, dPar, dPar3, dParO, dParV, dAug, dCall, dBi, dIsi, dInS, dSl, doNone, doSome, dRevL, dRevS, dM1, dRg1, dListOf, dJoin, dNeg, dApp, dExt, dSetIx, endsOf, dFor, dIt, dZip, dEnum, dRange1, dRange2, itemsQ, dLc, wipeR, dTwn, dTwnSet, dTwnAug, dScrE, dScrL, dScrX, List.getElem?_cons_zero, List.getElem?_cons_succ, List.set_cons_zero, List.set_cons_succ, List.length_cons, List.length_nil, if_true, if_false, Bool.true_eq_false, Bool.false_eq_true, if_pos, ite_true, ite_false, reduceIte, true_and, and_true, true_or, or_true, PV.scr.injEq, PV.int.injEq, PV.bl.injEq, PV.str.injEq, PV.lst.injEq, PV.tup.injEq, exists_eq_left, exists_eq_left', exists_eq_right, exists_eq_right', reduceCtorEq, or_false, false_or, forall_const, Nat.zero_le, Bool.not_true, Bool.not_false, decide_true, decide_false]
  exact q
end PL

set_option Elab.async false
set_option linter.all false
set_option maxRecDepth 100000
set_option maxHeartbeats 4000000
/-! commute, idempotent -/
namespace PL
open PySem PySem.Spec L2

def sameB (m o : Mask) : Bool := (first m o).isNone
theorem encM_app (m o : Mask) : m.map encStep ++ o.map encStep = (m ++ o).map encStep := by rw [List.map_append]
theorem OkM.app {m o : Mask} (h : OkM m) (h' : OkM o) (hl : m.length + o.length ≤ 4) : OkM (m ++ o) := ⟨by rw [List.length_append]; exact hl, fun s hs => (List.mem_append.mp hs).elim (h.2 s) (h'.2 s)⟩
def p_commute : PSp := fun as Q => ∃ (m o : Mask), as = [encM m, encM o] ∧ OkM m ∧ OkM o ∧ m.length + o.length ≤ 4 ∧ Q (.bl (sameB (m ++ o) (o ++ m)))
theorem m_commute : MonoP p_commute := fun _ _ _ h ⟨v, a, e, z, y, x, q⟩ => ⟨v, a, e, z, y, x, h _ q⟩
def d_commute : DS := (dSeq (dDrop (dCall 1 p_need_mask (dCons (dVar 0) dNil))) (dSeq (dDrop (dCall 1 p_need_mask (dCons (dVar 1) dNil))) (dRet (dOp isNQ (dCall 2 p_first_difference (dCons (dOp addQ (dVar 0) (dVar 1)) (dCons (dOp
      addQ (dVar 1) (dVar 0)) dNil))) (dC .non)))))
theorem isN_encD (m o : Mask) (Q : PV → Prop) (h : Q (.bl (sameB m o))) : isNQ (encD m o (first m o)) .non Q := by
  refine ⟨rfl, ?_⟩
  unfold sameB at h
  cases e : first m o with
  | none => rw [e] at h; exact h
  | some L => rw [e] at h; exact h
theorem h_commute : ∀ (as : List PV) (post : PV → Prop), as.length = 2 → p_commute as post → d_commute (endsOf post) (startR 2 as) := by
  rintro as post _ ⟨m, o, rfl, hm, ho, hl, q⟩
  have e0 : (sizeLine : Nat) = 16777216 := by decide
  show d_commute _ [.val (encM m), .val (encM o)]
  simp only [d_commute, dSeq, dNext, dIfS, dRet, dRetN, dSet, dOwn, dVar, dC, dOp, dB, dChain, dAnd, dOr, dNot, dAndV, dOrV, dNotV, dIf, dNil, dCons, dTup, dLst, dDrop, dgName, dgNil, dgCons, dgTup, dAsg, dPar, dPar3, dParO, dParV, dAug, dCall, dBi, dIsi, dInS, dSl, doNone, doSome, dRevL, dRevS, dM1, dRg1, dListOf, dJoin, dNeg, dApp, dExt, dSetIx, endsOf, dFor, dIt, dZip, dEnum, dRange1, dRange2, itemsQ, dLc, wipeR, dTwn, dTwnSet, dTwnAug, dScrE, dScrL, dScrX, List.getElem?_cons_zero, List.getElem?_cons_succ, List.set_cons_zero, List.set_cons_succ, List.length_cons, List.length_nil, if_true, if_false, Bool.true_eq_false, Bool.false_eq_true, if_pos, ite_true, ite_false, reduceIte, true_and, and_true, true_or, or_true, PV.scr.injEq, PV.int.injEq, PV.bl.injEq, PV.str.injEq, PV.lst.injEq, PV.tup.injEq, exists_eq_left, exists_eq_left', exists_eq_right, exists_eq_right', reduceCtorEq, or_false, false_or, forall_const, Nat.zero_le, Bool.not_true, Bool.not_false, decide_true, decide_false]
  refine ⟨encM m, rfl, mask_dat m 15, maskB_enc hm, encM o, rfl, mask_dat o 15, maskB_enc ho, ?_⟩
  simp only [encM, addQ_tup, encM_app, List.length_map]
  refine ⟨by omega, by omega, m ++ o, o ++ m, rfl, hm.app ho hl, ho.app hm (by omega), isN_encD _ _ _ q⟩
def p_idempotent : PSp := fun as Q => ∃ (m : Mask), as = [encM m] ∧ OkM m ∧ m.length ≤ 2 ∧ Q (.bl (sameB (m ++ m) m))
theorem m_idempotent : MonoP p_idempotent := fun _ _ _ h ⟨v, e, z, y, q⟩ => ⟨v, e, z, y, h _ q⟩
def d_idempotent : DS := (dSeq (dDrop (dCall 1 p_need_mask (dCons (dVar 0) dNil))) (dRet (dOp isNQ (dCall 2 p_first_difference (dCons (dOp addQ (dVar 0) (dVar 0)) (dCons (dVar 0) dNil))) (dC .non))))
theorem h_idempotent : ∀ (as : List PV) (post : PV → Prop), as.length = 1 → p_idempotent as post → d_idempotent (endsOf post) (startR 1 as) := by
  rintro as post _ ⟨m, rfl, hm, hl, q⟩
  have e0 : (sizeLine : Nat) = 16777216 := by decide
  show d_idempotent _ [.val (encM m)]
  simp only [d_idempotent, dSeq, dNext, dIfS, dRet, dRetN, dSet, dOwn, dVar, dC, dOp, dB, dChain, dAnd, dOr, dNot, dAndV, dOrV, dNotV, dIf, dNil, dCons, dTup, dLst, dDrop, dgName, dgNil, dgCons, dgTup, dAsg, dPar, dPar3, dParO, dParV, dAug, dCall, dBi, dIsi, dInS, dSl, doNone, doSome, dRevL, dRevS, dM1, dRg1, dListOf, dJoin, dNeg, dApp, dExt, dSetIx, endsOf, dFor, dIt, dZip, dEnum, dRange1, dRange2, itemsQ, dLc, wipeR, dTwn, dTwnSet, dTwnAug, dScrE, dScrL, dScrX, List.getElem?_cons_zero, List.getElem?_cons_succ, List.set_cons_zero, List.set_cons_succ, List.length_cons, List.length_nil, if_true, if_false, Bool.true_eq_false, Bool.false_eq_true, if_pos, ite_true, ite_false, reduceIte, true_and, and_true, true_or, or_true, PV.scr.injEq, PV.int.injEq, PV.bl.injEq, PV.str.injEq, PV.lst.injEq, PV.tup.injEq, exists_eq_left, exists_eq_left', exists_eq_right, exists_eq_right', reduceCtorEq, or_false, false_or, forall_const, Nat.zero_le, Bool.not_true, Bool.not_false, decide_true, decide_false]
  refine ⟨encM m, rfl, mask_dat m 15, maskB_enc hm, ?_⟩
  simp only [encM, addQ_tup, encM_app, List.length_map]
  refine ⟨by omega, m ++ m, m, rfl, hm.app hm (by omega), hm, isN_encD _ _ _ q⟩
theorem diff_none (m o : Mask) : isNon (encS (diffP m o)) = sameB m o := by
  unfold diffP sameB
  cases first m o <;> rfl
theorem isN_encS (m o : Mask) (Q : PV → Prop) (h : Q (.bl (sameB m o))) : isNQ (encS (diffP m o)) .non Q := ⟨rfl, by rw [diff_none]; exact h⟩
theorem sameB_iff {m o : Mask} : sameB m o = true ↔ ∀ L, tmpl m L = tmpl o L := by
  unfold sameB
  rw [Option.isNone_iff_eq_none]
  exact first_iff
theorem sameB_comm (m o : Mask) : sameB m o = sameB o m := by
  rw [Bool.eq_iff_iff, sameB_iff, sameB_iff]
  exact ⟨fun h L => (h L).symm, fun h L => (h L).symm⟩
theorem lrun_app (m o : Mask) (t : T) : lrun o (lrun m t) = lrun (m ++ o) t := by unfold lrun; rw [List.foldl_append]
theorem same_run {m o : Mask} (h : sameB m o = true) {t : T} (ht : 42 ∉ t) : lrun m t = lrun o t := by
  rw [lrun_out m ht, lrun_out o ht]
  unfold outT
  rw [sameB_iff.mp h]
end PL

set_option Elab.async false
set_option linter.all false
set_option maxRecDepth 100000
set_option maxHeartbeats 4000000
/-! group sizes -/
namespace PL
open PySem PySem.Spec L2
open TL (tl len_tl ext_tl tl_append joinL tl_join join_eq)

def insN (xs : List Nat) (i : Nat) : List Nat := if i ∈ xs then xs else xs ++ [i]
def shRow (xs : List Nat) : Row → List Nat
  | [] => xs
  | none :: r => shRow xs r
  | some i :: r => shRow (insN xs i) r
def shRel (l : Nat) (xs : List Nat) : Rel → List Nat
  | [] => xs
  | m :: r => shRel l (shRow xs (tmpl m l)) r
def encSh (xs : List Nat) : PV := .dic (xs.map fun (i : Nat) => ((.inl (i : Int) : Key), PV.bl true))
def gsize (r : Rel) (l k : Nat) : Nat := k ^ (l - (shRel l [] r).length)
theorem insN_len (xs : List Nat) (i : Nat) : (insN xs i).length ≤ xs.length + 1 := by
  unfold insN; split <;> simp
theorem put_sh (xs : List Nat) (i : Nat) : putP (xs.map fun (i : Nat) => ((.inl (i : Int) : Key), PV.bl true)) (.inl (i : Int)) (.bl true) = (insN xs i).map fun (i : Nat) => ((.inl (i : Int) : Key), PV.bl true) := by
  unfold putP insN
  have e : ((xs.map fun (i : Nat) => ((.inl (i : Int) : Key), PV.bl true)).any fun kv => decide (kv.1 = (.inl (i : Int) : Key))) = decide (i ∈ xs) := by
    rw [List.any_map]
    induction xs with
    | nil => rfl
    | cons x xs ih =>
      rw [List.any_cons, ih]
      have : decide ((.inl (x : Int) : Key) = .inl (i : Int)) = decide (i = x) := decide_eq_decide.mpr ⟨fun h => by injection h with h; omega, fun h => by rw [h]⟩
      show (decide ((.inl (x : Int) : Key) = .inl (i : Int)) || _) = _
      rw [this]
      by_cases h : i = x <;> simp [h]
  rw [e]
  by_cases h : i ∈ xs
  · rw [if_pos (decide_eq_true h), if_pos h, List.map_map]
    apply List.map_congr_left
    intro x _
    show (if (.inl (x : Int) : Key) = .inl (i : Int) then _ else _) = _
    split <;> rfl
  · rw [if_neg (by rw [decide_eq_true_eq]; exact h), if_neg h, List.map_append]
    rfl
def p_group_size : PSp := fun as Q => ∃ (r : Rel) (t : T) (k : Nat), as = [encRel r, .str (strT t), .int k] ∧ OkR r ∧ OkS t ∧ 1 ≤ k ∧ k ≤ 26 ∧ Q (.int (gsize r t.length k : Nat))
theorem m_group_size : MonoP p_group_size := fun _ _ _ h ⟨v, a, b, e, z, y, x, w, q⟩ => ⟨v, a, b, e, z, y, x, w, h _ q⟩
def bd_group_size_0 : DS := (dIfS (dB (dOp notNQ (dVar 5) (dC .non))) (dPut 3 (dVar 5) (dC (.bl true))) dNext)
theorem ebd_group_size_0 (PD : PEnds) (ρ : Rho) : bd_group_size_0 PD ρ = (dIfS (dB (dOp notNQ (dVar 5) (dC .non))) (dPut 3 (dVar 5) (dC (.bl true))) dNext) PD ρ := rfl
def bd_group_size_1 : DS := (dFor (dIt (dCall 2 p_template_of (dCons (dVar 4) (dCons (dBi lenQ (dCons (dVar 1) dNil)) dNil)))) (dgName 5) bd_group_size_0)
theorem ebd_group_size_1 (PD : PEnds) (ρ : Rho) : bd_group_size_1 PD ρ = (dFor (dIt (dCall 2 p_template_of (dCons (dVar 4) (dCons (dBi lenQ (dCons (dVar 1) dNil)) dNil)))) (dgName 5) bd_group_size_0) PD ρ := rfl
def bd_group_size_2 : DS := (dAug 6 (intQ CMul fun i j => i * j) (dVar 2))
theorem ebd_group_size_2 (PD : PEnds) (ρ : Rho) : bd_group_size_2 PD ρ = (dAug 6 (intQ CMul fun i j => i * j) (dVar 2)) PD ρ := rfl
def d_group_size : DS := (dSeq (dDrop (dCall 1 p_need_release (dCons (dVar 0) dNil))) (dSeq (dDrop (dCall 1 p_need_string (dCons (dVar 1) dNil))) (dSeq (dIfS (dNot (dB (dCall 3 p_is_count (dCons (dVar 2) (dCons (dC (.int 1)) (dCons
      (dC (.int 26)) dNil)))))) dNever dNext) (dSeq (dOwn 3 dNewK) (dSeq (dFor (dIt (dVar 0)) (dgName 4) bd_group_size_1) (dSeq (dSet 6 (dC (.int 1))) (dSeq (dFor (dRange1 (dCons (dOp (int0Q fun i j => i - j) (dBi lenQ (dCons (dVar 1)
      dNil)) (dBi lenQ (dCons (dVar 3) dNil))) dNil)) (dgName 7) bd_group_size_2) (dRet (dVar 6)))))))))
theorem gs_row (v0 v1 v2 v6 v7 : Slot) (PD : PEnds) : ∀ (r : Row) (xs : List Nat) (s4 s5 : Slot), xs.length + r.length ≤ 10000000 → (∀ xs' s5, xs' = shRow xs r → xs'.length ≤ xs.length + r.length → PD.nx [v0, v1, v2, .own (encSh xs'), s4, s5, v6, v7]) →
    dLoop (dgName 5) bd_group_size_0 PD (r.map encO) [v0, v1, v2, .own (encSh xs), s4, s5, v6, v7]
  | [], xs, s4, s5, hl, h => h xs s5 rfl (by simp)
  | x :: r, xs, s4, s5, hl, h => by
    have e0 : (sizeLine : Nat) = 16777216 := by decide
    rw [List.length_cons] at hl
    rw [List.map_cons, dLoop_cons]
    simp only [dgName, ebd_group_size_0, dIfS, dB, dOp, dVar, dC, notNQ, isNon_encO, List.getElem?_cons_zero, List.getElem?_cons_succ, List.set_cons_zero, List.set_cons_succ, List.length_cons, List.length_nil, if_true, if_false, Bool.true_eq_false, Bool.false_eq_true, if_pos, ite_true, ite_false, reduceIte, true_and, and_true, true_or, or_true, PV.scr.injEq, PV.int.injEq, PV.bl.injEq, PV.str.injEq, PV.lst.injEq, PV.tup.injEq, exists_eq_left, exists_eq_left', exists_eq_right, exists_eq_right', reduceCtorEq, or_false, false_or, forall_const, Nat.zero_le, Bool.not_true, Bool.not_false, decide_true, decide_false]
    cases x with
    | none =>
      simp only [Option.isNone_none, List.getElem?_cons_zero, List.getElem?_cons_succ, List.set_cons_zero, List.set_cons_succ, List.length_cons, List.length_nil, if_true, if_false, Bool.true_eq_false, Bool.false_eq_true, if_pos, ite_true, ite_false, reduceIte, true_and, and_true, true_or, or_true, PV.scr.injEq, PV.int.injEq, PV.bl.injEq, PV.str.injEq, PV.lst.injEq, PV.tup.injEq, exists_eq_left, exists_eq_left', exists_eq_right, exists_eq_right', reduceCtorEq, or_false, false_or, forall_const, Nat.zero_le, Bool.not_true, Bool.not_false, decide_true, decide_false, dNext]
      exact gs_row v0 v1 v2 v6 v7 PD r xs s4 _ (by omega) fun xs' s5 e1 e2 => h xs' s5 e1 (by rw [List.length_cons]; omega)
    | some i =>
      have hi := insN_len xs i
      simp only [Option.isNone_some, Bool.not_false, List.getElem?_cons_zero, List.getElem?_cons_succ, List.set_cons_zero, List.set_cons_succ, List.length_cons, List.length_nil, if_true, if_false, Bool.true_eq_false, Bool.false_eq_true, if_pos, ite_true, ite_false, reduceIte, true_and, and_true, true_or, or_true, PV.scr.injEq, PV.int.injEq, PV.bl.injEq, PV.str.injEq, PV.lst.injEq, PV.tup.injEq, exists_eq_left, exists_eq_left', exists_eq_right, exists_eq_right', reduceCtorEq, or_false, false_or, forall_const, Nat.zero_le, Bool.not_true, Bool.not_false, decide_true, decide_false, dPut, dC, dVar, ownD, true_and, encO]
      show (xs.map fun (i : Nat) => ((.inl (i : Int) : Key), PV.bl true)).length < sizeLine ∧ dLoop _ _ _ _ [v0, v1, v2, .own (.dic (putP (xs.map fun (i : Nat) => ((.inl (i : Int) : Key), PV.bl true)) (.inl (i : Int)) (.bl true))), s4, .val (.int i), v6, v7]
      rw [put_sh]
      refine ⟨by rw [List.length_map]; omega, ?_⟩
      exact gs_row v0 v1 v2 v6 v7 PD r (insN xs i) s4 _ (by omega) fun xs' s5 e1 e2 => h xs' s5 e1 (by rw [List.length_cons]; omega)
theorem gs_rel (v0 v2 v6 v7 : Slot) (t : T) (ht : t.length ≤ 40) (PD : PEnds) : ∀ (r : Rel) (xs : List Nat) (s4 s5 : Slot), (∀ m ∈ r, OkM m) → xs.length + 1000000 * r.length ≤ 10000000 → (∀ s4 s5, PD.nx [v0, .val (.str (strT t)), v2, .own (encSh (shRel t.length xs r)), s4, s5, v6, v7]) →
    dLoop (dgName 4) bd_group_size_1 PD (r.map encM) [v0, .val (.str (strT t)), v2, .own (encSh xs), s4, s5, v6, v7]
  | [], xs, s4, s5, _, hl, h => h s4 s5
  | m :: r, xs, s4, s5, hm, hl, h => by
    rw [List.length_cons] at hl
    have h1 := hm m List.mem_cons_self
    have hf := tmpl_fits h1 (n := t.length) (by omega)
    rw [List.map_cons, dLoop_cons]
    simp only [dgName, ebd_group_size_1, dFor, dIt, dCall, dCons, dNil, dBi, dVar, List.getElem?_cons_zero, List.getElem?_cons_succ, List.set_cons_zero, List.set_cons_succ, List.length_cons, List.length_nil, if_true, if_false, Bool.true_eq_false, Bool.false_eq_true, if_pos, ite_true, ite_false, reduceIte, true_and, and_true, true_or, or_true, PV.scr.injEq, PV.int.injEq, PV.bl.injEq, PV.str.injEq, PV.lst.injEq, PV.tup.injEq, exists_eq_left, exists_eq_left', exists_eq_right, exists_eq_right', reduceCtorEq, or_false, false_or, forall_const, Nat.zero_le, Bool.not_true, Bool.not_false, decide_true, decide_false, lenQ_str, strT_len]
    refine ⟨m, t.length, rfl, h1, by omega, ?_⟩
    simp only [encT, itemsQ]
    refine gs_row v0 _ v2 v6 v7 _ (tmpl m t.length) xs _ _ (by omega) fun xs' s5 e1 e2 => ?_
    subst e1
    exact gs_rel v0 v2 v6 v7 t ht PD r _ _ _ (fun x hx => hm x (List.mem_cons_of_mem _ hx)) (by omega) h
theorem gs_mul (v0 v1 v3 v4 v5 : Slot) (k : Nat) (hk : k ≤ 26) (PD : PEnds) : ∀ (n : Nat) (L : Int) (a : Nat) (s7 : Slot), (∀ s7, PD.nx [v0, v1, .val (.int k), v3, v4, v5, .val (.int (a * k ^ n : Nat)), s7]) →
    dLoop (dgName 7) bd_group_size_2 PD (rngP L n) [v0, v1, .val (.int k), v3, v4, v5, .val (.int a), s7]
  | 0, L, a, s7, h => by
    have h := h s7
    rw [Nat.pow_zero, Nat.mul_one] at h
    exact h
  | n + 1, L, a, s7, h => by
    rw [rngP, dLoop_cons]
    simp only [dgName, ebd_group_size_2, dAug, dVar, List.getElem?_cons_zero, List.getElem?_cons_succ, List.set_cons_zero, List.set_cons_succ, List.length_cons, List.length_nil, if_true, if_false, Bool.true_eq_false, Bool.false_eq_true, if_pos, ite_true, ite_false, reduceIte, true_and, and_true, true_or, or_true, PV.scr.injEq, PV.int.injEq, PV.bl.injEq, PV.str.injEq, PV.lst.injEq, PV.tup.injEq, exists_eq_left, exists_eq_left', exists_eq_right, exists_eq_right', reduceCtorEq, or_false, false_or, forall_const, Nat.zero_le, Bool.not_true, Bool.not_false, decide_true, decide_false, intQ]
    refine ⟨.inr (by constructor <;> omega), ?_⟩
    rw [show (a : Int) * (k : Int) = ((a * k : Nat) : Int) by rw [Int.natCast_mul]]
    refine gs_mul v0 v1 v3 v4 v5 k hk PD n (L + 1) (a * k) _ fun s7 => ?_
    have h := h s7
    rw [Nat.mul_assoc, ← Nat.pow_succ']
    exact h
theorem mem_insN {xs : List Nat} {i j : Nat} : j ∈ insN xs i ↔ j ∈ xs ∨ j = i := by
  unfold insN
  split
  · rename_i h
    exact ⟨.inl, fun h' => h'.elim id fun e => e ▸ h⟩
  · rw [List.mem_append, List.mem_singleton]
theorem mem_shRow {j : Nat} : ∀ {r : Row} {xs : List Nat}, j ∈ shRow xs r ↔ j ∈ xs ∨ some j ∈ r
  | [], xs => by rw [shRow]; exact ⟨.inl, fun h => h.elim id fun h => by cases h⟩
  | none :: r, xs => by
    rw [shRow, mem_shRow]
    simp
  | some i :: r, xs => by
    rw [shRow, mem_shRow, mem_insN]
    simp only [List.mem_cons, Option.some.injEq]
    exact or_assoc
theorem mem_shRel {l j : Nat} : ∀ {r : Rel} {xs : List Nat}, j ∈ shRel l xs r ↔ j ∈ xs ∨ ∃ m ∈ r, some j ∈ tmpl m l
  | [], xs => by rw [shRel]; exact ⟨.inl, fun h => h.elim id fun ⟨m, h, _⟩ => by cases h⟩
  | m :: r, xs => by
    rw [shRel, mem_shRel, mem_shRow]
    simp only [List.mem_cons, exists_eq_or_imp]
    exact or_assoc
theorem nd_insN {xs : List Nat} (h : xs.Nodup) (i : Nat) : (insN xs i).Nodup := by
  unfold insN
  split
  · exact h
  · rename_i hi
    rw [List.nodup_append]
    exact ⟨h, by simp, fun a ha b hb => by
      rw [List.mem_singleton] at hb
      subst hb
      exact fun z => hi (z ▸ ha)⟩
theorem nd_shRow : ∀ {r : Row} {xs : List Nat}, xs.Nodup → (shRow xs r).Nodup
  | [], _, h => h
  | none :: r, xs, h => nd_shRow (r := r) h
  | some i :: r, xs, h => nd_shRow (r := r) (nd_insN h i)
theorem nd_shRel {l : Nat} : ∀ {r : Rel} {xs : List Nat}, xs.Nodup → (shRel l xs r).Nodup
  | [], _, h => h
  | m :: r, xs, h => nd_shRel (r := r) (nd_shRow h)
/-- is the letter at i shown? -/
def shB (r : Rel) (l i : Nat) : Bool := r.any fun m => (tmpl m l).contains (some i)
theorem shB_iff {r : Rel} {l i : Nat} : shB r l i = true ↔ ∃ m ∈ r, some i ∈ tmpl m l := by
  unfold shB
  rw [List.any_eq_true]
  simp
theorem shRel_len (r : Rel) (l : Nat) : (shRel l [] r).length = ((List.range l).filter fun i => shB r l i).length := by
  apply List.Perm.length_eq
  refine (List.perm_ext_iff_of_nodup (nd_shRel List.nodup_nil) (List.nodup_range.filter _)).mpr fun i => ?_
  rw [mem_shRel, List.mem_filter, List.mem_range, shB_iff]
  constructor
  · rintro (h | ⟨m, hm, h⟩)
    · cases h
    · exact ⟨tmpl_some h, m, hm, h⟩
  · exact fun h => .inr h.2
theorem free_len (r : Rel) (l : Nat) : l - (shRel l [] r).length = ((List.range l).filter fun i => !shB r l i).length := by
  rw [shRel_len]
  have : ∀ xs : List Nat, (xs.filter fun i => shB r l i).length + (xs.filter fun i => !shB r l i).length = xs.length := fun xs => by
    induction xs with
    | nil => rfl
    | cons x xs ih =>
      rw [List.filter_cons, List.filter_cons, List.length_cons]
      cases shB r l x <;> simp <;> omega
  have := this (List.range l)
  rw [List.length_range] at this
  omega
theorem shRel_le (r : Rel) (l : Nat) : (shRel l [] r).length ≤ l := by
  rw [shRel_len]
  have := List.length_filter_le (fun i => shB r l i) (List.range l)
  rw [List.length_range] at this
  exact this
theorem h_group_size : ∀ (as : List PV) (post : PV → Prop), as.length = 3 → p_group_size as post → d_group_size (endsOf post) (startR 8 as) := by
  rintro as post _ ⟨r, t, k, rfl, hr, ht, hk0, hk, q⟩
  have e0 : (sizeLine : Nat) = 16777216 := by decide
  have htl := ht.1
  have hrl := hr.1
  show d_group_size _ [.val (encRel r), .val (.str (strT t)), .val (.int k), .un, .un, .un, .un, .un]
  refine seq_i ?_
  simp only [dDrop, dCall, dCons, dNil, dVar, List.getElem?_cons_zero, List.getElem?_cons_succ, List.set_cons_zero, List.set_cons_succ, List.length_cons, List.length_nil, if_true, if_false, Bool.true_eq_false, Bool.false_eq_true, if_pos, ite_true, ite_false, reduceIte, true_and, and_true, true_or, or_true, PV.scr.injEq, PV.int.injEq, PV.bl.injEq, PV.str.injEq, PV.lst.injEq, PV.tup.injEq, exists_eq_left, exists_eq_left', exists_eq_right, exists_eq_right', reduceCtorEq, or_false, false_or, forall_const, Nat.zero_le, Bool.not_true, Bool.not_false, decide_true, decide_false]
  refine ⟨encRel r, rfl, rel_dat r 15, relB_enc hr, ?_⟩
  refine seq_i ?_
  simp only [dDrop, dCall, dCons, dNil, dVar, List.getElem?_cons_zero, List.getElem?_cons_succ, List.set_cons_zero, List.set_cons_succ, List.length_cons, List.length_nil, if_true, if_false, Bool.true_eq_false, Bool.false_eq_true, if_pos, ite_true, ite_false, reduceIte, true_and, and_true, true_or, or_true, PV.scr.injEq, PV.int.injEq, PV.bl.injEq, PV.str.injEq, PV.lst.injEq, PV.tup.injEq, exists_eq_left, exists_eq_left', exists_eq_right, exists_eq_right', reduceCtorEq, or_false, false_or, forall_const, Nat.zero_le, Bool.not_true, Bool.not_false, decide_true, decide_false]
  refine ⟨_, rfl, rfl, ht.b, ?_⟩
  refine seq_i ?_
  simp only [dIfS, dNot, dB, dCall, dCons, dNil, dVar, dC, List.getElem?_cons_zero, List.getElem?_cons_succ, List.set_cons_zero, List.set_cons_succ, List.length_cons, List.length_nil, if_true, if_false, Bool.true_eq_false, Bool.false_eq_true, if_pos, ite_true, ite_false, reduceIte, true_and, and_true, true_or, or_true, PV.scr.injEq, PV.int.injEq, PV.bl.injEq, PV.str.injEq, PV.lst.injEq, PV.tup.injEq, exists_eq_left, exists_eq_left', exists_eq_right, exists_eq_right', reduceCtorEq, or_false, false_or, forall_const, Nat.zero_le, Bool.not_true, Bool.not_false, decide_true, decide_false]
  refine ⟨.int k, 1, 26, rfl, rfl, ?_⟩
  have ec : cntB 1 26 (.int k) = true := by
    show (decide ((1 : Int) ≤ k) && decide ((k : Int) ≤ 26)) = true
    rw [decide_eq_true (by omega), decide_eq_true (by omega)]; rfl
  simp only [ec, Bool.not_true, List.getElem?_cons_zero, List.getElem?_cons_succ, List.set_cons_zero, List.set_cons_succ, List.length_cons, List.length_nil, if_true, if_false, Bool.true_eq_false, Bool.false_eq_true, if_pos, ite_true, ite_false, reduceIte, true_and, and_true, true_or, or_true, PV.scr.injEq, PV.int.injEq, PV.bl.injEq, PV.str.injEq, PV.lst.injEq, PV.tup.injEq, exists_eq_left, exists_eq_left', exists_eq_right, exists_eq_right', reduceCtorEq, or_false, false_or, forall_const, Nat.zero_le, Bool.not_true, Bool.not_false, decide_true, decide_false, dNext]
  refine seq_i ?_
  simp only [dOwn, dNewK, List.getElem?_cons_zero, List.getElem?_cons_succ, List.set_cons_zero, List.set_cons_succ, List.length_cons, List.length_nil, if_true, if_false, Bool.true_eq_false, Bool.false_eq_true, if_pos, ite_true, ite_false, reduceIte, true_and, and_true, true_or, or_true, PV.scr.injEq, PV.int.injEq, PV.bl.injEq, PV.str.injEq, PV.lst.injEq, PV.tup.injEq, exists_eq_left, exists_eq_left', exists_eq_right, exists_eq_right', reduceCtorEq, or_false, false_or, forall_const, Nat.zero_le, Bool.not_true, Bool.not_false, decide_true, decide_false]
  refine seq_i ?_
  simp only [dFor, dIt, dVar, List.getElem?_cons_zero, List.getElem?_cons_succ, List.set_cons_zero, List.set_cons_succ, List.length_cons, List.length_nil, if_true, if_false, Bool.true_eq_false, Bool.false_eq_true, if_pos, ite_true, ite_false, reduceIte, true_and, and_true, true_or, or_true, PV.scr.injEq, PV.int.injEq, PV.bl.injEq, PV.str.injEq, PV.lst.injEq, PV.tup.injEq, exists_eq_left, exists_eq_left', exists_eq_right, exists_eq_right', reduceCtorEq, or_false, false_or, forall_const, Nat.zero_le, Bool.not_true, Bool.not_false, decide_true, decide_false, encRel, itemsQ]
  refine gs_rel _ _ _ _ t htl _ r [] _ _ hr.2 (by simp only [List.length_nil]; omega) fun s4 s5 => ?_
  dsimp only
  refine seq_i ?_
  simp only [dSet, dC, List.getElem?_cons_zero, List.getElem?_cons_succ, List.set_cons_zero, List.set_cons_succ, List.length_cons, List.length_nil, if_true, if_false, Bool.true_eq_false, Bool.false_eq_true, if_pos, ite_true, ite_false, reduceIte, true_and, and_true, true_or, or_true, PV.scr.injEq, PV.int.injEq, PV.bl.injEq, PV.str.injEq, PV.lst.injEq, PV.tup.injEq, exists_eq_left, exists_eq_left', exists_eq_right, exists_eq_right', reduceCtorEq, or_false, false_or, forall_const, Nat.zero_le, Bool.not_true, Bool.not_false, decide_true, decide_false]
  refine seq_i ?_
  have hle := shRel_le r t.length
  have el : ∀ Q : PV → Prop, lenQ [encSh (shRel t.length [] r)] Q = Q (.int ((shRel t.length [] r).length : Nat)) := fun Q => by
    show Q (.int (((shRel t.length [] r).map fun (i : Nat) => ((.inl (i : Int) : Key), PV.bl true)).length : Nat)) = _
    rw [List.length_map]
  simp only [dFor, dRange1, dCons, dNil, dOp, dBi, dVar, List.getElem?_cons_zero, List.getElem?_cons_succ, List.set_cons_zero, List.set_cons_succ, List.length_cons, List.length_nil, if_true, if_false, Bool.true_eq_false, Bool.false_eq_true, if_pos, ite_true, ite_false, reduceIte, true_and, and_true, true_or, or_true, PV.scr.injEq, PV.int.injEq, PV.bl.injEq, PV.str.injEq, PV.lst.injEq, PV.tup.injEq, exists_eq_left, exists_eq_left', exists_eq_right, exists_eq_right', reduceCtorEq, or_false, false_or, forall_const, Nat.zero_le, Bool.not_true, Bool.not_false, decide_true, decide_false, lenQ_str, strT_len, el, int0Q_int]
  rw [show ((t.length : Nat) : Int) - ((shRel t.length [] r).length : Nat) = ((t.length - (shRel t.length [] r).length : Nat) : Int) by omega, Int.toNat_natCast]
  refine ⟨by omega, by omega, ?_⟩
  refine gs_mul _ _ _ _ _ k hk _ _ 0 1 _ fun s7 => ?_
  simp only [dRet, dVar, List.getElem?_cons_zero, List.getElem?_cons_succ, List.set_cons_zero, List.set_cons_succ, List.length_cons, List.length_nil, if_true, if_false, Bool.true_eq_false, Bool.false_eq_true, if_pos, ite_true, ite_false, reduceIte, true_and, and_true, true_or, or_true, PV.scr.injEq, PV.int.injEq, PV.bl.injEq, PV.str.injEq, PV.lst.injEq, PV.tup.injEq, exists_eq_left, exists_eq_left', exists_eq_right, exists_eq_right', reduceCtorEq, or_false, false_or, forall_const, Nat.zero_le, Bool.not_true, Bool.not_false, decide_true, decide_false, Nat.one_mul]
  exact q
end PL

set_option Elab.async false
set_option linter.all false
set_option maxRecDepth 100000
set_option maxHeartbeats 4000000
/-! x in a list of data, in a tuple of ints; sorted of ints -/
namespace PL
open PySem PySem.Spec L2

def inQ : D2 := fun x y Q => match y with
  | .lst ys => x.dat 16 = true ∧ dats 15 ys = true ∧ Q (.bl (ys.any fun z => z.eqv x))
  | .tup ys => ∃ i ns, x = .int i ∧ intsOf ys = some ns ∧ Q (.bl (ns.any fun n => n == i))
  | _ => False
def notInQ : D2 := fun x y Q => match y with
  | .lst ys => x.dat 16 = true ∧ dats 15 ys = true ∧ Q (.bl (!ys.any fun z => z.eqv x))
  | .tup ys => ∃ i ns, x = .int i ∧ intsOf ys = some ns ∧ Q (.bl (!ns.any fun n => n == i))
  | _ => False
def rInA (K : PySem.W.Frag) : R2 := fun x y H Q => rInD K x y H Q ∨ rIn K false x y H Q
def rNotInA (K : PySem.W.Frag) : R2 := fun x y H Q => rNotInD K x y H Q ∨ rIn K true x y H Q
section
variable {X : Cx} {pos : Pos}
theorem op_inA (hu : X.A.units + 65 < cLine) : OpR X (compareOp .In) (rInA X.K) := (op_inD hu).or op_in_seq
theorem op_notInA (hu : X.A.units + 65 < cLine) : OpR X (compareOp .NotIn) (rNotInA X.K) := (op_notInD hu).or op_notIn_seq
theorem any_toDs (x : PV) : ∀ ys : List PV, ((toDs ys).any fun z => PyData.eqv z x.toD) = ys.any fun z => z.eqv x
  | [] => rfl
  | y :: ys => by rw [toDs, List.any_cons, List.any_cons, any_toDs x ys]; rfl
theorem inV_ints (i : Int) : ∀ ns : List Int, inV (.int i) (ns.map V.int) = ns.any fun n => n == i
  | [] => rfl
  | n :: ns => by
    have ih := inV_ints i ns
    unfold inV at ih ⊢
    rw [List.map_cons, List.any_cons, List.any_cons, ih]
    rfl
theorem flat_ints : ∀ ns : List Int, (ns.map V.int).all flatV = true
  | [] => rfl
  | n :: ns => by rw [List.map_cons, List.all_cons, flat_ints ns]; rfl
theorem snd_inA (K : PySem.W.Frag) : SndO (rInA K) inQ := by
  intro fr F H σ ρ x y p q Q R ok rx ry h k
  cases ry with
  | lst e l r =>
    rename_i a vs ps
    obtain ⟨h1, h2, h3⟩ := h
    obtain ⟨a1, a2, a3⟩ := Rep.dp (K := K) ok.le 16 rx h1
    obtain ⟨b1, b2, b3⟩ := Rep.dp (K := K) ok.le 16 (Rep.lst e l r) (by rw [PV.dat]; exact h2)
    refine .inl ⟨_, toDs ps, a1, b1, shaped_of a2 a3, shaped_of b2 b3, ?_⟩
    rw [any_toDs]
    exact k _ _ _ _ (FLe.refl F) ok (.bl _) h3
  | tup e l r =>
    obtain ⟨i, ns, rfl, hi, h3⟩ := h
    cases rx
    have ev := intsOf_rep r hi
    subst ev
    refine .inr ⟨_, _, rfl, .inr (.of (ok.le _ _ e)), rfl, flat_ints ns, ?_⟩
    rw [if_neg (by decide), inV_ints]
    exact k _ _ _ _ (FLe.refl F) ok (.bl _) h3
  | _ => exact h.elim
theorem snd_notInA (K : PySem.W.Frag) : SndO (rNotInA K) notInQ := by
  intro fr F H σ ρ x y p q Q R ok rx ry h k
  cases ry with
  | lst e l r =>
    rename_i a vs ps
    obtain ⟨h1, h2, h3⟩ := h
    obtain ⟨a1, a2, a3⟩ := Rep.dp (K := K) ok.le 16 rx h1
    obtain ⟨b1, b2, b3⟩ := Rep.dp (K := K) ok.le 16 (Rep.lst e l r) (by rw [PV.dat]; exact h2)
    refine .inl ⟨_, toDs ps, a1, b1, shaped_of a2 a3, shaped_of b2 b3, ?_⟩
    rw [any_toDs]
    exact k _ _ _ _ (FLe.refl F) ok (.bl _) h3
  | tup e l r =>
    obtain ⟨i, ns, rfl, hi, h3⟩ := h
    cases rx
    have ev := intsOf_rep r hi
    subst ev
    refine .inr ⟨_, _, rfl, .inr (.of (ok.le _ _ e)), rfl, flat_ints ns, ?_⟩
    rw [if_pos rfl, inV_ints]
    exact k _ _ _ _ (FLe.refl F) ok (.bl _) h3
  | _ => exact h.elim
theorem hu65 {A : Around} {k : Nat} (hr : Room k A) : A.units + 65 < cLine := by have := hr.un; omega
/-! ### sorted of a list of ints -/
def sortedQ : DN := fun ps Q => match ps with
  | [.lst xs] => match intsOf xs with
    | some ns => ∀ ns' : List Int, ns'.Perm ns → ns'.Pairwise (· ≤ ·) → Q (.lst (ns'.map PV.int))
    | none => False
  | _ => False
theorem snd_sorted (K : PySem.W.Frag) : SndC (rSortedI K) sortedQ := by
  intro fr F H σ ρ vs ps Q R ok r h k
  cases r with
  | nil => exact h.elim
  | cons r rr =>
    cases rr with
    | cons _ _ => cases r <;> exact h.elim
    | nil =>
      cases r with
      | lst e l r =>
        rename_i a ws qs
        have h : (match intsOf qs with | some ns => ∀ ns' : List Int, ns'.Perm ns → ns'.Pairwise (· ≤ ·) → Q (.lst (ns'.map PV.int)) | none => False) := h
        cases ei : intsOf qs with
        | none => rw [ei] at h; exact h.elim
        | some ns =>
          rw [ei] at h
          have ev := intsOf_rep r ei
          subst ev
          refine ⟨a, ns, rfl, .of (ok.le _ _ e), fun ns' p hp hs hn => ?_⟩
          refine newL ok k hn ?_ (Reps.ints ns') (h ns' hp hs)
          rw [List.length_map, hp.length_eq]
          have := r.length
          rw [List.length_map] at this
          omega
      | _ => exact h.elim
end
end PL
namespace PL
open PySem PySem.Spec L2
section
variable {X : Cx} {pos : Pos}
/-- a, b, .. = a list -/
def dgLst (n : Nat) (d : DGs) : DG := fun p ρ Q => match p with
  | .lst ps => ps.length = n ∧ d ps ρ Q
  | _ => False
theorem gx_lst {es : List Expr} {k : Nat} {d : DGs} {n : Nat} (hc : X.calm = true) (h : GsX X es d)
    (hn : (assignEach es X.env).length = n := by rfl) (hst : (assignEach es X.env).findIdx? (·.1) = none := by rfl) : GX X (.Tuple es k pos) (dgLst n d) := by
  obtain ⟨g, sg⟩ := h.out
  refine .mk' (pg_lst hc g hn hst) fun fr F σ H ρ v p Q R ok r hd z => ?_
  cases r with
  | lst e l r => exact ⟨_, _, rfl, .of (ok.le _ _ e), by rw [r.length]; exact hd.1, sg fr F σ H ρ _ _ _ _ ok r hd.2 z⟩
  | _ => exact hd.elim
end
end PL

set_option Elab.async false
set_option linter.all false
set_option maxRecDepth 100000
set_option maxHeartbeats 4000000
/-! small facts for the laws; what is determined -/
namespace PL
open PySem PySem.Spec L2

theorem neQ_bb (a b : Bool) (Q : PV → Prop) : neQ (.bl a) (.bl b) Q = Q (.bl (a != b)) := by
  unfold neQ
  simp only [PV.dat, true_and, PV.eqv, PV.toD, PyData.eqv]
  rfl
theorem neQ_tt (a b : T) (Q : PV → Prop) : neQ (.str (strT a)) (.str (strT b)) Q = Q (.bl (!decide (a = b))) := by
  rw [neQ_str]
  rw [show decide (strT a = strT b) = decide (a = b) from decide_eq_decide.mpr ⟨strT_inj, fun h => by rw [h]⟩]
theorem eqQ_tt (a b : T) (Q : PV → Prop) : eqQ (.str (strT a)) (.str (strT b)) Q = Q (.bl (decide (a = b))) := by
  rw [eqQ_str]
  rw [show decide (strT a = strT b) = decide (a = b) from decide_eq_decide.mpr ⟨strT_inj, fun h => by rw [h]⟩]
theorem notBQ_bb (a b : Bool) (Q : PV → Prop) : notBQ (.bl a) (.bl b) Q = Q (.bl (a != b)) := rfl
theorem notNQ_S (o : Option T) (Q : PV → Prop) : notNQ (encS o) .non Q = Q (.bl o.isSome) := by
  cases o
  · show (PV.non = .non ∧ Q (.bl false)) = _; simp
  · show (PV.non = .non ∧ Q (.bl true)) = _; simp
theorem isNQ_S (o : Option T) (Q : PV → Prop) : isNQ (encS o) .non Q = Q (.bl o.isNone) := by
  cases o
  · show (PV.non = .non ∧ Q (.bl true)) = _; simp
  · show (PV.non = .non ∧ Q (.bl false)) = _; simp
theorem diff_isNone (m o : Mask) : (diffP m o).isNone = sameB m o := by
  unfold diffP sameB
  cases first m o <;> rfl
theorem diff_isSome (m o : Mask) : (diffP m o).isSome = !sameB m o := by
  unfold diffP sameB
  cases first m o <;> rfl
theorem any_ints (i : Int) : ∀ xs : List Nat, ((xs.map fun (k : Nat) => PV.int (k : Nat)).any fun z => z.eqv (.int i)) = xs.any fun (k : Nat) => decide ((k : Int) = i)
  | [] => rfl
  | x :: xs => by
    rw [List.map_cons, List.any_cons, List.any_cons, any_ints i xs]
    rfl
theorem dats_ints (n : Nat) : ∀ xs : List Nat, dats n (xs.map fun (k : Nat) => PV.int (k : Nat)) = true
  | [] => by cases n <;> rfl
  | x :: xs => by rw [List.map_cons, dats, dats_ints n xs]; cases n <;> rfl
theorem inQ_Is (i : Int) (xs : List Nat) (Q : PV → Prop) : inQ (.int i) (encIs xs) Q = Q (.bl (xs.any fun (k : Nat) => decide ((k : Int) = i))) := by
  show ((PV.int i).dat 16 = true ∧ dats 15 (xs.map fun (k : Nat) => PV.int (k : Nat)) = true ∧ Q (.bl ((xs.map fun (k : Nat) => PV.int (k : Nat)).any fun z => z.eqv (.int i)))) = _
  rw [dats_ints, any_ints]
  have : (PV.int i).dat 16 = true := rfl
  rw [this]
  simp only [true_and]
/-! ### what is determined -/
theorem outT_run {m : Mask} {t : T} (h : NoStar t) : outT m t = lrun m t := (lrun_out m h).symm
theorem outT_app {m o : Mask} {t : T} (h : NoStar t) : outT (m ++ o) t = lrun o (outT m t) := by
  rw [outT_run h, outT_run h, lrun_app]
theorem Det.self {r : Rel} {m : Mask} (h : m ∈ r) : Det r m := fun _ _ _ _ hc => hc m h
theorem Det.app {r : Rel} {m o : Mask} (h : m ∈ r) : Det r (m ++ o) := fun u v hu hv hc => by
  rw [outT_app hu, outT_app hv, hc m h]
theorem outT_nil (t : T) : outT [] t = t := by
  unfold outT
  apply List.ext_getElem?
  intro i
  show (((List.range t.length).map some).map (gOf t))[i]? = _
  rw [List.map_map, List.getElem?_map]
  by_cases hi : i < t.length
  · rw [List.getElem?_range hi, List.getElem?_eq_getElem hi]
    show some (t.getD i 0) = _
    rw [List.getD_eq_getElem?_getD, List.getElem?_eq_getElem hi]; rfl
  · rw [List.getElem?_eq_none (by rw [List.length_range]; omega), List.getElem?_eq_none (by omega)]; rfl
theorem Det.unit (m : Mask) : Det [[]] m := fun u v _ _ hc => by
  have := hc [] List.mem_cons_self
  rw [outT_nil, outT_nil] at this
  rw [this]
theorem Det.trans {r : Rel} {m o : Mask} (h1 : Det r m) (h2 : Det [m] o) : Det r o := fun u v hu hv hc => h2 u v hu hv fun x hx => by
  rw [List.mem_singleton.mp hx]
  exact h1 u v hu hv hc
/-- masks with the same outputs -/
def Eqv (m o : Mask) : Prop := ∀ t : T, NoStar t → outT m t = outT o t
theorem Eqv.symm {m o : Mask} (h : Eqv m o) : Eqv o m := fun t ht => (h t ht).symm
theorem Eqv.of_tmpl {m o : Mask} (h : ∀ L, tmpl m L = tmpl o L) : Eqv m o := fun t _ => by unfold outT; rw [h]
theorem Eqv.det_r {m o x : Mask} (h : Eqv m o) : Det [m] x ↔ Det [o] x := by
  have go : ∀ {m o : Mask}, Eqv m o → Det [m] x → Det [o] x := fun {m o} h hd u v hu hv hc => hd u v hu hv fun y hy => by
    rw [List.mem_singleton.mp hy, h u hu, h v hv]
    exact hc o List.mem_cons_self
  exact ⟨go h, go h.symm⟩
theorem Eqv.det_l {r : Rel} {m o : Mask} (h : Eqv m o) : Det r m ↔ Det r o := by
  have go : ∀ {m o : Mask}, Eqv m o → Det r m → Det r o := fun {m o} h hd u v hu hv hc => by
    rw [← h u hu, ← h v hv]; exact hd u v hu hv hc
  exact ⟨go h, go h.symm⟩
theorem Det.up {r s : Rel} {m : Mask} (h : Det r m) (hs : ∀ x ∈ r, x ∈ s) : Det s m := fun u v hu hv hc => h u v hu hv fun x hx => hc x (hs x hx)
theorem detB_t {r : Rel} {m : Mask} (h : Det r m) : detB r m = true := detB_iff.mpr h
theorem detB_eq {r s : Rel} {m o : Mask} (h : Det r m ↔ Det s o) : detB r m = detB s o := by
  rw [Bool.eq_iff_iff, detB_iff, detB_iff]; exact h
theorem tmpl_app (m o : Mask) (L : Nat) : tmpl (m ++ o) L = runM o (tmpl m L) := by
  unfold tmpl runM; rw [List.foldl_append]
/-- all starred, then nothing -/
def blank : Mask := [.st .kf 0, .st .sq 0]
theorem sqT0 : ∀ (n : Nat) (p : Bool), sqT 0 p (List.replicate n 42) = []
  | 0, _ => rfl
  | n + 1, p => by
    rw [List.replicate_succ, sqT, if_pos rfl, sqT0 n true]
    cases p <;> rfl
theorem blank_run (t : T) : lrun blank t = [] := by
  show lstep (.st .sq 0) (lstep (.st .kf 0) t) = []
  simp only [lstep, List.take_zero, List.nil_append]
  exact sqT0 _ _
theorem Det.blank (r : Rel) : Det r blank := fun u v hu hv _ => by
  rw [outT_run hu, outT_run hv, blank_run, blank_run]
end PL

set_option Elab.async false
set_option linter.all false
set_option maxRecDepth 100000
set_option maxHeartbeats 4000000
/-! all strings: which, in which order; the shown string shows -/
namespace PL
open PySem PySem.Spec L2

theorem mem_lvl {ls : T} : ∀ {n : Nat} {t : T}, t.length = n → (∀ c ∈ t, c ∈ ls) → t ∈ lvl ls n
  | 0, t, h, _ => by
    rw [List.length_eq_zero_iff] at h
    subst h
    exact List.mem_cons_self
  | n + 1, t, h, hc => by
    have hne : t ≠ [] := fun z => by rw [z] at h; cases h
    rw [lvl, List.mem_flatMap]
    refine ⟨t.dropLast, mem_lvl (by rw [List.length_dropLast, h]; rfl) fun c hc' => hc c ((List.dropLast_subset t) hc'), ?_⟩
    rw [List.mem_map]
    exact ⟨t.getLast hne, hc _ (List.getLast_mem hne), List.dropLast_concat_getLast hne⟩
theorem mem_allS {ls : T} : ∀ {n : Nat} {t : T}, t.length ≤ n → (∀ c ∈ t, c ∈ ls) → t ∈ allS ls n
  | 0, t, h, hc => mem_lvl (by omega) hc
  | n + 1, t, h, hc => by
    rw [allS]
    by_cases he : t.length = n + 1
    · exact List.mem_append_right _ (mem_lvl he hc)
    · exact List.mem_append_left _ (mem_allS (by omega) hc)
theorem allS_sorted (ls : T) : ∀ n, (allS ls n).Pairwise fun s t => s.length ≤ t.length
  | 0 => List.pairwise_singleton _ _
  | n + 1 => by
    rw [allS, List.pairwise_append]
    refine ⟨allS_sorted ls n, ?_, fun s hs t ht => ?_⟩
    · rw [List.pairwise_iff_forall_sublist]
      intro a b h
      have h1 := (lvl_mem (h.subset List.mem_cons_self)).1
      have h2 := (lvl_mem (h.subset (List.mem_cons_of_mem _ List.mem_cons_self))).1
      omega
    · have h1 := (allS_mem hs).1
      have h2 := (lvl_mem ht).1
      omega
/-- the first of a sorted list is the smallest -/
theorem find_le {α : Type} {f : α → Nat} {p : α → Bool} : ∀ {xs : List α} {x y : α}, (xs.Pairwise fun a b => f a ≤ f b) → xs.find? p = some x → y ∈ xs → p y = true → f x ≤ f y
  | a :: xs, x, y, hs, hf, hy, hp => by
    rw [List.pairwise_cons] at hs
    rw [List.find?_cons] at hf
    split at hf
    · injection hf with hf
      subst hf
      rcases List.mem_cons.mp hy with rfl | hy
      · exact Nat.le_refl _
      · exact hs.1 y hy
    · rename_i hb
      rcases List.mem_cons.mp hy with rfl | hy
      · rw [hp] at hb; cases hb
      · exact find_le hs.2 hf hy hp
/-! ### the shown string -/
theorem shown_len (n : Nat) (r s : Row) : (shown n r s).length = n := by
  unfold shown
  split
  · split
    · rw [List.length_set, List.length_replicate]
    · rw [List.length_replicate]
  · rw [List.length_replicate]
theorem shown_mem {n : Nat} {r s : Row} {c : Nat} (h : c ∈ shown n r s) : c = 97 ∨ c = 98 := by
  unfold shown at h
  split at h
  · split at h
    · rcases List.mem_or_eq_of_mem_set h with h | h
      · exact .inl (List.eq_of_mem_replicate h)
      · exact .inr h
    · exact .inl (List.eq_of_mem_replicate h)
  · exact .inl (List.eq_of_mem_replicate h)
theorem rep_get (n i : Nat) (h : i < n) : (List.replicate n 97).getD i 0 = 97 := by
  rw [List.getD_eq_getElem?_getD, List.getElem?_replicate, if_pos h]; rfl
theorem gOf_a {n : Nat} {x : Option Nat} (h : ∀ a, x = some a → a < n) : gOf (List.replicate n 97) x = if x.isNone = true then 42 else 97 := by
  cases x with
  | none => rfl
  | some a => exact rep_get n a (h a rfl)
theorem fpos_none {n : Nat} : ∀ {r s : Row}, r.length = s.length → (∀ a, some a ∈ r → a < n) → (∀ a, some a ∈ s → a < n) → fpos r s = none → r.map (gOf (List.replicate n 97)) = s.map (gOf (List.replicate n 97)) → r = s
  | [], [], _, _, _, _, _ => rfl
  | [], _ :: _, h, _, _, _, _ => by cases h
  | _ :: _, [], h, _, _, _, _ => by cases h
  | x :: r, y :: s, hl, h1, h2, hf, e => by
    rw [List.map_cons, List.map_cons] at e
    injection e with e1 e2
    rw [gOf_a fun a ha => h1 a (by rw [ha]; exact List.mem_cons_self), gOf_a fun a ha => h2 a (by rw [ha]; exact List.mem_cons_self)] at e1
    have hl2 : r.length = s.length := by simpa using hl
    have g1 := fun a ha => h1 a (List.mem_cons_of_mem _ ha)
    have g2 := fun a ha => h2 a (List.mem_cons_of_mem _ ha)
    cases x with
    | none => cases y with
      | none => rw [fpos_none (r := r) (s := s) hl2 g1 g2 (by simpa [fpos] using hf) e2]
      | some b => cases e1
    | some a => cases y with
      | none => cases e1
      | some b =>
        rw [fpos] at hf
        split at hf
        · rename_i q
          rw [q, fpos_none (r := r) (s := s) hl2 g1 g2 hf e2]
        · cases hf
theorem fpos_some {p : Nat} : ∀ {r s : Row}, fpos r s = some p → ∃ b, (some p, some b) ∈ r.zip s ∧ p ≠ b
  | [], s, h => by cases s <;> simp [fpos] at h
  | x :: r, [], h => by cases x <;> simp [fpos] at h
  | some a :: r, some b :: s, h => by
    rw [fpos] at h
    split at h
    · obtain ⟨b, h1, h2⟩ := fpos_some h
      exact ⟨b, by rw [List.zip_cons_cons]; exact List.mem_cons_of_mem _ h1, h2⟩
    · rename_i q
      injection h with h
      subst h
      exact ⟨b, by rw [List.zip_cons_cons]; exact List.mem_cons_self, q⟩
  | none :: r, y :: s, h => by
    obtain ⟨b, h1, h2⟩ := fpos_some (r := r) (s := s) (p := p) (by simpa [fpos] using h)
    exact ⟨b, by rw [List.zip_cons_cons]; exact List.mem_cons_of_mem _ h1, h2⟩
  | some a :: r, none :: s, h => by
    obtain ⟨b, h1, h2⟩ := fpos_some (r := r) (s := s) (p := p) (by simpa [fpos] using h)
    exact ⟨b, by rw [List.zip_cons_cons]; exact List.mem_cons_of_mem _ h1, h2⟩
theorem shown_shows {n : Nat} {r s : Row} (h1 : ∀ a, some a ∈ r → a < n) (h2 : ∀ a, some a ∈ s → a < n) (h : r ≠ s) : r.map (gOf (shown n r s)) ≠ s.map (gOf (shown n r s)) := fun e => by
  have hl : r.length = s.length := by simpa using congrArg List.length e
  unfold shown at e
  rw [if_pos hl] at e
  cases hf : fpos r s with
  | none =>
    rw [hf] at e
    exact h (fpos_none hl h1 h2 hf e)
  | some p =>
    rw [hf] at e
    obtain ⟨b, hb, hn⟩ := fpos_some hf
    have := pairs_of_eq e _ hb p b rfl
    have hp := h1 p (List.of_mem_zip hb).1
    have hb2 := h2 b (List.of_mem_zip hb).2
    rw [List.getD_eq_getElem?_getD, List.getD_eq_getElem?_getD, List.getElem?_set_self (by rw [List.length_replicate]; exact hp), List.getElem?_set_ne hn, List.getElem?_replicate, if_pos hb2] at this
    cases this
/-- what difference tells -/
structure Told (m o : Mask) (t : T) : Prop where
  ab : ∀ c ∈ t, c = 97 ∨ c = 98
  ne : outT m t ≠ outT o t
  least : ∀ s : T, outT m s ≠ outT o s → t.length ≤ s.length
  small : t.length ≤ 2 + (msum m + msum o)
theorem Told.star {m o : Mask} {t : T} (h : Told m o t) : NoStar t := fun z => by rcases h.ab _ z with h | h <;> cases h
theorem diff_told {m o : Mask} {t : T} (h : diffP m o = some t) : Told m o t := by
  unfold diffP at h
  cases e : first m o with
  | none => rw [e] at h; cases h
  | some L =>
    rw [e] at h
    injection h with h
    subst h
    obtain ⟨h1, h2⟩ := fdif_some e
    refine ⟨fun c hc => shown_mem hc, ?_, fun s hs => ?_, ?_⟩
    · unfold outT
      rw [shown_len]
      exact shown_shows (fun a ha => tmpl_some ha) (fun a ha => tmpl_some ha) h1
    · rw [shown_len]
      by_cases hlt : s.length < L
      · exfalso
        apply hs
        unfold outT
        rw [h2 _ (Nat.zero_le _) hlt]
      · omega
    · rw [shown_len]
      have := fdif_lt e
      have := bnd2 m o
      omega
end PL

set_option Elab.async false
set_option linter.all false
set_option maxRecDepth 100000
set_option maxHeartbeats 4000000
/-! k19 -/
namespace PL
open PySem PySem.Spec L2
def longP (o : Option T) : Nat := match o with
  | none => 99
  | some t => t.length
def p__law_long : PSp := fun as Q => ∃ o : Option T, as = [encS o] ∧ Q (.int (longP o))
theorem m__law_long : MonoP p__law_long := fun _ _ _ h ⟨o, e, q⟩ => ⟨o, e, h _ q⟩
def d__law_long : DS := (dRet (dIf (dB (dOp isNQ (dVar 0) (dC .non))) (dC (.int 99)) (dBi lenQ (dCons (dVar 0) dNil))))
theorem h__law_long : ∀ (as : List PV) (post : PV → Prop), as.length = 1 → p__law_long as post → d__law_long (endsOf post) (startR 1 as) := by
  rintro as post _ ⟨o, rfl, q⟩
  show d__law_long _ [.val (encS o)]
  simp only [d__law_long, dSeq, dNext, dIfS, dRet, dRetN, dSet, dOwn, dVar, dC, dOp, dB, dChain, dAnd, dOr, dNot, dAndV, dOrV, dNotV, dIf, dNil, dCons, dTup, dLst, dDrop, dgName, dgNil, dgCons, dgTup, dAsg, dPar, dPar3, dParO, dParV, dAug, dCall, dBi, dIsi, dInS, dSl, doNone, doSome, dRevL, dRevS, dM1, dRg1, dListOf, dJoin, dNeg, dApp, dExt, dSetIx, endsOf, dFor, dIt, dZip, dEnum, dRange1, dRange2, itemsQ, dLc, wipeR, dTwn, dTwnSet, dTwnAug, dScrE, dScrL, dScrX, List.getElem?_cons_zero, List.getElem?_cons_succ, List.set_cons_zero, List.set_cons_succ, List.length_cons, List.length_nil, if_true, if_false, Bool.true_eq_false, Bool.false_eq_true, if_pos, ite_true, ite_false, reduceIte, true_and, and_true, true_or, or_true, PV.scr.injEq, PV.int.injEq, PV.bl.injEq, PV.str.injEq, PV.lst.injEq, PV.tup.injEq, exists_eq_left, exists_eq_left', exists_eq_right, exists_eq_right', reduceCtorEq, or_false, false_or, forall_const, Nat.zero_le, Bool.not_true, Bool.not_false, decide_true, decide_false, isNQ_S]
  cases o with
  | none => exact q
  | some t =>
    simp only [Option.isNone_some, List.getElem?_cons_zero, List.getElem?_cons_succ, List.set_cons_zero, List.set_cons_succ, List.length_cons, List.length_nil, if_true, if_false, Bool.true_eq_false, Bool.false_eq_true, if_pos, ite_true, ite_false, reduceIte, true_and, and_true, true_or, or_true, PV.scr.injEq, PV.int.injEq, PV.bl.injEq, PV.str.injEq, PV.lst.injEq, PV.tup.injEq, exists_eq_left, exists_eq_left', exists_eq_right, exists_eq_right', reduceCtorEq, or_false, false_or, forall_const, Nat.zero_le, Bool.not_true, Bool.not_false, decide_true, decide_false, encS, lenQ_str, strT_len]
    exact q
def p__law_near (K : PySem.W.Frag) : PSp := fun as Q => ∃ (ns : List Int) (m : Mask), as = [.scr K ns, .town, encM m] ∧ OkM m ∧ ∀ o : Mask, OkM o → Q (encM o)
theorem m__law_near {K : PySem.W.Frag} : MonoP (p__law_near K) := fun _ _ _ h ⟨ns, m, e, a, q⟩ => ⟨ns, m, e, a, fun o ho => h _ (q o ho)⟩
def d__law_near (K : PySem.W.Frag) : DS := (dSeq (dSet 3 (dCall 3 (p__law_draw K) (dCons (dVar 0) (dCons (dVar 1) (dCons (dC (.int 4)) dNil))))) (dSeq (dIfS (dB (dOp eqQ (dVar 3) (dC (.int 0)))) (dRet (dSl (dVar 2) doNone (doSome
      (dNeg (dC (.int 1)))))) dNext) (dSeq (dIfS (dAnd (dB (dOp eqQ (dVar 3) (dC (.int 1)))) (dB (dOp (cmpQ fun i j => decide (i < j)) (dBi lenQ (dCons (dVar 2) dNil)) (dC (.int 4))))) (dRet (dOp addQ (dVar 2) (dTup (dCons (dTup (dCons
      (dC (.str (Str.ofString "hide_first"))) (dCons (dC (.int 0)) dNil))) dNil)))) dNext) (dSeq (dIfS (dAnd (dB (dOp eqQ (dVar 3) (dC (.int 2)))) (dB (dOp (cmpQ fun i j => decide (i < j)) (dBi lenQ (dCons (dVar 2) dNil)) (dC (.int
      3))))) (dRet (dOp addQ (dTup (dCons (dTup (dCons (dC (.str (Str.ofString "reverse"))) dNil)) (dCons (dTup (dCons (dC (.str (Str.ofString "reverse"))) dNil)) dNil))) (dVar 2))) dNext) (dRet (dCall 4 (p__law_mask K) (dCons (dVar 0)
      (dCons (dVar 1) (dCons (dC (.int 2)) (dCons (dC (.int 3)) dNil))))))))))
theorem cutP_butlast (xs : List PV) : cutP xs none (some (-1)) = xs.dropLast := by
  unfold cutP
  rw [HT.sIx_none, List.drop_zero, Nat.sub_zero, List.dropLast_eq_take]
  congr 1
  unfold HT.sIx
  simp only
  rw [if_pos (by decide)]
  omega
theorem h__law_near {K : PySem.W.Frag} : ∀ (as : List PV) (post : PV → Prop), as.length = 3 → p__law_near K as post → d__law_near K (endsOf post) (startR 4 as) := by
  rintro as post _ ⟨ns, m, rfl, om, q⟩
  have e0 : (sizeLine : Nat) = 16777216 := by decide
  show d__law_near K _ [.val (.scr K ns), .val .town, .val (encM m), .un]
  have hl := om.1
  have hn := om.2
  refine seq_i ?_
  simp only [dNext, dIfS, dRet, dRetN, dSet, dOwn, dVar, dC, dOp, dB, dChain, dAnd, dOr, dNot, dAndV, dOrV, dNotV, dIf, dNil, dCons, dTup, dLst, dDrop, dgName, dgNil, dgCons, dgTup, dAsg, dPar, dPar3, dParO, dParV, dAug, dCall, dBi, dIsi, dInS, dSl, doNone, doSome, dRevL, dRevS, dM1, dRg1, dListOf, dJoin, dNeg, dApp, dExt, dSetIx, endsOf, dFor, dIt, dZip, dEnum, dRange1, dRange2, itemsQ, dLc, wipeR, dTwn, dTwnSet, dTwnAug, dScrE, dScrL, dScrX, List.getElem?_cons_zero, List.getElem?_cons_succ, List.set_cons_zero, List.set_cons_succ, List.length_cons, List.length_nil, if_true, if_false, Bool.true_eq_false, Bool.false_eq_true, if_pos, ite_true, ite_false, reduceIte, true_and, and_true, true_or, or_true, PV.scr.injEq, PV.int.injEq, PV.bl.injEq, PV.str.injEq, PV.lst.injEq, PV.tup.injEq, exists_eq_left, exists_eq_left', exists_eq_right, exists_eq_right', reduceCtorEq, or_false, false_or, forall_const, Nat.zero_le, Bool.not_true, Bool.not_false, decide_true, decide_false]
  refine draw_i (m := 4) (fun w hw => ?_) (by decide) (by decide)
  have lm : ∀ Q : PV → Prop, lenQ [encM m] Q = Q (.int m.length) := fun Q => by unfold encM; rw [lenQ_tup, List.length_map]
  refine seq_i ?_
  simp only [dNext, dIfS, dRet, dRetN, dSet, dOwn, dVar, dC, dOp, dB, dChain, dAnd, dOr, dNot, dAndV, dOrV, dNotV, dIf, dNil, dCons, dTup, dLst, dDrop, dgName, dgNil, dgCons, dgTup, dAsg, dPar, dPar3, dParO, dParV, dAug, dCall, dBi, dIsi, dInS, dSl, doNone, doSome, dRevL, dRevS, dM1, dRg1, dListOf, dJoin, dNeg, dApp, dExt, dSetIx, endsOf, dFor, dIt, dZip, dEnum, dRange1, dRange2, itemsQ, dLc, wipeR, dTwn, dTwnSet, dTwnAug, dScrE, dScrL, dScrX, List.getElem?_cons_zero, List.getElem?_cons_succ, List.set_cons_zero, List.set_cons_succ, List.length_cons, List.length_nil, if_true, if_false, Bool.true_eq_false, Bool.false_eq_true, if_pos, ite_true, ite_false, reduceIte, true_and, and_true, true_or, or_true, PV.scr.injEq, PV.int.injEq, PV.bl.injEq, PV.str.injEq, PV.lst.injEq, PV.tup.injEq, exists_eq_left, exists_eq_left', exists_eq_right, exists_eq_right', reduceCtorEq, or_false, false_or, forall_const, Nat.zero_le, Bool.not_true, Bool.not_false, decide_true, decide_false, eqQ_int]
  refine ite_i (fun _ hB => ?_) ?_
  · simp only [encM, slQ_tup, cutP_butlast]
    rw [← List.map_dropLast]
    exact q _ ⟨by rw [List.length_dropLast]; omega, fun s hs => hn s (List.dropLast_subset _ hs)⟩
  refine seq_i ?_
  simp only [dNext, dIfS, dRet, dRetN, dSet, dOwn, dVar, dC, dOp, dB, dChain, dAnd, dOr, dNot, dAndV, dOrV, dNotV, dIf, dNil, dCons, dTup, dLst, dDrop, dgName, dgNil, dgCons, dgTup, dAsg, dPar, dPar3, dParO, dParV, dAug, dCall, dBi, dIsi, dInS, dSl, doNone, doSome, dRevL, dRevS, dM1, dRg1, dListOf, dJoin, dNeg, dApp, dExt, dSetIx, endsOf, dFor, dIt, dZip, dEnum, dRange1, dRange2, itemsQ, dLc, wipeR, dTwn, dTwnSet, dTwnAug, dScrE, dScrL, dScrX, List.getElem?_cons_zero, List.getElem?_cons_succ, List.set_cons_zero, List.set_cons_succ, List.length_cons, List.length_nil, if_true, if_false, Bool.true_eq_false, Bool.false_eq_true, if_pos, ite_true, ite_false, reduceIte, true_and, and_true, true_or, or_true, PV.scr.injEq, PV.int.injEq, PV.bl.injEq, PV.str.injEq, PV.lst.injEq, PV.tup.injEq, exists_eq_left, exists_eq_left', exists_eq_right, exists_eq_right', reduceCtorEq, or_false, false_or, forall_const, Nat.zero_le, Bool.not_true, Bool.not_false, decide_true, decide_false, eqQ_int, lm, cmpQ_int, sz1, sz2]
  refine ite_i (fun _ hB => ite_i (fun h4 _ => ?_) hB) ?_
  · have h4 := of_decide_eq_true h4
    simp only [encM, addQ_tup, List.length_map, List.length_cons, List.length_nil]
    have := q (m ++ [.st .hf 0]) (om.app ⟨by decide, no_st (Nat.zero_le _) no_nil⟩ (by rw [List.length_singleton]; omega))
    unfold encM at this
    rw [List.map_append] at this
    exact ⟨by omega, this⟩
  refine seq_i ?_
  simp only [dNext, dIfS, dRet, dRetN, dSet, dOwn, dVar, dC, dOp, dB, dChain, dAnd, dOr, dNot, dAndV, dOrV, dNotV, dIf, dNil, dCons, dTup, dLst, dDrop, dgName, dgNil, dgCons, dgTup, dAsg, dPar, dPar3, dParO, dParV, dAug, dCall, dBi, dIsi, dInS, dSl, doNone, doSome, dRevL, dRevS, dM1, dRg1, dListOf, dJoin, dNeg, dApp, dExt, dSetIx, endsOf, dFor, dIt, dZip, dEnum, dRange1, dRange2, itemsQ, dLc, wipeR, dTwn, dTwnSet, dTwnAug, dScrE, dScrL, dScrX, List.getElem?_cons_zero, List.getElem?_cons_succ, List.set_cons_zero, List.set_cons_succ, List.length_cons, List.length_nil, if_true, if_false, Bool.true_eq_false, Bool.false_eq_true, if_pos, ite_true, ite_false, reduceIte, true_and, and_true, true_or, or_true, PV.scr.injEq, PV.int.injEq, PV.bl.injEq, PV.str.injEq, PV.lst.injEq, PV.tup.injEq, exists_eq_left, exists_eq_left', exists_eq_right, exists_eq_right', reduceCtorEq, or_false, false_or, forall_const, Nat.zero_le, Bool.not_true, Bool.not_false, decide_true, decide_false, eqQ_int, lm, cmpQ_int, sz1, sz2]
  refine ite_i (fun _ hB => ite_i (fun h4 _ => ?_) hB) ?_
  · have h4 := of_decide_eq_true h4
    simp only [encM, addQ_tup, List.length_map, List.length_cons, List.length_nil]
    exact ⟨by omega, q (.rev :: .rev :: m) ⟨by rw [List.length_cons, List.length_cons]; omega, no_rev (no_rev hn)⟩⟩
  exact ⟨ns, 2, 3, rfl, by decide, by decide, fun x hx => q x (hx.ok (by decide) (by decide))⟩
/-- the first length at which the templates differ, 99 if none -/
def fd (m o : Mask) : Nat := longP (diffP m o)
theorem fd_none {m o : Mask} (h : diffP m o = none) : ∀ L, tmpl m L = tmpl o L := by
  have : sameB m o = true := by rw [← diff_isNone, h]; rfl
  exact sameB_iff.mp this
theorem fd_spec {m o : Mask} (hm : OkM m) (ho : OkM o) : fd m o ≤ 99 ∧ (∀ L, L < fd m o → tmpl m L = tmpl o L) ∧ (fd m o < 99 → tmpl m (fd m o) ≠ tmpl o (fd m o)) := by
  unfold fd
  have b1 := msum_le hm
  have b2 := msum_le ho
  have b3 := bnd2 m o
  cases h : diffP m o with
  | none => exact ⟨Nat.le_refl _, fun L _ => fd_none h L, fun z => absurd z (by decide)⟩
  | some t =>
    unfold diffP at h
    cases e : first m o with
    | none => rw [e] at h; cases h
    | some L =>
      rw [e] at h
      injection h with h
      obtain ⟨h1, h2⟩ := fdif_some e
      have h3 := fdif_lt e
      have hl : t.length = L := by rw [← h, shown_len]
      show t.length ≤ 99 ∧ _
      refine ⟨by omega, fun j hj => ?_, fun _ => ?_⟩
      · have hj : j < t.length := hj
        exact h2 j (Nat.zero_le _) (by omega)
      · show tmpl m t.length ≠ tmpl o t.length
        rw [hl]; exact h1
theorem fd_ultra {m o p : Mask} (hm : OkM m) (ho : OkM o) (hp : OkM p) : min (fd m o) (fd o p) ≤ fd m p := by
  obtain ⟨a1, a2, a3⟩ := fd_spec hm ho
  obtain ⟨b1, b2, b3⟩ := fd_spec ho hp
  obtain ⟨c1, c2, c3⟩ := fd_spec hm hp
  by_cases h : min (fd m o) (fd o p) ≤ fd m p
  · exact h
  · exfalso
    exact c3 (by omega) ((a2 _ (by omega)).trans (b2 _ (by omega)))
theorem fd_comm {m o : Mask} (hm : OkM m) (ho : OkM o) : fd m o = fd o m := by
  obtain ⟨a1, a2, a3⟩ := fd_spec hm ho
  obtain ⟨b1, b2, b3⟩ := fd_spec ho hm
  by_cases h : fd m o < fd o m
  · exact absurd (b2 _ h).symm (a3 (by omega))
  · by_cases h2 : fd o m < fd m o
    · exact absurd (a2 _ h2).symm (b3 (by omega))
    · omega
theorem two_small_eq {a b c : Int} (h1 : min a b ≤ c) (h2 : min b c ≤ a) (h3 : min a c ≤ b) {ns : List Int} (hp : ns.Perm [a, b, c]) (hs : ns.Pairwise (· ≤ ·)) : ∃ x y, ns = [x, x, y] := by
  have hl := hp.length_eq
  match ns, hl with
  | [x, y, z], _ =>
    simp only [List.pairwise_cons, List.mem_cons, List.not_mem_nil, or_false, forall_eq_or_imp, forall_eq, false_implies, implies_true, List.Pairwise.nil, and_true] at hs
    obtain ⟨⟨xy, xz⟩, yz⟩ := hs
    by_cases e : x = y
    · exact ⟨x, z, by rw [e]⟩
    · exfalso
      have hc := hp.count_eq x
      have hx := hp.mem_iff.mp (show x ∈ [x, y, z] from List.mem_cons_self)
      have mem : ∀ w, w ∈ [a, b, c] → w = x ∨ w = y ∨ w = z := fun w hw => by
        have := hp.mem_iff.mpr hw
        simpa using this
      have ma := mem a (by simp)
      have mb := mem b (by simp)
      have mc := mem c (by simp)
      simp only [List.mem_cons, List.not_mem_nil, or_false] at hx
      have c1 : List.count x [x, y, z] = 1 := by
        rw [List.count_cons, List.count_cons, List.count_cons, List.count_nil]
        have e1 : (y == x) = false := beq_eq_false_iff_ne.mpr (fun z => e z.symm)
        have e2 : (z == x) = false := beq_eq_false_iff_ne.mpr (by omega)
        rw [e1, e2]; simp
      have c2 : 2 ≤ List.count x [a, b, c] := by
        rw [List.count_cons, List.count_cons, List.count_cons, List.count_nil]
        have f : ∀ w : Int, (if (w == x) = true then 1 else 0) = if w = x then 1 else 0 := fun w => by
          by_cases h : w = x
          · rw [if_pos h, if_pos (beq_iff_eq.mpr h)]
          · rw [if_neg h, if_neg (fun z => h (beq_iff_eq.mp z))]
        rw [f, f, f]
        split <;> split <;> split <;> omega
      omega
def bd_law_0 (K : PySem.W.Frag) : DS := (dSeq (dSet 11 (dCall 2 p_difference (dCons (dVar 7) (dCons (dVar 8) dNil)))) (dSeq (dIfS (dB (dOp notNQ (dVar 11) (dC .non))) (dSeq (dIfS (dB (dOp eqQ (dCall 2 p__law_run (dCons (dVar 7)
      (dCons (dVar 11) dNil))) (dCall 2 p__law_run (dCons (dVar 8) (dCons (dVar 11) dNil))))) (dRet (dC (.bl false))) dNext) dCont) dNext) (dSeq (dIfS (dOr (dNot (dB (dCall 2 p_determines (dCons (dTup (dCons (dVar 7) dNil)) (dCons
      (dVar 8) dNil))))) (dNot (dB (dCall 2 p_determines (dCons (dTup (dCons (dVar 8) dNil)) (dCons (dVar 7) dNil)))))) (dRet (dC (.bl false))) dNext) (dSeq (dIfS (dB (dOp neQ (dCall 3 p_group_size (dCons (dTup (dCons (dVar 7) (dCons
      (dVar 9) dNil))) (dCons (dVar 10) (dCons (dC (.int 5)) dNil)))) (dCall 3 p_group_size (dCons (dTup (dCons (dVar 9) (dCons (dVar 8) dNil))) (dCons (dVar 10) (dCons (dC (.int 5)) dNil)))))) (dRet (dC (.bl false))) dNext) (dIfS
      (dAnd (dB (dOp (cmpQ fun i j => decide (i ≤ j)) (dOp addQ (dBi maxQ (dCons (dBi lenQ (dCons (dVar 7) dNil)) (dCons (dBi lenQ (dCons (dVar 8) dNil)) dNil))) (dBi lenQ (dCons (dVar 9) dNil))) (dC (.int 4)))) (dB (dOp notNQ (dCall 2
      p_difference (dCons (dOp addQ (dVar 7) (dVar 9)) (dCons (dOp addQ (dVar 8) (dVar 9)) dNil))) (dC .non)))) (dRet (dC (.bl false))) dNext)))))
theorem ebd_law_0 {K : PySem.W.Frag} (PD : PEnds) (ρ : Rho) : bd_law_0 K PD ρ = (dSeq (dSet 11 (dCall 2 p_difference (dCons (dVar 7) (dCons (dVar 8) dNil)))) (dSeq (dIfS (dB (dOp notNQ (dVar 11) (dC .non))) (dSeq (dIfS (dB (dOp eqQ
      (dCall 2 p__law_run (dCons (dVar 7) (dCons (dVar 11) dNil))) (dCall 2 p__law_run (dCons (dVar 8) (dCons (dVar 11) dNil))))) (dRet (dC (.bl false))) dNext) dCont) dNext) (dSeq (dIfS (dOr (dNot (dB (dCall 2 p_determines (dCons
      (dTup (dCons (dVar 7) dNil)) (dCons (dVar 8) dNil))))) (dNot (dB (dCall 2 p_determines (dCons (dTup (dCons (dVar 8) dNil)) (dCons (dVar 7) dNil)))))) (dRet (dC (.bl false))) dNext) (dSeq (dIfS (dB (dOp neQ (dCall 3 p_group_size
      (dCons (dTup (dCons (dVar 7) (dCons (dVar 9) dNil))) (dCons (dVar 10) (dCons (dC (.int 5)) dNil)))) (dCall 3 p_group_size (dCons (dTup (dCons (dVar 9) (dCons (dVar 8) dNil))) (dCons (dVar 10) (dCons (dC (.int 5)) dNil)))))) (dRet
      (dC (.bl false))) dNext) (dIfS (dAnd (dB (dOp (cmpQ fun i j => decide (i ≤ j)) (dOp addQ (dBi maxQ (dCons (dBi lenQ (dCons (dVar 7) dNil)) (dCons (dBi lenQ (dCons (dVar 8) dNil)) dNil))) (dBi lenQ (dCons (dVar 9) dNil))) (dC
      (.int 4)))) (dB (dOp notNQ (dCall 2 p_difference (dCons (dOp addQ (dVar 7) (dVar 9)) (dCons (dOp addQ (dVar 8) (dVar 9)) dNil))) (dC .non)))) (dRet (dC (.bl false))) dNext))))) PD ρ := rfl
def d_law (K : PySem.W.Frag) : DS := (dSeq (dSet 2 (dCall 4 (p__law_mask K) (dCons (dVar 0) (dCons (dVar 1) (dCons (dC (.int 3)) (dCons (dC (.int 3)) dNil)))))) (dSeq (dSet 3 (dCall 3 (p__law_near K) (dCons (dVar 0) (dCons (dVar 1)
      (dCons (dVar 2) dNil))))) (dSeq (dSet 4 (dCall 3 (p__law_near K) (dCons (dVar 0) (dCons (dVar 1) (dCons (dVar 3) dNil))))) (dSeq (dSet 5 (dTup (dCons (dTup (dCons (dVar 2) (dCons (dVar 3) dNil))) (dCons (dTup (dCons (dVar 3)
      (dCons (dVar 4) dNil))) (dCons (dTup (dCons (dVar 2) (dCons (dVar 4) dNil))) dNil))))) (dSeq (dSet 6 (dBi sortedQ (dCons (dLc (dIt (dVar 5)) (dgTup 2 (dgCons (dgName 7) (dgCons (dgName 8) dgNil))) dYes (dCall 1 p__law_long (dCons
      (dCall 2 p_difference (dCons (dVar 7) (dCons (dVar 8) dNil))) dNil)) [7, 8]) dNil))) (dSeq (dIfS (dB (dOp neQ (dOp ixQ (dVar 6) (dC (.int 0))) (dOp ixQ (dVar 6) (dC (.int 1))))) (dRet (dC (.bl false))) dNext) (dSeq (dPar 9 10
      (dCons (dCall 4 (p__law_mask K) (dCons (dVar 0) (dCons (dVar 1) (dCons (dC (.int 1)) (dCons (dC (.int 3)) dNil))))) (dCons (dCall 4 (p__law_string K) (dCons (dVar 0) (dCons (dVar 1) (dCons (dC (.str (Str.ofString "abc"))) (dCons
      (dC (.int 8)) dNil))))) dNil))) (dSeq (dFor (dIt (dVar 5)) (dgTup 2 (dgCons (dgName 7) (dgCons (dgName 8) dgNil))) (bd_law_0 K)) (dSeq (dAsg (dTup (dCons (dTup (dCons (dTup (dCons (dC (.str (Str.ofString "hide_first"))) (dCons
      (dC (.int 2)) dNil))) dNil)) (dCons (dTup (dCons (dTup (dCons (dC (.str (Str.ofString "hide_first"))) (dCons (dC (.int 2)) dNil))) (dCons (dTup (dCons (dC (.str (Str.ofString "squeeze"))) (dCons (dC (.int 1)) dNil))) dNil)))
      dNil))) (dgTup 2 (dgCons (dgName 12) (dgCons (dgName 13) dgNil)))) (dRet (dAndV (dOp isNQ (dCall 2 p_difference (dCons (dTup dNil) (dCons (dTup (dCons (dTup (dCons (dC (.str (Str.ofString "squeeze"))) (dCons (dC (.int 1)) dNil)))
      dNil)) dNil))) (dC .non)) (dOp eqQ (dBi lenQ (dCons (dCall 2 p_difference (dCons (dVar 12) (dCons (dVar 13) dNil))) dNil)) (dC (.int 2))))))))))))))
theorem gsize_eq {f t o : Mask} (h : ∀ L, tmpl f L = tmpl t L) (l k : Nat) : gsize [f, o] l k = gsize [o, t] l k := by
  unfold gsize
  rw [free_len, free_len]
  congr 2
  apply List.filter_congr
  intro i _
  unfold shB
  simp only [List.any_cons, List.any_nil, Bool.or_false]
  rw [h l, Bool.or_comm]
theorem body19 {K : PySem.W.Frag} {f t o : Mask} (hf : OkM f) (ht : OkM t) (ho : Mk 1 3 o) {w : T} (hw : w.length ≤ 8 ∧ ∀ c ∈ w, c ∈ [97, 98, 99]) (v0 v1 v2 v3 v4 v5 v6 s11 v12 v13 : Slot) (PD : PEnds)
    (hn : ∀ s11, PD.nx [v0, v1, v2, v3, v4, v5, v6, .val (encM f), .val (encM t), .val (encM o), .val (.str (strT w)), s11, v12, v13]) (hc : ∀ s11, PD.ct [v0, v1, v2, v3, v4, v5, v6, .val (encM f), .val (encM t), .val (encM o), .val (.str (strT w)), s11, v12, v13]) :
    bd_law_0 K PD [v0, v1, v2, v3, v4, v5, v6, .val (encM f), .val (encM t), .val (encM o), .val (.str (strT w)), s11, v12, v13] := by
  have e0 : (sizeLine : Nat) = 16777216 := by decide
  have oo := ho.ok (by decide) (by decide : 3 ≤ 5)
  have l1 := hf.1
  have l2 := ht.1
  have l3 := ho.1
  have b1 := msum_le hf
  have b2 := msum_le ht
  have os : OkS w := ⟨by omega, fun c hh => by
    have := hw.2 c hh
    simp only [List.mem_cons, List.not_mem_nil, or_false] at this
    omega⟩
  have r1 : ∀ {m : Mask}, OkM m → OkR [m] := fun h => ⟨Nat.le_of_ble_eq_true rfl, fun x hx => by rw [List.mem_singleton.mp hx]; exact h⟩
  have r2 : ∀ {m n : Mask}, OkM m → OkM n → OkR [m, n] := fun h h' => ⟨Nat.le_of_ble_eq_true rfl, fun x hx => by
    rcases List.mem_cons.mp hx with rfl | hx
    · exact h
    · rw [List.mem_singleton.mp hx]; exact h'⟩
  have lm : ∀ (m : Mask) (Q : PV → Prop), lenQ [encM m] Q = Q (.int m.length) := fun m Q => by unfold encM; rw [lenQ_tup, List.length_map]
  simp only [ebd_law_0]
  refine seq_i ?_
  simp only [dSet, dCall, dCons, dNil, dVar, List.getElem?_cons_zero, List.getElem?_cons_succ, List.set_cons_zero, List.set_cons_succ, List.length_cons, List.length_nil, if_true, if_false, Bool.true_eq_false, Bool.false_eq_true, if_pos, ite_true, ite_false, reduceIte, true_and, and_true, true_or, or_true, PV.scr.injEq, PV.int.injEq, PV.bl.injEq, PV.str.injEq, PV.lst.injEq, PV.tup.injEq, exists_eq_left, exists_eq_left', exists_eq_right, exists_eq_right', reduceCtorEq, or_false, false_or, forall_const, Nat.zero_le, Bool.not_true, Bool.not_false, decide_true, decide_false]
  refine ⟨f, t, rfl, hf, ht, ?_⟩
  refine seq_i ?_
  simp only [dIfS, dB, dOp, dVar, dC, List.getElem?_cons_zero, List.getElem?_cons_succ, List.set_cons_zero, List.set_cons_succ, List.length_cons, List.length_nil, if_true, if_false, Bool.true_eq_false, Bool.false_eq_true, if_pos, ite_true, ite_false, reduceIte, true_and, and_true, true_or, or_true, PV.scr.injEq, PV.int.injEq, PV.bl.injEq, PV.str.injEq, PV.lst.injEq, PV.tup.injEq, exists_eq_left, exists_eq_left', exists_eq_right, exists_eq_right', reduceCtorEq, or_false, false_or, forall_const, Nat.zero_le, Bool.not_true, Bool.not_false, decide_true, decide_false, notNQ_S]
  cases hd : diffP f t with
  | some d =>
    simp only [Option.isSome_some, List.getElem?_cons_zero, List.getElem?_cons_succ, List.set_cons_zero, List.set_cons_succ, List.length_cons, List.length_nil, if_true, if_false, Bool.true_eq_false, Bool.false_eq_true, if_pos, ite_true, ite_false, reduceIte, true_and, and_true, true_or, or_true, PV.scr.injEq, PV.int.injEq, PV.bl.injEq, PV.str.injEq, PV.lst.injEq, PV.tup.injEq, exists_eq_left, exists_eq_left', exists_eq_right, exists_eq_right', reduceCtorEq, or_false, false_or, forall_const, Nat.zero_le, Bool.not_true, Bool.not_false, decide_true, decide_false]
    have td := diff_told hd
    have tl := td.small
    have hsm : ∀ c ∈ d, c < 0x110000 := fun c hc => by rcases td.ab c hc with h | h <;> omega
    refine seq_i ?_
    simp only [dIfS, dB, dOp, dCall, dCons, dNil, dVar, dC, List.getElem?_cons_zero, List.getElem?_cons_succ, List.set_cons_zero, List.set_cons_succ, List.length_cons, List.length_nil, if_true, if_false, Bool.true_eq_false, Bool.false_eq_true, if_pos, ite_true, ite_false, reduceIte, true_and, and_true, true_or, or_true, PV.scr.injEq, PV.int.injEq, PV.bl.injEq, PV.str.injEq, PV.lst.injEq, PV.tup.injEq, exists_eq_left, exists_eq_left', exists_eq_right, exists_eq_right', reduceCtorEq, or_false, false_or, forall_const, Nat.zero_le, Bool.not_true, Bool.not_false, decide_true, decide_false, encS]
    refine run_i hf (by omega) hsm (run_i ht (by omega) hsm ?_)
    have hne : lrun f d ≠ lrun t d := by rw [lrun_out f td.star, lrun_out t td.star]; exact td.ne
    simp only [eqQ_tt, decide_eq_false hne, List.getElem?_cons_zero, List.getElem?_cons_succ, List.set_cons_zero, List.set_cons_succ, List.length_cons, List.length_nil, if_true, if_false, Bool.true_eq_false, Bool.false_eq_true, if_pos, ite_true, ite_false, reduceIte, true_and, and_true, true_or, or_true, PV.scr.injEq, PV.int.injEq, PV.bl.injEq, PV.str.injEq, PV.lst.injEq, PV.tup.injEq, exists_eq_left, exists_eq_left', exists_eq_right, exists_eq_right', reduceCtorEq, or_false, false_or, forall_const, Nat.zero_le, Bool.not_true, Bool.not_false, decide_true, decide_false, dNext, dCont]
    exact hc _
  | none =>
    have same := fd_none hd
    have q := Eqv.of_tmpl same
    simp only [Option.isSome_none, List.getElem?_cons_zero, List.getElem?_cons_succ, List.set_cons_zero, List.set_cons_succ, List.length_cons, List.length_nil, if_true, if_false, Bool.true_eq_false, Bool.false_eq_true, if_pos, ite_true, ite_false, reduceIte, true_and, and_true, true_or, or_true, PV.scr.injEq, PV.int.injEq, PV.bl.injEq, PV.str.injEq, PV.lst.injEq, PV.tup.injEq, exists_eq_left, exists_eq_left', exists_eq_right, exists_eq_right', reduceCtorEq, or_false, false_or, forall_const, Nat.zero_le, Bool.not_true, Bool.not_false, decide_true, decide_false, dNext]
    refine seq_i ?_
    simp only [dNext, dIfS, dRet, dRetN, dSet, dOwn, dVar, dC, dOp, dB, dChain, dAnd, dOr, dNot, dAndV, dOrV, dNotV, dIf, dNil, dCons, dTup, dLst, dDrop, dgName, dgNil, dgCons, dgTup, dAsg, dPar, dPar3, dParO, dParV, dAug, dCall, dBi, dIsi, dInS, dSl, doNone, doSome, dRevL, dRevS, dM1, dRg1, dListOf, dJoin, dNeg, dApp, dExt, dSetIx, endsOf, dFor, dIt, dZip, dEnum, dRange1, dRange2, itemsQ, dLc, wipeR, dTwn, dTwnSet, dTwnAug, dScrE, dScrL, dScrX, List.getElem?_cons_zero, List.getElem?_cons_succ, List.set_cons_zero, List.set_cons_succ, List.length_cons, List.length_nil, if_true, if_false, Bool.true_eq_false, Bool.false_eq_true, if_pos, ite_true, ite_false, reduceIte, true_and, and_true, true_or, or_true, PV.scr.injEq, PV.int.injEq, PV.bl.injEq, PV.str.injEq, PV.lst.injEq, PV.tup.injEq, exists_eq_left, exists_eq_left', exists_eq_right, exists_eq_right', reduceCtorEq, or_false, false_or, forall_const, Nat.zero_le, Bool.not_true, Bool.not_false, decide_true, decide_false, sz1]
    refine ⟨[f], t, rfl, r1 hf, ht, ?_⟩
    simp only [detB_t (q.det_l.mp (Det.self (r := [f]) List.mem_cons_self)), List.getElem?_cons_zero, List.getElem?_cons_succ, List.set_cons_zero, List.set_cons_succ, List.length_cons, List.length_nil, if_true, if_false, Bool.true_eq_false, Bool.false_eq_true, if_pos, ite_true, ite_false, reduceIte, true_and, and_true, true_or, or_true, PV.scr.injEq, PV.int.injEq, PV.bl.injEq, PV.str.injEq, PV.lst.injEq, PV.tup.injEq, exists_eq_left, exists_eq_left', exists_eq_right, exists_eq_right', reduceCtorEq, or_false, false_or, forall_const, Nat.zero_le, Bool.not_true, Bool.not_false, decide_true, decide_false]
    refine ⟨[t], f, rfl, r1 ht, hf, ?_⟩
    simp only [detB_t (q.det_l.mpr (Det.self (r := [t]) List.mem_cons_self)), List.getElem?_cons_zero, List.getElem?_cons_succ, List.set_cons_zero, List.set_cons_succ, List.length_cons, List.length_nil, if_true, if_false, Bool.true_eq_false, Bool.false_eq_true, if_pos, ite_true, ite_false, reduceIte, true_and, and_true, true_or, or_true, PV.scr.injEq, PV.int.injEq, PV.bl.injEq, PV.str.injEq, PV.lst.injEq, PV.tup.injEq, exists_eq_left, exists_eq_left', exists_eq_right, exists_eq_right', reduceCtorEq, or_false, false_or, forall_const, Nat.zero_le, Bool.not_true, Bool.not_false, decide_true, decide_false]
    refine seq_i ?_
    simp only [dNext, dIfS, dRet, dRetN, dSet, dOwn, dVar, dC, dOp, dB, dChain, dAnd, dOr, dNot, dAndV, dOrV, dNotV, dIf, dNil, dCons, dTup, dLst, dDrop, dgName, dgNil, dgCons, dgTup, dAsg, dPar, dPar3, dParO, dParV, dAug, dCall, dBi, dIsi, dInS, dSl, doNone, doSome, dRevL, dRevS, dM1, dRg1, dListOf, dJoin, dNeg, dApp, dExt, dSetIx, endsOf, dFor, dIt, dZip, dEnum, dRange1, dRange2, itemsQ, dLc, wipeR, dTwn, dTwnSet, dTwnAug, dScrE, dScrL, dScrX, List.getElem?_cons_zero, List.getElem?_cons_succ, List.set_cons_zero, List.set_cons_succ, List.length_cons, List.length_nil, if_true, if_false, Bool.true_eq_false, Bool.false_eq_true, if_pos, ite_true, ite_false, reduceIte, true_and, and_true, true_or, or_true, PV.scr.injEq, PV.int.injEq, PV.bl.injEq, PV.str.injEq, PV.lst.injEq, PV.tup.injEq, exists_eq_left, exists_eq_left', exists_eq_right, exists_eq_right', reduceCtorEq, or_false, false_or, forall_const, Nat.zero_le, Bool.not_true, Bool.not_false, decide_true, decide_false, sz2]
    refine ⟨[f, o], w, 5, rfl, r2 hf oo, os, by decide, by decide, ?_⟩
    refine ⟨[o, t], w, 5, rfl, r2 oo ht, os, by decide, by decide, ?_⟩
    simp only [neQ_int, gsize_eq same, decide_true, Bool.not_true, List.getElem?_cons_zero, List.getElem?_cons_succ, List.set_cons_zero, List.set_cons_succ, List.length_cons, List.length_nil, if_true, if_false, Bool.true_eq_false, Bool.false_eq_true, if_pos, ite_true, ite_false, reduceIte, true_and, and_true, true_or, or_true, PV.scr.injEq, PV.int.injEq, PV.bl.injEq, PV.str.injEq, PV.lst.injEq, PV.tup.injEq, exists_eq_left, exists_eq_left', exists_eq_right, exists_eq_right', reduceCtorEq, or_false, false_or, forall_const, Nat.zero_le, Bool.not_true, Bool.not_false, decide_true, decide_false]
    simp only [dNext, dIfS, dRet, dRetN, dSet, dOwn, dVar, dC, dOp, dB, dChain, dAnd, dOr, dNot, dAndV, dOrV, dNotV, dIf, dNil, dCons, dTup, dLst, dDrop, dgName, dgNil, dgCons, dgTup, dAsg, dPar, dPar3, dParO, dParV, dAug, dCall, dBi, dIsi, dInS, dSl, doNone, doSome, dRevL, dRevS, dM1, dRg1, dListOf, dJoin, dNeg, dApp, dExt, dSetIx, endsOf, dFor, dIt, dZip, dEnum, dRange1, dRange2, itemsQ, dLc, wipeR, dTwn, dTwnSet, dTwnAug, dScrE, dScrL, dScrX, List.getElem?_cons_zero, List.getElem?_cons_succ, List.set_cons_zero, List.set_cons_succ, List.length_cons, List.length_nil, if_true, if_false, Bool.true_eq_false, Bool.false_eq_true, if_pos, ite_true, ite_false, reduceIte, true_and, and_true, true_or, or_true, PV.scr.injEq, PV.int.injEq, PV.bl.injEq, PV.str.injEq, PV.lst.injEq, PV.tup.injEq, exists_eq_left, exists_eq_left', exists_eq_right, exists_eq_right', reduceCtorEq, or_false, false_or, forall_const, Nat.zero_le, Bool.not_true, Bool.not_false, decide_true, decide_false, lm, maxQ_int, addQ_int, cmpQ_int]
    refine ite_i (fun h4 hB => ?_) (hn _)
    have h4 := of_decide_eq_true h4
    simp only [encM, addQ_tup, encM_app, List.length_map]
    refine ⟨by omega, by omega, f ++ o, t ++ o, rfl, hf.app oo (by omega), ht.app oo (by omega), ?_⟩
    have e : diffP (f ++ o) (t ++ o) = none := by
      have : sameB (f ++ o) (t ++ o) = true := sameB_iff.mpr fun L => by rw [tmpl_app, tmpl_app, same]
      rw [← diff_isNone] at this
      exact Option.isNone_iff_eq_none.mp this
    simp only [notNQ_S, e, Option.isSome_none, List.getElem?_cons_zero, List.getElem?_cons_succ, List.set_cons_zero, List.set_cons_succ, List.length_cons, List.length_nil, if_true, if_false, Bool.true_eq_false, Bool.false_eq_true, if_pos, ite_true, ite_false, reduceIte, true_and, and_true, true_or, or_true, PV.scr.injEq, PV.int.injEq, PV.bl.injEq, PV.str.injEq, PV.lst.injEq, PV.tup.injEq, exists_eq_left, exists_eq_left', exists_eq_right, exists_eq_right', reduceCtorEq, or_false, false_or, forall_const, Nat.zero_le, Bool.not_true, Bool.not_false, decide_true, decide_false]
    exact hB
theorem fin19 : sameB [] [.st .sq 1] = true ∧ (diffP [.st .hf 2] [.st .hf 2, .st .sq 1]).map List.length = some 2 := by decide +kernel
theorem h_law {K : PySem.W.Frag} : ∀ ns : List Int, ns.length ≤ 63 → d_law K (endsOf fun r => r = .bl true) ((startR 14 [.scr K ns]).set 1 (.val .town)) := by
  intro ns _
  have e0 : (sizeLine : Nat) = 16777216 := by decide
  show d_law K _ [.val (.scr K ns), .val .town, .un, .un, .un, .un, .un, .un, .un, .un, .un, .un, .un, .un]
  refine seq_i ?_
  simp only [dNext, dIfS, dRet, dRetN, dSet, dOwn, dVar, dC, dOp, dB, dChain, dAnd, dOr, dNot, dAndV, dOrV, dNotV, dIf, dNil, dCons, dTup, dLst, dDrop, dgName, dgNil, dgCons, dgTup, dAsg, dPar, dPar3, dParO, dParV, dAug, dCall, dBi, dIsi, dInS, dSl, doNone, doSome, dRevL, dRevS, dM1, dRg1, dListOf, dJoin, dNeg, dApp, dExt, dSetIx, endsOf, dFor, dIt, dZip, dEnum, dRange1, dRange2, itemsQ, dLc, wipeR, dTwn, dTwnSet, dTwnAug, dScrE, dScrL, dScrX, List.getElem?_cons_zero, List.getElem?_cons_succ, List.set_cons_zero, List.set_cons_succ, List.length_cons, List.length_nil, if_true, if_false, Bool.true_eq_false, Bool.false_eq_true, if_pos, ite_true, ite_false, reduceIte, true_and, and_true, true_or, or_true, PV.scr.injEq, PV.int.injEq, PV.bl.injEq, PV.str.injEq, PV.lst.injEq, PV.tup.injEq, exists_eq_left, exists_eq_left', exists_eq_right, exists_eq_right', reduceCtorEq, or_false, false_or, forall_const, Nat.zero_le, Bool.not_true, Bool.not_false, decide_true, decide_false]
  refine ⟨ns, 3, 3, rfl, by decide, by decide, fun a ha => ?_⟩
  have oa := ha.ok (by decide) (by decide : 3 ≤ 5)
  refine seq_i ?_
  simp only [dNext, dIfS, dRet, dRetN, dSet, dOwn, dVar, dC, dOp, dB, dChain, dAnd, dOr, dNot, dAndV, dOrV, dNotV, dIf, dNil, dCons, dTup, dLst, dDrop, dgName, dgNil, dgCons, dgTup, dAsg, dPar, dPar3, dParO, dParV, dAug, dCall, dBi, dIsi, dInS, dSl, doNone, doSome, dRevL, dRevS, dM1, dRg1, dListOf, dJoin, dNeg, dApp, dExt, dSetIx, endsOf, dFor, dIt, dZip, dEnum, dRange1, dRange2, itemsQ, dLc, wipeR, dTwn, dTwnSet, dTwnAug, dScrE, dScrL, dScrX, List.getElem?_cons_zero, List.getElem?_cons_succ, List.set_cons_zero, List.set_cons_succ, List.length_cons, List.length_nil, if_true, if_false, Bool.true_eq_false, Bool.false_eq_true, if_pos, ite_true, ite_false, reduceIte, true_and, and_true, true_or, or_true, PV.scr.injEq, PV.int.injEq, PV.bl.injEq, PV.str.injEq, PV.lst.injEq, PV.tup.injEq, exists_eq_left, exists_eq_left', exists_eq_right, exists_eq_right', reduceCtorEq, or_false, false_or, forall_const, Nat.zero_le, Bool.not_true, Bool.not_false, decide_true, decide_false]
  refine ⟨ns, a, rfl, oa, fun b ob => ?_⟩
  refine seq_i ?_
  simp only [dNext, dIfS, dRet, dRetN, dSet, dOwn, dVar, dC, dOp, dB, dChain, dAnd, dOr, dNot, dAndV, dOrV, dNotV, dIf, dNil, dCons, dTup, dLst, dDrop, dgName, dgNil, dgCons, dgTup, dAsg, dPar, dPar3, dParO, dParV, dAug, dCall, dBi, dIsi, dInS, dSl, doNone, doSome, dRevL, dRevS, dM1, dRg1, dListOf, dJoin, dNeg, dApp, dExt, dSetIx, endsOf, dFor, dIt, dZip, dEnum, dRange1, dRange2, itemsQ, dLc, wipeR, dTwn, dTwnSet, dTwnAug, dScrE, dScrL, dScrX, List.getElem?_cons_zero, List.getElem?_cons_succ, List.set_cons_zero, List.set_cons_succ, List.length_cons, List.length_nil, if_true, if_false, Bool.true_eq_false, Bool.false_eq_true, if_pos, ite_true, ite_false, reduceIte, true_and, and_true, true_or, or_true, PV.scr.injEq, PV.int.injEq, PV.bl.injEq, PV.str.injEq, PV.lst.injEq, PV.tup.injEq, exists_eq_left, exists_eq_left', exists_eq_right, exists_eq_right', reduceCtorEq, or_false, false_or, forall_const, Nat.zero_le, Bool.not_true, Bool.not_false, decide_true, decide_false]
  refine ⟨ns, b, rfl, ob, fun c oc => ?_⟩
  refine seq_i ?_
  simp only [dSet, dTup, dCons, dNil, dVar, List.getElem?_cons_zero, List.getElem?_cons_succ, List.set_cons_zero, List.set_cons_succ, List.length_cons, List.length_nil, if_true, if_false, Bool.true_eq_false, Bool.false_eq_true, if_pos, ite_true, ite_false, reduceIte, true_and, and_true, true_or, or_true, PV.scr.injEq, PV.int.injEq, PV.bl.injEq, PV.str.injEq, PV.lst.injEq, PV.tup.injEq, exists_eq_left, exists_eq_left', exists_eq_right, exists_eq_right', reduceCtorEq, or_false, false_or, forall_const, Nat.zero_le, Bool.not_true, Bool.not_false, decide_true, decide_false, sz2, sz3]
  refine seq_i ?_
  simp only [dSet, dBi, dCons, dNil, dLc, dIt, dVar, wipeR, List.getElem?_cons_zero, List.getElem?_cons_succ, List.set_cons_zero, List.set_cons_succ, List.length_cons, List.length_nil, if_true, if_false, Bool.true_eq_false, Bool.false_eq_true, if_pos, ite_true, ite_false, reduceIte, true_and, and_true, true_or, or_true, PV.scr.injEq, PV.int.injEq, PV.bl.injEq, PV.str.injEq, PV.lst.injEq, PV.tup.injEq, exists_eq_left, exists_eq_left', exists_eq_right, exists_eq_right', reduceCtorEq, or_false, false_or, forall_const, Nat.zero_le, Bool.not_true, Bool.not_false, decide_true, decide_false, itemsQ]
  refine ⟨two_un rfl rfl rfl rfl, Nat.le_of_ble_eq_true rfl, lcLoop_mapA (enc := fun x : Mask × Mask => .tup [encM x.1, encM x.2]) (xs := [(a, b), (b, c), (a, c)]) (f := fun x => .int (fd x.1 x.2)) (fun x hx P hP => ?_) ?_⟩
  · have hx1 : OkM x.1 ∧ OkM x.2 := by
      rcases List.mem_cons.mp hx with rfl | hx
      · exact ⟨oa, ob⟩
      rcases List.mem_cons.mp hx with rfl | hx
      · exact ⟨ob, oc⟩
      · rw [List.mem_singleton.mp hx]; exact ⟨oa, oc⟩
    simp only [dYes, dSeq, dNext, dIfS, dRet, dRetN, dSet, dOwn, dVar, dC, dOp, dB, dChain, dAnd, dOr, dNot, dAndV, dOrV, dNotV, dIf, dNil, dCons, dTup, dLst, dDrop, dgName, dgNil, dgCons, dgTup, dAsg, dPar, dPar3, dParO, dParV, dAug, dCall, dBi, dIsi, dInS, dSl, doNone, doSome, dRevL, dRevS, dM1, dRg1, dListOf, dJoin, dNeg, dApp, dExt, dSetIx, endsOf, dFor, dIt, dZip, dEnum, dRange1, dRange2, itemsQ, dLc, wipeR, dTwn, dTwnSet, dTwnAug, dScrE, dScrL, dScrX, List.getElem?_cons_zero, List.getElem?_cons_succ, List.set_cons_zero, List.set_cons_succ, List.length_cons, List.length_nil, if_true, if_false, Bool.true_eq_false, Bool.false_eq_true, if_pos, ite_true, ite_false, reduceIte, true_and, and_true, true_or, or_true, PV.scr.injEq, PV.int.injEq, PV.bl.injEq, PV.str.injEq, PV.lst.injEq, PV.tup.injEq, exists_eq_left, exists_eq_left', exists_eq_right, exists_eq_right', reduceCtorEq, or_false, false_or, forall_const, Nat.zero_le, Bool.not_true, Bool.not_false, decide_true, decide_false]
    exact ⟨x.1, x.2, rfl, hx1.1, hx1.2, diffP x.1 x.2, rfl, hP⟩
  have u1 := fd_ultra oa ob oc
  have u2 := fd_ultra ob oa oc
  have u3 := fd_ultra oa oc ob
  rw [fd_comm ob oa] at u2
  rw [fd_comm oc ob] at u3
  show ∀ ns' : List Int, ns'.Perm [((fd a b : Nat) : Int), ((fd b c : Nat) : Int), ((fd a c : Nat) : Int)] → ns'.Pairwise (· ≤ ·) → _
  intro ns' hp hs
  obtain ⟨x, y, rfl⟩ := two_small_eq (a := ((fd a b : Nat) : Int)) (b := ((fd b c : Nat) : Int)) (c := ((fd a c : Nat) : Int)) (by omega) (by omega) (by omega) hp hs
  refine seq_i ?_
  simp only [dIfS, dB, dOp, dVar, dC, List.getElem?_cons_zero, List.getElem?_cons_succ, List.set_cons_zero, List.set_cons_succ, List.length_cons, List.length_nil, if_true, if_false, Bool.true_eq_false, Bool.false_eq_true, if_pos, ite_true, ite_false, reduceIte, true_and, and_true, true_or, or_true, PV.scr.injEq, PV.int.injEq, PV.bl.injEq, PV.str.injEq, PV.lst.injEq, PV.tup.injEq, exists_eq_left, exists_eq_left', exists_eq_right, exists_eq_right', reduceCtorEq, or_false, false_or, forall_const, Nat.zero_le, Bool.not_true, Bool.not_false, decide_true, decide_false, List.map_cons, List.map_nil]
  show ixQ (.lst [.int x, .int x, .int y]) (.int ((0 : Nat) : Int)) _
  have ix : ∀ (k : Nat) (Q : PV → Prop), k < 2 → ixQ (.lst [.int x, .int x, .int y]) (.int ((k : Nat) : Int)) Q = Q (.int x) := fun k Q hk => by
    show (match L2.atI [PV.int x, .int x, .int y] ((k : Nat) : Int) with | some v => Q v | none => False) = _
    rw [atI_nat]
    match k, hk with
    | 0, _ => rfl
    | 1, _ => rfl
  rw [ix 0 _ (by decide)]
  show ixQ (.lst [.int x, .int x, .int y]) (.int ((1 : Nat) : Int)) _
  rw [ix 1 _ (by decide)]
  simp only [neQ_int, decide_true, Bool.not_true, List.getElem?_cons_zero, List.getElem?_cons_succ, List.set_cons_zero, List.set_cons_succ, List.length_cons, List.length_nil, if_true, if_false, Bool.true_eq_false, Bool.false_eq_true, if_pos, ite_true, ite_false, reduceIte, true_and, and_true, true_or, or_true, PV.scr.injEq, PV.int.injEq, PV.bl.injEq, PV.str.injEq, PV.lst.injEq, PV.tup.injEq, exists_eq_left, exists_eq_left', exists_eq_right, exists_eq_right', reduceCtorEq, or_false, false_or, forall_const, Nat.zero_le, Bool.not_true, Bool.not_false, decide_true, decide_false, dNext]
  refine seq_i ?_
  simp only [dNext, dIfS, dRet, dRetN, dSet, dOwn, dVar, dC, dOp, dB, dChain, dAnd, dOr, dNot, dAndV, dOrV, dNotV, dIf, dNil, dCons, dTup, dLst, dDrop, dgName, dgNil, dgCons, dgTup, dAsg, dPar, dPar3, dParO, dParV, dAug, dCall, dBi, dIsi, dInS, dSl, doNone, doSome, dRevL, dRevS, dM1, dRg1, dListOf, dJoin, dNeg, dApp, dExt, dSetIx, endsOf, dFor, dIt, dZip, dEnum, dRange1, dRange2, itemsQ, dLc, wipeR, dTwn, dTwnSet, dTwnAug, dScrE, dScrL, dScrX, List.getElem?_cons_zero, List.getElem?_cons_succ, List.set_cons_zero, List.set_cons_succ, List.length_cons, List.length_nil, if_true, if_false, Bool.true_eq_false, Bool.false_eq_true, if_pos, ite_true, ite_false, reduceIte, true_and, and_true, true_or, or_true, PV.scr.injEq, PV.int.injEq, PV.bl.injEq, PV.str.injEq, PV.lst.injEq, PV.tup.injEq, exists_eq_left, exists_eq_left', exists_eq_right, exists_eq_right', reduceCtorEq, or_false, false_or, forall_const, Nat.zero_le, Bool.not_true, Bool.not_false, decide_true, decide_false]
  refine ⟨ns, 1, 3, rfl, by decide, by decide, fun o ho => ?_⟩
  refine ⟨ns, [97, 98, 99], 8, rfl, by decide, by decide, by decide, by decide, fun w hw1 hw2 => ?_⟩
  simp only [List.getElem?_cons_zero, List.getElem?_cons_succ, List.set_cons_zero, List.set_cons_succ, List.length_cons, List.length_nil, if_true, if_false, Bool.true_eq_false, Bool.false_eq_true, if_pos, ite_true, ite_false, reduceIte, true_and, and_true, true_or, or_true, PV.scr.injEq, PV.int.injEq, PV.bl.injEq, PV.str.injEq, PV.lst.injEq, PV.tup.injEq, exists_eq_left, exists_eq_left', exists_eq_right, exists_eq_right', reduceCtorEq, or_false, false_or, forall_const, Nat.zero_le, Bool.not_true, Bool.not_false, decide_true, decide_false]
  refine seq_i ?_
  simp only [dFor, dIt, dVar, List.getElem?_cons_zero, List.getElem?_cons_succ, List.set_cons_zero, List.set_cons_succ, List.length_cons, List.length_nil, if_true, if_false, Bool.true_eq_false, Bool.false_eq_true, if_pos, ite_true, ite_false, reduceIte, true_and, and_true, true_or, or_true, PV.scr.injEq, PV.int.injEq, PV.bl.injEq, PV.str.injEq, PV.lst.injEq, PV.tup.injEq, exists_eq_left, exists_eq_left', exists_eq_right, exists_eq_right', reduceCtorEq, or_false, false_or, forall_const, Nat.zero_le, Bool.not_true, Bool.not_false, decide_true, decide_false, itemsQ]
  rw [dLoop_cons]
  simp only [dgTup, dgCons, dgName, dgNil, List.getElem?_cons_zero, List.getElem?_cons_succ, List.set_cons_zero, List.set_cons_succ, List.length_cons, List.length_nil, if_true, if_false, Bool.true_eq_false, Bool.false_eq_true, if_pos, ite_true, ite_false, reduceIte, true_and, and_true, true_or, or_true, PV.scr.injEq, PV.int.injEq, PV.bl.injEq, PV.str.injEq, PV.lst.injEq, PV.tup.injEq, exists_eq_left, exists_eq_left', exists_eq_right, exists_eq_right', reduceCtorEq, or_false, false_or, forall_const, Nat.zero_le, Bool.not_true, Bool.not_false, decide_true, decide_false]
  refine body19 oa ob ho ⟨hw1, hw2⟩ _ _ _ _ _ _ _ _ _ _ _ ?_ ?_
  all_goals intro s11; dsimp only; rw [dLoop_cons]; simp only [dgTup, dgCons, dgName, dgNil, List.getElem?_cons_zero, List.getElem?_cons_succ, List.set_cons_zero, List.set_cons_succ, List.length_cons, List.length_nil, if_true, if_false, Bool.true_eq_false, Bool.false_eq_true, if_pos, ite_true, ite_false, reduceIte, true_and, and_true, true_or, or_true, PV.scr.injEq, PV.int.injEq, PV.bl.injEq, PV.str.injEq, PV.lst.injEq, PV.tup.injEq, exists_eq_left, exists_eq_left', exists_eq_right, exists_eq_right', reduceCtorEq, or_false, false_or, forall_const, Nat.zero_le, Bool.not_true, Bool.not_false, decide_true, decide_false]; refine body19 ob oc ho ⟨hw1, hw2⟩ _ _ _ _ _ _ _ _ _ _ _ ?_ ?_
  all_goals intro s11; dsimp only; rw [dLoop_cons]; simp only [dgTup, dgCons, dgName, dgNil, List.getElem?_cons_zero, List.getElem?_cons_succ, List.set_cons_zero, List.set_cons_succ, List.length_cons, List.length_nil, if_true, if_false, Bool.true_eq_false, Bool.false_eq_true, if_pos, ite_true, ite_false, reduceIte, true_and, and_true, true_or, or_true, PV.scr.injEq, PV.int.injEq, PV.bl.injEq, PV.str.injEq, PV.lst.injEq, PV.tup.injEq, exists_eq_left, exists_eq_left', exists_eq_right, exists_eq_right', reduceCtorEq, or_false, false_or, forall_const, Nat.zero_le, Bool.not_true, Bool.not_false, decide_true, decide_false]; refine body19 oa oc ho ⟨hw1, hw2⟩ _ _ _ _ _ _ _ _ _ _ _ ?_ ?_
  all_goals
    intro s11; dsimp only; rw [dLoop_nil]; dsimp only
    refine seq_i ?_
    simp only [dNext, dIfS, dRet, dRetN, dSet, dOwn, dVar, dC, dOp, dB, dChain, dAnd, dOr, dNot, dAndV, dOrV, dNotV, dIf, dNil, dCons, dTup, dLst, dDrop, dgName, dgNil, dgCons, dgTup, dAsg, dPar, dPar3, dParO, dParV, dAug, dCall, dBi, dIsi, dInS, dSl, doNone, doSome, dRevL, dRevS, dM1, dRg1, dListOf, dJoin, dNeg, dApp, dExt, dSetIx, endsOf, dFor, dIt, dZip, dEnum, dRange1, dRange2, itemsQ, dLc, wipeR, dTwn, dTwnSet, dTwnAug, dScrE, dScrL, dScrX, List.getElem?_cons_zero, List.getElem?_cons_succ, List.set_cons_zero, List.set_cons_succ, List.length_cons, List.length_nil, if_true, if_false, Bool.true_eq_false, Bool.false_eq_true, if_pos, ite_true, ite_false, reduceIte, true_and, and_true, true_or, or_true, PV.scr.injEq, PV.int.injEq, PV.bl.injEq, PV.str.injEq, PV.lst.injEq, PV.tup.injEq, exists_eq_left, exists_eq_left', exists_eq_right, exists_eq_right', reduceCtorEq, or_false, false_or, forall_const, Nat.zero_le, Bool.not_true, Bool.not_false, decide_true, decide_false, sz0, sz1, sz2]
    refine ⟨[], [.st .sq 1], rfl, by decide, by decide, ?_⟩
    simp only [isNQ_S, diff_isNone, fin19.1, List.getElem?_cons_zero, List.getElem?_cons_succ, List.set_cons_zero, List.set_cons_succ, List.length_cons, List.length_nil, if_true, if_false, Bool.true_eq_false, Bool.false_eq_true, if_pos, ite_true, ite_false, reduceIte, true_and, and_true, true_or, or_true, PV.scr.injEq, PV.int.injEq, PV.bl.injEq, PV.str.injEq, PV.lst.injEq, PV.tup.injEq, exists_eq_left, exists_eq_left', exists_eq_right, exists_eq_right', reduceCtorEq, or_false, false_or, forall_const, Nat.zero_le, Bool.not_true, Bool.not_false, decide_true, decide_false]
    refine ⟨[.st .hf 2], [.st .hf 2, .st .sq 1], rfl, by decide, by decide, ?_⟩
    have f2 := fin19.2
    cases hd : diffP [.st .hf 2] [.st .hf 2, .st .sq 1] with
    | none => rw [hd] at f2; cases f2
    | some t =>
      rw [hd] at f2
      injection f2 with f2
      simp only [encS, lenQ_str, strT_len, f2]
      exact ⟨rfl, rfl, rfl⟩
end PL

set_option maxHeartbeats 4000000
namespace PL
open PySem PySem.Spec L2 PyProof.Rows
def topS (i : Nat) : Stmt := PySem.Challenge.pw_masking_k19_whole_triangle.main.body.getD i (.Pass ⟨0, 0, 0, 0⟩)
section
variable {P : Program} {w : World} {K : PySem.W.Frag} {mg : Str → Option Value} {base : Heap}
abbrev s__law_draw : Stmt := topS 41
theorem sc__law_draw : FnScope ["_law_script", "_law_town", "_law_many", "_law_one", "_law_at", "_law_mixed"] ["_law_script", "_law_town", "_law_many"] (defScope s__law_draw) := ⟨rfl, rfl, rfl, by decide +kernel, rfl, by decide +kernel, by decide +kernel⟩
theorem ok__law_draw {f : Addr} {fd : FuncData} (Fu : Fun K "_law_draw" "_law_draw" s__law_draw f fd) (z_len : mg "len" = none) : FnOk P w K mg base CX0 1 f fd ["_law_script", "_law_town", "_law_many"] (spL 3 (p__law_draw K)) := by
  have hN := sc__law_draw.nd
  exact fn_ok Fu sc__law_draw rfl m__law_draw (fun cdv A outer s H E hr => ((bx_cons (sx_if (tx_cmp op_gt snd_cmp (ex_twn (ex_var 1) ex_int) ex_int) (bx_cons (sx_set 3 hN (ex_op op_mod snd_int (ex_twn (ex_var 1) ex_int) (ex_var 2)))
      (bx_cons (sx_twnSet (ex_var 1) ex_int (ex_op op_fdiv snd_int (ex_twn (ex_var 1) ex_int) (ex_var 2))) (bx_one (sx_ret (ex_var 3))))) bx_nil) (bx_cons (sx_set 4 hN (ex_twn (ex_var 1) ex_int)) (bx_cons (sx_twnAug (ex_var 1) ex_int
      ex_int) (bx_cons (sx_if (tx_scrE (hu64 hr) (ex_var 0)) (bx_one (sx_ret (ex_op op_mod snd_int (ex_var 4) (ex_var 2)))) bx_nil) (bx_cons (sx_if (wx_and (tx_cmp op_lt snd_cmp (ex_var 4) (ex_scrL z_len (ex_var 0))) (wx_and1 (tx_cmp
      op_ge snd_cmp (ex_scrX (ex_var 0) (ex_var 4)) (ex_op op_pow snd_int ex_int ex_int)))).tx (bx_cons (sx_twnSet (ex_var 1) ex_int (ex_op op_mod snd_int (ex_op op_fdiv snd_int (ex_scrX (ex_var 0) (ex_var 4)) (ex_var 2)) (ex_op or_mul
      snd_mul (ex_op op_pow snd_int ex_int ex_int) (ex_op op_pow snd_int ex_int ex_int)))) (bx_one (sx_ret (ex_op op_mod snd_int (ex_scrX (ex_var 0) (ex_var 4)) (ex_var 2))))) bx_nil) (bx_cons (sx_set 5 hN (ex_op op_mod snd_int (ex_op
      or_add (snd_add _) (ex_op or_add (snd_add _) (ex_op or_mul snd_mul (ex_scrX (ex_var 0) (ex_op op_mod snd_int (ex_var 4) (ex_scrL z_len (ex_var 0)))) ex_int) (ex_op or_mul snd_mul ex_int (ex_var 4))) ex_int) ex_int)) (bx_one
      (sx_ret (ex_op op_mod snd_int (ex_op op_mod snd_int (ex_op op_mod snd_int (ex_op op_pow snd_int (ex_var 5) ex_int) ex_int) ex_int) (ex_var 2)))))))))) : BX _ _ (d__law_draw K))) h__law_draw
abbrev s__law_pick : Stmt := topS 42
theorem sc__law_pick : FnScope ["_law_script", "_law_town", "_law_some"] ["_law_script", "_law_town", "_law_some"] (defScope s__law_pick) := ⟨rfl, rfl, rfl, by decide +kernel, rfl, by decide +kernel, by decide +kernel⟩
theorem ok__law_pick {f : Addr} {fd : FuncData} (Fu : Fun K "_law_pick" "_law_pick" s__law_pick f fd) {f__law_draw : Addr} {fd__law_draw : FuncData} (o__law_draw : FnOk P w K mg base CX0 1 f__law_draw fd__law_draw ["_law_script",
      "_law_town", "_law_many"] (spL 3 (p__law_draw K))) (g__law_draw : mg "_law_draw" = some (.ref f__law_draw)) (k__law_draw : PySem.W.keepIn K (.ref f__law_draw) = true) (b__law_draw : Binds K fd__law_draw ["_law_script",
      "_law_town", "_law_many"] []) (z_len : mg "len" = none) : FnOk P w K mg base CX0 2 f fd ["_law_script", "_law_town", "_law_some"] (spL 3 (p__law_pick K)) := by
  have hN := sc__law_pick.nd
  exact fn_ok Fu sc__law_pick rfl m__law_pick (fun cdv A outer s H E hr => ((bx_one (sx_ret (ex_ix (ex_var 2) (ex_call o__law_draw m__law_draw (hr.mono (by decide)) g__law_draw k__law_draw b__law_draw (ax_cons (ex_var 0) (ax_cons
      (ex_var 1) (ax_cons (ex_bi call_lenA (snd_len _) z_len (by decide +kernel) (ax_cons (ex_var 2) ax_nil)) ax_nil))))))) : BX _ _ (d__law_pick K))) h__law_pick
abbrev s__law_mask : Stmt := topS 43
theorem sc__law_mask : FnScope ["_law_script", "_law_town", "_law_steps", "_law_most", "_law_names", "_law_made", "_law_k", "_law_name"] ["_law_script", "_law_town", "_law_steps", "_law_most"] (defScope s__law_mask) := ⟨rfl, rfl, rfl, by decide +kernel, rfl, by decide +kernel, by decide +kernel⟩
theorem ok__law_mask {f : Addr} {fd : FuncData} (Fu : Fun K "_law_mask" "_law_mask" s__law_mask f fd) {f__law_draw : Addr} {fd__law_draw : FuncData} (o__law_draw : FnOk P w K mg base CX0 1 f__law_draw fd__law_draw ["_law_script",
      "_law_town", "_law_many"] (spL 3 (p__law_draw K))) (g__law_draw : mg "_law_draw" = some (.ref f__law_draw)) (k__law_draw : PySem.W.keepIn K (.ref f__law_draw) = true) (b__law_draw : Binds K fd__law_draw ["_law_script",
      "_law_town", "_law_many"] []) {f__law_pick : Addr} {fd__law_pick : FuncData} (o__law_pick : FnOk P w K mg base CX0 2 f__law_pick fd__law_pick ["_law_script", "_law_town", "_law_some"] (spL 3 (p__law_pick K))) (g__law_pick : mg
      "_law_pick" = some (.ref f__law_pick)) (k__law_pick : PySem.W.keepIn K (.ref f__law_pick) = true) (b__law_pick : Binds K fd__law_pick ["_law_script", "_law_town", "_law_some"] []) (z_range : mg "range" = none) (z_tuple : mg
      "tuple" = none) : FnOk P w K mg base CX0 3 f fd ["_law_script", "_law_town", "_law_steps", "_law_most"] (spL 4 (p__law_mask K)) := by
  have hN := sc__law_mask.nd
  exact fn_ok Fu sc__law_mask rfl m__law_mask (fun cdv A outer s H E hr => ((bx_cons (sx_own 4 hN (nx_lst (ax_cons ex_str (ax_cons ex_str (ax_cons ex_str (ax_cons ex_str (ax_cons ex_str (ax_cons ex_str ax_nil)))))))) (bx_cons
      (sx_extend 4 (ex_lst (ax_cons ex_str (ax_cons ex_str (ax_cons ex_str ax_nil))))) (bx_cons (sx_own 5 hN (nx_lst ax_nil)) (bx_cons (sx_for PassesOwn.never rfl (ix_range1 z_range (ax_cons (ex_call o__law_draw m__law_draw (hr.mono
      (by decide)) g__law_draw k__law_draw b__law_draw (ax_cons (ex_var 0) (ax_cons (ex_var 1) (ax_cons (ex_op or_add (snd_add _) (ex_var 2) ex_int) ax_nil)))) ax_nil)) (gx_name 6 hN) (bx_cons (sx_set 7 hN (ex_call o__law_pick
      m__law_pick (hr.mono (by decide)) g__law_pick k__law_pick b__law_pick (ax_cons (ex_var 0) (ax_cons (ex_var 1) (ax_cons (ex_op or_add (snd_add _) (ex_var 4) (ex_lst (ax_cons ex_str ax_nil))) ax_nil))))) (bx_one (sx_append 5 (ex_if
      (tx_cmp (op_eqD (hu64 hr)) (snd_eq _) (ex_var 7) ex_str) (ex_tup (ax_cons (ex_var 7) ax_nil)) (ex_tup (ax_cons (ex_var 7) (ax_cons (ex_call o__law_draw m__law_draw (hr.mono (by decide)) g__law_draw k__law_draw b__law_draw
      (ax_cons (ex_var 0) (ax_cons (ex_var 1) (ax_cons (ex_op or_add (snd_add _) (ex_var 3) ex_int) ax_nil)))) ax_nil)))))))) (bx_one (sx_ret (ex_ty call_tuple_of (snd_tuple _) z_tuple (by decide +kernel) (ax_cons (ex_var 5)
      ax_nil)))))))) : BX _ _ (d__law_mask K))) h__law_mask
abbrev s__law_near : Stmt := topS 49
theorem sc__law_near : FnScope ["_law_script", "_law_town", "_law_mask_here", "_law_what"] ["_law_script", "_law_town", "_law_mask_here"] (defScope s__law_near) := ⟨rfl, rfl, rfl, by decide +kernel, rfl, by decide +kernel, by decide +kernel⟩
theorem ok__law_near {f : Addr} {fd : FuncData} (Fu : Fun K "_law_near" "_law_near" s__law_near f fd) {f__law_draw : Addr} {fd__law_draw : FuncData} (o__law_draw : FnOk P w K mg base CX0 1 f__law_draw fd__law_draw ["_law_script",
      "_law_town", "_law_many"] (spL 3 (p__law_draw K))) (g__law_draw : mg "_law_draw" = some (.ref f__law_draw)) (k__law_draw : PySem.W.keepIn K (.ref f__law_draw) = true) (b__law_draw : Binds K fd__law_draw ["_law_script",
      "_law_town", "_law_many"] []) {f__law_mask : Addr} {fd__law_mask : FuncData} (o__law_mask : FnOk P w K mg base CX0 3 f__law_mask fd__law_mask ["_law_script", "_law_town", "_law_steps", "_law_most"] (spL 4 (p__law_mask K)))
      (g__law_mask : mg "_law_mask" = some (.ref f__law_mask)) (k__law_mask : PySem.W.keepIn K (.ref f__law_mask) = true) (b__law_mask : Binds K fd__law_mask ["_law_script", "_law_town", "_law_steps", "_law_most"] []) (z_len : mg "len"
      = none) : FnOk P w K mg base CX0 4 f fd ["_law_script", "_law_town", "_law_mask_here"] (spL 3 (p__law_near K)) := by
  have hN := sc__law_near.nd
  exact fn_ok Fu sc__law_near rfl m__law_near (fun cdv A outer s H E hr => ((bx_cons (sx_set 3 hN (ex_call o__law_draw m__law_draw (hr.mono (by decide)) g__law_draw k__law_draw b__law_draw (ax_cons (ex_var 0) (ax_cons (ex_var 1)
      (ax_cons ex_int ax_nil))))) (bx_cons (sx_if (tx_cmp (op_eqD (hu64 hr)) (snd_eq _) (ex_var 3) ex_int) (bx_one (sx_ret (ex_slice (ex_var 2) ox_none (ox_some (ex_neg ex_int))))) bx_nil) (bx_cons (sx_if (wx_and (tx_cmp (op_eqD (hu64
      hr)) (snd_eq _) (ex_var 3) ex_int) (wx_and1 (tx_cmp op_lt snd_cmp (ex_bi call_lenA (snd_len _) z_len (by decide +kernel) (ax_cons (ex_var 2) ax_nil)) ex_int))).tx (bx_one (sx_ret (ex_op or_add (snd_add _) (ex_var 2) (ex_tup
      (ax_cons (ex_tup (ax_cons ex_str (ax_cons ex_int ax_nil))) ax_nil))))) bx_nil) (bx_cons (sx_if (wx_and (tx_cmp (op_eqD (hu64 hr)) (snd_eq _) (ex_var 3) ex_int) (wx_and1 (tx_cmp op_lt snd_cmp (ex_bi call_lenA (snd_len _) z_len (by
      decide +kernel) (ax_cons (ex_var 2) ax_nil)) ex_int))).tx (bx_one (sx_ret (ex_op or_add (snd_add _) (ex_tup (ax_cons (ex_tup (ax_cons ex_str ax_nil)) (ax_cons (ex_tup (ax_cons ex_str ax_nil)) ax_nil))) (ex_var 2)))) bx_nil)
      (bx_one (sx_ret (ex_call o__law_mask m__law_mask (hr.mono (by decide)) g__law_mask k__law_mask b__law_mask (ax_cons (ex_var 0) (ax_cons (ex_var 1) (ax_cons ex_int (ax_cons ex_int ax_nil))))))))))) : BX _ _ (d__law_near K)))
      h__law_near
abbrev s__law_string : Stmt := topS 44
theorem sc__law_string : FnScope ["_law_script", "_law_town", "_law_letters", "_law_most", "_law_k"] ["_law_script", "_law_town", "_law_letters", "_law_most"] (defScope s__law_string) := ⟨rfl, rfl, rfl, by decide +kernel, rfl, by decide +kernel, by decide +kernel⟩
theorem ok__law_string {f : Addr} {fd : FuncData} (Fu : Fun K "_law_string" "_law_string" s__law_string f fd) {f__law_draw : Addr} {fd__law_draw : FuncData} (o__law_draw : FnOk P w K mg base CX0 1 f__law_draw fd__law_draw
      ["_law_script", "_law_town", "_law_many"] (spL 3 (p__law_draw K))) (g__law_draw : mg "_law_draw" = some (.ref f__law_draw)) (k__law_draw : PySem.W.keepIn K (.ref f__law_draw) = true) (b__law_draw : Binds K fd__law_draw
      ["_law_script", "_law_town", "_law_many"] []) {f__law_pick : Addr} {fd__law_pick : FuncData} (o__law_pick : FnOk P w K mg base CX0 2 f__law_pick fd__law_pick ["_law_script", "_law_town", "_law_some"] (spL 3 (p__law_pick K)))
      (g__law_pick : mg "_law_pick" = some (.ref f__law_pick)) (k__law_pick : PySem.W.keepIn K (.ref f__law_pick) = true) (b__law_pick : Binds K fd__law_pick ["_law_script", "_law_town", "_law_some"] []) (z_range : mg "range" = none) :
      FnOk P w K mg base CX0 3 f fd ["_law_script", "_law_town", "_law_letters", "_law_most"] (spL 4 (p__law_string K)) := by
  have hN := sc__law_string.nd
  exact fn_ok Fu sc__law_string rfl m__law_string (fun cdv A outer s H E hr => ((bx_one (sx_ret (ex_join ex_str (nx_lc [((Str.ofString "_law_k"), 4)] rfl hN (ix_range1 z_range (ax_cons (ex_call o__law_draw m__law_draw (hr.mono (by
      decide)) g__law_draw k__law_draw b__law_draw (ax_cons (ex_var 0) (ax_cons (ex_var 1) (ax_cons (ex_op or_add (snd_add _) (ex_var 3) ex_int) ax_nil)))) ax_nil)) blkT (fun _ _ _ _ _ => (gkx_name 4 hN)) (fun _ _ _ _ _ => tsx_nil)
      (fun _ _ _ _ _ => (ex_call o__law_pick m__law_pick (hr.mono (by decide)) g__law_pick k__law_pick b__law_pick (ax_cons (ex_var 0) (ax_cons (ex_var 1) (ax_cons (ex_var 2) ax_nil)))))).ex))) : BX _ _ (d__law_string K)))
      h__law_string
abbrev s_is_count : Stmt := topS 12
theorem sc_is_count : FnScope ["value", "least", "most"] ["value", "least", "most"] (defScope s_is_count) := ⟨rfl, rfl, rfl, by decide +kernel, rfl, by decide +kernel, by decide +kernel⟩
theorem ok_is_count {f : Addr} {fd : FuncData} (Fu : Fun K "is_count" "is_count" s_is_count f fd) (z_bool : mg "bool" = none) (z_int : mg "int" = none) (z_isinstance : mg "isinstance" = none) : FnOk P w K mg base CX0 1 f fd
      ["value", "least", "most"] (spL 3 p_is_count) := by
  have hN := sc_is_count.nd
  exact fn_ok Fu sc_is_count rfl m_is_count (fun cdv A outer s H E hr => ((bx_one (sx_ret (ex_and (ex_isi (T := "int") z_isinstance z_int (ex_var 0)) (ex_and (ex_not (ex_isi (T := "bool") z_isinstance z_bool (ex_var 0))) (ex_one
      (ex_chain op_le snd_cmp op_le snd_cmp (ex_var 1) (ex_var 0) (ex_var 2))))))) : BX _ _ d_is_count)) h_is_count
abbrev s_is_step : Stmt := topS 13
theorem sc_is_step : FnScope ["value"] ["value"] (defScope s_is_step) := ⟨rfl, rfl, rfl, by decide +kernel, rfl, by decide +kernel, by decide +kernel⟩
theorem ok_is_step {f : Addr} {fd : FuncData} (Fu : Fun K "is_step" "is_step" s_is_step f fd) {f_is_count : Addr} {fd_is_count : FuncData} (o_is_count : FnOk P w K mg base CX0 1 f_is_count fd_is_count ["value", "least", "most"]
      (spL 3 p_is_count)) (g_is_count : mg "is_count" = some (.ref f_is_count)) (k_is_count : PySem.W.keepIn K (.ref f_is_count) = true) (b_is_count : Binds K fd_is_count ["value", "least", "most"] []) (z_isinstance : mg "isinstance" =
      none) (z_len : mg "len" = none) (z_str : mg "str" = none) (z_tuple : mg "tuple" = none) {a_NAMES : Addr} (c_NAMES : mg "NAMES" = some (.ref a_NAMES)) (k_NAMES : KStrs K a_NAMES [(Str.ofString "keep_first"), (Str.ofString
      "keep_last"), (Str.ofString "hide_first"), (Str.ofString "hide_last"), (Str.ofString "cut_first"), (Str.ofString "cut_last"), (Str.ofString "squeeze"), (Str.ofString "short")]) {t_NUMBER : Tok} (c_NUMBER : mg "NUMBER" = some
      (.int 5 t_NUMBER)) : FnOk P w K mg base CX0 2 f fd ["value"] (spL 1 p_is_step) := by
  have hN := sc_is_step.nd
  exact fn_ok Fu sc_is_step rfl m_is_step (fun cdv A outer s H E hr => ((bx_cons (sx_if (wx_or (tx_not (tx_val (ex_isi (T := "tuple") z_isinstance z_tuple (ex_var 0)))) (wx_or (tx_cmp (op_eqD (hu64 hr)) (snd_eq _) (ex_var 0) (ex_tup
      ax_nil)) (wx_or1 (tx_not (tx_val (ex_isi (T := "str") z_isinstance z_str (ex_ix (ex_var 0) ex_int))))))).tx (bx_one (sx_ret ex_bl)) bx_nil) (bx_cons (sx_if (tx_cmp (op_eqD (hu64 hr)) (snd_eq _) (ex_ix (ex_var 0) ex_int) ex_str)
      (bx_one (sx_ret (ex_cmp (op_eqD (hu64 hr)) (snd_eq _) (ex_bi call_lenA (snd_len _) z_len (by decide +kernel) (ax_cons (ex_var 0) ax_nil)) ex_int))) bx_nil) (bx_one (sx_ret (ex_and (ex_cmp (op_eqD (hu64 hr)) (snd_eq _) (ex_bi
      call_lenA (snd_len _) z_len (by decide +kernel) (ax_cons (ex_var 0) ax_nil)) ex_int) (ex_and (ex_inS _ c_NAMES k_NAMES (ex_ix (ex_var 0) ex_int)) (ex_one (ex_call o_is_count m_is_count (hr.mono (by decide)) g_is_count k_is_count
      b_is_count (ax_cons (ex_ix (ex_var 0) ex_int) (ax_cons ex_int (ax_cons (ex_globI 5 c_NUMBER) ax_nil))))))))))) : BX _ _ d_is_step)) h_is_step
abbrev s_is_mask : Stmt := topS 14
theorem sc_is_mask : FnScope ["value", "step"] ["value"] (defScope s_is_mask) := ⟨rfl, rfl, rfl, by decide +kernel, rfl, by decide +kernel, by decide +kernel⟩
theorem ok_is_mask {f : Addr} {fd : FuncData} (Fu : Fun K "is_mask" "is_mask" s_is_mask f fd) {f_is_step : Addr} {fd_is_step : FuncData} (o_is_step : FnOk P w K mg base CX0 2 f_is_step fd_is_step ["value"] (spL 1 p_is_step))
      (g_is_step : mg "is_step" = some (.ref f_is_step)) (k_is_step : PySem.W.keepIn K (.ref f_is_step) = true) (b_is_step : Binds K fd_is_step ["value"] []) (z_all : mg "all" = none) (z_isinstance : mg "isinstance" = none) (z_len : mg
      "len" = none) (z_tuple : mg "tuple" = none) {t_STEPS : Tok} (c_STEPS : mg "STEPS" = some (.int 4 t_STEPS)) : FnOk P w K mg base CX0 3 f fd ["value"] (spL 1 p_is_mask) := by
  have hN := sc_is_mask.nd
  exact fn_ok Fu sc_is_mask rfl m_is_mask (fun cdv A outer s H E hr => ((bx_one (sx_ret (ex_and (ex_isi (T := "tuple") z_isinstance z_tuple (ex_var 0)) (ex_and (ex_cmp op_le snd_cmp (ex_bi call_lenA (snd_len _) z_len (by
      decide +kernel) (ax_cons (ex_var 0) ax_nil)) (ex_globI 4 c_STEPS)) (ex_one (ex_bi (cr_all rfl) (snd_all _) z_all (by decide +kernel) (ax_cons (nx_lc [((Str.ofString "step"), 1)] rfl hN (ix_any (ex_var 0)) blkT (fun _ _ _ _ _ =>
      (gkx_name 1 hN)) (fun _ _ _ _ _ => tsx_nil) (fun _ _ _ _ _ => (ex_call o_is_step m_is_step (hr.mono (by decide)) g_is_step k_is_step b_is_step (ax_cons (ex_var 1) ax_nil)))).ex ax_nil))))))) : BX _ _ d_is_mask)) h_is_mask
abbrev s_need_mask : Stmt := topS 16
theorem sc_need_mask : FnScope ["value"] ["value"] (defScope s_need_mask) := ⟨rfl, rfl, rfl, by decide +kernel, rfl, by decide +kernel, by decide +kernel⟩
theorem ok_need_mask {f : Addr} {fd : FuncData} (Fu : Fun K "need_mask" "need_mask" s_need_mask f fd) {f_is_mask : Addr} {fd_is_mask : FuncData} (o_is_mask : FnOk P w K mg base CX0 3 f_is_mask fd_is_mask ["value"] (spL 1
      p_is_mask)) (g_is_mask : mg "is_mask" = some (.ref f_is_mask)) (k_is_mask : PySem.W.keepIn K (.ref f_is_mask) = true) (b_is_mask : Binds K fd_is_mask ["value"] []) : FnOk P w K mg base CX0 4 f fd ["value"] (spL 1 p_need_mask) :=
      by
  have hN := sc_need_mask.nd
  exact fn_ok Fu sc_need_mask rfl m_need_mask (fun cdv A outer s H E hr => ((bx_one (sx_if (tx_not (tx_val (ex_call o_is_mask m_is_mask (hr.mono (by decide)) g_is_mask k_is_mask b_is_mask (ax_cons (ex_var 0) ax_nil)))) (bx_one
      sx_never) bx_nil)) : BX _ _ d_need_mask)) h_need_mask
abbrev s_bound : Stmt := topS 22
theorem sc_bound : FnScope ["masks", "step", "mask"] ["masks"] (defScope s_bound) := ⟨rfl, rfl, rfl, by decide +kernel, rfl, by decide +kernel, by decide +kernel⟩
theorem ok_bound {f : Addr} {fd : FuncData} (Fu : Fun K "bound" "bound" s_bound f fd) (z_sum : mg "sum" = none) : FnOk P w K mg base CX0 1 f fd ["masks"] (spL 1 p_bound) := by
  have hN := sc_bound.nd
  exact fn_ok Fu sc_bound rfl m_bound (fun cdv A outer s H E hr => ((bx_one (sx_ret (ex_op or_add (snd_add _) ex_int (ex_bi (call_sumA rfl) (snd_sum _) z_sum (by decide +kernel) (ax_cons (nx_lc [((Str.ofString "mask"), 2)] rfl hN
      (ix_any (ex_var 0)) blkT (fun _ _ _ _ _ => (gkx_name 2 hN)) (fun _ _ _ _ _ => tsx_nil) (fun _ _ _ _ _ => (ex_bi (call_sumA rfl) (snd_sum _) z_sum (by decide +kernel) (ax_cons (nx_lc [((Str.ofString "step"), 1)] rfl hN (ix_any
      (ex_var 2)) blkT (fun _ _ _ _ _ => (gkx_name 1 hN)) (fun _ _ _ _ _ => tsx_nil) (fun _ _ _ _ _ => (ex_bi (call_sumA rfl) (snd_sum _) z_sum (by decide +kernel) (ax_cons (ex_slice (ex_var 1) (ox_some ex_int) ox_none) ax_nil)))).ex
      ax_nil)))).ex ax_nil))))) : BX _ _ d_bound)) h_bound
abbrev s_hidden : Stmt := topS 19
theorem sc_hidden : FnScope ["row", "start", "stop", "at", "one"] ["row", "start", "stop"] (defScope s_hidden) := ⟨rfl, rfl, rfl, by decide +kernel, rfl, by decide +kernel, by decide +kernel⟩
theorem ok_hidden {f : Addr} {fd : FuncData} (Fu : Fun K "hidden" "hidden" s_hidden f fd) (z_enumerate : mg "enumerate" = none) : FnOk P w K mg base CX0 1 f fd ["row", "start", "stop"] (spL 3 p_hidden) := by
  have hN := sc_hidden.nd
  exact fn_ok Fu sc_hidden rfl m_hidden (fun cdv A outer s H E hr => ((bx_one (sx_ret (nx_lc [((Str.ofString "at"), 3), ((Str.ofString "one"), 4)] rfl hN (ix_enum z_enumerate (ax_cons (ex_var 0) ax_nil)) blkT (fun _ _ _ _ _ =>
      (gkx_tup rfl (gskx_cons (gkx_name 3 hN) (gskx_cons (gkx_name 4 hN) gskx_nil)))) (fun _ _ _ _ _ => tsx_nil) (fun _ _ _ _ _ => (ex_if (tx_chain op_le snd_cmp op_lt snd_cmp (ex_var 1) (ex_var 3) (ex_var 2)) ex_non (ex_var 4)))).ex))
      : BX _ _ d_hidden)) h_hidden
abbrev s_squeezed : Stmt := topS 18
theorem sc_squeezed : FnScope ["row", "count", "result", "at", "one"] ["row", "count"] (defScope s_squeezed) := ⟨rfl, rfl, rfl, by decide +kernel, rfl, by decide +kernel, by decide +kernel⟩
theorem ok_squeezed {f : Addr} {fd : FuncData} (Fu : Fun K "squeezed" "squeezed" s_squeezed f fd) (z_enumerate : mg "enumerate" = none) : FnOk P w K mg base CX0 1 f fd ["row", "count"] (spL 2 p_squeezed) := by
  have hN := sc_squeezed.nd
  exact fn_ok Fu sc_squeezed rfl m_squeezed (fun cdv A outer s H E hr => ((bx_cons (sx_own 2 hN (nx_lst ax_nil)) (bx_cons (sx_for PassesOwn.never rfl (ix_enum z_enumerate (ax_cons (ex_var 0) ax_nil)) (gx_tup rfl (gsx_cons (gx_name 3
      hN) (gsx_cons (gx_name 4 hN) gsx_nil))) (bx_one (sx_if (tx_cmp op_notN snd_notN (ex_var 4) ex_non) (bx_one (sx_append 2 (ex_var 4))) (bx_one (sx_if (wx_or (tx_cmp (op_eqD (hu64 hr)) (snd_eq _) (ex_var 3) ex_int) (wx_or1 (tx_cmp
      op_notN snd_notN (ex_ix (ex_var 0) (ex_op op_sub snd_int0 (ex_var 3) ex_int)) ex_non))).tx (bx_one (sx_extend 2 (nx_rep (ex_lst (ax_cons ex_non ax_nil)) (ex_var 1)).ex)) bx_nil))))) (bx_one (sx_ret (ex_var 2))))) : BX _ _
      d_squeezed)) h_squeezed
abbrev s_stepped : Stmt := topS 20
theorem sc_stepped : FnScope ["step", "row", "name", "many", "count"] ["step", "row"] (defScope s_stepped) := ⟨rfl, rfl, rfl, by decide +kernel, rfl, by decide +kernel, by decide +kernel⟩
theorem ok_stepped {f : Addr} {fd : FuncData} (Fu : Fun K "stepped" "stepped" s_stepped f fd) {f_hidden : Addr} {fd_hidden : FuncData} (o_hidden : FnOk P w K mg base CX0 1 f_hidden fd_hidden ["row", "start", "stop"] (spL 3
      p_hidden)) (g_hidden : mg "hidden" = some (.ref f_hidden)) (k_hidden : PySem.W.keepIn K (.ref f_hidden) = true) (b_hidden : Binds K fd_hidden ["row", "start", "stop"] []) {f_squeezed : Addr} {fd_squeezed : FuncData} (o_squeezed :
      FnOk P w K mg base CX0 1 f_squeezed fd_squeezed ["row", "count"] (spL 2 p_squeezed)) (g_squeezed : mg "squeezed" = some (.ref f_squeezed)) (k_squeezed : PySem.W.keepIn K (.ref f_squeezed) = true) (b_squeezed : Binds K fd_squeezed
      ["row", "count"] []) (z_len : mg "len" = none) (z_max : mg "max" = none) : FnOk P w K mg base CX0 2 f fd ["step", "row"] (spL 2 p_stepped) := by
  have hN := sc_stepped.nd
  exact fn_ok Fu sc_stepped rfl m_stepped (fun cdv A outer s H E hr => ((bx_cons (sx_par 2 3 rfl hN (ax_cons (ex_ix (ex_var 0) ex_int) (ax_cons (ex_bi call_lenA (snd_len _) z_len (by decide +kernel) (ax_cons (ex_var 1) ax_nil))
      ax_nil))) (bx_cons (sx_if (tx_cmp (op_eqD (hu64 hr)) (snd_eq _) (ex_var 2) ex_str) (bx_one (sx_ret (ex_revL (ex_var 1)))) bx_nil) (bx_cons (sx_set 4 hN (ex_ix (ex_var 0) ex_int)) (bx_cons (sx_if (tx_cmp (op_eqD (hu64 hr)) (snd_eq
      _) (ex_var 2) ex_str) (bx_one (sx_ret (ex_call o_hidden m_hidden (hr.mono (by decide)) g_hidden k_hidden b_hidden (ax_cons (ex_var 1) (ax_cons (ex_var 4) (ax_cons (ex_var 3) ax_nil)))))) bx_nil) (bx_cons (sx_if (tx_cmp (op_eqD
      (hu64 hr)) (snd_eq _) (ex_var 2) ex_str) (bx_one (sx_ret (ex_call o_hidden m_hidden (hr.mono (by decide)) g_hidden k_hidden b_hidden (ax_cons (ex_var 1) (ax_cons ex_int (ax_cons (ex_op op_sub snd_int0 (ex_var 3) (ex_var 4))
      ax_nil)))))) bx_nil) (bx_cons (sx_if (tx_cmp (op_eqD (hu64 hr)) (snd_eq _) (ex_var 2) ex_str) (bx_one (sx_ret (ex_call o_hidden m_hidden (hr.mono (by decide)) g_hidden k_hidden b_hidden (ax_cons (ex_var 1) (ax_cons ex_int
      (ax_cons (ex_var 4) ax_nil)))))) bx_nil) (bx_cons (sx_if (tx_cmp (op_eqD (hu64 hr)) (snd_eq _) (ex_var 2) ex_str) (bx_one (sx_ret (ex_call o_hidden m_hidden (hr.mono (by decide)) g_hidden k_hidden b_hidden (ax_cons (ex_var 1)
      (ax_cons (ex_op op_sub snd_int0 (ex_var 3) (ex_var 4)) (ax_cons (ex_var 3) ax_nil)))))) bx_nil) (bx_cons (sx_if (tx_cmp (op_eqD (hu64 hr)) (snd_eq _) (ex_var 2) ex_str) (bx_one (sx_ret (ex_slice (ex_var 1) (ox_some (ex_var 4))
      ox_none))) bx_nil) (bx_cons (sx_if (tx_cmp (op_eqD (hu64 hr)) (snd_eq _) (ex_var 2) ex_str) (bx_one (sx_ret (ex_slice (ex_var 1) ox_none (ox_some (ex_bi (call_max2 rfl) snd_max2 z_max (by decide +kernel) (ax_cons (ex_op op_sub
      snd_int0 (ex_var 3) (ex_var 4)) (ax_cons ex_int ax_nil))))))) bx_nil) (bx_cons (sx_if (tx_cmp (op_eqD (hu64 hr)) (snd_eq _) (ex_var 2) ex_str) (bx_one (sx_ret (ex_call o_squeezed m_squeezed (hr.mono (by decide)) g_squeezed
      k_squeezed b_squeezed (ax_cons (ex_var 1) (ax_cons (ex_var 4) ax_nil))))) bx_nil) (bx_one (sx_ret (ex_if (tx_cmp op_lt snd_cmp (ex_var 3) (ex_var 4)) (nx_rep (ex_lst (ax_cons ex_non ax_nil)) (ex_var 3)).ex (ex_var 1))))))))))))))
      : BX _ _ d_stepped)) h_stepped
abbrev s_template_of : Stmt := topS 21
theorem sc_template_of : FnScope ["mask", "length", "row", "step"] ["mask", "length"] (defScope s_template_of) := ⟨rfl, rfl, rfl, by decide +kernel, rfl, by decide +kernel, by decide +kernel⟩
theorem ok_template_of {f : Addr} {fd : FuncData} (Fu : Fun K "template_of" "template_of" s_template_of f fd) {f_stepped : Addr} {fd_stepped : FuncData} (o_stepped : FnOk P w K mg base CX0 2 f_stepped fd_stepped ["step", "row"]
      (spL 2 p_stepped)) (g_stepped : mg "stepped" = some (.ref f_stepped)) (k_stepped : PySem.W.keepIn K (.ref f_stepped) = true) (b_stepped : Binds K fd_stepped ["step", "row"] []) (z_list : mg "list" = none) (z_range : mg "range" =
      none) (z_tuple : mg "tuple" = none) : FnOk P w K mg base CX0 3 f fd ["mask", "length"] (spL 2 p_template_of) := by
  have hN := sc_template_of.nd
  exact fn_ok Fu sc_template_of rfl m_template_of (fun cdv A outer s H E hr => ((bx_cons (sx_set 2 hN (nx_listRg rfl z_list z_range (ex_var 1)).ex) (bx_cons (sx_for PassesOwn.never rfl (ix_any (ex_var 0)) (gx_name 3 hN) (bx_one
      (sx_set 2 hN (ex_call o_stepped m_stepped (hr.mono (by decide)) g_stepped k_stepped b_stepped (ax_cons (ex_var 3) (ax_cons (ex_var 2) ax_nil)))))) (bx_one (sx_ret (ex_ty call_tuple_of (snd_tuple _) z_tuple (by decide +kernel)
      (ax_cons (ex_var 2) ax_nil)))))) : BX _ _ d_template_of)) h_template_of
abbrev s_first_difference : Stmt := topS 24
theorem sc_first_difference : FnScope ["mask", "other", "length", "one", "two"] ["mask", "other"] (defScope s_first_difference) := ⟨rfl, rfl, rfl, by decide +kernel, rfl, by decide +kernel, by decide +kernel⟩
theorem ok_first_difference {f : Addr} {fd : FuncData} (Fu : Fun K "first_difference" "first_difference" s_first_difference f fd) {f_bound : Addr} {fd_bound : FuncData} (o_bound : FnOk P w K mg base CX0 1 f_bound fd_bound ["masks"]
      (spL 1 p_bound)) (g_bound : mg "bound" = some (.ref f_bound)) (k_bound : PySem.W.keepIn K (.ref f_bound) = true) (b_bound : Binds K fd_bound ["masks"] []) {f_template_of : Addr} {fd_template_of : FuncData} (o_template_of : FnOk P
      w K mg base CX0 3 f_template_of fd_template_of ["mask", "length"] (spL 2 p_template_of)) (g_template_of : mg "template_of" = some (.ref f_template_of)) (k_template_of : PySem.W.keepIn K (.ref f_template_of) = true) (b_template_of
      : Binds K fd_template_of ["mask", "length"] []) (z_range : mg "range" = none) : FnOk P w K mg base CX0 4 f fd ["mask", "other"] (spL 2 p_first_difference) := by
  have hN := sc_first_difference.nd
  exact fn_ok Fu sc_first_difference rfl m_first_difference (fun cdv A outer s H E hr => ((bx_cons (sx_for PassesOwn.never rfl (ix_range1 z_range (ax_cons (ex_op or_add (snd_add _) (ex_call o_bound m_bound (hr.mono (by decide))
      g_bound k_bound b_bound (ax_cons (ex_lst (ax_cons (ex_var 0) (ax_cons (ex_var 1) ax_nil))) ax_nil)) ex_int) ax_nil)) (gx_name 2 hN) (bx_cons (sx_par 3 4 rfl hN (ax_cons (ex_call o_template_of m_template_of (hr.mono (by decide))
      g_template_of k_template_of b_template_of (ax_cons (ex_var 0) (ax_cons (ex_var 2) ax_nil))) (ax_cons (ex_call o_template_of m_template_of (hr.mono (by decide)) g_template_of k_template_of b_template_of (ax_cons (ex_var 1)
      (ax_cons (ex_var 2) ax_nil))) ax_nil))) (bx_one (sx_if (tx_cmp (op_neD (hu64 hr)) (snd_ne _) (ex_var 3) (ex_var 4)) (bx_one (sx_ret (ex_tup (ax_cons (ex_var 2) (ax_cons (ex_var 3) (ax_cons (ex_var 4) ax_nil)))))) bx_nil))))
      (bx_one (sx_ret ex_non))) : BX _ _ d_first_difference)) h_first_difference
abbrev s_showing : Stmt := topS 25
theorem sc_showing : FnScope ["length", "one", "two", "string", "first", "second"] ["length", "one", "two"] (defScope s_showing) := ⟨rfl, rfl, rfl, by decide +kernel, rfl, by decide +kernel, by decide +kernel⟩
theorem ok_showing {f : Addr} {fd : FuncData} (Fu : Fun K "showing" "showing" s_showing f fd) (z_len : mg "len" = none) (z_zip : mg "zip" = none) : FnOk P w K mg base CX0 1 f fd ["length", "one", "two"] (spL 3 p_showing) := by
  have hN := sc_showing.nd
  exact fn_ok Fu sc_showing rfl m_showing (fun cdv A outer s H E hr => ((bx_cons (sx_own 3 hN (nx_rep (ex_lst (ax_cons ex_str ax_nil)) (ex_var 0))) (bx_cons (sx_if (tx_cmp (op_eqD (hu64 hr)) (snd_eq _) (ex_bi call_lenA (snd_len _)
      z_len (by decide +kernel) (ax_cons (ex_var 1) ax_nil)) (ex_bi call_lenA (snd_len _) z_len (by decide +kernel) (ax_cons (ex_var 2) ax_nil))) (bx_one (sx_for PassesOwn.never rfl (ix_zip z_zip (ax_cons (ex_var 1) (ax_cons (ex_var 2)
      ax_nil))) (gx_tup rfl (gsx_cons (gx_name 4 hN) (gsx_cons (gx_name 5 hN) gsx_nil))) (bx_one (sx_if (wx_and (tx_cmp op_notN snd_notN (ex_var 4) ex_non) (wx_and (tx_cmp op_notN snd_notN (ex_var 5) ex_non) (wx_and1 (tx_cmp (op_neD
      (hu64 hr)) (snd_ne _) (ex_var 4) (ex_var 5))))).tx (bx_cons (sx_setix 3 (ex_var 4) ex_str) (bx_one (sx_ret (ex_join ex_str (ex_var 3))))) bx_nil)))) bx_nil) (bx_one (sx_ret (ex_join ex_str (ex_var 3)))))) : BX _ _ d_showing))
      h_showing
abbrev s_difference : Stmt := topS 26
theorem sc_difference : FnScope ["mask", "other", "found"] ["mask", "other"] (defScope s_difference) := ⟨rfl, rfl, rfl, by decide +kernel, rfl, by decide +kernel, by decide +kernel⟩
theorem ok_difference {f : Addr} {fd : FuncData} (Fu : Fun K "difference" "difference" s_difference f fd) {f_need_mask : Addr} {fd_need_mask : FuncData} (o_need_mask : FnOk P w K mg base CX0 4 f_need_mask fd_need_mask ["value"]
      (spL 1 p_need_mask)) (g_need_mask : mg "need_mask" = some (.ref f_need_mask)) (k_need_mask : PySem.W.keepIn K (.ref f_need_mask) = true) (b_need_mask : Binds K fd_need_mask ["value"] []) {f_first_difference : Addr}
      {fd_first_difference : FuncData} (o_first_difference : FnOk P w K mg base CX0 4 f_first_difference fd_first_difference ["mask", "other"] (spL 2 p_first_difference)) (g_first_difference : mg "first_difference" = some (.ref
      f_first_difference)) (k_first_difference : PySem.W.keepIn K (.ref f_first_difference) = true) (b_first_difference : Binds K fd_first_difference ["mask", "other"] []) {f_showing : Addr} {fd_showing : FuncData} (o_showing : FnOk P
      w K mg base CX0 1 f_showing fd_showing ["length", "one", "two"] (spL 3 p_showing)) (g_showing : mg "showing" = some (.ref f_showing)) (k_showing : PySem.W.keepIn K (.ref f_showing) = true) (b_showing : Binds K fd_showing
      ["length", "one", "two"] []) : FnOk P w K mg base CX0 5 f fd ["mask", "other"] (spL 2 p_difference) := by
  have hN := sc_difference.nd
  exact fn_ok Fu sc_difference rfl m_difference (fun cdv A outer s H E hr => ((bx_cons (sx_expr (ex_call o_need_mask m_need_mask (hr.mono (by decide)) g_need_mask k_need_mask b_need_mask (ax_cons (ex_var 0) ax_nil))) (bx_cons
      (sx_expr (ex_call o_need_mask m_need_mask (hr.mono (by decide)) g_need_mask k_need_mask b_need_mask (ax_cons (ex_var 1) ax_nil))) (bx_cons (sx_set 2 hN (ex_call o_first_difference m_first_difference (hr.mono (by decide))
      g_first_difference k_first_difference b_first_difference (ax_cons (ex_var 0) (ax_cons (ex_var 1) ax_nil)))) (bx_one (sx_ret (ex_if (tx_cmp op_isN snd_isN (ex_var 2) ex_non) ex_non (ex_call o_showing m_showing (hr.mono (by
      decide)) g_showing k_showing b_showing (ax_cons (ex_ix (ex_var 2) ex_int) (ax_cons (ex_ix (ex_var 2) ex_int) (ax_cons (ex_ix (ex_var 2) ex_int) ax_nil)))))))))) : BX _ _ d_difference)) h_difference
abbrev s__law_long : Stmt := topS 48
theorem sc__law_long : FnScope ["_law_text"] ["_law_text"] (defScope s__law_long) := ⟨rfl, rfl, rfl, by decide +kernel, rfl, by decide +kernel, by decide +kernel⟩
theorem ok__law_long {f : Addr} {fd : FuncData} (Fu : Fun K "_law_long" "_law_long" s__law_long f fd) (z_len : mg "len" = none) : FnOk P w K mg base CX0 1 f fd ["_law_text"] (spL 1 p__law_long) := by
  have hN := sc__law_long.nd
  exact fn_ok Fu sc__law_long rfl m__law_long (fun cdv A outer s H E hr => ((bx_one (sx_ret (ex_if (tx_cmp op_isN snd_isN (ex_var 0) ex_non) ex_int (ex_bi call_lenA (snd_len _) z_len (by decide +kernel) (ax_cons (ex_var 0)
      ax_nil))))) : BX _ _ d__law_long)) h__law_long
abbrev s_is_release : Stmt := topS 29
theorem sc_is_release : FnScope ["value", "mask"] ["value"] (defScope s_is_release) := ⟨rfl, rfl, rfl, by decide +kernel, rfl, by decide +kernel, by decide +kernel⟩
theorem ok_is_release {f : Addr} {fd : FuncData} (Fu : Fun K "is_release" "is_release" s_is_release f fd) {f_is_mask : Addr} {fd_is_mask : FuncData} (o_is_mask : FnOk P w K mg base CX0 3 f_is_mask fd_is_mask ["value"] (spL 1
      p_is_mask)) (g_is_mask : mg "is_mask" = some (.ref f_is_mask)) (k_is_mask : PySem.W.keepIn K (.ref f_is_mask) = true) (b_is_mask : Binds K fd_is_mask ["value"] []) (z_all : mg "all" = none) (z_isinstance : mg "isinstance" = none)
      (z_len : mg "len" = none) (z_tuple : mg "tuple" = none) {t_MASKS : Tok} (c_MASKS : mg "MASKS" = some (.int 3 t_MASKS)) : FnOk P w K mg base CX0 4 f fd ["value"] (spL 1 p_is_release) := by
  have hN := sc_is_release.nd
  exact fn_ok Fu sc_is_release rfl m_is_release (fun cdv A outer s H E hr => ((bx_one (sx_ret (ex_and (ex_isi (T := "tuple") z_isinstance z_tuple (ex_var 0)) (ex_and (ex_cmp op_le snd_cmp (ex_bi call_lenA (snd_len _) z_len (by
      decide +kernel) (ax_cons (ex_var 0) ax_nil)) (ex_globI 3 c_MASKS)) (ex_one (ex_bi (cr_all rfl) (snd_all _) z_all (by decide +kernel) (ax_cons (nx_lc [((Str.ofString "mask"), 1)] rfl hN (ix_any (ex_var 0)) blkT (fun _ _ _ _ _ =>
      (gkx_name 1 hN)) (fun _ _ _ _ _ => tsx_nil) (fun _ _ _ _ _ => (ex_call o_is_mask m_is_mask (hr.mono (by decide)) g_is_mask k_is_mask b_is_mask (ax_cons (ex_var 1) ax_nil)))).ex ax_nil))))))) : BX _ _ d_is_release)) h_is_release
abbrev s_need_release : Stmt := topS 30
theorem sc_need_release : FnScope ["value"] ["value"] (defScope s_need_release) := ⟨rfl, rfl, rfl, by decide +kernel, rfl, by decide +kernel, by decide +kernel⟩
theorem ok_need_release {f : Addr} {fd : FuncData} (Fu : Fun K "need_release" "need_release" s_need_release f fd) {f_is_release : Addr} {fd_is_release : FuncData} (o_is_release : FnOk P w K mg base CX0 4 f_is_release fd_is_release
      ["value"] (spL 1 p_is_release)) (g_is_release : mg "is_release" = some (.ref f_is_release)) (k_is_release : PySem.W.keepIn K (.ref f_is_release) = true) (b_is_release : Binds K fd_is_release ["value"] []) : FnOk P w K mg base CX0
      5 f fd ["value"] (spL 1 p_need_release) := by
  have hN := sc_need_release.nd
  exact fn_ok Fu sc_need_release rfl m_need_release (fun cdv A outer s H E hr => ((bx_one (sx_if (tx_not (tx_val (ex_call o_is_release m_is_release (hr.mono (by decide)) g_is_release k_is_release b_is_release (ax_cons (ex_var 0)
      ax_nil)))) (bx_one sx_never) bx_nil)) : BX _ _ d_need_release)) h_need_release
abbrev s_is_string : Stmt := topS 15
theorem sc_is_string : FnScope ["value", "char"] ["value"] (defScope s_is_string) := ⟨rfl, rfl, rfl, by decide +kernel, rfl, by decide +kernel, by decide +kernel⟩
theorem ok_is_string {f : Addr} {fd : FuncData} (Fu : Fun K "is_string" "is_string" s_is_string f fd) (z_all : mg "all" = none) (z_isinstance : mg "isinstance" = none) (z_len : mg "len" = none) (z_str : mg "str" = none) {t_LETTERS
      : Tok} (c_LETTERS : mg "LETTERS" = some (.str (Str.ofString "abcdefghijklmnopqrstuvwxyz") t_LETTERS)) {t_LONGEST : Tok} (c_LONGEST : mg "LONGEST" = some (.int 40 t_LONGEST)) : FnOk P w K mg base CX0 1 f fd ["value"] (spL 1
      p_is_string) := by
  have hN := sc_is_string.nd
  exact fn_ok Fu sc_is_string rfl m_is_string (fun cdv A outer s H E hr => ((bx_one (sx_ret (ex_and (ex_isi (T := "str") z_isinstance z_str (ex_var 0)) (ex_and (ex_cmp op_le snd_cmp (ex_bi call_lenA (snd_len _) z_len (by
      decide +kernel) (ax_cons (ex_var 0) ax_nil)) (ex_globI 40 c_LONGEST)) (ex_one (ex_bi (cr_all rfl) (snd_all _) z_all (by decide +kernel) (ax_cons (nx_lc [((Str.ofString "char"), 1)] rfl hN (ix_any (ex_var 0)) blkT (fun _ _ _ _ _
      => (gkx_name 1 hN)) (fun _ _ _ _ _ => tsx_nil) (fun _ _ _ _ _ => (ex_cmp op_in_sign snd_inS (ex_var 1) (ex_globS (Str.ofString "abcdefghijklmnopqrstuvwxyz") c_LETTERS)))).ex ax_nil))))))) : BX _ _ d_is_string)) h_is_string
abbrev s_need_string : Stmt := topS 17
theorem sc_need_string : FnScope ["value"] ["value"] (defScope s_need_string) := ⟨rfl, rfl, rfl, by decide +kernel, rfl, by decide +kernel, by decide +kernel⟩
theorem ok_need_string {f : Addr} {fd : FuncData} (Fu : Fun K "need_string" "need_string" s_need_string f fd) {f_is_string : Addr} {fd_is_string : FuncData} (o_is_string : FnOk P w K mg base CX0 1 f_is_string fd_is_string ["value"]
      (spL 1 p_is_string)) (g_is_string : mg "is_string" = some (.ref f_is_string)) (k_is_string : PySem.W.keepIn K (.ref f_is_string) = true) (b_is_string : Binds K fd_is_string ["value"] []) : FnOk P w K mg base CX0 2 f fd ["value"]
      (spL 1 p_need_string) := by
  have hN := sc_need_string.nd
  exact fn_ok Fu sc_need_string rfl m_need_string (fun cdv A outer s H E hr => ((bx_one (sx_if (tx_not (tx_val (ex_call o_is_string m_is_string (hr.mono (by decide)) g_is_string k_is_string b_is_string (ax_cons (ex_var 0) ax_nil))))
      (bx_one sx_never) bx_nil)) : BX _ _ d_need_string)) h_need_string
abbrev s_group_size : Stmt := topS 39
theorem sc_group_size : FnScope ["release", "string", "letters", "shown", "mask", "at", "result", "step"] ["release", "string", "letters"] (defScope s_group_size) := ⟨rfl, rfl, rfl, by decide +kernel, rfl, by decide +kernel, by decide +kernel⟩
theorem ok_group_size {f : Addr} {fd : FuncData} (Fu : Fun K "group_size" "group_size" s_group_size f fd) {f_is_count : Addr} {fd_is_count : FuncData} (o_is_count : FnOk P w K mg base CX0 1 f_is_count fd_is_count ["value", "least",
      "most"] (spL 3 p_is_count)) (g_is_count : mg "is_count" = some (.ref f_is_count)) (k_is_count : PySem.W.keepIn K (.ref f_is_count) = true) (b_is_count : Binds K fd_is_count ["value", "least", "most"] []) {f_template_of : Addr}
      {fd_template_of : FuncData} (o_template_of : FnOk P w K mg base CX0 3 f_template_of fd_template_of ["mask", "length"] (spL 2 p_template_of)) (g_template_of : mg "template_of" = some (.ref f_template_of)) (k_template_of :
      PySem.W.keepIn K (.ref f_template_of) = true) (b_template_of : Binds K fd_template_of ["mask", "length"] []) {f_need_release : Addr} {fd_need_release : FuncData} (o_need_release : FnOk P w K mg base CX0 5 f_need_release
      fd_need_release ["value"] (spL 1 p_need_release)) (g_need_release : mg "need_release" = some (.ref f_need_release)) (k_need_release : PySem.W.keepIn K (.ref f_need_release) = true) (b_need_release : Binds K fd_need_release
      ["value"] []) {f_need_string : Addr} {fd_need_string : FuncData} (o_need_string : FnOk P w K mg base CX0 2 f_need_string fd_need_string ["value"] (spL 1 p_need_string)) (g_need_string : mg "need_string" = some (.ref
      f_need_string)) (k_need_string : PySem.W.keepIn K (.ref f_need_string) = true) (b_need_string : Binds K fd_need_string ["value"] []) (z_len : mg "len" = none) (z_range : mg "range" = none) : FnOk P w K mg base CX0 6 f fd
      ["release", "string", "letters"] (spL 3 p_group_size) := by
  have hN := sc_group_size.nd
  exact fn_ok Fu sc_group_size rfl m_group_size (fun cdv A outer s H E hr => ((bx_cons (sx_expr (ex_call o_need_release m_need_release (hr.mono (by decide)) g_need_release k_need_release b_need_release (ax_cons (ex_var 0) ax_nil)))
      (bx_cons (sx_expr (ex_call o_need_string m_need_string (hr.mono (by decide)) g_need_string k_need_string b_need_string (ax_cons (ex_var 1) ax_nil))) (bx_cons (sx_if (tx_not (tx_val (ex_call o_is_count m_is_count (hr.mono (by
      decide)) g_is_count k_is_count b_is_count (ax_cons (ex_var 2) (ax_cons ex_int (ax_cons ex_int ax_nil)))))) (bx_one sx_never) bx_nil) (bx_cons (sx_own 3 hN nx_newK) (bx_cons (sx_for PassesOwn.never rfl (ix_any (ex_var 0)) (gx_name
      4 hN) (bx_one (sx_for PassesOwn.never rfl (ix_any (ex_call o_template_of m_template_of (hr.mono (by decide)) g_template_of k_template_of b_template_of (ax_cons (ex_var 4) (ax_cons (ex_bi call_lenA (snd_len _) z_len (by
      decide +kernel) (ax_cons (ex_var 1) ax_nil)) ax_nil)))) (gx_name 5 hN) (bx_one (sx_if (tx_cmp op_notN snd_notN (ex_var 5) ex_non) (bx_one (sx_put 3 (hu_of hr) (ex_var 5) ex_bl)) bx_nil))))) (bx_cons (sx_set 6 hN ex_int) (bx_cons
      (sx_for PassesOwn.never rfl (ix_range1 z_range (ax_cons (ex_op op_sub snd_int0 (ex_bi call_lenA (snd_len _) z_len (by decide +kernel) (ax_cons (ex_var 1) ax_nil)) (ex_bi call_lenA (snd_len _) z_len (by decide +kernel) (ax_cons
      (ex_var 3) ax_nil))) ax_nil)) (gx_name 7 hN) (bx_one (sx_aug 6 hN iop_mul snd_int (ex_var 2)))) (bx_one (sx_ret (ex_var 6)))))))))) : BX _ _ d_group_size)) h_group_size
abbrev s__law_step : Stmt := topS 45
theorem sc__law_step : FnScope ["_law_step_here", "_law_text", "_law_many", "_law_count", "_law_result", "_law_last", "_law_char"] ["_law_step_here", "_law_text"] (defScope s__law_step) := ⟨rfl, rfl, rfl, by decide +kernel, rfl, by decide +kernel, by decide +kernel⟩
theorem ok__law_step {f : Addr} {fd : FuncData} (Fu : Fun K "_law_step" "_law_step" s__law_step f fd) (z_len : mg "len" = none) (z_max : mg "max" = none) (z_min : mg "min" = none) : FnOk P w K mg base CX0 1 f fd ["_law_step_here",
      "_law_text"] (spL 2 p__law_step) := by
  have hN := sc__law_step.nd
  exact fn_ok Fu sc__law_step rfl m__law_step (fun cdv A outer s H E hr => ((bx_cons (sx_par 2 3 rfl hN (ax_cons (ex_bi call_lenA (snd_len _) z_len (by decide +kernel) (ax_cons (ex_var 1) ax_nil)) (ax_cons (ex_if (tx_cmp op_gt
      snd_cmp (ex_bi call_lenA (snd_len _) z_len (by decide +kernel) (ax_cons (ex_var 0) ax_nil)) ex_int) (ex_ix (ex_var 0) ex_int) ex_int) ax_nil))) (bx_cons (sx_if (tx_cmp (op_eqD (hu64 hr)) (snd_eq _) (ex_ix (ex_var 0) ex_int)
      ex_str) (bx_one (sx_ret (ex_revS (ex_var 1)))) bx_nil) (bx_cons (sx_if (tx_cmp (op_eqD (hu64 hr)) (snd_eq _) (ex_ix (ex_var 0) ex_int) ex_str) (bx_one (sx_ret (ex_op or_add (snd_add _) (ex_slice (ex_var 1) ox_none (ox_some
      (ex_var 3))) (ex_op or_mul snd_mul ex_str (ex_bi (call_max2 rfl) snd_max2 z_max (by decide +kernel) (ax_cons (ex_op op_sub snd_int0 (ex_var 2) (ex_var 3)) (ax_cons ex_int ax_nil))))))) bx_nil) (bx_cons (sx_if (tx_cmp (op_eqD
      (hu64 hr)) (snd_eq _) (ex_ix (ex_var 0) ex_int) ex_str) (bx_one (sx_ret (ex_op or_add (snd_add _) (ex_op or_mul snd_mul ex_str (ex_bi (call_max2 rfl) snd_max2 z_max (by decide +kernel) (ax_cons (ex_op op_sub snd_int0 (ex_var 2)
      (ex_var 3)) (ax_cons ex_int ax_nil)))) (ex_slice (ex_var 1) (ox_some (ex_bi (call_max2 rfl) snd_max2 z_max (by decide +kernel) (ax_cons (ex_op op_sub snd_int0 (ex_var 2) (ex_var 3)) (ax_cons ex_int ax_nil)))) ox_none)))) bx_nil)
      (bx_cons (sx_if (tx_cmp (op_eqD (hu64 hr)) (snd_eq _) (ex_ix (ex_var 0) ex_int) ex_str) (bx_one (sx_ret (ex_op or_add (snd_add _) (ex_op or_mul snd_mul ex_str (ex_bi (call_min2 rfl) snd_min2 z_min (by decide +kernel) (ax_cons
      (ex_var 2) (ax_cons (ex_var 3) ax_nil)))) (ex_slice (ex_var 1) (ox_some (ex_var 3)) ox_none)))) bx_nil) (bx_cons (sx_if (tx_cmp (op_eqD (hu64 hr)) (snd_eq _) (ex_ix (ex_var 0) ex_int) ex_str) (bx_one (sx_ret (ex_op or_add
      (snd_add _) (ex_slice (ex_var 1) ox_none (ox_some (ex_bi (call_max2 rfl) snd_max2 z_max (by decide +kernel) (ax_cons (ex_op op_sub snd_int0 (ex_var 2) (ex_var 3)) (ax_cons ex_int ax_nil))))) (ex_op or_mul snd_mul ex_str (ex_bi
      (call_min2 rfl) snd_min2 z_min (by decide +kernel) (ax_cons (ex_var 2) (ax_cons (ex_var 3) ax_nil))))))) bx_nil) (bx_cons (sx_if (tx_cmp (op_eqD (hu64 hr)) (snd_eq _) (ex_ix (ex_var 0) ex_int) ex_str) (bx_one (sx_ret (ex_slice
      (ex_var 1) (ox_some (ex_var 3)) ox_none))) bx_nil) (bx_cons (sx_if (tx_cmp (op_eqD (hu64 hr)) (snd_eq _) (ex_ix (ex_var 0) ex_int) ex_str) (bx_one (sx_ret (ex_slice (ex_var 1) ox_none (ox_some (ex_bi (call_max2 rfl) snd_max2
      z_max (by decide +kernel) (ax_cons (ex_op op_sub snd_int0 (ex_var 2) (ex_var 3)) (ax_cons ex_int ax_nil))))))) bx_nil) (bx_cons (sx_if (tx_cmp (op_eqD (hu64 hr)) (snd_eq _) (ex_ix (ex_var 0) ex_int) ex_str) (bx_one (sx_ret (ex_if
      (tx_cmp op_lt snd_cmp (ex_var 2) (ex_var 3)) (ex_op or_mul snd_mul ex_str (ex_var 2)) (ex_var 1)))) bx_nil) (bx_cons (sx_asg (ex_tup (ax_cons ex_str (ax_cons ex_str ax_nil))) (gx_tup rfl (gsx_cons (gx_name 4 hN) (gsx_cons
      (gx_name 5 hN) gsx_nil)))) (bx_cons (sx_for PassesOwn.never rfl (ix_any (ex_var 1)) (gx_name 6 hN) (bx_cons (sx_if (tx_cmp (op_neD (hu64 hr)) (snd_ne _) (ex_var 6) ex_str) (bx_one (sx_set 4 hN (ex_op or_add (snd_add _) (ex_var 4)
      (ex_var 6)))) (bx_one (sx_if (tx_cmp (op_neD (hu64 hr)) (snd_ne _) (ex_var 5) ex_str) (bx_one (sx_set 4 hN (ex_op or_add (snd_add _) (ex_var 4) (ex_op or_mul snd_mul ex_str (ex_var 3))))) bx_nil))) (bx_one (sx_set 5 hN (ex_var
      6))))) (bx_one (sx_ret (ex_var 4)))))))))))))) : BX _ _ d__law_step)) h__law_step
abbrev s__law_run : Stmt := topS 46
theorem sc__law_run : FnScope ["_law_mask_here", "_law_text", "_law_step_here"] ["_law_mask_here", "_law_text"] (defScope s__law_run) := ⟨rfl, rfl, rfl, by decide +kernel, rfl, by decide +kernel, by decide +kernel⟩
theorem ok__law_run {f : Addr} {fd : FuncData} (Fu : Fun K "_law_run" "_law_run" s__law_run f fd) {f__law_step : Addr} {fd__law_step : FuncData} (o__law_step : FnOk P w K mg base CX0 1 f__law_step fd__law_step ["_law_step_here",
      "_law_text"] (spL 2 p__law_step)) (g__law_step : mg "_law_step" = some (.ref f__law_step)) (k__law_step : PySem.W.keepIn K (.ref f__law_step) = true) (b__law_step : Binds K fd__law_step ["_law_step_here", "_law_text"] []) : FnOk
      P w K mg base CX0 2 f fd ["_law_mask_here", "_law_text"] (spL 2 p__law_run) := by
  have hN := sc__law_run.nd
  exact fn_ok Fu sc__law_run rfl m__law_run (fun cdv A outer s H E hr => ((bx_cons (sx_for PassesOwn.never rfl (ix_any (ex_var 0)) (gx_name 2 hN) (bx_one (sx_set 1 hN (ex_call o__law_step m__law_step (hr.mono (by decide)) g__law_step
      k__law_step b__law_step (ax_cons (ex_var 2) (ax_cons (ex_var 1) ax_nil)))))) (bx_one (sx_ret (ex_var 1)))) : BX _ _ d__law_run)) h__law_run
abbrev s_are_similar : Stmt := topS 32
theorem sc_are_similar : FnScope ["one", "two", "first", "second"] ["one", "two"] (defScope s_are_similar) := ⟨rfl, rfl, rfl, by decide +kernel, rfl, by decide +kernel, by decide +kernel⟩
theorem ok_are_similar {f : Addr} {fd : FuncData} (Fu : Fun K "are_similar" "are_similar" s_are_similar f fd) (z_all : mg "all" = none) (z_len : mg "len" = none) (z_zip : mg "zip" = none) : FnOk P w K mg base CX0 1 f fd ["one",
      "two"] (spL 2 p_are_similar) := by
  have hN := sc_are_similar.nd
  exact fn_ok Fu sc_are_similar rfl m_are_similar (fun cdv A outer s H E hr => ((bx_one (sx_ret (ex_and (ex_cmp (op_eqD (hu64 hr)) (snd_eq _) (ex_bi call_lenA (snd_len _) z_len (by decide +kernel) (ax_cons (ex_var 0) ax_nil)) (ex_bi
      call_lenA (snd_len _) z_len (by decide +kernel) (ax_cons (ex_var 1) ax_nil))) (ex_one (ex_bi (cr_all rfl) (snd_all _) z_all (by decide +kernel) (ax_cons (nx_lc [((Str.ofString "first"), 2), ((Str.ofString "second"), 3)] rfl hN
      (ix_zip z_zip (ax_cons (ex_var 0) (ax_cons (ex_var 1) ax_nil))) blkT (fun _ _ _ _ _ => (gkx_tup rfl (gskx_cons (gkx_name 2 hN) (gskx_cons (gkx_name 3 hN) gskx_nil)))) (fun _ _ _ _ _ => tsx_nil) (fun _ _ _ _ _ => (ex_cmp (op_eqD
      (hu64 hr)) (snd_eq _) (ex_cmp op_isN snd_isN (ex_var 2) ex_non) (ex_cmp op_isN snd_isN (ex_var 3) ex_non)))).ex ax_nil)))))) : BX _ _ d_are_similar)) h_are_similar
abbrev s_head : Stmt := topS 31
theorem sc_head : FnScope ["parents", "node"] ["parents", "node"] (defScope s_head) := ⟨rfl, rfl, rfl, by decide +kernel, rfl, by decide +kernel, by decide +kernel⟩
theorem ok_head {f : Addr} {fd : FuncData} (Fu : Fun K "head" "head" s_head f fd)  : FnOk P w K mg base CX0 1 f fd ["parents", "node"] (spL 2 p_head) := by
  have hN := sc_head.nd
  exact fn_ok Fu sc_head rfl m_head (fun cdv A outer s H E hr => ((bx_cons (sx_while PassesOwn.never (tx_din (hu_of hr) (ex_var 1) (ex_var 0)) (bx_one (sx_set 1 hN (ex_dget (hu_of hr) (ex_var 0) (ex_var 1))))) (bx_one (sx_ret (ex_var
      1)))) : BX _ _ d_head)) h_head
abbrev s_equated : Stmt := topS 33
theorem sc_equated : FnScope ["rows", "others", "one", "two", "parents", "first", "second", "here", "there"] ["rows", "others"] (defScope s_equated) := ⟨rfl, rfl, rfl, by decide +kernel, rfl, by decide +kernel, by decide +kernel⟩
theorem ok_equated {f : Addr} {fd : FuncData} (Fu : Fun K "equated" "equated" s_equated f fd) {f_are_similar : Addr} {fd_are_similar : FuncData} (o_are_similar : FnOk P w K mg base CX0 1 f_are_similar fd_are_similar ["one", "two"]
      (spL 2 p_are_similar)) (g_are_similar : mg "are_similar" = some (.ref f_are_similar)) (k_are_similar : PySem.W.keepIn K (.ref f_are_similar) = true) (b_are_similar : Binds K fd_are_similar ["one", "two"] []) {f_head : Addr}
      {fd_head : FuncData} (o_head : FnOk P w K mg base CX0 1 f_head fd_head ["parents", "node"] (spL 2 p_head)) (g_head : mg "head" = some (.ref f_head)) (k_head : PySem.W.keepIn K (.ref f_head) = true) (b_head : Binds K fd_head
      ["parents", "node"] []) (z_all : mg "all" = none) (z_zip : mg "zip" = none) : FnOk P w K mg base CX0 2 f fd ["rows", "others"] (spL 2 p_equated) := by
  have hN := sc_equated.nd
  exact fn_ok Fu sc_equated rfl m_equated (fun cdv A outer s H E hr => ((bx_cons (sx_if (tx_not (tx_val (ex_bi (cr_all rfl) (snd_all _) z_all (by decide +kernel) (ax_cons (nx_lc [((Str.ofString "one"), 2), ((Str.ofString "two"), 3)]
      rfl hN (ix_zip z_zip (ax_cons (ex_var 0) (ax_cons (ex_var 1) ax_nil))) blkT (fun _ _ _ _ _ => (gkx_tup rfl (gskx_cons (gkx_name 2 hN) (gskx_cons (gkx_name 3 hN) gskx_nil)))) (fun _ _ _ _ _ => tsx_nil) (fun _ _ _ _ _ => (ex_call
      o_are_similar m_are_similar (hr.mono (by decide)) g_are_similar k_are_similar b_are_similar (ax_cons (ex_var 2) (ax_cons (ex_var 3) ax_nil))))).ex ax_nil)))) (bx_one (sx_ret ex_non)) bx_nil) (bx_cons (sx_own 4 hN nx_newT)
      (bx_cons (sx_for PassesOwn.never rfl (ix_zip z_zip (ax_cons (ex_var 0) (ax_cons (ex_var 1) ax_nil))) (gx_tup rfl (gsx_cons (gx_name 2 hN) (gsx_cons (gx_name 3 hN) gsx_nil))) (bx_one (sx_for PassesOwn.never rfl (ix_zip z_zip
      (ax_cons (ex_var 2) (ax_cons (ex_var 3) ax_nil))) (gx_tup rfl (gsx_cons (gx_name 5 hN) (gsx_cons (gx_name 6 hN) gsx_nil))) (bx_one (sx_if (tx_cmp op_notN snd_notN (ex_var 5) ex_non) (bx_cons (sx_par 7 8 rfl hN (ax_cons (ex_lend 4
      (ex_call o_head m_head (hr.mono (by decide)) g_head k_head b_head (ax_cons (ex_var 4) (ax_cons (ex_tup (ax_cons ex_int (ax_cons (ex_var 5) ax_nil))) ax_nil)))) (ax_cons (ex_lend 4 (ex_call o_head m_head (hr.mono (by decide))
      g_head k_head b_head (ax_cons (ex_var 4) (ax_cons (ex_tup (ax_cons ex_int (ax_cons (ex_var 6) ax_nil))) ax_nil)))) ax_nil))) (bx_one (sx_if (tx_cmp (op_neD (hu64 hr)) (snd_ne _) (ex_var 7) (ex_var 8)) (bx_one (sx_put 4 (hu_of hr)
      (ex_var 7) (ex_var 8))) bx_nil))) bx_nil))))) (bx_one (sx_ret (ex_var 4)))))) : BX _ _ d_equated)) h_equated
abbrev s_strings_of : Stmt := topS 34
theorem sc_strings_of : FnScope ["parents", "length", "other", "chosen", "pair", "side", "many", "at"] ["parents", "length", "other", "chosen"] (defScope s_strings_of) := ⟨rfl, rfl, rfl, by decide +kernel, rfl, by decide +kernel, by decide +kernel⟩
theorem ok_strings_of {f : Addr} {fd : FuncData} (Fu : Fun K "strings_of" "strings_of" s_strings_of f fd) {f_head : Addr} {fd_head : FuncData} (o_head : FnOk P w K mg base CX0 1 f_head fd_head ["parents", "node"] (spL 2 p_head))
      (g_head : mg "head" = some (.ref f_head)) (k_head : PySem.W.keepIn K (.ref f_head) = true) (b_head : Binds K fd_head ["parents", "node"] []) (z_range : mg "range" = none) (z_tuple : mg "tuple" = none) : FnOk P w K mg base CX0 2 f
      fd ["parents", "length", "other", "chosen"] (spL 4 p_strings_of) := by
  have hN := sc_strings_of.nd
  exact fn_ok Fu sc_strings_of rfl m_strings_of (fun cdv A outer s H E hr => ((bx_cons (sx_own 4 hN (nx_lst ax_nil)) (bx_cons (sx_for PassesOwn.never rfl (ix_any (ex_tup (ax_cons (ex_tup (ax_cons ex_int (ax_cons (ex_var 1) ax_nil)))
      (ax_cons (ex_tup (ax_cons ex_int (ax_cons (ex_var 2) ax_nil))) ax_nil)))) (gx_tup rfl (gsx_cons (gx_name 5 hN) (gsx_cons (gx_name 6 hN) gsx_nil))) (bx_one (sx_append 4 (ex_join ex_str (nx_lc [((Str.ofString "at"), 7)] rfl hN
      (ix_range1 z_range (ax_cons (ex_var 6) ax_nil)) blkT (fun _ _ _ _ _ => (gkx_name 7 hN)) (fun _ _ _ _ _ => tsx_nil) (fun _ _ _ _ _ => (ex_if (tx_cmp (op_eqD (hu64 hr)) (snd_eq _) (ex_call o_head m_head (hr.mono (by decide)) g_head
      k_head b_head (ax_cons (ex_var 0) (ax_cons (ex_tup (ax_cons (ex_var 5) (ax_cons (ex_var 7) ax_nil))) ax_nil))) (ex_var 3)) ex_str ex_str))).ex)))) (bx_one (sx_ret (ex_ty call_tuple_of (snd_tuple _) z_tuple (by decide +kernel)
      (ax_cons (ex_var 4) ax_nil)))))) : BX _ _ d_strings_of)) h_strings_of
abbrev s_parted : Stmt := topS 35
theorem sc_parted : FnScope ["parents", "one", "two", "length", "other", "first", "second"] ["parents", "one", "two", "length", "other"] (defScope s_parted) := ⟨rfl, rfl, rfl, by decide +kernel, rfl, by decide +kernel, by decide +kernel⟩
theorem ok_parted {f : Addr} {fd : FuncData} (Fu : Fun K "parted" "parted" s_parted f fd) {f_are_similar : Addr} {fd_are_similar : FuncData} (o_are_similar : FnOk P w K mg base CX0 1 f_are_similar fd_are_similar ["one", "two"] (spL
      2 p_are_similar)) (g_are_similar : mg "are_similar" = some (.ref f_are_similar)) (k_are_similar : PySem.W.keepIn K (.ref f_are_similar) = true) (b_are_similar : Binds K fd_are_similar ["one", "two"] []) {f_head : Addr} {fd_head :
      FuncData} (o_head : FnOk P w K mg base CX0 1 f_head fd_head ["parents", "node"] (spL 2 p_head)) (g_head : mg "head" = some (.ref f_head)) (k_head : PySem.W.keepIn K (.ref f_head) = true) (b_head : Binds K fd_head ["parents",
      "node"] []) {f_strings_of : Addr} {fd_strings_of : FuncData} (o_strings_of : FnOk P w K mg base CX0 2 f_strings_of fd_strings_of ["parents", "length", "other", "chosen"] (spL 4 p_strings_of)) (g_strings_of : mg "strings_of" =
      some (.ref f_strings_of)) (k_strings_of : PySem.W.keepIn K (.ref f_strings_of) = true) (b_strings_of : Binds K fd_strings_of ["parents", "length", "other", "chosen"] []) (z_zip : mg "zip" = none) : FnOk P w K mg base CX0 3 f fd
      ["parents", "one", "two", "length", "other"] (spL 5 p_parted) := by
  have hN := sc_parted.nd
  exact fn_ok Fu sc_parted rfl m_parted (fun cdv A outer s H E hr => ((bx_cons (sx_if (tx_not (tx_val (ex_call o_are_similar m_are_similar (hr.mono (by decide)) g_are_similar k_are_similar b_are_similar (ax_cons (ex_var 1) (ax_cons
      (ex_var 2) ax_nil))))) (bx_one (sx_ret (ex_call o_strings_of m_strings_of (hr.mono (by decide)) g_strings_of k_strings_of b_strings_of (ax_cons (ex_var 0) (ax_cons (ex_var 3) (ax_cons (ex_var 4) (ax_cons ex_non ax_nil)))))))
      bx_nil) (bx_cons (sx_for PassesOwn.never rfl (ix_zip z_zip (ax_cons (ex_var 1) (ax_cons (ex_var 2) ax_nil))) (gx_tup rfl (gsx_cons (gx_name 5 hN) (gsx_cons (gx_name 6 hN) gsx_nil))) (bx_one (sx_if (wx_and (tx_cmp op_notN snd_notN
      (ex_var 5) ex_non) (wx_and1 (tx_cmp (op_neD (hu64 hr)) (snd_ne _) (ex_call o_head m_head (hr.mono (by decide)) g_head k_head b_head (ax_cons (ex_var 0) (ax_cons (ex_tup (ax_cons ex_int (ax_cons (ex_var 5) ax_nil))) ax_nil)))
      (ex_call o_head m_head (hr.mono (by decide)) g_head k_head b_head (ax_cons (ex_var 0) (ax_cons (ex_tup (ax_cons ex_int (ax_cons (ex_var 6) ax_nil))) ax_nil)))))).tx (bx_one (sx_ret (ex_call o_strings_of m_strings_of (hr.mono (by
      decide)) g_strings_of k_strings_of b_strings_of (ax_cons (ex_var 0) (ax_cons (ex_var 3) (ax_cons (ex_var 4) (ax_cons (ex_call o_head m_head (hr.mono (by decide)) g_head k_head b_head (ax_cons (ex_var 0) (ax_cons (ex_tup (ax_cons
      ex_int (ax_cons (ex_var 5) ax_nil))) ax_nil))) ax_nil))))))) bx_nil))) (bx_one (sx_ret ex_non)))) : BX _ _ d_parted)) h_parted
abbrev s_smallest_counterexample : Stmt := topS 36
theorem sc_smallest_counterexample : FnScope ["release", "mask", "most", "rows", "one", "length", "goals", "total", "other", "parents", "pair"] ["release", "mask"] (defScope s_smallest_counterexample) := ⟨rfl, rfl, rfl, by decide +kernel, rfl, by decide +kernel, by decide +kernel⟩
theorem ok_smallest_counterexample {f : Addr} {fd : FuncData} (Fu : Fun K "smallest_counterexample" "smallest_counterexample" s_smallest_counterexample f fd) {f_bound : Addr} {fd_bound : FuncData} (o_bound : FnOk P w K mg base CX0
      1 f_bound fd_bound ["masks"] (spL 1 p_bound)) (g_bound : mg "bound" = some (.ref f_bound)) (k_bound : PySem.W.keepIn K (.ref f_bound) = true) (b_bound : Binds K fd_bound ["masks"] []) {f_template_of : Addr} {fd_template_of :
      FuncData} (o_template_of : FnOk P w K mg base CX0 3 f_template_of fd_template_of ["mask", "length"] (spL 2 p_template_of)) (g_template_of : mg "template_of" = some (.ref f_template_of)) (k_template_of : PySem.W.keepIn K (.ref
      f_template_of) = true) (b_template_of : Binds K fd_template_of ["mask", "length"] []) {f_equated : Addr} {fd_equated : FuncData} (o_equated : FnOk P w K mg base CX0 2 f_equated fd_equated ["rows", "others"] (spL 2 p_equated))
      (g_equated : mg "equated" = some (.ref f_equated)) (k_equated : PySem.W.keepIn K (.ref f_equated) = true) (b_equated : Binds K fd_equated ["rows", "others"] []) {f_parted : Addr} {fd_parted : FuncData} (o_parted : FnOk P w K mg
      base CX0 3 f_parted fd_parted ["parents", "one", "two", "length", "other"] (spL 5 p_parted)) (g_parted : mg "parted" = some (.ref f_parted)) (k_parted : PySem.W.keepIn K (.ref f_parted) = true) (b_parted : Binds K fd_parted
      ["parents", "one", "two", "length", "other"] []) (z_list : mg "list" = none) (z_max : mg "max" = none) (z_range : mg "range" = none) : FnOk P w K mg base CX0 4 f fd ["release", "mask"] (spL 2 p_smallest_counterexample) := by
  have hN := sc_smallest_counterexample.nd
  exact fn_ok Fu sc_smallest_counterexample rfl m_smallest_counterexample (fun cdv A outer s H E hr => ((bx_cons (sx_set 2 hN (ex_op or_add (snd_add _) (ex_call o_bound m_bound (hr.mono (by decide)) g_bound k_bound b_bound (ax_cons
      (ex_op or_add (snd_add _) (nx_listOf z_list (ax_cons (ex_var 0) ax_nil)).ex (ex_lst (ax_cons (ex_var 1) ax_nil))) ax_nil)) ex_int)) (bx_cons (sx_setLc 3 [((Str.ofString "length"), 5)] rfl hN (ix_range1 z_range (ax_cons (ex_op
      or_add (snd_add _) (ex_var 2) ex_int) ax_nil)) blkT (fun _ _ _ _ _ => (gkx_name 5 hN)) (fun _ _ _ _ _ => tsx_nil) (fun _ _ _ _ _ => (nx_lc [((Str.ofString "one"), 4)] rfl hN (ix_any (ex_var 0)) blkT (fun _ _ _ _ _ => (gkx_name 4
      hN)) (fun _ _ _ _ _ => tsx_nil) (fun _ _ _ _ _ => (ex_call o_template_of m_template_of (hr.mono (by decide)) g_template_of k_template_of b_template_of (ax_cons (ex_var 4) (ax_cons (ex_var 5) ax_nil))))).ex)) (bx_cons (sx_setLc 6
      [((Str.ofString "length"), 5)] rfl hN (ix_range1 z_range (ax_cons (ex_op or_add (snd_add _) (ex_var 2) ex_int) ax_nil)) blkT (fun _ _ _ _ _ => (gkx_name 5 hN)) (fun _ _ _ _ _ => tsx_nil) (fun _ _ _ _ _ => (ex_call o_template_of
      m_template_of (hr.mono (by decide)) g_template_of k_template_of b_template_of (ax_cons (ex_var 1) (ax_cons (ex_var 5) ax_nil))))) (bx_cons (sx_for PassesOwn.never rfl (ix_range1 z_range (ax_cons (ex_op or_add (snd_add _) (ex_op
      or_mul snd_mul ex_int (ex_var 2)) ex_int) ax_nil)) (gx_name 7 hN) (bx_one (sx_for PassesOwn.never rfl (ix_range2 z_range (ax_cons (ex_bi (call_max2 rfl) snd_max2 z_max (by decide +kernel) (ax_cons ex_int (ax_cons (ex_op op_sub
      snd_int0 (ex_var 7) (ex_var 2)) ax_nil))) (ax_cons (ex_op or_add (snd_add _) (ex_op op_fdiv snd_int (ex_var 7) ex_int) ex_int) ax_nil))) (gx_name 5 hN) (bx_cons (sx_set 8 hN (ex_op op_sub snd_int0 (ex_var 7) (ex_var 5))) (bx_cons
      (sx_set 9 hN (ex_call o_equated m_equated (hr.mono (by decide)) g_equated k_equated b_equated (ax_cons (ex_ix (ex_var 3) (ex_var 5)) (ax_cons (ex_ix (ex_var 3) (ex_var 8)) ax_nil)))) (bx_one (sx_if (tx_cmp op_notN snd_notN
      (ex_var 9) ex_non) (bx_cons (sx_set 10 hN (ex_call o_parted m_parted (hr.mono (by decide)) g_parted k_parted b_parted (ax_cons (ex_var 9) (ax_cons (ex_ix (ex_var 6) (ex_var 5)) (ax_cons (ex_ix (ex_var 6) (ex_var 8)) (ax_cons
      (ex_var 5) (ax_cons (ex_var 8) ax_nil))))))) (bx_one (sx_if (tx_cmp op_notN snd_notN (ex_var 10) ex_non) (bx_one (sx_ret (ex_var 10))) bx_nil))) bx_nil))))))) (bx_one (sx_ret ex_non)))))) : BX _ _ d_smallest_counterexample))
      h_smallest_counterexample
abbrev s_counterexample : Stmt := topS 37
theorem sc_counterexample : FnScope ["release", "mask"] ["release", "mask"] (defScope s_counterexample) := ⟨rfl, rfl, rfl, by decide +kernel, rfl, by decide +kernel, by decide +kernel⟩
theorem ok_counterexample {f : Addr} {fd : FuncData} (Fu : Fun K "counterexample" "counterexample" s_counterexample f fd) {f_need_mask : Addr} {fd_need_mask : FuncData} (o_need_mask : FnOk P w K mg base CX0 4 f_need_mask
      fd_need_mask ["value"] (spL 1 p_need_mask)) (g_need_mask : mg "need_mask" = some (.ref f_need_mask)) (k_need_mask : PySem.W.keepIn K (.ref f_need_mask) = true) (b_need_mask : Binds K fd_need_mask ["value"] []) {f_need_release :
      Addr} {fd_need_release : FuncData} (o_need_release : FnOk P w K mg base CX0 5 f_need_release fd_need_release ["value"] (spL 1 p_need_release)) (g_need_release : mg "need_release" = some (.ref f_need_release)) (k_need_release :
      PySem.W.keepIn K (.ref f_need_release) = true) (b_need_release : Binds K fd_need_release ["value"] []) {f_smallest_counterexample : Addr} {fd_smallest_counterexample : FuncData} (o_smallest_counterexample : FnOk P w K mg base CX0
      4 f_smallest_counterexample fd_smallest_counterexample ["release", "mask"] (spL 2 p_smallest_counterexample)) (g_smallest_counterexample : mg "smallest_counterexample" = some (.ref f_smallest_counterexample))
      (k_smallest_counterexample : PySem.W.keepIn K (.ref f_smallest_counterexample) = true) (b_smallest_counterexample : Binds K fd_smallest_counterexample ["release", "mask"] []) : FnOk P w K mg base CX0 6 f fd ["release", "mask"]
      (spL 2 p_counterexample) := by
  have hN := sc_counterexample.nd
  exact fn_ok Fu sc_counterexample rfl m_counterexample (fun cdv A outer s H E hr => ((bx_cons (sx_expr (ex_call o_need_release m_need_release (hr.mono (by decide)) g_need_release k_need_release b_need_release (ax_cons (ex_var 0)
      ax_nil))) (bx_cons (sx_expr (ex_call o_need_mask m_need_mask (hr.mono (by decide)) g_need_mask k_need_mask b_need_mask (ax_cons (ex_var 1) ax_nil))) (bx_one (sx_ret (ex_call o_smallest_counterexample m_smallest_counterexample
      (hr.mono (by decide)) g_smallest_counterexample k_smallest_counterexample b_smallest_counterexample (ax_cons (ex_var 0) (ax_cons (ex_var 1) ax_nil))))))) : BX _ _ d_counterexample)) h_counterexample
abbrev s_determines : Stmt := topS 38
theorem sc_determines : FnScope ["release", "mask"] ["release", "mask"] (defScope s_determines) := ⟨rfl, rfl, rfl, by decide +kernel, rfl, by decide +kernel, by decide +kernel⟩
theorem ok_determines {f : Addr} {fd : FuncData} (Fu : Fun K "determines" "determines" s_determines f fd) {f_counterexample : Addr} {fd_counterexample : FuncData} (o_counterexample : FnOk P w K mg base CX0 6 f_counterexample
      fd_counterexample ["release", "mask"] (spL 2 p_counterexample)) (g_counterexample : mg "counterexample" = some (.ref f_counterexample)) (k_counterexample : PySem.W.keepIn K (.ref f_counterexample) = true) (b_counterexample :
      Binds K fd_counterexample ["release", "mask"] []) : FnOk P w K mg base CX0 7 f fd ["release", "mask"] (spL 2 p_determines) := by
  have hN := sc_determines.nd
  exact fn_ok Fu sc_determines rfl m_determines (fun cdv A outer s H E hr => ((bx_one (sx_ret (ex_cmp op_isN snd_isN (ex_call o_counterexample m_counterexample (hr.mono (by decide)) g_counterexample k_counterexample b_counterexample
      (ax_cons (ex_var 0) (ax_cons (ex_var 1) ax_nil))) ex_non))) : BX _ _ d_determines)) h_determines
abbrev s_law : Stmt := topS 50
theorem sc_law : FnScope ["_law_script", "_law_town", "_law_one", "_law_two", "_law_three", "_law_pairs", "_law_apart", "_law_first", "_law_then", "_law_other", "_law_text", "_law_told", "_law_stars", "_law_run_of_one"] ["_law_script"] (defScope s_law) := ⟨rfl, rfl, rfl, by decide +kernel, rfl, by decide +kernel, by decide +kernel⟩
theorem ok_law {f : Addr} {fd : FuncData} (Fu : Fun K "law" "law" s_law f fd) {f__law_mask : Addr} {fd__law_mask : FuncData} (o__law_mask : FnOk P w K mg base CX0 3 f__law_mask fd__law_mask ["_law_script", "_law_town",
      "_law_steps", "_law_most"] (spL 4 (p__law_mask K))) (g__law_mask : mg "_law_mask" = some (.ref f__law_mask)) (k__law_mask : PySem.W.keepIn K (.ref f__law_mask) = true) (b__law_mask : Binds K fd__law_mask ["_law_script",
      "_law_town", "_law_steps", "_law_most"] []) {f__law_near : Addr} {fd__law_near : FuncData} (o__law_near : FnOk P w K mg base CX0 4 f__law_near fd__law_near ["_law_script", "_law_town", "_law_mask_here"] (spL 3 (p__law_near K)))
      (g__law_near : mg "_law_near" = some (.ref f__law_near)) (k__law_near : PySem.W.keepIn K (.ref f__law_near) = true) (b__law_near : Binds K fd__law_near ["_law_script", "_law_town", "_law_mask_here"] []) {f__law_string : Addr}
      {fd__law_string : FuncData} (o__law_string : FnOk P w K mg base CX0 3 f__law_string fd__law_string ["_law_script", "_law_town", "_law_letters", "_law_most"] (spL 4 (p__law_string K))) (g__law_string : mg "_law_string" = some
      (.ref f__law_string)) (k__law_string : PySem.W.keepIn K (.ref f__law_string) = true) (b__law_string : Binds K fd__law_string ["_law_script", "_law_town", "_law_letters", "_law_most"] []) {f_difference : Addr} {fd_difference :
      FuncData} (o_difference : FnOk P w K mg base CX0 5 f_difference fd_difference ["mask", "other"] (spL 2 p_difference)) (g_difference : mg "difference" = some (.ref f_difference)) (k_difference : PySem.W.keepIn K (.ref
      f_difference) = true) (b_difference : Binds K fd_difference ["mask", "other"] []) {f__law_long : Addr} {fd__law_long : FuncData} (o__law_long : FnOk P w K mg base CX0 1 f__law_long fd__law_long ["_law_text"] (spL 1 p__law_long))
      (g__law_long : mg "_law_long" = some (.ref f__law_long)) (k__law_long : PySem.W.keepIn K (.ref f__law_long) = true) (b__law_long : Binds K fd__law_long ["_law_text"] []) {f_group_size : Addr} {fd_group_size : FuncData}
      (o_group_size : FnOk P w K mg base CX0 6 f_group_size fd_group_size ["release", "string", "letters"] (spL 3 p_group_size)) (g_group_size : mg "group_size" = some (.ref f_group_size)) (k_group_size : PySem.W.keepIn K (.ref
      f_group_size) = true) (b_group_size : Binds K fd_group_size ["release", "string", "letters"] []) {f__law_run : Addr} {fd__law_run : FuncData} (o__law_run : FnOk P w K mg base CX0 2 f__law_run fd__law_run ["_law_mask_here",
      "_law_text"] (spL 2 p__law_run)) (g__law_run : mg "_law_run" = some (.ref f__law_run)) (k__law_run : PySem.W.keepIn K (.ref f__law_run) = true) (b__law_run : Binds K fd__law_run ["_law_mask_here", "_law_text"] []) {f_determines :
      Addr} {fd_determines : FuncData} (o_determines : FnOk P w K mg base CX0 7 f_determines fd_determines ["release", "mask"] (spL 2 p_determines)) (g_determines : mg "determines" = some (.ref f_determines)) (k_determines :
      PySem.W.keepIn K (.ref f_determines) = true) (b_determines : Binds K fd_determines ["release", "mask"] []) (z_len : mg "len" = none) (z_max : mg "max" = none) (z_sorted : mg "sorted" = none) : FnOk P w K mg base CX0 8 f fd
      ["_law_script"] (spLaw K) := by
  have hN := sc_law.nd
  exact law_ok (d := d_law K) Fu sc_law rfl rfl (.inl rfl) (fun _ => rfl) (fun cdv A outer s H E hr => (bx_cons (sx_set 2 hN (ex_call o__law_mask m__law_mask (hr.mono (by decide)) g__law_mask k__law_mask b__law_mask (ax_cons (ex_var
      0) (ax_cons (ex_var 1) (ax_cons ex_int (ax_cons ex_int ax_nil)))))) (bx_cons (sx_set 3 hN (ex_call o__law_near m__law_near (hr.mono (by decide)) g__law_near k__law_near b__law_near (ax_cons (ex_var 0) (ax_cons (ex_var 1) (ax_cons
      (ex_var 2) ax_nil))))) (bx_cons (sx_set 4 hN (ex_call o__law_near m__law_near (hr.mono (by decide)) g__law_near k__law_near b__law_near (ax_cons (ex_var 0) (ax_cons (ex_var 1) (ax_cons (ex_var 3) ax_nil))))) (bx_cons (sx_set 5 hN
      (ex_tup (ax_cons (ex_tup (ax_cons (ex_var 2) (ax_cons (ex_var 3) ax_nil))) (ax_cons (ex_tup (ax_cons (ex_var 3) (ax_cons (ex_var 4) ax_nil))) (ax_cons (ex_tup (ax_cons (ex_var 2) (ax_cons (ex_var 4) ax_nil))) ax_nil))))) (bx_cons
      (sx_set 6 hN (ex_bi cr_sortedI (snd_sorted _) z_sorted (by decide +kernel) (ax_cons (nx_lc [((Str.ofString "_law_first"), 7), ((Str.ofString "_law_then"), 8)] rfl hN (ix_any (ex_var 5)) blkT (fun _ _ _ _ _ => (gkx_tup rfl
      (gskx_cons (gkx_name 7 hN) (gskx_cons (gkx_name 8 hN) gskx_nil)))) (fun _ _ _ _ _ => tsx_nil) (fun _ _ _ _ _ => (ex_call o__law_long m__law_long (hr.mono (by decide)) g__law_long k__law_long b__law_long (ax_cons (ex_call
      o_difference m_difference (hr.mono (by decide)) g_difference k_difference b_difference (ax_cons (ex_var 7) (ax_cons (ex_var 8) ax_nil))) ax_nil)))).ex ax_nil))) (bx_cons (sx_if (tx_cmp (op_neD (hu64 hr)) (snd_ne _) (ex_ix (ex_var
      6) ex_int) (ex_ix (ex_var 6) ex_int)) (bx_one (sx_ret ex_bl)) bx_nil) (bx_cons (sx_par 9 10 rfl hN (ax_cons (ex_call o__law_mask m__law_mask (hr.mono (by decide)) g__law_mask k__law_mask b__law_mask (ax_cons (ex_var 0) (ax_cons
      (ex_var 1) (ax_cons ex_int (ax_cons ex_int ax_nil))))) (ax_cons (ex_call o__law_string m__law_string (hr.mono (by decide)) g__law_string k__law_string b__law_string (ax_cons (ex_var 0) (ax_cons (ex_var 1) (ax_cons ex_str (ax_cons
      ex_int ax_nil))))) ax_nil))) (bx_cons (sx_for PassesOwn.never rfl (ix_any (ex_var 5)) (gx_tup rfl (gsx_cons (gx_name 7 hN) (gsx_cons (gx_name 8 hN) gsx_nil))) (bx_cons (sx_set 11 hN (ex_call o_difference m_difference (hr.mono (by
      decide)) g_difference k_difference b_difference (ax_cons (ex_var 7) (ax_cons (ex_var 8) ax_nil)))) (bx_cons (sx_if (tx_cmp op_notN snd_notN (ex_var 11) ex_non) (bx_cons (sx_if (tx_cmp (op_eqD (hu64 hr)) (snd_eq _) (ex_call
      o__law_run m__law_run (hr.mono (by decide)) g__law_run k__law_run b__law_run (ax_cons (ex_var 7) (ax_cons (ex_var 11) ax_nil))) (ex_call o__law_run m__law_run (hr.mono (by decide)) g__law_run k__law_run b__law_run (ax_cons
      (ex_var 8) (ax_cons (ex_var 11) ax_nil)))) (bx_one (sx_ret ex_bl)) bx_nil) (bx_one sx_continue)) bx_nil) (bx_cons (sx_if (wx_or (tx_not (tx_val (ex_call o_determines m_determines (hr.mono (by decide)) g_determines k_determines
      b_determines (ax_cons (ex_tup (ax_cons (ex_var 7) ax_nil)) (ax_cons (ex_var 8) ax_nil))))) (wx_or1 (tx_not (tx_val (ex_call o_determines m_determines (hr.mono (by decide)) g_determines k_determines b_determines (ax_cons (ex_tup
      (ax_cons (ex_var 8) ax_nil)) (ax_cons (ex_var 7) ax_nil))))))).tx (bx_one (sx_ret ex_bl)) bx_nil) (bx_cons (sx_if (tx_cmp (op_neD (hu64 hr)) (snd_ne _) (ex_call o_group_size m_group_size (hr.mono (by decide)) g_group_size
      k_group_size b_group_size (ax_cons (ex_tup (ax_cons (ex_var 7) (ax_cons (ex_var 9) ax_nil))) (ax_cons (ex_var 10) (ax_cons ex_int ax_nil)))) (ex_call o_group_size m_group_size (hr.mono (by decide)) g_group_size k_group_size
      b_group_size (ax_cons (ex_tup (ax_cons (ex_var 9) (ax_cons (ex_var 8) ax_nil))) (ax_cons (ex_var 10) (ax_cons ex_int ax_nil))))) (bx_one (sx_ret ex_bl)) bx_nil) (bx_one (sx_if (wx_and (tx_cmp op_le snd_cmp (ex_op or_add (snd_add
      _) (ex_bi (call_max2 rfl) snd_max2 z_max (by decide +kernel) (ax_cons (ex_bi call_lenA (snd_len _) z_len (by decide +kernel) (ax_cons (ex_var 7) ax_nil)) (ax_cons (ex_bi call_lenA (snd_len _) z_len (by decide +kernel) (ax_cons
      (ex_var 8) ax_nil)) ax_nil))) (ex_bi call_lenA (snd_len _) z_len (by decide +kernel) (ax_cons (ex_var 9) ax_nil))) ex_int) (wx_and1 (tx_cmp op_notN snd_notN (ex_call o_difference m_difference (hr.mono (by decide)) g_difference
      k_difference b_difference (ax_cons (ex_op or_add (snd_add _) (ex_var 7) (ex_var 9)) (ax_cons (ex_op or_add (snd_add _) (ex_var 8) (ex_var 9)) ax_nil))) ex_non))).tx (bx_one (sx_ret ex_bl)) bx_nil))))))) (bx_cons (sx_asg (ex_tup
      (ax_cons (ex_tup (ax_cons (ex_tup (ax_cons ex_str (ax_cons ex_int ax_nil))) ax_nil)) (ax_cons (ex_tup (ax_cons (ex_tup (ax_cons ex_str (ax_cons ex_int ax_nil))) (ax_cons (ex_tup (ax_cons ex_str (ax_cons ex_int ax_nil))) ax_nil)))
      ax_nil))) (gx_tup rfl (gsx_cons (gx_name 12 hN) (gsx_cons (gx_name 13 hN) gsx_nil)))) (bx_one (sx_ret (ex_and (ex_cmp op_isN snd_isN (ex_call o_difference m_difference (hr.mono (by decide)) g_difference k_difference b_difference
      (ax_cons (ex_tup ax_nil) (ax_cons (ex_tup (ax_cons (ex_tup (ax_cons ex_str (ax_cons ex_int ax_nil))) ax_nil)) ax_nil))) ex_non) (ex_one (ex_cmp (op_eqD (hu64 hr)) (snd_eq _) (ex_bi call_lenA (snd_len _) z_len (by decide +kernel)
      (ax_cons (ex_call o_difference m_difference (hr.mono (by decide)) g_difference k_difference b_difference (ax_cons (ex_var 12) (ax_cons (ex_var 13) ax_nil))) ax_nil)) ex_int))))))))))))))) h_law
end
theorem all_mk {l : PySem.W.OpenLaw} {w : World} {K : PySem.W.Frag} {h : Heap} {mg : Str → Option Value} {fa : Addr} (X : K.In h) (G : h.Ns mainGlobals mg) (hfa : mg "law" = some (.ref fa))
  {f__law_draw : Addr} {od0 an0 : Option Addr} {sl0 : Array (Option Value)} {oc0 kV0 dc0 pm0 cd0 ct0 : Value}
  (a0 : PySem.W.nsIn K mainGlobals "_law_draw" = some (some (.ref f__law_draw))) (l0 : K.lookup f__law_draw = some ⟨oc0, od0, .func (PySem.W.fnOf "_law_draw" "_law_draw" (defArgs s__law_draw) (defBody s__law_draw) (defScope s__law_draw) .none kV0 dc0 pm0 an0 cd0 ct0), sl0⟩)
  (cc0 : PySem.W.codeIn K cd0 "_law_draw" = true) (kk0 : PySem.W.keepIn K (.ref f__law_draw) = true)
  {f__law_pick : Addr} {od1 an1 : Option Addr} {sl1 : Array (Option Value)} {oc1 kV1 dc1 pm1 cd1 ct1 : Value}
  (a1 : PySem.W.nsIn K mainGlobals "_law_pick" = some (some (.ref f__law_pick))) (l1 : K.lookup f__law_pick = some ⟨oc1, od1, .func (PySem.W.fnOf "_law_pick" "_law_pick" (defArgs s__law_pick) (defBody s__law_pick) (defScope s__law_pick) .none kV1 dc1 pm1 an1 cd1 ct1), sl1⟩)
  (cc1 : PySem.W.codeIn K cd1 "_law_pick" = true) (kk1 : PySem.W.keepIn K (.ref f__law_pick) = true)
  {f__law_mask : Addr} {od2 an2 : Option Addr} {sl2 : Array (Option Value)} {oc2 kV2 dc2 pm2 cd2 ct2 : Value}
  (a2 : PySem.W.nsIn K mainGlobals "_law_mask" = some (some (.ref f__law_mask))) (l2 : K.lookup f__law_mask = some ⟨oc2, od2, .func (PySem.W.fnOf "_law_mask" "_law_mask" (defArgs s__law_mask) (defBody s__law_mask) (defScope s__law_mask) .none kV2 dc2 pm2 an2 cd2 ct2), sl2⟩)
  (cc2 : PySem.W.codeIn K cd2 "_law_mask" = true) (kk2 : PySem.W.keepIn K (.ref f__law_mask) = true)
  {f__law_near : Addr} {od3 an3 : Option Addr} {sl3 : Array (Option Value)} {oc3 kV3 dc3 pm3 cd3 ct3 : Value}
  (a3 : PySem.W.nsIn K mainGlobals "_law_near" = some (some (.ref f__law_near))) (l3 : K.lookup f__law_near = some ⟨oc3, od3, .func (PySem.W.fnOf "_law_near" "_law_near" (defArgs s__law_near) (defBody s__law_near) (defScope s__law_near) .none kV3 dc3 pm3 an3 cd3 ct3), sl3⟩)
  (cc3 : PySem.W.codeIn K cd3 "_law_near" = true) (kk3 : PySem.W.keepIn K (.ref f__law_near) = true)
  {f__law_string : Addr} {od4 an4 : Option Addr} {sl4 : Array (Option Value)} {oc4 kV4 dc4 pm4 cd4 ct4 : Value}
  (a4 : PySem.W.nsIn K mainGlobals "_law_string" = some (some (.ref f__law_string))) (l4 : K.lookup f__law_string = some ⟨oc4, od4, .func (PySem.W.fnOf "_law_string" "_law_string" (defArgs s__law_string) (defBody s__law_string) (defScope s__law_string) .none kV4 dc4 pm4 an4 cd4 ct4), sl4⟩)
  (cc4 : PySem.W.codeIn K cd4 "_law_string" = true) (kk4 : PySem.W.keepIn K (.ref f__law_string) = true)
  {f_is_count : Addr} {od5 an5 : Option Addr} {sl5 : Array (Option Value)} {oc5 kV5 dc5 pm5 cd5 ct5 : Value}
  (a5 : PySem.W.nsIn K mainGlobals "is_count" = some (some (.ref f_is_count))) (l5 : K.lookup f_is_count = some ⟨oc5, od5, .func (PySem.W.fnOf "is_count" "is_count" (defArgs s_is_count) (defBody s_is_count) (defScope s_is_count) .none kV5 dc5 pm5 an5 cd5 ct5), sl5⟩)
  (cc5 : PySem.W.codeIn K cd5 "is_count" = true) (kk5 : PySem.W.keepIn K (.ref f_is_count) = true)
  {f_is_step : Addr} {od6 an6 : Option Addr} {sl6 : Array (Option Value)} {oc6 kV6 dc6 pm6 cd6 ct6 : Value}
  (a6 : PySem.W.nsIn K mainGlobals "is_step" = some (some (.ref f_is_step))) (l6 : K.lookup f_is_step = some ⟨oc6, od6, .func (PySem.W.fnOf "is_step" "is_step" (defArgs s_is_step) (defBody s_is_step) (defScope s_is_step) .none kV6 dc6 pm6 an6 cd6 ct6), sl6⟩)
  (cc6 : PySem.W.codeIn K cd6 "is_step" = true) (kk6 : PySem.W.keepIn K (.ref f_is_step) = true)
  {f_is_mask : Addr} {od7 an7 : Option Addr} {sl7 : Array (Option Value)} {oc7 kV7 dc7 pm7 cd7 ct7 : Value}
  (a7 : PySem.W.nsIn K mainGlobals "is_mask" = some (some (.ref f_is_mask))) (l7 : K.lookup f_is_mask = some ⟨oc7, od7, .func (PySem.W.fnOf "is_mask" "is_mask" (defArgs s_is_mask) (defBody s_is_mask) (defScope s_is_mask) .none kV7 dc7 pm7 an7 cd7 ct7), sl7⟩)
  (cc7 : PySem.W.codeIn K cd7 "is_mask" = true) (kk7 : PySem.W.keepIn K (.ref f_is_mask) = true)
  {f_need_mask : Addr} {od8 an8 : Option Addr} {sl8 : Array (Option Value)} {oc8 kV8 dc8 pm8 cd8 ct8 : Value}
  (a8 : PySem.W.nsIn K mainGlobals "need_mask" = some (some (.ref f_need_mask))) (l8 : K.lookup f_need_mask = some ⟨oc8, od8, .func (PySem.W.fnOf "need_mask" "need_mask" (defArgs s_need_mask) (defBody s_need_mask) (defScope s_need_mask) .none kV8 dc8 pm8 an8 cd8 ct8), sl8⟩)
  (cc8 : PySem.W.codeIn K cd8 "need_mask" = true) (kk8 : PySem.W.keepIn K (.ref f_need_mask) = true)
  {f_bound : Addr} {od9 an9 : Option Addr} {sl9 : Array (Option Value)} {oc9 kV9 dc9 pm9 cd9 ct9 : Value}
  (a9 : PySem.W.nsIn K mainGlobals "bound" = some (some (.ref f_bound))) (l9 : K.lookup f_bound = some ⟨oc9, od9, .func (PySem.W.fnOf "bound" "bound" (defArgs s_bound) (defBody s_bound) (defScope s_bound) .none kV9 dc9 pm9 an9 cd9 ct9), sl9⟩)
  (cc9 : PySem.W.codeIn K cd9 "bound" = true) (kk9 : PySem.W.keepIn K (.ref f_bound) = true)
  {f_hidden : Addr} {od10 an10 : Option Addr} {sl10 : Array (Option Value)} {oc10 kV10 dc10 pm10 cd10 ct10 : Value}
  (a10 : PySem.W.nsIn K mainGlobals "hidden" = some (some (.ref f_hidden))) (l10 : K.lookup f_hidden = some ⟨oc10, od10, .func (PySem.W.fnOf "hidden" "hidden" (defArgs s_hidden) (defBody s_hidden) (defScope s_hidden) .none kV10 dc10 pm10 an10 cd10 ct10), sl10⟩)
  (cc10 : PySem.W.codeIn K cd10 "hidden" = true) (kk10 : PySem.W.keepIn K (.ref f_hidden) = true)
  {f_squeezed : Addr} {od11 an11 : Option Addr} {sl11 : Array (Option Value)} {oc11 kV11 dc11 pm11 cd11 ct11 : Value}
  (a11 : PySem.W.nsIn K mainGlobals "squeezed" = some (some (.ref f_squeezed))) (l11 : K.lookup f_squeezed = some ⟨oc11, od11, .func (PySem.W.fnOf "squeezed" "squeezed" (defArgs s_squeezed) (defBody s_squeezed) (defScope s_squeezed) .none kV11 dc11 pm11 an11 cd11 ct11), sl11⟩)
  (cc11 : PySem.W.codeIn K cd11 "squeezed" = true) (kk11 : PySem.W.keepIn K (.ref f_squeezed) = true)
  {f_stepped : Addr} {od12 an12 : Option Addr} {sl12 : Array (Option Value)} {oc12 kV12 dc12 pm12 cd12 ct12 : Value}
  (a12 : PySem.W.nsIn K mainGlobals "stepped" = some (some (.ref f_stepped))) (l12 : K.lookup f_stepped = some ⟨oc12, od12, .func (PySem.W.fnOf "stepped" "stepped" (defArgs s_stepped) (defBody s_stepped) (defScope s_stepped) .none kV12 dc12 pm12 an12 cd12 ct12), sl12⟩)
  (cc12 : PySem.W.codeIn K cd12 "stepped" = true) (kk12 : PySem.W.keepIn K (.ref f_stepped) = true)
  {f_template_of : Addr} {od13 an13 : Option Addr} {sl13 : Array (Option Value)} {oc13 kV13 dc13 pm13 cd13 ct13 : Value}
  (a13 : PySem.W.nsIn K mainGlobals "template_of" = some (some (.ref f_template_of))) (l13 : K.lookup f_template_of = some ⟨oc13, od13, .func (PySem.W.fnOf "template_of" "template_of" (defArgs s_template_of) (defBody s_template_of) (defScope s_template_of) .none kV13 dc13 pm13 an13 cd13 ct13), sl13⟩)
  (cc13 : PySem.W.codeIn K cd13 "template_of" = true) (kk13 : PySem.W.keepIn K (.ref f_template_of) = true)
  {f_first_difference : Addr} {od14 an14 : Option Addr} {sl14 : Array (Option Value)} {oc14 kV14 dc14 pm14 cd14 ct14 : Value}
  (a14 : PySem.W.nsIn K mainGlobals "first_difference" = some (some (.ref f_first_difference))) (l14 : K.lookup f_first_difference = some ⟨oc14, od14, .func (PySem.W.fnOf "first_difference" "first_difference" (defArgs s_first_difference) (defBody s_first_difference) (defScope s_first_difference) .none kV14 dc14 pm14 an14 cd14 ct14), sl14⟩)
  (cc14 : PySem.W.codeIn K cd14 "first_difference" = true) (kk14 : PySem.W.keepIn K (.ref f_first_difference) = true)
  {f_showing : Addr} {od15 an15 : Option Addr} {sl15 : Array (Option Value)} {oc15 kV15 dc15 pm15 cd15 ct15 : Value}
  (a15 : PySem.W.nsIn K mainGlobals "showing" = some (some (.ref f_showing))) (l15 : K.lookup f_showing = some ⟨oc15, od15, .func (PySem.W.fnOf "showing" "showing" (defArgs s_showing) (defBody s_showing) (defScope s_showing) .none kV15 dc15 pm15 an15 cd15 ct15), sl15⟩)
  (cc15 : PySem.W.codeIn K cd15 "showing" = true) (kk15 : PySem.W.keepIn K (.ref f_showing) = true)
  {f_difference : Addr} {od16 an16 : Option Addr} {sl16 : Array (Option Value)} {oc16 kV16 dc16 pm16 cd16 ct16 : Value}
  (a16 : PySem.W.nsIn K mainGlobals "difference" = some (some (.ref f_difference))) (l16 : K.lookup f_difference = some ⟨oc16, od16, .func (PySem.W.fnOf "difference" "difference" (defArgs s_difference) (defBody s_difference) (defScope s_difference) .none kV16 dc16 pm16 an16 cd16 ct16), sl16⟩)
  (cc16 : PySem.W.codeIn K cd16 "difference" = true) (kk16 : PySem.W.keepIn K (.ref f_difference) = true)
  {f__law_long : Addr} {od17 an17 : Option Addr} {sl17 : Array (Option Value)} {oc17 kV17 dc17 pm17 cd17 ct17 : Value}
  (a17 : PySem.W.nsIn K mainGlobals "_law_long" = some (some (.ref f__law_long))) (l17 : K.lookup f__law_long = some ⟨oc17, od17, .func (PySem.W.fnOf "_law_long" "_law_long" (defArgs s__law_long) (defBody s__law_long) (defScope s__law_long) .none kV17 dc17 pm17 an17 cd17 ct17), sl17⟩)
  (cc17 : PySem.W.codeIn K cd17 "_law_long" = true) (kk17 : PySem.W.keepIn K (.ref f__law_long) = true)
  {f_is_release : Addr} {od18 an18 : Option Addr} {sl18 : Array (Option Value)} {oc18 kV18 dc18 pm18 cd18 ct18 : Value}
  (a18 : PySem.W.nsIn K mainGlobals "is_release" = some (some (.ref f_is_release))) (l18 : K.lookup f_is_release = some ⟨oc18, od18, .func (PySem.W.fnOf "is_release" "is_release" (defArgs s_is_release) (defBody s_is_release) (defScope s_is_release) .none kV18 dc18 pm18 an18 cd18 ct18), sl18⟩)
  (cc18 : PySem.W.codeIn K cd18 "is_release" = true) (kk18 : PySem.W.keepIn K (.ref f_is_release) = true)
  {f_need_release : Addr} {od19 an19 : Option Addr} {sl19 : Array (Option Value)} {oc19 kV19 dc19 pm19 cd19 ct19 : Value}
  (a19 : PySem.W.nsIn K mainGlobals "need_release" = some (some (.ref f_need_release))) (l19 : K.lookup f_need_release = some ⟨oc19, od19, .func (PySem.W.fnOf "need_release" "need_release" (defArgs s_need_release) (defBody s_need_release) (defScope s_need_release) .none kV19 dc19 pm19 an19 cd19 ct19), sl19⟩)
  (cc19 : PySem.W.codeIn K cd19 "need_release" = true) (kk19 : PySem.W.keepIn K (.ref f_need_release) = true)
  {f_is_string : Addr} {od20 an20 : Option Addr} {sl20 : Array (Option Value)} {oc20 kV20 dc20 pm20 cd20 ct20 : Value}
  (a20 : PySem.W.nsIn K mainGlobals "is_string" = some (some (.ref f_is_string))) (l20 : K.lookup f_is_string = some ⟨oc20, od20, .func (PySem.W.fnOf "is_string" "is_string" (defArgs s_is_string) (defBody s_is_string) (defScope s_is_string) .none kV20 dc20 pm20 an20 cd20 ct20), sl20⟩)
  (cc20 : PySem.W.codeIn K cd20 "is_string" = true) (kk20 : PySem.W.keepIn K (.ref f_is_string) = true)
  {f_need_string : Addr} {od21 an21 : Option Addr} {sl21 : Array (Option Value)} {oc21 kV21 dc21 pm21 cd21 ct21 : Value}
  (a21 : PySem.W.nsIn K mainGlobals "need_string" = some (some (.ref f_need_string))) (l21 : K.lookup f_need_string = some ⟨oc21, od21, .func (PySem.W.fnOf "need_string" "need_string" (defArgs s_need_string) (defBody s_need_string) (defScope s_need_string) .none kV21 dc21 pm21 an21 cd21 ct21), sl21⟩)
  (cc21 : PySem.W.codeIn K cd21 "need_string" = true) (kk21 : PySem.W.keepIn K (.ref f_need_string) = true)
  {f_group_size : Addr} {od22 an22 : Option Addr} {sl22 : Array (Option Value)} {oc22 kV22 dc22 pm22 cd22 ct22 : Value}
  (a22 : PySem.W.nsIn K mainGlobals "group_size" = some (some (.ref f_group_size))) (l22 : K.lookup f_group_size = some ⟨oc22, od22, .func (PySem.W.fnOf "group_size" "group_size" (defArgs s_group_size) (defBody s_group_size) (defScope s_group_size) .none kV22 dc22 pm22 an22 cd22 ct22), sl22⟩)
  (cc22 : PySem.W.codeIn K cd22 "group_size" = true) (kk22 : PySem.W.keepIn K (.ref f_group_size) = true)
  {f__law_step : Addr} {od23 an23 : Option Addr} {sl23 : Array (Option Value)} {oc23 kV23 dc23 pm23 cd23 ct23 : Value}
  (a23 : PySem.W.nsIn K mainGlobals "_law_step" = some (some (.ref f__law_step))) (l23 : K.lookup f__law_step = some ⟨oc23, od23, .func (PySem.W.fnOf "_law_step" "_law_step" (defArgs s__law_step) (defBody s__law_step) (defScope s__law_step) .none kV23 dc23 pm23 an23 cd23 ct23), sl23⟩)
  (cc23 : PySem.W.codeIn K cd23 "_law_step" = true) (kk23 : PySem.W.keepIn K (.ref f__law_step) = true)
  {f__law_run : Addr} {od24 an24 : Option Addr} {sl24 : Array (Option Value)} {oc24 kV24 dc24 pm24 cd24 ct24 : Value}
  (a24 : PySem.W.nsIn K mainGlobals "_law_run" = some (some (.ref f__law_run))) (l24 : K.lookup f__law_run = some ⟨oc24, od24, .func (PySem.W.fnOf "_law_run" "_law_run" (defArgs s__law_run) (defBody s__law_run) (defScope s__law_run) .none kV24 dc24 pm24 an24 cd24 ct24), sl24⟩)
  (cc24 : PySem.W.codeIn K cd24 "_law_run" = true) (kk24 : PySem.W.keepIn K (.ref f__law_run) = true)
  {f_are_similar : Addr} {od25 an25 : Option Addr} {sl25 : Array (Option Value)} {oc25 kV25 dc25 pm25 cd25 ct25 : Value}
  (a25 : PySem.W.nsIn K mainGlobals "are_similar" = some (some (.ref f_are_similar))) (l25 : K.lookup f_are_similar = some ⟨oc25, od25, .func (PySem.W.fnOf "are_similar" "are_similar" (defArgs s_are_similar) (defBody s_are_similar) (defScope s_are_similar) .none kV25 dc25 pm25 an25 cd25 ct25), sl25⟩)
  (cc25 : PySem.W.codeIn K cd25 "are_similar" = true) (kk25 : PySem.W.keepIn K (.ref f_are_similar) = true)
  {f_head : Addr} {od26 an26 : Option Addr} {sl26 : Array (Option Value)} {oc26 kV26 dc26 pm26 cd26 ct26 : Value}
  (a26 : PySem.W.nsIn K mainGlobals "head" = some (some (.ref f_head))) (l26 : K.lookup f_head = some ⟨oc26, od26, .func (PySem.W.fnOf "head" "head" (defArgs s_head) (defBody s_head) (defScope s_head) .none kV26 dc26 pm26 an26 cd26 ct26), sl26⟩)
  (cc26 : PySem.W.codeIn K cd26 "head" = true) (kk26 : PySem.W.keepIn K (.ref f_head) = true)
  {f_equated : Addr} {od27 an27 : Option Addr} {sl27 : Array (Option Value)} {oc27 kV27 dc27 pm27 cd27 ct27 : Value}
  (a27 : PySem.W.nsIn K mainGlobals "equated" = some (some (.ref f_equated))) (l27 : K.lookup f_equated = some ⟨oc27, od27, .func (PySem.W.fnOf "equated" "equated" (defArgs s_equated) (defBody s_equated) (defScope s_equated) .none kV27 dc27 pm27 an27 cd27 ct27), sl27⟩)
  (cc27 : PySem.W.codeIn K cd27 "equated" = true) (kk27 : PySem.W.keepIn K (.ref f_equated) = true)
  {f_strings_of : Addr} {od28 an28 : Option Addr} {sl28 : Array (Option Value)} {oc28 kV28 dc28 pm28 cd28 ct28 : Value}
  (a28 : PySem.W.nsIn K mainGlobals "strings_of" = some (some (.ref f_strings_of))) (l28 : K.lookup f_strings_of = some ⟨oc28, od28, .func (PySem.W.fnOf "strings_of" "strings_of" (defArgs s_strings_of) (defBody s_strings_of) (defScope s_strings_of) .none kV28 dc28 pm28 an28 cd28 ct28), sl28⟩)
  (cc28 : PySem.W.codeIn K cd28 "strings_of" = true) (kk28 : PySem.W.keepIn K (.ref f_strings_of) = true)
  {f_parted : Addr} {od29 an29 : Option Addr} {sl29 : Array (Option Value)} {oc29 kV29 dc29 pm29 cd29 ct29 : Value}
  (a29 : PySem.W.nsIn K mainGlobals "parted" = some (some (.ref f_parted))) (l29 : K.lookup f_parted = some ⟨oc29, od29, .func (PySem.W.fnOf "parted" "parted" (defArgs s_parted) (defBody s_parted) (defScope s_parted) .none kV29 dc29 pm29 an29 cd29 ct29), sl29⟩)
  (cc29 : PySem.W.codeIn K cd29 "parted" = true) (kk29 : PySem.W.keepIn K (.ref f_parted) = true)
  {f_smallest_counterexample : Addr} {od30 an30 : Option Addr} {sl30 : Array (Option Value)} {oc30 kV30 dc30 pm30 cd30 ct30 : Value}
  (a30 : PySem.W.nsIn K mainGlobals "smallest_counterexample" = some (some (.ref f_smallest_counterexample))) (l30 : K.lookup f_smallest_counterexample = some ⟨oc30, od30, .func (PySem.W.fnOf "smallest_counterexample" "smallest_counterexample" (defArgs s_smallest_counterexample) (defBody s_smallest_counterexample) (defScope s_smallest_counterexample) .none kV30 dc30 pm30 an30 cd30 ct30), sl30⟩)
  (cc30 : PySem.W.codeIn K cd30 "smallest_counterexample" = true) (kk30 : PySem.W.keepIn K (.ref f_smallest_counterexample) = true)
  {f_counterexample : Addr} {od31 an31 : Option Addr} {sl31 : Array (Option Value)} {oc31 kV31 dc31 pm31 cd31 ct31 : Value}
  (a31 : PySem.W.nsIn K mainGlobals "counterexample" = some (some (.ref f_counterexample))) (l31 : K.lookup f_counterexample = some ⟨oc31, od31, .func (PySem.W.fnOf "counterexample" "counterexample" (defArgs s_counterexample) (defBody s_counterexample) (defScope s_counterexample) .none kV31 dc31 pm31 an31 cd31 ct31), sl31⟩)
  (cc31 : PySem.W.codeIn K cd31 "counterexample" = true) (kk31 : PySem.W.keepIn K (.ref f_counterexample) = true)
  {f_determines : Addr} {od32 an32 : Option Addr} {sl32 : Array (Option Value)} {oc32 kV32 dc32 pm32 cd32 ct32 : Value}
  (a32 : PySem.W.nsIn K mainGlobals "determines" = some (some (.ref f_determines))) (l32 : K.lookup f_determines = some ⟨oc32, od32, .func (PySem.W.fnOf "determines" "determines" (defArgs s_determines) (defBody s_determines) (defScope s_determines) .none kV32 dc32 pm32 an32 cd32 ct32), sl32⟩)
  (cc32 : PySem.W.codeIn K cd32 "determines" = true) (kk32 : PySem.W.keepIn K (.ref f_determines) = true)
  {f_law : Addr} {od33 an33 : Option Addr} {sl33 : Array (Option Value)} {oc33 kV33 dc33 pm33 cd33 ct33 : Value}
  (a33 : PySem.W.nsIn K mainGlobals "law" = some (some (.ref f_law))) (l33 : K.lookup f_law = some ⟨oc33, od33, .func (PySem.W.fnOf "law" "law" (defArgs s_law) (defBody s_law) (defScope s_law) .none kV33 dc33 pm33 an33 cd33 ct33), sl33⟩)
  (cc33 : PySem.W.codeIn K cd33 "law" = true) (kk33 : PySem.W.keepIn K (.ref f_law) = true)
  (zz_all : PySem.W.nsIn K mainGlobals "all" = some none)
  (zz_bool : PySem.W.nsIn K mainGlobals "bool" = some none)
  (zz_enumerate : PySem.W.nsIn K mainGlobals "enumerate" = some none)
  (zz_int : PySem.W.nsIn K mainGlobals "int" = some none)
  (zz_isinstance : PySem.W.nsIn K mainGlobals "isinstance" = some none)
  (zz_len : PySem.W.nsIn K mainGlobals "len" = some none)
  (zz_list : PySem.W.nsIn K mainGlobals "list" = some none)
  (zz_max : PySem.W.nsIn K mainGlobals "max" = some none)
  (zz_min : PySem.W.nsIn K mainGlobals "min" = some none)
  (zz_range : PySem.W.nsIn K mainGlobals "range" = some none)
  (zz_sorted : PySem.W.nsIn K mainGlobals "sorted" = some none)
  (zz_str : PySem.W.nsIn K mainGlobals "str" = some none)
  (zz_sum : PySem.W.nsIn K mainGlobals "sum" = some none)
  (zz_tuple : PySem.W.nsIn K mainGlobals "tuple" = some none)
  (zz_zip : PySem.W.nsIn K mainGlobals "zip" = some none)
  {t_LETTERS : Tok} (cc_LETTERS : PySem.W.nsIn K mainGlobals "LETTERS" = some (some (.str (Str.ofString "abcdefghijklmnopqrstuvwxyz") t_LETTERS)))
  {t_LONGEST : Tok} (cc_LONGEST : PySem.W.nsIn K mainGlobals "LONGEST" = some (some (.int 40 t_LONGEST)))
  {t_MASKS : Tok} (cc_MASKS : PySem.W.nsIn K mainGlobals "MASKS" = some (some (.int 3 t_MASKS)))
  {a_NAMES : Addr} {d_NAMES : Option Addr} {n_NAMES : Nat} {u_NAMES : Array (Option Value)} {t_NAMES0 t_NAMES1 t_NAMES2 t_NAMES3 t_NAMES4 t_NAMES5 t_NAMES6 t_NAMES7 : Tok} (cc_NAMES : PySem.W.nsIn K mainGlobals "NAMES" = some (some (.ref a_NAMES)))
  (lk_NAMES : K.lookup a_NAMES = some ⟨.type "tuple", d_NAMES, .seq #[.str (Str.ofString "keep_first") t_NAMES0, .str (Str.ofString "keep_last") t_NAMES1, .str (Str.ofString "hide_first") t_NAMES2, .str (Str.ofString "hide_last") t_NAMES3, .str (Str.ofString "cut_first") t_NAMES4, .str (Str.ofString "cut_last") t_NAMES5, .str (Str.ofString "squeeze") t_NAMES6, .str (Str.ofString "short") t_NAMES7] n_NAMES, u_NAMES⟩)
  {t_NUMBER : Tok} (cc_NUMBER : PySem.W.nsIn K mainGlobals "NUMBER" = some (some (.int 5 t_NUMBER)))
  {t_STEPS : Tok} (cc_STEPS : PySem.W.nsIn K mainGlobals "STEPS" = some (some (.int 4 t_STEPS)))
  : ∃ fd : FuncData, (∀ (s : Shared) (v : Value), BindsTo s fd ⟨[v], []⟩ [("_law_script", v)]) ∧ ∀ base : Heap, K.In base → base.Ns mainGlobals mg → FnOk l.prog w K mg base CX0 8 fa fd ["_law_script"] (spLaw K) := by
  have e := hfa.symm.trans (PySem.W.mg_of X G a33)
  cases e
  have F__law_draw := fun_mk (st := s__law_draw) l0 cc0 kk0
  have b__law_draw := F__law_draw.binds (ps := ["_law_script", "_law_town", "_law_many"]) fun _ _ _ _ _ _ us hl => match us, hl with | [_, _, _], _ => rfl
  have g__law_draw := PySem.W.mg_of X G a0
  have F__law_pick := fun_mk (st := s__law_pick) l1 cc1 kk1
  have b__law_pick := F__law_pick.binds (ps := ["_law_script", "_law_town", "_law_some"]) fun _ _ _ _ _ _ us hl => match us, hl with | [_, _, _], _ => rfl
  have g__law_pick := PySem.W.mg_of X G a1
  have F__law_mask := fun_mk (st := s__law_mask) l2 cc2 kk2
  have b__law_mask := F__law_mask.binds (ps := ["_law_script", "_law_town", "_law_steps", "_law_most"]) fun _ _ _ _ _ _ us hl => match us, hl with | [_, _, _, _], _ => rfl
  have g__law_mask := PySem.W.mg_of X G a2
  have F__law_near := fun_mk (st := s__law_near) l3 cc3 kk3
  have b__law_near := F__law_near.binds (ps := ["_law_script", "_law_town", "_law_mask_here"]) fun _ _ _ _ _ _ us hl => match us, hl with | [_, _, _], _ => rfl
  have g__law_near := PySem.W.mg_of X G a3
  have F__law_string := fun_mk (st := s__law_string) l4 cc4 kk4
  have b__law_string := F__law_string.binds (ps := ["_law_script", "_law_town", "_law_letters", "_law_most"]) fun _ _ _ _ _ _ us hl => match us, hl with | [_, _, _, _], _ => rfl
  have g__law_string := PySem.W.mg_of X G a4
  have F_is_count := fun_mk (st := s_is_count) l5 cc5 kk5
  have b_is_count := F_is_count.binds (ps := ["value", "least", "most"]) fun _ _ _ _ _ _ us hl => match us, hl with | [_, _, _], _ => rfl
  have g_is_count := PySem.W.mg_of X G a5
  have F_is_step := fun_mk (st := s_is_step) l6 cc6 kk6
  have b_is_step := F_is_step.binds (ps := ["value"]) fun _ _ _ _ _ _ us hl => match us, hl with | [_], _ => rfl
  have g_is_step := PySem.W.mg_of X G a6
  have F_is_mask := fun_mk (st := s_is_mask) l7 cc7 kk7
  have b_is_mask := F_is_mask.binds (ps := ["value"]) fun _ _ _ _ _ _ us hl => match us, hl with | [_], _ => rfl
  have g_is_mask := PySem.W.mg_of X G a7
  have F_need_mask := fun_mk (st := s_need_mask) l8 cc8 kk8
  have b_need_mask := F_need_mask.binds (ps := ["value"]) fun _ _ _ _ _ _ us hl => match us, hl with | [_], _ => rfl
  have g_need_mask := PySem.W.mg_of X G a8
  have F_bound := fun_mk (st := s_bound) l9 cc9 kk9
  have b_bound := F_bound.binds (ps := ["masks"]) fun _ _ _ _ _ _ us hl => match us, hl with | [_], _ => rfl
  have g_bound := PySem.W.mg_of X G a9
  have F_hidden := fun_mk (st := s_hidden) l10 cc10 kk10
  have b_hidden := F_hidden.binds (ps := ["row", "start", "stop"]) fun _ _ _ _ _ _ us hl => match us, hl with | [_, _, _], _ => rfl
  have g_hidden := PySem.W.mg_of X G a10
  have F_squeezed := fun_mk (st := s_squeezed) l11 cc11 kk11
  have b_squeezed := F_squeezed.binds (ps := ["row", "count"]) fun _ _ _ _ _ _ us hl => match us, hl with | [_, _], _ => rfl
  have g_squeezed := PySem.W.mg_of X G a11
  have F_stepped := fun_mk (st := s_stepped) l12 cc12 kk12
  have b_stepped := F_stepped.binds (ps := ["step", "row"]) fun _ _ _ _ _ _ us hl => match us, hl with | [_, _], _ => rfl
  have g_stepped := PySem.W.mg_of X G a12
  have F_template_of := fun_mk (st := s_template_of) l13 cc13 kk13
  have b_template_of := F_template_of.binds (ps := ["mask", "length"]) fun _ _ _ _ _ _ us hl => match us, hl with | [_, _], _ => rfl
  have g_template_of := PySem.W.mg_of X G a13
  have F_first_difference := fun_mk (st := s_first_difference) l14 cc14 kk14
  have b_first_difference := F_first_difference.binds (ps := ["mask", "other"]) fun _ _ _ _ _ _ us hl => match us, hl with | [_, _], _ => rfl
  have g_first_difference := PySem.W.mg_of X G a14
  have F_showing := fun_mk (st := s_showing) l15 cc15 kk15
  have b_showing := F_showing.binds (ps := ["length", "one", "two"]) fun _ _ _ _ _ _ us hl => match us, hl with | [_, _, _], _ => rfl
  have g_showing := PySem.W.mg_of X G a15
  have F_difference := fun_mk (st := s_difference) l16 cc16 kk16
  have b_difference := F_difference.binds (ps := ["mask", "other"]) fun _ _ _ _ _ _ us hl => match us, hl with | [_, _], _ => rfl
  have g_difference := PySem.W.mg_of X G a16
  have F__law_long := fun_mk (st := s__law_long) l17 cc17 kk17
  have b__law_long := F__law_long.binds (ps := ["_law_text"]) fun _ _ _ _ _ _ us hl => match us, hl with | [_], _ => rfl
  have g__law_long := PySem.W.mg_of X G a17
  have F_is_release := fun_mk (st := s_is_release) l18 cc18 kk18
  have b_is_release := F_is_release.binds (ps := ["value"]) fun _ _ _ _ _ _ us hl => match us, hl with | [_], _ => rfl
  have g_is_release := PySem.W.mg_of X G a18
  have F_need_release := fun_mk (st := s_need_release) l19 cc19 kk19
  have b_need_release := F_need_release.binds (ps := ["value"]) fun _ _ _ _ _ _ us hl => match us, hl with | [_], _ => rfl
  have g_need_release := PySem.W.mg_of X G a19
  have F_is_string := fun_mk (st := s_is_string) l20 cc20 kk20
  have b_is_string := F_is_string.binds (ps := ["value"]) fun _ _ _ _ _ _ us hl => match us, hl with | [_], _ => rfl
  have g_is_string := PySem.W.mg_of X G a20
  have F_need_string := fun_mk (st := s_need_string) l21 cc21 kk21
  have b_need_string := F_need_string.binds (ps := ["value"]) fun _ _ _ _ _ _ us hl => match us, hl with | [_], _ => rfl
  have g_need_string := PySem.W.mg_of X G a21
  have F_group_size := fun_mk (st := s_group_size) l22 cc22 kk22
  have b_group_size := F_group_size.binds (ps := ["release", "string", "letters"]) fun _ _ _ _ _ _ us hl => match us, hl with | [_, _, _], _ => rfl
  have g_group_size := PySem.W.mg_of X G a22
  have F__law_step := fun_mk (st := s__law_step) l23 cc23 kk23
  have b__law_step := F__law_step.binds (ps := ["_law_step_here", "_law_text"]) fun _ _ _ _ _ _ us hl => match us, hl with | [_, _], _ => rfl
  have g__law_step := PySem.W.mg_of X G a23
  have F__law_run := fun_mk (st := s__law_run) l24 cc24 kk24
  have b__law_run := F__law_run.binds (ps := ["_law_mask_here", "_law_text"]) fun _ _ _ _ _ _ us hl => match us, hl with | [_, _], _ => rfl
  have g__law_run := PySem.W.mg_of X G a24
  have F_are_similar := fun_mk (st := s_are_similar) l25 cc25 kk25
  have b_are_similar := F_are_similar.binds (ps := ["one", "two"]) fun _ _ _ _ _ _ us hl => match us, hl with | [_, _], _ => rfl
  have g_are_similar := PySem.W.mg_of X G a25
  have F_head := fun_mk (st := s_head) l26 cc26 kk26
  have b_head := F_head.binds (ps := ["parents", "node"]) fun _ _ _ _ _ _ us hl => match us, hl with | [_, _], _ => rfl
  have g_head := PySem.W.mg_of X G a26
  have F_equated := fun_mk (st := s_equated) l27 cc27 kk27
  have b_equated := F_equated.binds (ps := ["rows", "others"]) fun _ _ _ _ _ _ us hl => match us, hl with | [_, _], _ => rfl
  have g_equated := PySem.W.mg_of X G a27
  have F_strings_of := fun_mk (st := s_strings_of) l28 cc28 kk28
  have b_strings_of := F_strings_of.binds (ps := ["parents", "length", "other", "chosen"]) fun _ _ _ _ _ _ us hl => match us, hl with | [_, _, _, _], _ => rfl
  have g_strings_of := PySem.W.mg_of X G a28
  have F_parted := fun_mk (st := s_parted) l29 cc29 kk29
  have b_parted := F_parted.binds (ps := ["parents", "one", "two", "length", "other"]) fun _ _ _ _ _ _ us hl => match us, hl with | [_, _, _, _, _], _ => rfl
  have g_parted := PySem.W.mg_of X G a29
  have F_smallest_counterexample := fun_mk (st := s_smallest_counterexample) l30 cc30 kk30
  have b_smallest_counterexample := F_smallest_counterexample.binds (ps := ["release", "mask"]) fun _ _ _ _ _ _ us hl => match us, hl with | [_, _], _ => rfl
  have g_smallest_counterexample := PySem.W.mg_of X G a30
  have F_counterexample := fun_mk (st := s_counterexample) l31 cc31 kk31
  have b_counterexample := F_counterexample.binds (ps := ["release", "mask"]) fun _ _ _ _ _ _ us hl => match us, hl with | [_, _], _ => rfl
  have g_counterexample := PySem.W.mg_of X G a31
  have F_determines := fun_mk (st := s_determines) l32 cc32 kk32
  have b_determines := F_determines.binds (ps := ["release", "mask"]) fun _ _ _ _ _ _ us hl => match us, hl with | [_, _], _ => rfl
  have g_determines := PySem.W.mg_of X G a32
  have F_law := fun_mk (st := s_law) l33 cc33 kk33
  have z_all := PySem.W.mg_none_of X G zz_all
  have z_bool := PySem.W.mg_none_of X G zz_bool
  have z_enumerate := PySem.W.mg_none_of X G zz_enumerate
  have z_int := PySem.W.mg_none_of X G zz_int
  have z_isinstance := PySem.W.mg_none_of X G zz_isinstance
  have z_len := PySem.W.mg_none_of X G zz_len
  have z_list := PySem.W.mg_none_of X G zz_list
  have z_max := PySem.W.mg_none_of X G zz_max
  have z_min := PySem.W.mg_none_of X G zz_min
  have z_range := PySem.W.mg_none_of X G zz_range
  have z_sorted := PySem.W.mg_none_of X G zz_sorted
  have z_str := PySem.W.mg_none_of X G zz_str
  have z_sum := PySem.W.mg_none_of X G zz_sum
  have z_tuple := PySem.W.mg_none_of X G zz_tuple
  have z_zip := PySem.W.mg_none_of X G zz_zip
  have c_LETTERS := PySem.W.mg_of X G cc_LETTERS
  have c_LONGEST := PySem.W.mg_of X G cc_LONGEST
  have c_MASKS := PySem.W.mg_of X G cc_MASKS
  have c_NAMES := PySem.W.mg_of X G cc_NAMES
  have k_NAMES : KStrs K a_NAMES [(Str.ofString "keep_first"), (Str.ofString "keep_last"), (Str.ofString "hide_first"), (Str.ofString "hide_last"), (Str.ofString "cut_first"), (Str.ofString "cut_last"), (Str.ofString "squeeze"), (Str.ofString "short")] := ⟨_, _, _, lk_NAMES, rfl, rfl, (show (8 : Nat) ≤ sizeLine by decide), (by repeat (first | exact .nil | refine .cons ⟨_, rfl⟩ ?_))⟩
  have c_NUMBER := PySem.W.mg_of X G cc_NUMBER
  have c_STEPS := PySem.W.mg_of X G cc_STEPS
  refine ⟨PySem.W.fnOf "law" "law" (defArgs s_law) (defBody s_law) (defScope s_law) .none kV33 dc33 pm33 an33 cd33 ct33, fun s v => .of_eq rfl, fun base _ _ => ?_⟩
  have o__law_draw := ok__law_draw (P := l.prog) (w := w) (mg := mg) (base := base) F__law_draw z_len
  have o__law_pick := ok__law_pick (P := l.prog) (w := w) (mg := mg) (base := base) F__law_pick o__law_draw g__law_draw kk0 b__law_draw z_len
  have o__law_mask := ok__law_mask (P := l.prog) (w := w) (mg := mg) (base := base) F__law_mask o__law_draw g__law_draw kk0 b__law_draw o__law_pick g__law_pick kk1 b__law_pick z_range z_tuple
  have o__law_near := ok__law_near (P := l.prog) (w := w) (mg := mg) (base := base) F__law_near o__law_draw g__law_draw kk0 b__law_draw o__law_mask g__law_mask kk2 b__law_mask z_len
  have o__law_string := ok__law_string (P := l.prog) (w := w) (mg := mg) (base := base) F__law_string o__law_draw g__law_draw kk0 b__law_draw o__law_pick g__law_pick kk1 b__law_pick z_range
  have o_is_count := ok_is_count (P := l.prog) (w := w) (mg := mg) (base := base) F_is_count z_bool z_int z_isinstance
  have o_is_step := ok_is_step (P := l.prog) (w := w) (mg := mg) (base := base) F_is_step o_is_count g_is_count kk5 b_is_count z_isinstance z_len z_str z_tuple c_NAMES k_NAMES c_NUMBER
  have o_is_mask := ok_is_mask (P := l.prog) (w := w) (mg := mg) (base := base) F_is_mask o_is_step g_is_step kk6 b_is_step z_all z_isinstance z_len z_tuple c_STEPS
  have o_need_mask := ok_need_mask (P := l.prog) (w := w) (mg := mg) (base := base) F_need_mask o_is_mask g_is_mask kk7 b_is_mask
  have o_bound := ok_bound (P := l.prog) (w := w) (mg := mg) (base := base) F_bound z_sum
  have o_hidden := ok_hidden (P := l.prog) (w := w) (mg := mg) (base := base) F_hidden z_enumerate
  have o_squeezed := ok_squeezed (P := l.prog) (w := w) (mg := mg) (base := base) F_squeezed z_enumerate
  have o_stepped := ok_stepped (P := l.prog) (w := w) (mg := mg) (base := base) F_stepped o_hidden g_hidden kk10 b_hidden o_squeezed g_squeezed kk11 b_squeezed z_len z_max
  have o_template_of := ok_template_of (P := l.prog) (w := w) (mg := mg) (base := base) F_template_of o_stepped g_stepped kk12 b_stepped z_list z_range z_tuple
  have o_first_difference := ok_first_difference (P := l.prog) (w := w) (mg := mg) (base := base) F_first_difference o_bound g_bound kk9 b_bound o_template_of g_template_of kk13 b_template_of z_range
  have o_showing := ok_showing (P := l.prog) (w := w) (mg := mg) (base := base) F_showing z_len z_zip
  have o_difference := ok_difference (P := l.prog) (w := w) (mg := mg) (base := base) F_difference o_need_mask g_need_mask kk8 b_need_mask o_first_difference g_first_difference kk14 b_first_difference o_showing g_showing kk15 b_showing
  have o__law_long := ok__law_long (P := l.prog) (w := w) (mg := mg) (base := base) F__law_long z_len
  have o_is_release := ok_is_release (P := l.prog) (w := w) (mg := mg) (base := base) F_is_release o_is_mask g_is_mask kk7 b_is_mask z_all z_isinstance z_len z_tuple c_MASKS
  have o_need_release := ok_need_release (P := l.prog) (w := w) (mg := mg) (base := base) F_need_release o_is_release g_is_release kk18 b_is_release
  have o_is_string := ok_is_string (P := l.prog) (w := w) (mg := mg) (base := base) F_is_string z_all z_isinstance z_len z_str c_LETTERS c_LONGEST
  have o_need_string := ok_need_string (P := l.prog) (w := w) (mg := mg) (base := base) F_need_string o_is_string g_is_string kk20 b_is_string
  have o_group_size := ok_group_size (P := l.prog) (w := w) (mg := mg) (base := base) F_group_size o_is_count g_is_count kk5 b_is_count o_template_of g_template_of kk13 b_template_of o_need_release g_need_release kk19 b_need_release o_need_string g_need_string kk21 b_need_string z_len z_range
  have o__law_step := ok__law_step (P := l.prog) (w := w) (mg := mg) (base := base) F__law_step z_len z_max z_min
  have o__law_run := ok__law_run (P := l.prog) (w := w) (mg := mg) (base := base) F__law_run o__law_step g__law_step kk23 b__law_step
  have o_are_similar := ok_are_similar (P := l.prog) (w := w) (mg := mg) (base := base) F_are_similar z_all z_len z_zip
  have o_head := ok_head (P := l.prog) (w := w) (mg := mg) (base := base) F_head 
  have o_equated := ok_equated (P := l.prog) (w := w) (mg := mg) (base := base) F_equated o_are_similar g_are_similar kk25 b_are_similar o_head g_head kk26 b_head z_all z_zip
  have o_strings_of := ok_strings_of (P := l.prog) (w := w) (mg := mg) (base := base) F_strings_of o_head g_head kk26 b_head z_range z_tuple
  have o_parted := ok_parted (P := l.prog) (w := w) (mg := mg) (base := base) F_parted o_are_similar g_are_similar kk25 b_are_similar o_head g_head kk26 b_head o_strings_of g_strings_of kk28 b_strings_of z_zip
  have o_smallest_counterexample := ok_smallest_counterexample (P := l.prog) (w := w) (mg := mg) (base := base) F_smallest_counterexample o_bound g_bound kk9 b_bound o_template_of g_template_of kk13 b_template_of o_equated g_equated kk27 b_equated o_parted g_parted kk29 b_parted z_list z_max z_range
  have o_counterexample := ok_counterexample (P := l.prog) (w := w) (mg := mg) (base := base) F_counterexample o_need_mask g_need_mask kk8 b_need_mask o_need_release g_need_release kk19 b_need_release o_smallest_counterexample g_smallest_counterexample kk30 b_smallest_counterexample
  have o_determines := ok_determines (P := l.prog) (w := w) (mg := mg) (base := base) F_determines o_counterexample g_counterexample kk31 b_counterexample
  exact ok_law F_law o__law_mask g__law_mask kk2 b__law_mask o__law_near g__law_near kk3 b__law_near o__law_string g__law_string kk4 b__law_string o_difference g_difference kk16 b_difference o__law_long g__law_long kk17 b__law_long o_group_size g_group_size kk22 b_group_size o__law_run g__law_run kk24 b__law_run o_determines g_determines kk32 b_determines z_len z_max z_sorted
end PL
open PySem PySem.W PyProof.Rows
set_option maxHeartbeats 0 in
theorem PySem.Challenge.cw_masking_k19_whole_triangle_holds : PySem.Challenge.rw_masking_k19_whole_triangle.Holds := by
  w_on; o_law; k_head; (case hw => w_witness2)
  k_fill
  refine L2.walk_of (l := PySem.Challenge.rw_masking_k19_whole_triangle) (n := 63) (k := 8) (x := "_law_script") (CX := fun _ => L2.CX0) (sp := fun w => PL.spLaw _) rfl (by decide) rfl ⟨rfl, by decide, by decide⟩ (fun w h Y => PySem.W.kIn_of Y) ?F (fun _ _ a ns hl _ hS => ⟨a, ns, rfl, hS, hl, fun _ => rfl⟩) (fun _ _ _ _ _ h => h)
  case F =>
    intro w mg fa h KX G hmg
    refine' PL.all_mk KX G hmg ?a0 ?l0 ?cc0 ?kk0 ?a1 ?l1 ?cc1 ?kk1 ?a2 ?l2 ?cc2 ?kk2 ?a3 ?l3 ?cc3 ?kk3 ?a4 ?l4 ?cc4 ?kk4 ?a5 ?l5 ?cc5 ?kk5 ?a6 ?l6 ?cc6 ?kk6 ?a7 ?l7 ?cc7 ?kk7 ?a8 ?l8 ?cc8 ?kk8 ?a9 ?l9 ?cc9 ?kk9 ?a10 ?l10 ?cc10 ?kk10
      ?a11 ?l11 ?cc11 ?kk11 ?a12 ?l12 ?cc12 ?kk12 ?a13 ?l13 ?cc13 ?kk13 ?a14 ?l14 ?cc14 ?kk14 ?a15 ?l15 ?cc15 ?kk15 ?a16 ?l16 ?cc16 ?kk16 ?a17 ?l17 ?cc17 ?kk17 ?a18 ?l18 ?cc18 ?kk18 ?a19 ?l19 ?cc19 ?kk19 ?a20 ?l20 ?cc20 ?kk20 ?a21 ?l21
      ?cc21 ?kk21 ?a22 ?l22 ?cc22 ?kk22 ?a23 ?l23 ?cc23 ?kk23 ?a24 ?l24 ?cc24 ?kk24 ?a25 ?l25 ?cc25 ?kk25 ?a26 ?l26 ?cc26 ?kk26 ?a27 ?l27 ?cc27 ?kk27 ?a28 ?l28 ?cc28 ?kk28 ?a29 ?l29 ?cc29 ?kk29 ?a30 ?l30 ?cc30 ?kk30 ?a31 ?l31 ?cc31
      ?kk31 ?a32 ?l32 ?cc32 ?kk32 ?a33 ?l33 ?cc33 ?kk33 ?zz_all ?zz_bool ?zz_enumerate ?zz_int ?zz_isinstance ?zz_len ?zz_list ?zz_max ?zz_min ?zz_range ?zz_sorted ?zz_str ?zz_sum ?zz_tuple ?zz_zip ?cc_LETTERS ?cc_LONGEST ?cc_MASKS
      ?cc_NAMES ?lk_NAMES ?cc_NUMBER ?cc_STEPS
    (case a0 => k_is); (case l0 => k_is); (case cc0 => k_is); (case kk0 => k_is); (case a1 => k_is); (case l1 => k_is); (case cc1 => k_is); (case kk1 => k_is)
    (case a2 => k_is); (case l2 => k_is); (case cc2 => k_is); (case kk2 => k_is); (case a3 => k_is); (case l3 => k_is); (case cc3 => k_is); (case kk3 => k_is)
    (case a4 => k_is); (case l4 => k_is); (case cc4 => k_is); (case kk4 => k_is); (case a5 => k_is); (case l5 => k_is); (case cc5 => k_is); (case kk5 => k_is)
    (case a6 => k_is); (case l6 => k_is); (case cc6 => k_is); (case kk6 => k_is); (case a7 => k_is); (case l7 => k_is); (case cc7 => k_is); (case kk7 => k_is)
    (case a8 => k_is); (case l8 => k_is); (case cc8 => k_is); (case kk8 => k_is); (case a9 => k_is); (case l9 => k_is); (case cc9 => k_is); (case kk9 => k_is)
    (case a10 => k_is); (case l10 => k_is); (case cc10 => k_is); (case kk10 => k_is); (case a11 => k_is); (case l11 => k_is); (case cc11 => k_is); (case kk11 => k_is)
    (case a12 => k_is); (case l12 => k_is); (case cc12 => k_is); (case kk12 => k_is); (case a13 => k_is); (case l13 => k_is); (case cc13 => k_is); (case kk13 => k_is)
    (case a14 => k_is); (case l14 => k_is); (case cc14 => k_is); (case kk14 => k_is); (case a15 => k_is); (case l15 => k_is); (case cc15 => k_is); (case kk15 => k_is)
    (case a16 => k_is); (case l16 => k_is); (case cc16 => k_is); (case kk16 => k_is); (case a17 => k_is); (case l17 => k_is); (case cc17 => k_is); (case kk17 => k_is)
    (case a18 => k_is); (case l18 => k_is); (case cc18 => k_is); (case kk18 => k_is); (case a19 => k_is); (case l19 => k_is); (case cc19 => k_is); (case kk19 => k_is)
    (case a20 => k_is); (case l20 => k_is); (case cc20 => k_is); (case kk20 => k_is); (case a21 => k_is); (case l21 => k_is); (case cc21 => k_is); (case kk21 => k_is)
    (case a22 => k_is); (case l22 => k_is); (case cc22 => k_is); (case kk22 => k_is); (case a23 => k_is); (case l23 => k_is); (case cc23 => k_is); (case kk23 => k_is)
    (case a24 => k_is); (case l24 => k_is); (case cc24 => k_is); (case kk24 => k_is); (case a25 => k_is); (case l25 => k_is); (case cc25 => k_is); (case kk25 => k_is)
    (case a26 => k_is); (case l26 => k_is); (case cc26 => k_is); (case kk26 => k_is); (case a27 => k_is); (case l27 => k_is); (case cc27 => k_is); (case kk27 => k_is)
    (case a28 => k_is); (case l28 => k_is); (case cc28 => k_is); (case kk28 => k_is); (case a29 => k_is); (case l29 => k_is); (case cc29 => k_is); (case kk29 => k_is)
    (case a30 => k_is); (case l30 => k_is); (case cc30 => k_is); (case kk30 => k_is); (case a31 => k_is); (case l31 => k_is); (case cc31 => k_is); (case kk31 => k_is)
    (case a32 => k_is); (case l32 => k_is); (case cc32 => k_is); (case kk32 => k_is); (case a33 => k_is); (case l33 => k_is); (case cc33 => k_is); (case kk33 => k_is)
    (case zz_all => k_is); (case zz_bool => k_is); (case zz_enumerate => k_is); (case zz_int => k_is); (case zz_isinstance => k_is); (case zz_len => k_is); (case zz_list => k_is); (case zz_max => k_is)
    (case zz_min => k_is); (case zz_range => k_is); (case zz_sorted => k_is); (case zz_str => k_is); (case zz_sum => k_is); (case zz_tuple => k_is); (case zz_zip => k_is); (case cc_LETTERS => k_is)
    (case cc_LONGEST => k_is); (case cc_MASKS => k_is); (case cc_NAMES => k_is); (case lk_NAMES => k_is); (case cc_NUMBER => k_is); (case cc_STEPS => k_is)
