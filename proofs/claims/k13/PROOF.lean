import PyProof.Rows.All
import Wide.All
import OpenK.AllK
import Wide.FinOn
import HandS.ForMost
import HandS.More
import HandS.SlotsVar
import HandS.Slots
import HandS.Iter
import KE.KDictKeyed
import KE.KDictCopyH
import KE.KDictWalk
import HandS.Flow
import HandS.IsInst
import HandS.TupAny
import KE.SortData
import HandS.NoneIn
import HandS.TupLe
import HandS.TupMul
import HandS.List
import HandS.Defaults
import HandS.ReSub
import HandS.Dict
import HandS.ReCall
import HandS.TupLen
import HandS.DictComp
import HandS.Call
import HandS.Deep
import HandS.SortKw
import KE.DataMinMax
import KE.KDictSum
import HandS.Star
import HandS.Style
import HandS.ListItems
import KE.KDictItemsList
import KE.KEqDict
import HandS.Zip
import KE.KStateDown
import HandS.Head0
import HandS.Head1
import HandS.Head2
import HandS.HeadEnd
import HandS.HeadHook1
import HandS.HeadHook2
import HandS.HeadHook3
import HandS.Conv
import HandS.TupSets
import KE.KeyNested
import HandS.AnyAll
import PySem.Challenge.RW_watchlost_k13_known_plans
set_option Elab.async false
set_option linter.all false
set_option maxRecDepth 100000
/-! Z: computable combinators over the hand layer: a logical heap with logical addresses, tuples by value, texts as atoms. -/
namespace Z
abbrev St := L2.St
open PySem PySem.Spec PyProof.Rows L2

/-! ### logical values, objects, heaps -/
inductive W where
  | non | bl (b : Bool) | int (i : Int) | ia (k : Nat) | str (k : Nat) | tup (xs : List W) | ref (n : Nat) | fz (xs : List W)
inductive LO where
  | lst (xs : List W) | dct (kvs : List (W × W)) | ins (c : Nat) (fs : List (Option W)) | any | box (f : Nat) (ds : List (Nat × Nat)) | cel (n : Nat) | dlk (kvs : List (W × W))
inductive Tr where
  | nil | nd (l : Tr) (o : Option LO) (r : Tr)
def Tr.l : Tr → Tr
  | .nil => .nil
  | .nd l _ _ => l
def Tr.r : Tr → Tr
  | .nil => .nil
  | .nd _ _ r => r
def Tr.o : Tr → Option LO
  | .nil => none
  | .nd _ o _ => o
def Tr.get : Tr → Nat → Option LO
  | .nil, _ => none
  | .nd l o r, n => match n with
    | 0 => o
    | n + 1 => cond (Nat.beq (n % 2) 0) (l.get (n / 2)) (r.get (n / 2))
def Tr.set : Nat → Tr → Nat → LO → Tr
  | 0, t, _, _ => t
  | f + 1, t, n, x => match n with
    | 0 => .nd t.l (some x) t.r
    | n + 1 => cond (Nat.beq (n % 2) 0) (.nd (t.l.set f (n / 2) x) t.o t.r) (.nd t.l t.o (t.r.set f (n / 2) x))

theorem Tr.l_nd (l : Tr) (o : Option LO) (r : Tr) : (Tr.nd l o r).l = l := rfl
theorem Tr.r_nd (l : Tr) (o : Option LO) (r : Tr) : (Tr.nd l o r).r = r := rfl
theorem Tr.o_nd (l : Tr) (o : Option LO) (r : Tr) : (Tr.nd l o r).o = o := rfl
theorem Tr.get_zero (t : Tr) : t.get 0 = t.o := by cases t <;> rfl
theorem Tr.get_succ (t : Tr) (n : Nat) : t.get (n + 1) = cond (Nat.beq (n % 2) 0) (t.l.get (n / 2)) (t.r.get (n / 2)) := by
  cases t with
  | nil => cases h : Nat.beq (n % 2) 0 <;> simp [Tr.get, Tr.l, Tr.r]
  | nd l o r => rfl
theorem Tr.get_set : ∀ (f : Nat) (t : Tr) (n m : Nat) (x : LO), n + 1 < 2 ^ f → (Tr.set f t n x).get m = if m = n then some x else t.get m
  | 0, t, n, m, x, h => by simp at h
  | f + 1, t, n, m, x, h => by
    cases n with
    | zero =>
      cases m with
      | zero => simp [Tr.set, Tr.get]
      | succ m => rw [if_neg (by omega), Tr.get_succ, Tr.get_succ]; simp [Tr.set, Tr.l, Tr.r]
    | succ n =>
      have hf : n / 2 + 1 < 2 ^ f := by
        have : 2 ^ (f + 1) = 2 * 2 ^ f := by rw [Nat.pow_succ]; omega
        omega
      have ih1 := fun m => Tr.get_set f t.l (n / 2) m x hf
      have ih2 := fun m => Tr.get_set f t.r (n / 2) m x hf
      cases hb : Nat.beq (n % 2) 0 with
      | true =>
        have hb' : n % 2 = 0 := Nat.eq_of_beq_eq_true hb
        cases m with
        | zero => rw [if_neg (by omega), Tr.get_zero, Tr.get_zero]; simp only [Tr.set, hb, cond, Tr.o_nd]
        | succ m =>
          rw [Tr.get_succ, Tr.get_succ]
          simp only [Tr.set, hb, cond, Tr.l_nd, Tr.r_nd]
          cases hc : Nat.beq (m % 2) 0 with
          | true =>
            have hc' : m % 2 = 0 := Nat.eq_of_beq_eq_true hc
            simp only [ih1]
            by_cases e : m = n
            · subst e; simp
            · rw [if_neg (by omega), if_neg (by omega)]
          | false =>
            have hc' : m % 2 ≠ 0 := Nat.ne_of_beq_eq_false hc
            rw [if_neg (by omega)]
      | false =>
        have hb' : n % 2 ≠ 0 := Nat.ne_of_beq_eq_false hb
        cases m with
        | zero => rw [if_neg (by omega), Tr.get_zero, Tr.get_zero]; simp only [Tr.set, hb, cond, Tr.o_nd]
        | succ m =>
          rw [Tr.get_succ, Tr.get_succ]
          simp only [Tr.set, hb, cond, Tr.l_nd, Tr.r_nd]
          cases hc : Nat.beq (m % 2) 0 with
          | true =>
            have hc' : m % 2 = 0 := Nat.eq_of_beq_eq_true hc
            rw [if_neg (by omega)]
          | false =>
            have hc' : m % 2 ≠ 0 := Nat.ne_of_beq_eq_false hc
            simp only [ih2]
            by_cases e : m = n
            · subst e; simp
            · rw [if_neg (by omega), if_neg (by omega)]

structure LH where
  n : Nat
  t : Tr
def LH.get (L : LH) (i : Nat) : Option LO := L.t.get i
/-- at most 2^39 objects -/
def top : Nat := 549755813000
def LH.set (L : LH) (i : Nat) (o : LO) : LH := ⟨L.n, L.t.set 40 i o⟩
def LH.add (L : LH) (o : LO) : LH := ⟨L.n + 1, L.t.set 40 L.n o⟩
theorem LH.get_set {L : LH} {i j : Nat} {o : LO} (h : i < top) : (L.set i o).get j = if j = i then some o else L.get j :=
  Tr.get_set 40 L.t i j o (by unfold top at h; omega)
theorem LH.get_add {L : LH} {j : Nat} {o : LO} (h : L.n < top) : (L.add o).get j = if j = L.n then some o else L.get j :=
  Tr.get_set 40 L.t L.n j o (by unfold top at h; omega)

/-! ### what is fixed for a program; what a run chooses -/
structure Fx where
  lits : List Str
  C : Nat → Addr
  fld : Nat → Option (List Str)
  P : Program
  w : World
structure En where
  nms : List Str
  nums : List Int
/-- the text of an atom: below 1000 a literal of the program, beyond it a drawn name -/
def sOf (F : Fx) (e : En) (k : Nat) : Option Str := if k < 1000 then F.lits[k]? else e.nms[k - 1000]?
/-- a name of the program: one to eight small letters -/
def isNm (x : Str) : Bool := Nat.ble 1 x.length && (Nat.ble x.length 8 && x.cps.toList.all fun c => Nat.ble 97 c && Nat.ble c 122)
structure En.Ok (F : Fx) (e : En) : Prop where
  lits : F.lits.Pairwise fun x y => x.cps.toList < y.cps.toList
  len : ∀ x ∈ F.lits, x.length ≤ 1000 ∧ x.length ≠ 0
  lok : ∀ x ∈ F.lits, PyData.strOk x = true
  names : e.nms.Pairwise fun x y => x.cps.toList < y.cps.toList
  nlen : ∀ x ∈ e.nms, x.length ≤ 1000 ∧ x.length ≠ 0
  nok : ∀ x ∈ e.nms, PyData.strOk x = true
  nums : ∀ i ∈ e.nums, 2 ≤ i
  nm : ∀ x ∈ e.nms, isNm x = true

/-- a list that is read alone: known to the object, or of the written part -/
def FzL (K : PySem.W.Frag) (H : Hp) (a : Addr) (xs : List V) : Prop := (∃ o, H a = some (.frz o (.lst xs))) ∨
  ∃ (o : Obj) (its : Array Value) (n : Nat), K.lookup a = some o ∧ o.cls = .type "list" ∧ o.dict = none ∧ o.data = .seq its n ∧ its.size ≤ sizeLine ∧ Vals xs its.toList
theorem FzL.sq {K : PySem.W.Frag} {H : Hp} {a : Addr} {xs : List V} (h : FzL K H a xs) : SqL K H a xs := by
  rcases h with h | h
  · exact .inl (.inr h)
  · exact .inr h
/-- what stays readable -/
structure Kp (K : PySem.W.Frag) (H H' : Hp) : Prop where
  t : ∀ a xs, SqT K H a xs → SqT K H' a xs
  z : ∀ a xs, FzL K H a xs → FzL K H' a xs
theorem Kp.refl {K : PySem.W.Frag} {H : Hp} : Kp K H H := ⟨fun _ _ h => h, fun _ _ h => h⟩
mutual
def RelW (K : PySem.W.Frag) (F : Fx) (e : En) (H : Hp) (ρ : List Addr) : W → V → Prop
  | .non, v => v = .non
  | .bl b, v => v = .bl b
  | .int i, v => v = .int i
  | .ia k, v => ∃ i, e.nums[k]? = some i ∧ v = .int i
  | .str k, v => ∃ x, sOf F e k = some x ∧ v = .str x
  | .tup ws, v => ∃ a xs, v = .ref a ∧ SqT K H a xs ∧ RelWs K F e H ρ ws xs
  | .ref n, v => ∃ a, v = .ref a ∧ ρ[n]? = some a
  | .fz ws, v => ∃ a xs, v = .ref a ∧ FzL K H a xs ∧ RelWs K F e H ρ ws xs
def RelWs (K : PySem.W.Frag) (F : Fx) (e : En) (H : Hp) (ρ : List Addr) : List W → List V → Prop
  | [], vs => vs = []
  | w :: ws, vs => ∃ v vr, vs = v :: vr ∧ RelW K F e H ρ w v ∧ RelWs K F e H ρ ws vr
end
section
variable {K : PySem.W.Frag} {F : Fx} {e : En} {H H' : Hp} {ρ ρ' : List Addr}
mutual
theorem RelW.mono (hT : Kp K H H') (hρ : ∀ (n : Nat) (a : Addr), ρ[n]? = some a → ρ'[n]? = some a) : ∀ (w : W) (v : V), RelW K F e H ρ w v → RelW K F e H' ρ' w v
  | .non, v, h => h
  | .bl b, v, h => h
  | .int i, v, h => h
  | .ia k, v, h => h
  | .str k, v, h => h
  | .tup ws, v, h => by
    unfold RelW at h ⊢
    obtain ⟨a, xs, e1, s, r⟩ := h
    exact ⟨a, xs, e1, hT.t a xs s, RelWs.mono hT hρ ws xs r⟩
  | .ref n, v, h => by
    unfold RelW at h ⊢
    obtain ⟨a, e1, s⟩ := h
    exact ⟨a, e1, hρ n a s⟩
  | .fz ws, v, h => by
    unfold RelW at h ⊢
    obtain ⟨a, xs, e1, s, r⟩ := h
    exact ⟨a, xs, e1, hT.z a xs s, RelWs.mono hT hρ ws xs r⟩
theorem RelWs.mono (hT : Kp K H H') (hρ : ∀ (n : Nat) (a : Addr), ρ[n]? = some a → ρ'[n]? = some a) : ∀ (ws : List W) (vs : List V), RelWs K F e H ρ ws vs → RelWs K F e H' ρ' ws vs
  | [], vs, h => h
  | w :: ws, vs, h => by
    unfold RelWs at h ⊢
    obtain ⟨v, vr, e1, r1, r2⟩ := h
    exact ⟨v, vr, e1, RelW.mono hT hρ w v r1, RelWs.mono hT hρ ws vr r2⟩
end
theorem RelWs.length : ∀ {ws : List W} {vs : List V}, RelWs K F e H ρ ws vs → vs.length = ws.length
  | [], vs, h => by unfold RelWs at h; rw [h]; rfl
  | w :: ws, vs, h => by
    unfold RelWs at h
    obtain ⟨v, vr, e1, _, r2⟩ := h
    rw [e1, List.length_cons, List.length_cons, RelWs.length r2]
theorem RelWs.get : ∀ {ws : List W} {vs : List V} {i : Nat} {w : W}, RelWs K F e H ρ ws vs → ws[i]? = some w → ∃ v, vs[i]? = some v ∧ RelW K F e H ρ w v
  | [], vs, i, w, h, q => by simp at q
  | w0 :: ws, vs, 0, w, h, q => by
    unfold RelWs at h
    obtain ⟨v, vr, e1, r1, r2⟩ := h
    have : w0 = w := by simpa using q
    subst this
    exact ⟨v, by rw [e1]; rfl, r1⟩
  | w0 :: ws, vs, i + 1, w, h, q => by
    unfold RelWs at h
    obtain ⟨v, vr, e1, r1, r2⟩ := h
    obtain ⟨v', e2, r⟩ := RelWs.get (i := i) r2 (by simpa using q)
    exact ⟨v', by rw [e1]; simpa using e2, r⟩
theorem RelWs.append : ∀ {ws us : List W} {vs ys : List V}, RelWs K F e H ρ ws vs → RelWs K F e H ρ us ys → RelWs K F e H ρ (ws ++ us) (vs ++ ys)
  | [], us, vs, ys, h, q => by unfold RelWs at h; rw [h]; exact q
  | w :: ws, us, vs, ys, h, q => by
    unfold RelWs at h
    obtain ⟨v, vr, e1, r1, r2⟩ := h
    rw [e1]
    show RelWs K F e H ρ (w :: (ws ++ us)) (v :: (vr ++ ys))
    unfold RelWs
    exact ⟨v, vr ++ ys, rfl, r1, RelWs.append r2 q⟩
theorem RelWs.cons {w : W} {ws : List W} {v : V} {vs : List V} (h : RelW K F e H ρ w v) (q : RelWs K F e H ρ ws vs) : RelWs K F e H ρ (w :: ws) (v :: vs) := by
  unfold RelWs
  exact ⟨v, vs, rfl, h, q⟩
theorem RelWs.nil : RelWs K F e H ρ [] [] := by unfold RelWs; rfl
theorem RelWs.uncons {w : W} {ws : List W} {vs : List V} (q : RelWs K F e H ρ (w :: ws) vs) : ∃ v vr, vs = v :: vr ∧ RelW K F e H ρ w v ∧ RelWs K F e H ρ ws vr := by
  unfold RelWs at q
  exact q
theorem RelWs.take : ∀ {ws : List W} {vs : List V} (n : Nat), RelWs K F e H ρ ws vs → RelWs K F e H ρ (ws.take n) (vs.take n)
  | [], vs, n, h => by unfold RelWs at h; rw [h]; simpa using RelWs.nil
  | w :: ws, vs, 0, h => by simpa using RelWs.nil
  | w :: ws, vs, n + 1, h => by
    obtain ⟨v, vr, e1, r1, r2⟩ := h.uncons
    rw [e1]
    exact .cons r1 (RelWs.take n r2)
theorem RelWs.drop : ∀ {ws : List W} {vs : List V} (n : Nat), RelWs K F e H ρ ws vs → RelWs K F e H ρ (ws.drop n) (vs.drop n)
  | [], vs, n, h => by unfold RelWs at h; rw [h]; simpa using RelWs.nil
  | w :: ws, vs, 0, h => by simpa using h
  | w :: ws, vs, n + 1, h => by
    obtain ⟨v, vr, e1, r1, r2⟩ := h.uncons
    rw [e1]
    exact RelWs.drop n r2
theorem RelWs.set : ∀ {ws : List W} {vs : List V} {w : W} {v : V} (i : Nat), RelWs K F e H ρ ws vs → RelW K F e H ρ w v → RelWs K F e H ρ (ws.set i w) (vs.set i v)
  | [], vs, w, v, i, h, r => by unfold RelWs at h; rw [h]; simpa using RelWs.nil
  | w0 :: ws, vs, w, v, 0, h, r => by
    obtain ⟨v0, vr, e1, r1, r2⟩ := h.uncons
    rw [e1]
    exact .cons r r2
  | w0 :: ws, vs, w, v, i + 1, h, r => by
    obtain ⟨v0, vr, e1, r1, r2⟩ := h.uncons
    rw [e1]
    exact .cons r1 (RelWs.set i r2 r)
end

/-! ### the heap's relation, what a step leaves -/
structure Fm (ρ ρ' : List Addr) (H H' : Hp) : Prop where
  pre : ∀ (n : Nat) (a : Addr), ρ[n]? = some a → ρ'[n]? = some a
  new : ∀ a, a ∈ ρ' → a ∈ ρ ∨ H a = none
  keep : ∀ a o, H a = some o → a ∉ ρ → H' a = some o
  there : ∀ a o, H a = some o → ∃ o', H' a = some o'
  tup : ∀ a xs, Rd H a (.tup xs) → Rd H' a (.tup xs)
  frz : ∀ a o u, H a = some (.frz o u) → H' a = some (.frz o u)
theorem Fm.refl {ρ : List Addr} {H : Hp} : Fm ρ ρ H H := ⟨fun _ _ h => h, fun _ h => .inl h, fun _ _ h _ => h, fun _ o h => ⟨o, h⟩, fun _ _ h => h, fun _ _ _ h => h⟩
theorem Fm.trans {ρ ρ1 ρ2 : List Addr} {H H1 H2 : Hp} (a : Fm ρ ρ1 H H1) (b : Fm ρ1 ρ2 H1 H2) : Fm ρ ρ2 H H2 where
  pre := fun n x h => b.pre n x (a.pre n x h)
  new := fun x h => by
    rcases b.new x h with q | q
    · exact a.new x q
    · refine .inr ?_
      cases r : H x with
      | none => rfl
      | some o =>
        obtain ⟨o', e⟩ := a.there x o r
        rw [e] at q; cases q
  keep := fun x o h n => b.keep x o (a.keep x o h n) fun z => by
    rcases a.new x z with q | q
    · exact n q
    · rw [q] at h; cases h
  there := fun x o h => by
    obtain ⟨o', e⟩ := a.there x o h
    exact b.there x o' e
  tup := fun x xs h => b.tup x xs (a.tup x xs h)
  frz := fun x o u h => b.frz x o u (a.frz x o u h)
theorem Fm.sqT {K : PySem.W.Frag} {ρ ρ' : List Addr} {H H' : Hp} (f : Fm ρ ρ' H H') (a : Addr) (xs : List V) (h : SqT K H a xs) : SqT K H' a xs := by
  rcases h with h | h
  · exact .inl (f.tup a xs h)
  · exact .inr h
theorem Fm.kp {K : PySem.W.Frag} {ρ ρ' : List Addr} {H H' : Hp} (f : Fm ρ ρ' H H') : Kp K H H' := ⟨f.sqT, fun a xs h => by
  rcases h with ⟨o, h⟩ | h
  · exact .inl ⟨o, f.frz a o _ h⟩
  · exact .inr h⟩
theorem Fm.rel {K : PySem.W.Frag} {F : Fx} {e : En} {ρ ρ' : List Addr} {H H' : Hp} (f : Fm ρ ρ' H H') {w : W} {v : V} (h : RelW K F e H ρ w v) : RelW K F e H' ρ' w v := RelW.mono f.kp f.pre w v h
theorem Fm.rels {K : PySem.W.Frag} {F : Fx} {e : En} {ρ ρ' : List Addr} {H H' : Hp} (f : Fm ρ ρ' H H') {w : List W} {v : List V} (h : RelWs K F e H ρ w v) : RelWs K F e H' ρ' w v := RelWs.mono f.kp f.pre w v h

abbrev Sl := List (Option W)
structure RelSl (K : PySem.W.Frag) (F : Fx) (e : En) (H : Hp) (ρ : List Addr) (sl : Sl) (σ : St) : Prop where
  len : σ.length = sl.length
  at_ : ∀ (i : Nat) (w : W), sl[i]? = some (some w) → ∃ v, σ[i]? = some (some v) ∧ RelW K F e H ρ w v
theorem Fm.relSl {K : PySem.W.Frag} {F : Fx} {e : En} {ρ ρ' : List Addr} {H H' : Hp} (f : Fm ρ ρ' H H') {sl : Sl} {σ : St} (h : RelSl K F e H ρ sl σ) : RelSl K F e H' ρ' sl σ :=
  ⟨h.len, fun i w q => let ⟨v, q1, q2⟩ := h.at_ i w q; ⟨v, q1, f.rel q2⟩⟩
theorem RelSl.set {K : PySem.W.Frag} {F : Fx} {e : En} {ρ : List Addr} {H : Hp} {sl : Sl} {σ : St} (h : RelSl K F e H ρ sl σ) (i : Nat) {w : W} {v : V} (r : RelW K F e H ρ w v) : RelSl K F e H ρ (sl.set i (some w)) (σ.set i (some v)) := by
  refine ⟨by simpa using h.len, fun j u q => ?_⟩
  by_cases hj : j = i
  · subst hj
    have hl : j < sl.length := by
      have := (List.getElem?_eq_some_iff.mp q).1
      simpa using this
    rw [List.getElem?_set_self hl] at q
    cases q
    exact ⟨v, List.getElem?_set_self (by rw [h.len]; exact hl), r⟩
  · rw [List.getElem?_set_ne (Ne.symm hj)] at q
    obtain ⟨v', q1, q2⟩ := h.at_ j u q
    exact ⟨v', by rw [List.getElem?_set_ne (Ne.symm hj)]; exact q1, q2⟩
end Z

set_option Elab.async false
set_option linter.all false
set_option maxRecDepth 100000
namespace Z
open PySem PySem.Spec PyProof.Rows L2

/-! ### the source of draws: what the law's own take does to the three numbers of its box -/
def draw (x y z m : Int) : Int × Int × Int × Int :=
  if 0 < x then (x.fmod m, x.fdiv m, y, z) else
    let z' := z + 1
    let once := ((y + 48271 * z') * (39373 + z')).fmod 2147483647
    let far := once.fmod 40009 + 7
    let twice := ((once + z' + y.fdiv 1000003) * far).fmod 2147483629
    ((((twice * 48271 + once).fmod 2147483587).fdiv 64).fmod m, x, y, z')
/-- the draws to come: with these moduli these results -/
def Draws : Int → Int → Int → List (Nat × Nat) → Prop
  | _, _, _, [] => True
  | x, y, z, (m, r) :: ds => 1 ≤ m ∧ m ≤ 1000 ∧ (draw x y z m).1 = (r : Nat) ∧ Draws (draw x y z m).2.1 (draw x y z m).2.2.1 (draw x y z m).2.2.2 ds
structure BoxOk (x y z : Int) (n : Nat) : Prop where
  x0 : 0 ≤ x
  y0 : 0 ≤ y
  y1 : y < 2 ^ 62
  z0 : 0 ≤ z
  z1 : z + n ≤ 1000000
/-! ### objects -/
def RelFs (K : PySem.W.Frag) (F : Fx) (e : En) (H : Hp) (ρ : List Addr) (fs : List (Option W)) (vs : List (Option V)) : Prop :=
  ∀ (i : Nat) (w : W), fs[i]? = some (some w) → ∃ v, vs[i]? = some (some v) ∧ RelW K F e H ρ w v
/-- what a tracked object never is -/
def Trk : HO → Prop
  | .tup _ => False
  | .own _ => False
  | .xd _ => False
  | _ => True
theorem Trk.of {h : HO} (m : Mut (some h)) : Trk h := by cases h <;> first | trivial | exact m
/-! ### keys -/
mutual
/-- a key of a dict: ints, texts, None, tuples of these -/
def isKy : Nat → W → Bool
  | _, .non => true
  | _, .int _ => true
  | _, .ia _ => true
  | _, .str _ => true
  | n + 1, .tup xs => isKys n xs
  | _, _ => false
def isKys : Nat → List W → Bool
  | _, [] => true
  | n, x :: xs => isKy n x && isKys n xs
end
mutual
def kyW (F : Fx) (e : En) : W → NestedKey
  | .int i => .num i
  | .ia k => .num ((e.nums[k]?).getD 0)
  | .str k => .text ((sOf F e k).getD "")
  | .tup xs => .tup (kyWs F e xs)
  | _ => .none
def kyWs (F : Fx) (e : En) : List W → List NestedKey
  | [] => []
  | x :: xs => kyW F e x :: kyWs F e xs
end
def lfW (F : Fx) (e : En) : W → L2.Key
  | .int i => .inl i
  | .ia k => .inl ((e.nums[k]?).getD 0)
  | .str k => .inr ((sOf F e k).getD "")
  | _ => .inl 0
def isLf : W → Bool
  | .int _ => true
  | .ia _ => true
  | .str _ => true
  | _ => false
def isTp : W → Bool
  | .tup xs => isKys 7 xs
  | _ => false
/-- a dict whose keys are carried by value; one whose keys are tuples -/
def LfO (P : Program) (w : World) (a : Addr) (us : List (L2.Key × V)) : HO := .ext fun h => ∃ vs : List (L2.Key × Value), KV us vs ∧ h.DictOf (mixKind P w) a vs
abbrev TpP : NestedKey × Addr × V → NestedKey × Addr × Value → Prop := fun p q => p.1 = q.1 ∧ p.2.1 = q.2.1 ∧ RelV p.2.2 q.2.2
def TpO (P : Program) (w : World) (a : Addr) (us : List (NestedKey × Addr × V)) : HO := .ext fun h => ∃ xs : List (NestedKey × Addr × Value), Paired TpP us xs ∧
  ∃ o es ep, h.get? a = some o ∧ o.ExactDict ∧ o.data = .dict es ep ∧ es.toList = xs.map (entryOfKey (nestedKind P w)) ∧ (xs.map (·.1)).Nodup
abbrev LfP (K : PySem.W.Frag) (F : Fx) (e : En) (H : Hp) (ρ : List Addr) : W × W → L2.Key × V → Prop := fun p q => isLf p.1 = true ∧ q.1 = lfW F e p.1 ∧ (∃ k, RelW K F e H ρ p.1 k) ∧ RelW K F e H ρ p.2 q.2
abbrev TpQ (K : PySem.W.Frag) (F : Fx) (e : En) (H : Hp) (ρ : List Addr) : W × W → NestedKey × Addr × V → Prop := fun p q => isTp p.1 = true ∧ q.1 = kyW F e p.1 ∧ RelW K F e H ρ p.1 (.ref q.2.1) ∧ RelW K F e H ρ p.2 q.2.2
/-- the dict's object -/
def DctR (K : PySem.W.Frag) (F : Fx) (e : En) (H : Hp) (ρ : List Addr) (kvs : List (W × W)) (a : Addr) (u : HO) : Prop :=
  (a == sysModules) = false ∧ kvs.length ≤ 1000000 ∧ ((∃ us, u = LfO F.P F.w a us ∧ Paired (LfP K F e H ρ) kvs us ∧ (us.map (·.1)).Nodup) ∨ ∃ us, u = TpO F.P F.w a us ∧ Paired (TpQ K F e H ρ) kvs us ∧ (us.map (·.1)).Nodup)
theorem DctR.mut {K : PySem.W.Frag} {F : Fx} {e : En} {H : Hp} {ρ : List Addr} {kvs : List (W × W)} {a : Addr} {u : HO} (d : DctR K F e H ρ kvs a u) : Mut (some u) := by
  obtain ⟨_, _, ⟨us, rfl, _⟩ | ⟨us, rfl, _⟩⟩ := d <;> trivial
theorem DctR.mono {K : PySem.W.Frag} {F : Fx} {e : En} {H H' : Hp} {ρ ρ' : List Addr} {kvs : List (W × W)} {a : Addr} {u : HO} (hT : Kp K H H') (hρ : ∀ (n : Nat) (a : Addr), ρ[n]? = some a → ρ'[n]? = some a) (d : DctR K F e H ρ kvs a u) : DctR K F e H' ρ' kvs a u := by
  obtain ⟨h1, h2, ⟨us, rfl, r, nd⟩ | ⟨us, rfl, r, nd⟩⟩ := d
  · exact ⟨h1, h2, .inl ⟨us, rfl, Paired.mapP r fun p q ⟨a1, a2, ⟨k, a3⟩, a4⟩ => ⟨a1, a2, ⟨k, RelW.mono hT hρ _ _ a3⟩, RelW.mono hT hρ _ _ a4⟩, nd⟩⟩
  · exact ⟨h1, h2, .inr ⟨us, rfl, Paired.mapP r fun p q ⟨a1, a2, a3, a4⟩ => ⟨a1, a2, RelW.mono hT hρ _ _ a3, RelW.mono hT hρ _ _ a4⟩, nd⟩⟩
def RelO (K : PySem.W.Frag) (F : Fx) (e : En) (H : Hp) (ρ : List Addr) : LO → Addr → Prop
  | .lst ws, a => ∃ xs, H a = some (.lst xs) ∧ RelWs K F e H ρ ws xs
  | .dct kvs, a => ∃ u, H a = some u ∧ DctR K F e H ρ kvs a u
  | .dlk kvs, a => ∃ o u, H a = some (.frz o u) ∧ DctR K F e H ρ kvs a u
  | .any, a => ∃ h, H a = some h ∧ Trk h
  | .box f ds, a => ∃ x y z, H a = some (.lst [.int x, .int y, .int z]) ∧ BoxOk x y z (f + ds.length) ∧ Draws x y z ds
  | .cel n, a => ∃ is : List Int, H a = some (.lst (is.map V.int)) ∧ is.length = n
  | .ins c fs, a => match F.fld c with
    | none => ∃ dx vs, H a = some (SlX.SlO a (F.C c) dx vs) ∧ H dx = some (.xd []) ∧ RelFs K F e H ρ fs vs
    | some names => ∃ dx ps, H a = some (.ins (F.C c) dx ps) ∧ names.Nodup ∧ names.length < 1000 ∧ fs.length ≤ names.length ∧ ps.map (·.1) = names.take fs.length ∧
        ∀ (i : Nat) (w : W), fs[i]? = some (some w) → ∃ p, ps[i]? = some p ∧ RelW K F e H ρ w p.2
section
variable {K : PySem.W.Frag} {F : Fx} {e : En} {H H' : Hp} {ρ ρ' : List Addr}
theorem RelO.stay {a : Addr} (hT : Kp K H H') (hρ : ∀ (n : Nat) (a : Addr), ρ[n]? = some a → ρ'[n]? = some a) (ha : H' a = H a) (ho : ∀ d, H d = some (.xd []) → H' d = some (.xd [])) :
    ∀ o : LO, RelO K F e H ρ o a → RelO K F e H' ρ' o a
  | .lst ws, h => by
    obtain ⟨xs, e1, r⟩ := h
    exact ⟨xs, by rw [ha]; exact e1, RelWs.mono hT hρ _ _ r⟩
  | .dct kvs, h => by
    obtain ⟨u, e1, d⟩ := h
    exact ⟨u, by rw [ha]; exact e1, d.mono hT hρ⟩
  | .dlk kvs, h => by
    obtain ⟨o, u, e1, d⟩ := h
    exact ⟨o, u, by rw [ha]; exact e1, d.mono hT hρ⟩
  | .any, h => by
    obtain ⟨x, e1, m⟩ := h
    exact ⟨x, by rw [ha]; exact e1, m⟩
  | .box f ds, h => by
    obtain ⟨x, y, z, e1, b, d⟩ := h
    exact ⟨x, y, z, by rw [ha]; exact e1, b, d⟩
  | .cel n, h => by
    obtain ⟨is, e1, b⟩ := h
    exact ⟨is, by rw [ha]; exact e1, b⟩
  | .ins c fs, h => by
    unfold RelO at h ⊢
    cases q : F.fld c with
    | none =>
      simp only [q] at h ⊢
      obtain ⟨dx, vs, s1, s2, r⟩ := h
      refine ⟨dx, vs, by rw [ha]; exact s1, ho dx s2, fun i w q => ?_⟩
      obtain ⟨v, e1, e2⟩ := r i w q
      exact ⟨v, e1, RelW.mono hT hρ _ _ e2⟩
    | some names =>
      simp only [q] at h ⊢
      obtain ⟨dx, ps, s1, s2, s3, s4, s5, r⟩ := h
      refine ⟨dx, ps, by rw [ha]; exact s1, s2, s3, s4, s5, fun i w q => ?_⟩
      obtain ⟨p, e1, e3⟩ := r i w q
      exact ⟨p, e1, RelW.mono hT hρ _ _ e3⟩
/-- a tracked object of ours is one that may be written -/
theorem RelO.mut {a : Addr} : ∀ {o : LO}, RelO K F e H ρ o a → ∃ h, H a = some h ∧ Trk h
  | .lst ws, h => by obtain ⟨xs, e1, r⟩ := h; exact ⟨_, e1, trivial⟩
  | .dct kvs, h => by obtain ⟨u, e1, d⟩ := h; exact ⟨_, e1, .of d.mut⟩
  | .dlk kvs, h => by obtain ⟨o, u, e1, d⟩ := h; exact ⟨_, e1, trivial⟩
  | .any, h => h
  | .box f ds, h => by obtain ⟨x, y, z, e1, _, _⟩ := h; exact ⟨_, e1, trivial⟩
  | .cel n, h => by obtain ⟨is, e1, _⟩ := h; exact ⟨_, e1, trivial⟩
  | .ins c fs, h => by
    unfold RelO at h
    cases q : F.fld c with
    | none =>
      simp only [q] at h
      obtain ⟨dx, vs, s1, s2, r⟩ := h
      exact ⟨_, s1, trivial⟩
    | some names =>
      simp only [q] at h
      obtain ⟨dx, ps, s1, s2, s3, s4, s5, r⟩ := h
      exact ⟨_, s1, trivial⟩
end
structure RH (K : PySem.W.Frag) (F : Fx) (e : En) (H : Hp) (ρ : List Addr) (L : LH) : Prop where
  len : ρ.length = L.n
  nd : ρ.Nodup
  ob : ∀ (n : Nat) (a : Addr), ρ[n]? = some a → ∃ o, L.get n = some o ∧ RelO K F e H ρ o a
  fit : ∀ (n : Nat) (o : LO), L.get n = some o → n < L.n
section
variable {K : PySem.W.Frag} {F : Fx} {e : En} {H H' : Hp} {ρ ρ' : List Addr} {L L' : LH}
theorem nd_ix {ρ : List Addr} (h : ρ.Nodup) {i j : Nat} {a : Addr} (h1 : ρ[i]? = some a) (h2 : ρ[j]? = some a) : i = j := by
  obtain ⟨q1, e1⟩ := List.getElem?_eq_some_iff.mp h1
  obtain ⟨q2, e2⟩ := List.getElem?_eq_some_iff.mp h2
  exact (List.getElem_inj h).mp (e1.trans e2.symm)
theorem RH.at_ (R : RH K F e H ρ L) {n : Nat} {o : LO} (h : L.get n = some o) : ∃ a, ρ[n]? = some a ∧ RelO K F e H ρ o a := by
  have hn := R.fit n o h
  rw [← R.len] at hn
  obtain ⟨o', h1, h2⟩ := R.ob n ρ[n] (by simp [hn])
  rw [h] at h1; cases h1
  exact ⟨ρ[n], by simp [hn], h2⟩
theorem RH.mut (R : RH K F e H ρ L) {a : Addr} (h : a ∈ ρ) : ∃ h, H a = some h ∧ Trk h := by
  obtain ⟨n, hn⟩ := List.mem_iff_getElem?.mp h
  obtain ⟨o, _, r⟩ := R.ob n a hn
  exact r.mut
theorem RH.lst (R : RH K F e H ρ L) {n : Nat} {ws : List W} (h : L.get n = some (.lst ws)) : ∃ a xs, ρ[n]? = some a ∧ H a = some (.lst xs) ∧ RelWs K F e H ρ ws xs := by
  obtain ⟨a, h1, h2⟩ := R.at_ h
  obtain ⟨xs, h3, h4⟩ := h2
  exact ⟨a, xs, h1, h3, h4⟩
/-- what is not of ours changes (a new object, an object of another's) -/
theorem fm_new {p : Addr} {o : HO} (hp : H p = none) : Fm ρ ρ H (upd H p o) :=
  ⟨fun _ _ h => h, fun _ h => .inl h, fun a o' h _ => by rw [upd_ne (ne_of_none h hp)]; exact h, fun a o' h => ⟨o', by rw [upd_ne (ne_of_none h hp)]; exact h⟩, fun a xs h => by
    rcases h with h | ⟨ob, h⟩
    · exact .inl (by rw [upd_ne (ne_of_none h hp)]; exact h)
    · exact .inr ⟨ob, by rw [upd_ne (ne_of_none h hp)]; exact h⟩, fun a ob u h => by rw [upd_ne (ne_of_none h hp)]; exact h⟩
theorem RH.new (R : RH K F e H ρ L) {p : Addr} {o : HO} (hp : H p = none) : RH K F e (upd H p o) ρ L := by
  have f : Fm ρ ρ H (upd H p o) := fm_new hp
  refine ⟨R.len, R.nd, fun n a h => ?_, R.fit⟩
  obtain ⟨ob, h1, h2⟩ := R.ob n a h
  obtain ⟨ho, h3, _⟩ := h2.mut
  exact ⟨ob, h1, h2.stay f.kp f.pre (upd_ne (ne_of_none h3 hp)) fun d hd => by rw [upd_ne (ne_of_none hd hp)]; exact hd⟩
/-- a new object of ours -/
theorem fm_add (R : RH K F e H ρ L) {p : Addr} {h' : HO} (hp : H p = none) : Fm ρ (ρ ++ [p]) H (upd H p h') := by
  have f : Fm ρ ρ H (upd H p h') := fm_new hp
  refine ⟨fun n a h => ?_, fun a h => ?_, f.keep, f.there, f.tup, f.frz⟩
  · rw [List.getElem?_append_left (List.getElem?_eq_some_iff.mp h).1]; exact h
  · rcases List.mem_append.mp h with q | q
    · exact .inl q
    · have : a = p := by simpa using q
      subst this
      exact .inr hp
theorem RH.add (R : RH K F e H ρ L) {p : Addr} {h' : HO} {o : LO} (hp : H p = none) (hn : L.n < top) (ho : RelO K F e (upd H p h') (ρ ++ [p]) o p) : RH K F e (upd H p h') (ρ ++ [p]) (L.add o) := by
  have f := fm_add (h' := h') R hp
  have hpρ : p ∉ ρ := fun z => by obtain ⟨_, q, _⟩ := R.mut z; rw [hp] at q; cases q
  refine ⟨by simp [R.len, LH.add], ?_, fun n a h => ?_, fun n ob h => ?_⟩
  · exact List.nodup_append.mpr ⟨R.nd, by simp, fun a ha b hb z => by
      rw [List.mem_singleton] at hb
      rw [z, hb] at ha
      exact hpρ ha⟩
  · rw [LH.get_add hn]
    by_cases hl : n < ρ.length
    · rw [List.getElem?_append_left hl] at h
      rw [if_neg (by rw [← R.len]; omega)]
      obtain ⟨ob, h1, h2⟩ := R.ob n a h
      obtain ⟨ho, h3, _⟩ := h2.mut
      exact ⟨ob, h1, h2.stay f.kp f.pre (upd_ne (ne_of_none h3 hp)) fun d hd => by rw [upd_ne (ne_of_none hd hp)]; exact hd⟩
    · have hl2 : n = ρ.length := by
        have := (List.getElem?_eq_some_iff.mp h).1
        simp at this
        omega
      subst hl2
      have : p = a := by simpa using h
      subst this
      rw [if_pos R.len]
      exact ⟨o, rfl, ho⟩
  · rw [LH.get_add hn] at h
    show n < L.n + 1
    split at h
    · omega
    · have := R.fit n ob h; omega
/-- an object of ours is written -/
theorem fm_put (R : RH K F e H ρ L) {n : Nat} {a : Addr} {h' : HO} (ha : ρ[n]? = some a) (mt : Mut (H a)) : Fm ρ ρ H (upd H a h') := by
  have ma : a ∈ ρ := List.mem_iff_getElem?.mpr ⟨n, ha⟩
  obtain ⟨q, hq, _⟩ := R.mut ma
  have mu : Mut (some q) := by rw [← hq]; exact mt
  refine ⟨fun _ _ h => h, fun _ h => .inl h, fun b o h hb => ?_, fun b o h => ?_, fun b xs h => ?_, fun b ob u h => ?_⟩
  · have hba : b ≠ a := fun z => hb (by rw [z]; exact ma)
    rw [upd_ne hba]; exact h
  · by_cases z : b = a
    · exact ⟨h', by rw [z, upd_same]⟩
    · exact ⟨o, by rw [upd_ne z]; exact h⟩
  · rcases h with h | ⟨ob, h⟩
    · refine .inl ?_
      rw [upd_ne (fun z => by subst z; rw [h] at hq; cases hq; exact mu)]; exact h
    · refine .inr ⟨ob, ?_⟩
      rw [upd_ne (fun z => by subst z; rw [h] at hq; cases hq; exact mu)]; exact h
  · rw [upd_ne (fun z => by subst z; rw [h] at hq; cases hq; exact mu)]; exact h
theorem RH.put (R : RH K F e H ρ L) {n : Nat} {a : Addr} {h' : HO} {o : LO} (ha : ρ[n]? = some a) (mt : Mut (H a)) (hn : L.n < top) (ho : RelO K F e (upd H a h') ρ o a) : RH K F e (upd H a h') ρ (L.set n o) := by
  have f := fm_put (h' := h') R ha mt
  have ma : a ∈ ρ := List.mem_iff_getElem?.mpr ⟨n, ha⟩
  obtain ⟨q, hq, mu⟩ := R.mut ma
  have hnl : n < L.n := by rw [← R.len]; exact (List.getElem?_eq_some_iff.mp ha).1
  refine ⟨R.len, R.nd, fun m b h => ?_, fun m ob h => ?_⟩
  · rw [LH.get_set (by omega)]
    by_cases hm : m = n
    · subst hm
      rw [ha] at h; cases h
      exact ⟨o, by rw [if_pos rfl], ho⟩
    · rw [if_neg hm]
      obtain ⟨ob, h1, h2⟩ := R.ob m b h
      have hb : b ≠ a := fun z => hm (nd_ix R.nd h (by rw [z]; exact ha))
      exact ⟨ob, h1, h2.stay f.kp f.pre (upd_ne hb) fun d hd => by rw [upd_ne (fun z => by subst z; rw [hd] at hq; cases hq; exact mu)]; exact hd⟩
  · rw [LH.get_set (by omega)] at h
    show m < L.n
    split at h
    · omega
    · exact R.fit m ob h
end

/-! ### expressions -/
abbrev Ex := Sl → LH → Option (W × LH)
abbrev Et := Sl → LH → Option (Bool × LH)
abbrev Ea := Sl → LH → Option (List W × LH)
def TZ (K : PySem.W.Frag) (F : Fx) (m : Ex) : TE := fun σ H Q => ∃ e ρ sl L w L', En.Ok F e ∧ RelSl K F e H ρ sl σ ∧ RH K F e H ρ L ∧ m sl L = some (w, L') ∧
  ∀ ρ' H' v, Fm ρ ρ' H H' → RH K F e H' ρ' L' → RelW K F e H' ρ' w v → Q v H'
def TTZ (K : PySem.W.Frag) (F : Fx) (m : Et) : TT := fun σ H Q => ∃ e ρ sl L b L', En.Ok F e ∧ RelSl K F e H ρ sl σ ∧ RH K F e H ρ L ∧ m sl L = some (b, L') ∧
  ∀ ρ' H', Fm ρ ρ' H H' → RH K F e H' ρ' L' → Q b H'
def TAZ (K : PySem.W.Frag) (F : Fx) (m : Ea) : TA := fun σ H Q => ∃ e ρ sl L ws L', En.Ok F e ∧ RelSl K F e H ρ sl σ ∧ RH K F e H ρ L ∧ m sl L = some (ws, L') ∧
  ∀ ρ' H' vs, Fm ρ ρ' H H' → RH K F e H' ρ' L' → RelWs K F e H' ρ' ws vs → Q vs H'

theorem PE.imp {X : Cx} {x : Expr} {t t' : TE} (h : PE X x t) (q : ∀ σ H Q, t' σ H Q → t σ H Q) : PE X x t' := ⟨fun pins s σ H Q I k => h.run pins s σ H Q I (q σ H Q k)⟩
theorem PT.imp {X : Cx} {x : Expr} {t t' : TT} (h : PT X x t) (q : ∀ σ H Q, t' σ H Q → t σ H Q) : PT X x t' := ⟨fun pins s σ H Q I k => h.run pins s σ H Q I (q σ H Q k)⟩
theorem PW.imp {X : Cx} {x : Expr} {t t' : TT} (h : PW X x t) (q : ∀ σ H Q, t' σ H Q → t σ H Q) : PW X x t' := ⟨fun wh pins s σ H Q I k => h.run wh pins s σ H Q I (q σ H Q k)⟩
theorem PA.imp {X : Cx} {x : List Expr} {t t' : TA} (h : PA X x t) (q : ∀ σ H Q, t' σ H Q → t σ H Q) : PA X x t' := ⟨fun pos pins s σ H Q I k => h.run pos pins s σ H Q I (q σ H Q k)⟩
theorem PS.imp {X : Cx} {x : Stmt} {t t' : TS} (h : PS X x t) (q : ∀ D σ H, t' D σ H → t D σ H) : PS X x t' := ⟨fun pins s σ H D I k => h.run pins s σ H D I (q D σ H k)⟩
theorem PSs.imp {X : Cx} {x : List Stmt} {t t' : TS} (h : PSs X x t) (q : ∀ D σ H, t' D σ H → t D σ H) : PSs X x t' := ⟨fun pins s σ H D I k => h.run pins s σ H D I (q D σ H k)⟩

/-! values -/
def vC (w : W) : Ex := fun _ L => some (w, L)
def vVar (i : Nat) : Ex := fun sl L => match sl[i]? with
  | some (some w) => some (w, L)
  | _ => none
def mBin (f : W → W → LH → Option (W × LH)) (a b : Ex) : Ex := fun sl L => match a sl L with
  | none => none
  | some (x, L1) => match b sl L1 with
    | none => none
    | some (y, L2) => f x y L2
def mUn (f : W → LH → Option (W × LH)) (a : Ex) : Ex := fun sl L => match a sl L with
  | none => none
  | some (x, L1) => f x L1
def mTest (a : Ex) : Et := fun sl L => match a sl L with
  | some (.bl b, L1) => some (b, L1)
  | _ => none
def mNil : Ea := fun _ L => some ([], L)
def mCons (a : Ex) (r : Ea) : Ea := fun sl L => match a sl L with
  | none => none
  | some (x, L1) => match r sl L1 with
    | none => none
    | some (xs, L2) => some (x :: xs, L2)
def mApp (f : List W → LH → Option (W × LH)) (r : Ea) : Ex := fun sl L => match r sl L with
  | none => none
  | some (xs, L1) => f xs L1

section
variable {X : Cx} {F : Fx} {ma mb : Ex} {a b : Expr} {pos : Pos}
theorem ze_var {i : Nat} {x : Str} (hN : X.N[i]? = some x) (hv : Vis X.env.scope x) (hd : (x == ("__debug__" : Str)) = false := by decide) (hcd : (x == ("__classdict__" : Str)) = false := by decide) : PE X (.Name x pos) (TZ X.K F (vVar i)) := by
  refine PE.imp (pe_var hN hv hd hcd) ?_
  rintro σ H Q ⟨e, ρ, sl, L, w, L', he, hs, hh, hm, k⟩
  unfold vVar at hm
  split at hm
  · rename_i w' hw
    cases hm
    obtain ⟨v, h1, h2⟩ := hs.at_ i _ hw
    exact ⟨v, h1, k ρ H v .refl hh h2⟩
  · cases hm
theorem ze_int {i : Int} {j : Nat} : PE X (.Constant (.int i) j pos) (TZ X.K F (vC (.int i))) := by
  refine PE.imp pe_int ?_
  rintro σ H Q ⟨e, ρ, sl, L, w, L', he, hs, hh, hm, k⟩
  cases hm
  exact k ρ H _ .refl hh rfl
theorem ze_bl {i : Bool} {j : Nat} : PE X (.Constant (.bool i) j pos) (TZ X.K F (vC (.bl i))) := by
  refine PE.imp pe_bl ?_
  rintro σ H Q ⟨e, ρ, sl, L, w, L', he, hs, hh, hm, k⟩
  cases hm
  exact k ρ H _ .refl hh rfl
theorem ze_non {j : Nat} : PE X (.Constant .none j pos) (TZ X.K F (vC .non)) := by
  refine PE.imp pe_non ?_
  rintro σ H Q ⟨e, ρ, sl, L, w, L', he, hs, hh, hm, k⟩
  cases hm
  exact k ρ H _ .refl hh rfl
theorem sOf_lit {F : Fx} {e : En} {n : Nat} {x : Str} (h : F.lits[n]? = some x) (hn : n < 1000) : sOf F e n = some x := by unfold sOf; rw [if_pos hn]; exact h
theorem ze_str {x : Str} {j : Nat} (n : Nat) (h : F.lits[n]? = some x) (hn : n < 1000 := by decide) : PE X (.Constant (.str x) j pos) (TZ X.K F (vC (.str n))) := by
  refine PE.imp pe_str ?_
  rintro σ H Q ⟨e, ρ, sl, L, w, L', he, hs, hh, hm, k⟩
  cases hm
  exact k ρ H _ .refl hh ⟨x, sOf_lit h hn, rfl⟩

/-- an operator by values -/
def OpZ (K : PySem.W.Frag) (F : Fx) (r : R2) (f : W → W → LH → Option (W × LH)) : Prop := ∀ (e : En) (ρ : List Addr) (H : Hp) (L : LH) (x y : W) (vx vy : V) (w : W) (L' : LH) (Q : VK), En.Ok F e → RH K F e H ρ L →
  RelW K F e H ρ x vx → RelW K F e H ρ y vy → f x y L = some (w, L') → (∀ ρ' H' v, Fm ρ ρ' H H' → RH K F e H' ρ' L' → RelW K F e H' ρ' w v → Q v H') → r vx vy H Q
theorem tz_bin {K : PySem.W.Frag} {r : R2} {f : W → W → LH → Option (W × LH)} (hz : OpZ K F r f) {σ : St} {H : Hp} {Q : VK} (h : TZ K F (mBin f ma mb) σ H Q) : tOp r (TZ K F ma) (TZ K F mb) σ H Q := by
  obtain ⟨e, ρ, sl, L, w, L', he, hs, hh, hm, k⟩ := h
  unfold mBin at hm
  split at hm
  · cases hm
  rename_i x L1 h1
  split at hm
  · cases hm
  rename_i y L2 h2
  refine ⟨e, ρ, sl, L, x, L1, he, hs, hh, h1, fun ρ1 H1 vx f1 r1 w1 => ?_⟩
  refine ⟨e, ρ1, sl, L1, y, L2, he, f1.relSl hs, r1, h2, fun ρ2 H2 vy f2 r2 w2 => ?_⟩
  exact hz e ρ2 H2 L2 x y vx vy w L' Q he r2 (f2.rel w1) w2 hm fun ρ' H' v f3 r3 w3 => k ρ' H' v ((f1.trans f2).trans f3) r3 w3
theorem ze_op {op : Operator} {r : R2} {f : W → W → LH → Option (W × LH)} (ho : OpR X (binaryOp op) r) (hz : OpZ X.K F r f) (ha : PE X a (TZ X.K F ma)) (hb : PE X b (TZ X.K F mb)) : PE X (.BinOp a op b pos) (TZ X.K F (mBin f ma mb)) :=
  PE.imp (pe_op ho ha hb) fun _ _ _ h => tz_bin hz h
theorem ze_cmp {op : CmpOp} {r : R2} {f : W → W → LH → Option (W × LH)} (ho : OpR X (compareOp op) r) (hz : OpZ X.K F r f) (ha : PE X a (TZ X.K F ma)) (hb : PE X b (TZ X.K F mb)) (hm : behindInMarks op b = false) : PE X (.Compare a [op] [b] pos) (TZ X.K F (mBin f ma mb)) :=
  PE.imp (pe_cmpR ho ha hb hm) fun _ _ _ h => tz_bin hz h
/-- a comparison as a test -/
theorem zt_cmp {op : CmpOp} {r : R2} {f : W → W → LH → Option (W × LH)} (ho : OpR X (compareOp op) r) (hz : OpZ X.K F r f) (ha : PE X a (TZ X.K F ma)) (hb : PE X b (TZ X.K F mb)) (hm : behindInMarks op b = false) : PT X (.Compare a [op] [b] pos) (TTZ X.K F (mTest (mBin f ma mb))) := by
  refine PT.imp (pt_cmpR ho ha hb hm) ?_
  rintro σ H Q ⟨e, ρ, sl, L, w, L', he, hs, hh, hm, k⟩
  unfold mTest at hm
  split at hm
  · rename_i b' L1 h1
    cases hm
    refine tz_bin hz ⟨e, ρ, sl, L, _, _, he, hs, hh, h1, fun ρ' H' v f1 r1 w1 => ?_⟩
    exact ⟨_, w1, k ρ' H' f1 r1⟩
  · cases hm

theorem za_nil : PA X [] (TAZ X.K F mNil) := by
  refine PA.imp pa_nil ?_
  rintro σ H Q ⟨e, ρ, sl, L, w, L', he, hs, hh, hm, k⟩
  cases hm
  exact k ρ H [] .refl hh .nil
theorem za_cons {es : List Expr} {mr : Ea} (ha : PE X a (TZ X.K F ma)) (hr : PA X es (TAZ X.K F mr)) (hs : starEach (a :: es) X.env = (false, eval a X.env) :: starEach es X.env := by rfl) : PA X (a :: es) (TAZ X.K F (mCons ma mr)) := by
  refine PA.imp (pa_cons ha hr hs) ?_
  rintro σ H Q ⟨e, ρ, sl, L, w, L', he, hs, hh, hm, k⟩
  unfold mCons at hm
  split at hm
  · cases hm
  rename_i x L1 h1
  split at hm
  · cases hm
  rename_i y L2 h2
  cases hm
  refine ⟨e, ρ, sl, L, x, L1, he, hs, hh, h1, fun ρ1 H1 vx f1 r1 w1 => ?_⟩
  refine ⟨e, ρ1, sl, L1, y, _, he, f1.relSl hs, r1, h2, fun ρ2 H2 vy f2 r2 w2 => ?_⟩
  exact k ρ2 H2 _ (f1.trans f2) r2 (.cons (f2.rel w1) w2)
end

/-! displays -/
def fTup : List W → LH → Option (W × LH) := fun xs L => cond (Nat.ble xs.length 1000000) (some (.tup xs, L)) none
def fLst : List W → LH → Option (W × LH) := fun xs L => cond (Nat.ble xs.length 1000000 && Nat.blt L.n top) (some (.ref L.n, L.add (.lst xs))) none
theorem line_ok {n : Nat} (h : n ≤ 1000000) : n ≤ sizeLine := by rw [sizeLine_eq]; omega
theorem fLst_spec {xs : List W} {L L' : LH} {w : W} (h : fLst xs L = some (w, L')) : xs.length ≤ sizeLine ∧ L.n < top ∧ w = .ref L.n ∧ L' = L.add (.lst xs) := by
  unfold fLst at h
  cases q : (Nat.ble xs.length 1000000 && Nat.blt L.n top) with
  | false => rw [q] at h; cases h
  | true =>
    rw [q] at h
    cases h
    rw [Bool.and_eq_true] at q
    exact ⟨line_ok (Nat.le_of_ble_eq_true q.1), Nat.le_of_ble_eq_true q.2, rfl, rfl⟩
section
variable {K : PySem.W.Frag} {F : Fx} {e : En} {H H' : Hp} {ρ ρ' : List Addr} {L L' : LH}
/-- a new list -/
theorem new_lst (R : RH K F e H ρ L) {p : Addr} {ws : List W} {xs : List V} (hp : H p = none) (hn : L.n < top) (r : RelWs K F e H ρ ws xs) :
    Fm ρ (ρ ++ [p]) H (upd H p (.lst xs)) ∧ RH K F e (upd H p (.lst xs)) (ρ ++ [p]) (L.add (.lst ws)) ∧ RelW K F e (upd H p (.lst xs)) (ρ ++ [p]) (.ref L.n) (.ref p) := by
  have f := fm_add (h' := .lst xs) R hp
  refine ⟨f, R.add hp hn ⟨xs, upd_same, f.rels r⟩, ?_⟩
  unfold RelW
  exact ⟨p, rfl, by rw [← R.len]; simp⟩
/-- a new tuple -/
theorem new_tup (R : RH K F e H ρ L) {p : Addr} {ws : List W} {xs : List V} (hp : H p = none) (r : RelWs K F e H ρ ws xs) :
    Fm ρ ρ H (upd H p (.tup xs)) ∧ RH K F e (upd H p (.tup xs)) ρ L ∧ RelW K F e (upd H p (.tup xs)) ρ (.tup ws) (.ref p) := by
  have f : Fm ρ ρ H (upd H p (.tup xs)) := fm_new hp
  refine ⟨f, R.new hp, ?_⟩
  unfold RelW
  exact ⟨p, xs, rfl, SqT.of upd_same, f.rels r⟩
end
section
variable {X : Cx} {F : Fx} {ma mb : Ex} {a b : Expr} {pos : Pos} {es : List Expr} {mr : Ea}
theorem ze_tup {k : Nat} (h : PA X es (TAZ X.K F mr)) : PE X (.Tuple es k pos) (TZ X.K F (mApp fTup mr)) := by
  refine PE.imp (pe_tup h) ?_
  rintro σ H Q ⟨e, ρ, sl, L, w, L', he, hs, hh, hm, k⟩
  unfold mApp at hm
  split at hm
  · cases hm
  rename_i xs L1 h1
  unfold fTup at hm
  cases q : Nat.ble xs.length 1000000 with
  | false => rw [q] at hm; cases hm
  | true =>
    rw [q] at hm
    cases hm
    refine ⟨e, ρ, sl, L, _, _, he, hs, hh, h1, fun ρ1 H1 vs f1 r1 w1 => ⟨?_, fun p hp => ?_⟩⟩
    · rw [w1.length]; exact line_ok (Nat.le_of_ble_eq_true q)
    · obtain ⟨f2, r2, w2⟩ := new_tup r1 hp w1
      exact k _ _ _ (f1.trans f2) r2 w2
theorem ze_lst (h : PA X es (TAZ X.K F mr)) : PE X (.List es pos) (TZ X.K F (mApp fLst mr)) := by
  refine PE.imp (pe_lst h) ?_
  rintro σ H Q ⟨e, ρ, sl, L, w, L', he, hs, hh, hm, k⟩
  unfold mApp at hm
  split at hm
  · cases hm
  rename_i xs L1 h1
  obtain ⟨h2, h3, rfl, rfl⟩ := fLst_spec hm
  refine ⟨e, ρ, sl, L, _, _, he, hs, hh, h1, fun ρ1 H1 vs f1 r1 w1 => ⟨by rw [w1.length]; exact h2, fun p hp => ?_⟩⟩
  obtain ⟨f2, r2, w2⟩ := new_lst r1 hp h3 w1
  exact k _ _ _ (f1.trans f2) r2 w2
end
end Z

set_option Elab.async false
set_option linter.all false
set_option maxRecDepth 100000
namespace Z
open PySem PySem.Spec PyProof.Rows L2

/-! ### truth -/
def truth (L : LH) : W → Option Bool
  | .non => some false
  | .bl b => some b
  | .int i => some (i != 0)
  | .ia _ => some true
  | .str _ => some true
  | .tup xs => some (!xs.isEmpty)
  | .fz xs => some (!xs.isEmpty)
  | .ref n => match L.get n with
    | some (.lst xs) => some (!xs.isEmpty)
    | _ => none
theorem sOf_ok {F : Fx} {e : En} (he : En.Ok F e) {k : Nat} {x : Str} (h : sOf F e k = some x) : x.length ≤ 1000 ∧ x.length ≠ 0 := by
  unfold sOf at h
  split at h
  · exact he.len x (List.mem_of_getElem? h)
  · exact he.nlen x (List.mem_of_getElem? h)
theorem isEmpty_len {α β : Type} {xs : List α} {ys : List β} (h : xs.length = ys.length) : (!xs.isEmpty) = !ys.isEmpty := by
  cases xs with
  | nil => cases ys with
    | nil => rfl
    | cons _ _ => simp at h
  | cons _ _ => cases ys with
    | nil => simp at h
    | cons _ _ => rfl
theorem truth_ok {K : PySem.W.Frag} {F : Fx} {e : En} {H : Hp} {ρ : List Addr} {L : LH} (he : En.Ok F e) (R : RH K F e H ρ L) {v : V} {k : Bool} : ∀ {w : W}, RelW K F e H ρ w v → truth L w = some k → TruV K v H k
  | .non, r, h => by cases r; cases h; rfl
  | .bl b, r, h => by cases r; cases h; rfl
  | .int i, r, h => by cases r; cases h; rfl
  | .ia j, r, h => by
    obtain ⟨i, q, rfl⟩ := r
    cases h
    have := he.nums i (List.mem_of_getElem? q)
    show true = (i != 0)
    rw [eq_comm, bne_iff_ne]
    omega
  | .str j, r, h => by
    obtain ⟨x, q, rfl⟩ := r
    cases h
    have := sOf_ok he q
    refine ⟨line_ok (by omega), ?_⟩
    rw [eq_comm, bne_iff_ne]
    omega
  | .tup xs, r, h => by
    unfold RelW at r
    obtain ⟨a, vs, rfl, s, r⟩ := r
    cases h
    exact .inr (.inl ⟨vs, s, isEmpty_len r.length.symm⟩)
  | .fz xs, r, h => by
    unfold RelW at r
    obtain ⟨a, vs, rfl, s, r⟩ := r
    cases h
    exact .inl ⟨vs, s.sq, isEmpty_len r.length.symm⟩
  | .ref n, r, h => by
    unfold RelW at r
    obtain ⟨a, rfl, ha⟩ := r
    simp only [truth] at h
    split at h
    · rename_i xs hl
      cases h
      obtain ⟨a', vs, h1, h2, h3⟩ := R.lst hl
      rw [ha] at h1; cases h1
      exact .inl ⟨vs, SqL.of h2, isEmpty_len h3.length.symm⟩
    · cases h

def mTruth (a : Ex) : Et := fun sl L => match a sl L with
  | none => none
  | some (x, L1) => match truth L1 x with
    | some b => some (b, L1)
    | none => none
def tAndM (a b : Et) : Et := fun sl L => match a sl L with
  | some (true, L1) => b sl L1
  | some (false, L1) => some (false, L1)
  | none => none
def tOrM (a b : Et) : Et := fun sl L => match a sl L with
  | some (true, L1) => some (true, L1)
  | some (false, L1) => b sl L1
  | none => none
def tNotM (a : Et) : Et := fun sl L => match a sl L with
  | some (b, L1) => some (!b, L1)
  | none => none
def vAndM (a b : Ex) : Ex := fun sl L => match a sl L with
  | none => none
  | some (x, L1) => match truth L1 x with
    | some true => b sl L1
    | some false => some (x, L1)
    | none => none
def vOrM (a b : Ex) : Ex := fun sl L => match a sl L with
  | none => none
  | some (x, L1) => match truth L1 x with
    | some true => some (x, L1)
    | some false => b sl L1
    | none => none
def vNotM (a : Ex) : Ex := fun sl L => match a sl L with
  | none => none
  | some (x, L1) => match truth L1 x with
    | some b => some (.bl (!b), L1)
    | none => none
def vIfM (t : Et) (a b : Ex) : Ex := fun sl L => match t sl L with
  | some (true, L1) => a sl L1
  | some (false, L1) => b sl L1
  | none => none
section
variable {X : Cx} {F : Fx} {ma mb : Ex} {ta tb : Et} {a b c : Expr} {pos : Pos} {es : List Expr} {rest : List Expr}
theorem zt_truth (ha : PE X a (TZ X.K F ma)) (he : ∀ whole, isTrue a X.env whole = (do let v ← whole; standAt a.pos; holding [v] (truthy v)) := by intro _; rfl) : PT X a (TTZ X.K F (mTruth ma)) := by
  refine PT.imp (pt_truth ha he) ?_
  rintro σ H Q ⟨e, ρ, sl, L, w, L', he, hs, hh, hm, k⟩
  unfold mTruth at hm
  split at hm
  · cases hm
  rename_i x L1 h1
  split at hm
  · rename_i b' h2
    cases hm
    exact ⟨e, ρ, sl, L, _, _, he, hs, hh, h1, fun ρ1 H1 v f1 r1 w1 => ⟨_, truth_ok he r1 w1 h2, k ρ1 H1 f1 r1⟩⟩
  · cases hm
theorem zt_not (ha : PT X a (TTZ X.K F ta)) : PT X (.UnaryOp .Not a pos) (TTZ X.K F (tNotM ta)) := by
  refine PT.imp (pt_not ha) ?_
  rintro σ H Q ⟨e, ρ, sl, L, w, L', he, hs, hh, hm, k⟩
  unfold tNotM at hm
  split at hm
  · rename_i b' L1 h1
    cases hm
    exact ⟨e, ρ, sl, L, _, _, he, hs, hh, h1, k⟩
  · cases hm
theorem zw_and1 (ha : PT X a (TTZ X.K F ta)) : PW X (.BoolOp .And [a] pos) (TTZ X.K F ta) := pw_and1 ha
theorem zw_or1 (ha : PT X a (TTZ X.K F ta)) : PW X (.BoolOp .Or [a] pos) (TTZ X.K F ta) := pw_or1 ha
theorem zw_and (ha : PT X a (TTZ X.K F ta)) (hb : PW X (.BoolOp .And (b :: rest) pos) (TTZ X.K F tb)) : PW X (.BoolOp .And (a :: b :: rest) pos) (TTZ X.K F (tAndM ta tb)) := by
  refine PW.imp (pw_and ha hb) ?_
  rintro σ H Q ⟨e, ρ, sl, L, w, L', he, hs, hh, hm, k⟩
  unfold tAndM at hm
  split at hm
  · rename_i L1 h1
    refine ⟨e, ρ, sl, L, _, _, he, hs, hh, h1, fun ρ1 H1 f1 r1 => ?_⟩
    refine iteT ?_
    exact ⟨e, ρ1, sl, L1, _, _, he, f1.relSl hs, r1, hm, fun ρ2 H2 f2 r2 => k ρ2 H2 (f1.trans f2) r2⟩
  · rename_i L1 h1
    cases hm
    refine ⟨e, ρ, sl, L, _, _, he, hs, hh, h1, fun ρ1 H1 f1 r1 => ?_⟩
    refine iteF ?_
    exact k ρ1 H1 f1 r1
  · cases hm
theorem zw_or (ha : PT X a (TTZ X.K F ta)) (hb : PW X (.BoolOp .Or (b :: rest) pos) (TTZ X.K F tb)) : PW X (.BoolOp .Or (a :: b :: rest) pos) (TTZ X.K F (tOrM ta tb)) := by
  refine PW.imp (pw_or ha hb) ?_
  rintro σ H Q ⟨e, ρ, sl, L, w, L', he, hs, hh, hm, k⟩
  unfold tOrM at hm
  split at hm
  · rename_i L1 h1
    cases hm
    refine ⟨e, ρ, sl, L, _, _, he, hs, hh, h1, fun ρ1 H1 f1 r1 => ?_⟩
    refine iteT ?_
    exact k ρ1 H1 f1 r1
  · rename_i L1 h1
    refine ⟨e, ρ, sl, L, _, _, he, hs, hh, h1, fun ρ1 H1 f1 r1 => ?_⟩
    refine iteF ?_
    exact ⟨e, ρ1, sl, L1, _, _, he, f1.relSl hs, r1, hm, fun ρ2 H2 f2 r2 => k ρ2 H2 (f1.trans f2) r2⟩
  · cases hm
theorem ze_and (ha : PE X a (TZ X.K F ma)) (hb : PE X (.BoolOp .And (b :: rest) pos) (TZ X.K F mb)) : PE X (.BoolOp .And (a :: b :: rest) pos) (TZ X.K F (vAndM ma mb)) := by
  refine PE.imp (pe_andT ha hb) ?_
  rintro σ H Q ⟨e, ρ, sl, L, w, L', he, hs, hh, hm, k⟩
  unfold vAndM at hm
  split at hm
  · cases hm
  rename_i x L1 h1
  refine ⟨e, ρ, sl, L, _, _, he, hs, hh, h1, fun ρ1 H1 v f1 r1 w1 => ?_⟩
  split at hm
  · rename_i h2
    refine ⟨true, truth_ok he r1 w1 h2, ?_⟩
    refine iteT ?_
    exact ⟨e, ρ1, sl, L1, _, _, he, f1.relSl hs, r1, hm, fun ρ2 H2 v2 f2 r2 w2 => k ρ2 H2 v2 (f1.trans f2) r2 w2⟩
  · rename_i h2
    cases hm
    refine ⟨false, truth_ok he r1 w1 h2, ?_⟩
    refine iteF ?_
    exact k ρ1 H1 v f1 r1 w1
  · cases hm
theorem ze_or (ha : PE X a (TZ X.K F ma)) (hb : PE X (.BoolOp .Or (b :: rest) pos) (TZ X.K F mb)) : PE X (.BoolOp .Or (a :: b :: rest) pos) (TZ X.K F (vOrM ma mb)) := by
  refine PE.imp (pe_orT ha hb) ?_
  rintro σ H Q ⟨e, ρ, sl, L, w, L', he, hs, hh, hm, k⟩
  unfold vOrM at hm
  split at hm
  · cases hm
  rename_i x L1 h1
  refine ⟨e, ρ, sl, L, _, _, he, hs, hh, h1, fun ρ1 H1 v f1 r1 w1 => ?_⟩
  split at hm
  · rename_i h2
    cases hm
    refine ⟨true, truth_ok he r1 w1 h2, ?_⟩
    refine iteT ?_
    exact k ρ1 H1 v f1 r1 w1
  · rename_i h2
    refine ⟨false, truth_ok he r1 w1 h2, ?_⟩
    refine iteF ?_
    exact ⟨e, ρ1, sl, L1, _, _, he, f1.relSl hs, r1, hm, fun ρ2 H2 v2 f2 r2 w2 => k ρ2 H2 v2 (f1.trans f2) r2 w2⟩
  · cases hm
theorem ze_one {op : BoolOp} (h : PE X a (TZ X.K F ma)) : PE X (.BoolOp op [a] pos) (TZ X.K F ma) := pe_one h
theorem ze_not (ha : PE X a (TZ X.K F ma)) : PE X (.UnaryOp .Not a pos) (TZ X.K F (vNotM ma)) := by
  refine PE.imp (pe_notT ha) ?_
  rintro σ H Q ⟨e, ρ, sl, L, w, L', he, hs, hh, hm, k⟩
  unfold vNotM at hm
  split at hm
  · cases hm
  rename_i x L1 h1
  refine ⟨e, ρ, sl, L, _, _, he, hs, hh, h1, fun ρ1 H1 v f1 r1 w1 => ?_⟩
  split at hm
  · rename_i b' h2
    cases hm
    exact ⟨b', truth_ok he r1 w1 h2, k ρ1 H1 _ f1 r1 rfl⟩
  · cases hm
theorem ze_if (hc : PT X c (TTZ X.K F ta)) (ha : PE X a (TZ X.K F ma)) (hb : PE X b (TZ X.K F mb)) : PE X (.IfExp c a b pos) (TZ X.K F (vIfM ta ma mb)) := by
  refine PE.imp (pe_ifExp hc ha hb) ?_
  rintro σ H Q ⟨e, ρ, sl, L, w, L', he, hs, hh, hm, k⟩
  unfold vIfM at hm
  split at hm
  · rename_i L1 h1
    refine ⟨e, ρ, sl, L, _, _, he, hs, hh, h1, fun ρ1 H1 f1 r1 => ?_⟩
    refine iteT ?_
    exact ⟨e, ρ1, sl, L1, _, _, he, f1.relSl hs, r1, hm, fun ρ2 H2 v f2 r2 w2 => k ρ2 H2 v (f1.trans f2) r2 w2⟩
  · rename_i L1 h1
    refine ⟨e, ρ, sl, L, _, _, he, hs, hh, h1, fun ρ1 H1 f1 r1 => ?_⟩
    refine iteF ?_
    exact ⟨e, ρ1, sl, L1, _, _, he, f1.relSl hs, r1, hm, fun ρ2 H2 v f2 r2 w2 => k ρ2 H2 v (f1.trans f2) r2 w2⟩
  · cases hm
end

/-! ### statements -/
inductive Out where
  | nx | rt (w : W) | bk | ct
abbrev Sm := Sl → LH → Option (Out × Sl × LH)
def EndZ (K : PySem.W.Frag) (F : Fx) (e : En) (D : Ends) (o : Out) (σ : St) (H : Hp) (ρ : List Addr) : Prop := match o with
  | .nx => D.nx σ H
  | .bk => D.bk σ H
  | .ct => D.ct σ H
  | .rt w => ∀ v, RelW K F e H ρ w v → D.rt v H
def SZ (K : PySem.W.Frag) (F : Fx) (m : Sm) : TS := fun D σ H => ∃ e ρ sl L o sl' L', En.Ok F e ∧ RelSl K F e H ρ sl σ ∧ RH K F e H ρ L ∧ m sl L = some (o, sl', L') ∧
  ∀ ρ' H' σ', Fm ρ ρ' H H' → RH K F e H' ρ' L' → RelSl K F e H' ρ' sl' σ' → EndZ K F e D o σ' H' ρ'
def sNil : Sm := fun sl L => some (.nx, sl, L)
def sSeq (a b : Sm) : Sm := fun sl L => match a sl L with
  | some (.nx, sl1, L1) => b sl1 L1
  | r => r
def sRet (a : Ex) : Sm := fun sl L => match a sl L with
  | some (w, L1) => some (.rt w, sl, L1)
  | none => none
def sRetN : Sm := fun sl L => some (.rt .non, sl, L)
def sExpr (a : Ex) : Sm := fun sl L => match a sl L with
  | some (_, L1) => some (.nx, sl, L1)
  | none => none
def sIf (t : Et) (a b : Sm) : Sm := fun sl L => match t sl L with
  | some (true, L1) => a sl L1
  | some (false, L1) => b sl L1
  | none => none
def sBrk : Sm := fun sl L => some (.bk, sl, L)
def sCnt : Sm := fun sl L => some (.ct, sl, L)
def sSet (i : Nat) (a : Ex) : Sm := fun sl L => match a sl L with
  | some (w, L1) => some (.nx, sl.set i (some w), L1)
  | none => none
def sPar (i j : Nat) (a b : Ex) : Sm := fun sl L => match a sl L with
  | none => none
  | some (x, L1) => match b sl L1 with
    | some (y, L2) => some (.nx, (sl.set i (some x)).set j (some y), L2)
    | none => none
section
variable {X : Cx} {F : Fx} {ma mb : Ex} {ta tb : Et} {a b c : Expr} {pos : Pos} {st : Stmt} {sts us : List Stmt} {m1 m2 : Sm}
theorem zss_nil : PSs X [] (SZ X.K F sNil) := by
  refine PSs.imp pss_nil ?_
  rintro D σ H ⟨e, ρ, sl, L, o, sl', L', he, hs, hh, hm, k⟩
  cases hm
  exact k ρ H σ .refl hh hs
theorem zss_one (h : PS X st (SZ X.K F m1)) : PSs X [st] (SZ X.K F m1) := pss_one h
theorem zss_cons (h1 : PS X st (SZ X.K F m1)) (h2 : PSs X sts (SZ X.K F m2)) : PSs X (st :: sts) (SZ X.K F (sSeq m1 m2)) := by
  refine PSs.imp (pss_cons h1 h2) ?_
  rintro D σ H ⟨e, ρ, sl, L, o, sl', L', he, hs, hh, hm, k⟩
  unfold sSeq at hm
  split at hm
  · rename_i sl1 L1 h1
    refine ⟨e, ρ, sl, L, _, _, _, he, hs, hh, h1, fun ρ1 H1 σ1 f1 r1 s1 => ?_⟩
    exact ⟨e, ρ1, sl1, L1, _, _, _, he, s1, r1, hm, fun ρ2 H2 σ2 f2 r2 s2 => k ρ2 H2 σ2 (f1.trans f2) r2 s2⟩
  · rename_i hne
    refine ⟨e, ρ, sl, L, _, _, _, he, hs, hh, hm, fun ρ1 H1 σ1 f1 r1 s1 => ?_⟩
    have q := k ρ1 H1 σ1 f1 r1 s1
    cases o with
    | nx => exact absurd hm (hne sl' L')
    | bk => exact q
    | ct => exact q
    | rt w => exact q
theorem zs_ret (ha : PE X a (TZ X.K F ma)) : PS X (.Return (some a) pos) (SZ X.K F (sRet ma)) := by
  refine PS.imp (ps_ret ha) ?_
  rintro D σ H ⟨e, ρ, sl, L, o, sl', L', he, hs, hh, hm, k⟩
  unfold sRet at hm
  split at hm
  · rename_i w L1 h1
    cases hm
    exact ⟨e, ρ, sl, L, _, _, he, hs, hh, h1, fun ρ1 H1 v f1 r1 w1 => k ρ1 H1 σ f1 r1 (f1.relSl hs) v w1⟩
  · cases hm
theorem zs_retN : PS X (.Return none pos) (SZ X.K F sRetN) := by
  refine PS.imp ps_retN ?_
  rintro D σ H ⟨e, ρ, sl, L, o, sl', L', he, hs, hh, hm, k⟩
  cases hm
  exact k ρ H σ .refl hh hs .non rfl
theorem zs_expr (ha : PE X a (TZ X.K F ma)) (hs : swapsWith a none pos.line X.env = pure false := by rfl) : PS X (.Expr a pos) (SZ X.K F (sExpr ma)) := by
  refine PS.imp (ps_expr ha hs) ?_
  rintro D σ H ⟨e, ρ, sl, L, o, sl', L', he, hs, hh, hm, k⟩
  unfold sExpr at hm
  split at hm
  · rename_i w L1 h1
    cases hm
    exact ⟨e, ρ, sl, L, _, _, he, hs, hh, h1, fun ρ1 H1 v f1 r1 w1 => k ρ1 H1 σ f1 r1 (f1.relSl hs)⟩
  · cases hm
theorem zs_if {as bs : List Stmt} (hc : PT X c (TTZ X.K F ta)) (h1 : PSs X as (SZ X.K F m1)) (h2 : PSs X bs (SZ X.K F m2)) : PS X (.If c as bs pos) (SZ X.K F (sIf ta m1 m2)) := by
  refine PS.imp (ps_if hc h1 h2) ?_
  rintro D σ H ⟨e, ρ, sl, L, o, sl', L', he, hs, hh, hm, k⟩
  unfold sIf at hm
  split at hm
  · rename_i L1 h1
    refine ⟨e, ρ, sl, L, _, _, he, hs, hh, h1, fun ρ1 H1 f1 r1 => ?_⟩
    refine iteT ?_
    exact ⟨e, ρ1, sl, L1, _, _, _, he, f1.relSl hs, r1, hm, fun ρ2 H2 σ2 f2 r2 s2 => k ρ2 H2 σ2 (f1.trans f2) r2 s2⟩
  · rename_i L1 h1
    refine ⟨e, ρ, sl, L, _, _, he, hs, hh, h1, fun ρ1 H1 f1 r1 => ?_⟩
    refine iteF ?_
    exact ⟨e, ρ1, sl, L1, _, _, _, he, f1.relSl hs, r1, hm, fun ρ2 H2 σ2 f2 r2 s2 => k ρ2 H2 σ2 (f1.trans f2) r2 s2⟩
  · cases hm
theorem zs_pass : PS X (.Pass pos) (SZ X.K F sNil) := by
  refine PS.imp ps_pass ?_
  rintro D σ H ⟨e, ρ, sl, L, o, sl', L', he, hs, hh, hm, k⟩
  cases hm
  exact k ρ H σ .refl hh hs
theorem zs_break : PS X (.Break pos) (SZ X.K F sBrk) := by
  refine PS.imp ps_break ?_
  rintro D σ H ⟨e, ρ, sl, L, o, sl', L', he, hs, hh, hm, k⟩
  cases hm
  exact k ρ H σ .refl hh hs
theorem zs_continue : PS X (.Continue pos) (SZ X.K F sCnt) := by
  refine PS.imp ps_continue ?_
  rintro D σ H ⟨e, ρ, sl, L, o, sl', L', he, hs, hh, hm, k⟩
  cases hm
  exact k ρ H σ .refl hh hs
theorem zs_set {i : Nat} {x : Str} {pos' : Pos} (hN : X.N.Nodup) (hi : X.N[i]? = some x) (hx : Loc X.env.scope x) (ha : PE X a (TZ X.K F ma)) (hs : swapsWith a (some (.Name x pos')) pos.line X.env = pure false := by rfl) (hf : X.fn x = true ∨ X.env.scope.names.lookup x = some .local := by first | exact .inl rfl | exact .inr rfl | assumption) :
    PS X (.Assign [.Name x pos'] a pos) (SZ X.K F (sSet i ma)) := by
  refine PS.imp (ps_set hN hi hx ha hs hf) ?_
  rintro D σ H ⟨e, ρ, sl, L, o, sl', L', he, hs, hh, hm, k⟩
  unfold sSet at hm
  split at hm
  · rename_i w L1 h1
    cases hm
    exact ⟨e, ρ, sl, L, _, _, he, hs, hh, h1, fun ρ1 H1 v f1 r1 w1 => k ρ1 H1 _ f1 r1 ((f1.relSl hs).set i w1)⟩
  · cases hm
theorem zs_par {i j : Nat} {x y : Str} {px py pt : Pos} {kt k2 : Nat} {pt2 : Pos} (hc : X.calm = true) (hN : X.N.Nodup) (hi : X.N[i]? = some x) (hj : X.N[j]? = some y) (hij : i ≠ j)
    (hx : X.env.scope.names.lookup x = some .local) (hy : X.env.scope.names.lookup y = some .local) (ha : PE X a (TZ X.K F ma)) (hb : PE X b (TZ X.K F mb))
    (hw : swappedStores [.Tuple [.Name x px, .Name y py] kt pt] (.Tuple [a, b] k2 pt2) X.env = pure (some [x, y]))
    (hs : swapsWithSole [.Tuple [.Name x px, .Name y py] kt pt] (.Tuple [a, b] k2 pt2) pos.line X.env = pure false := by rfl)
    (hs1 : starEach [a, b] X.env = (false, eval a X.env) :: starEach [b] X.env := by rfl) (hs2 : starEach [b] X.env = (false, eval b X.env) :: starEach [] X.env := by rfl) :
    PS X (.Assign [.Tuple [.Name x px, .Name y py] kt pt] (.Tuple [a, b] k2 pt2) pos) (SZ X.K F (sPar i j ma mb)) := by
  refine PS.imp (ps_par hc hN hi hj hij hx hy (pa_cons ha (pa_cons hb pa_nil hs2) hs1) hw hs) ?_
  rintro D σ H ⟨e, ρ, sl, L, o, sl', L', he, hs, hh, hm, k⟩
  unfold sPar at hm
  split at hm
  · cases hm
  rename_i x L1 h1
  split at hm
  · rename_i y L2 h2
    cases hm
    refine ⟨e, ρ, sl, L, _, _, he, hs, hh, h1, fun ρ1 H1 v f1 r1 w1 => ?_⟩
    refine ⟨e, ρ1, sl, L1, _, _, he, f1.relSl hs, r1, h2, fun ρ2 H2 v2 f2 r2 w2 => ?_⟩
    exact ⟨v, v2, rfl, k ρ2 H2 _ (f1.trans f2) r2 ((((f1.trans f2).relSl hs).set i (f2.rel w1)).set j w2)⟩
  · cases hm
end
end Z

set_option Elab.async false
set_option linter.all false
set_option maxRecDepth 100000
namespace Z
open PySem PySem.Spec PyProof.Rows L2

/-! ### what is walked -/
inductive Src where
  | vals (xs : List W) | obj (n : Nat) | zip (s t : Src) | enum (s : Src)
def Src.item (L : LH) (i : Nat) : Src → Option (Option W)
  | .vals xs => some xs[i]?
  | .obj n => match L.get n with
    | some (.lst xs) => some xs[i]?
    | _ => none
  | .zip s t => match s.item L i with
    | none => none
    | some none => match t.item L i with
      | none => none
      | some _ => some none
    | some (some x) => match t.item L i with
      | none => none
      | some none => some none
      | some (some y) => some (some (.tup [x, y]))
  | .enum s => match s.item L i with
    | none => none
    | some none => some none
    | some (some x) => some (some (.tup [.int (i : Nat), x]))
structure ItOk (K : PySem.W.Frag) (F : Fx) (e : En) (src : Src) (J : It) (ρ : List Addr) (H : Hp) : Prop where
  go : ∀ (ρ' : List Addr) (H' : Hp) (L : LH) (i : Nat) (w : W), Fm ρ ρ' H H' → RH K F e H' ρ' L → src.item L i = some (some w) →
    J.go i H' ∧ ∀ x H'', J.yld i H' x H'' → Fm ρ' ρ' H' H'' ∧ RH K F e H'' ρ' L ∧ RelW K F e H'' ρ' w x
  stop : ∀ (ρ' : List Addr) (H' : Hp) (L : LH) (i : Nat), Fm ρ ρ' H H' → RH K F e H' ρ' L → src.item L i = some none → J.stop i H'
abbrev Ei := Sl → LH → Option (Src × LH)
def IZ (K : PySem.W.Frag) (F : Fx) (m : Ei) : TI := fun σ H R => ∃ e ρ sl L src L', En.Ok F e ∧ RelSl K F e H ρ sl σ ∧ RH K F e H ρ L ∧ m sl L = some (src, L') ∧
  ∀ ρ' H' J, Fm ρ ρ' H H' → RH K F e H' ρ' L' → ItOk K F e src J ρ' H' → R J H'
theorem PI.imp {X : Cx} {tg x : Expr} {t t' : TI} (h : PI X tg x t) (q : ∀ σ H R, t' σ H R → t σ H R) : PI X tg x t' := ⟨fun pins s σ H R I k => h.run pins s σ H R I (q σ H R k)⟩
theorem PI.or {X : Cx} {tg x : Expr} {t t' : TI} (h : PI X tg x t) (h' : PI X tg x t') : PI X tg x (fun σ H R => t σ H R ∨ t' σ H R) := ⟨fun pins s σ H R I k => by
  rcases k with k | k
  · exact h.run pins s σ H R I k
  · exact h'.run pins s σ H R I k⟩
/-- a value that is walked: a tuple, a list -/
def srcOf (L : LH) : W → Option Src
  | .tup xs => some (.vals xs)
  | .ref n => match L.get n with
    | some (.lst _) => some (.obj n)
    | _ => none
  | _ => none
def iVal (a : Ex) : Ei := fun sl L => match a sl L with
  | none => none
  | some (x, L1) => match srcOf L1 x with
    | some s => some (s, L1)
    | none => none
section
variable {K : PySem.W.Frag} {F : Fx} {e : En} {H H' : Hp} {ρ ρ' : List Addr} {L L' : LH}
/-- each tracked list, tuple is one row alone -/
structure Sole (K : PySem.W.Frag) (H : Hp) (ρ : List Addr) : Prop where
  x : True
theorem it_tup {a : Addr} {xs : List V} {ws : List W} (hs : SqT K H a xs) (r : RelWs K F e H ρ ws xs) : ItOk K F e (.vals ws) (Itt K a) ρ H := by
  refine ⟨fun ρ' H' L i w f R h => ?_, fun ρ' H' L i f R h => ?_⟩
  · have h' : ws[i]? = some w := by simpa [Src.item] using h
    obtain ⟨v, h1, h2⟩ := (f.rels r).get h'
    refine ⟨⟨xs, v, f.sqT _ _ hs, h1⟩, ?_⟩
    rintro x H'' ⟨rfl, q⟩
    have q' := q xs (f.sqT _ _ hs)
    rw [h1] at q'; cases q'
    exact ⟨.refl, R, h2⟩
  · have h' : ws[i]? = none := by simpa [Src.item] using h
    refine ⟨xs, f.sqT _ _ hs, ?_⟩
    rw [(r).length]
    exact List.getElem?_eq_none_iff.mp h'
theorem it_lst {n : Nat} {a : Addr} (ha : ρ[n]? = some a) : ItOk K F e (.obj n) (Itl K a) ρ H := by
  refine ⟨fun ρ' H' L i w f R h => ?_, fun ρ' H' L i f R h => ?_⟩
  · unfold Src.item at h
    split at h
    · rename_i ws hl
      have h' : ws[i]? = some w := by simpa using h
      obtain ⟨a', xs, h1, h2, h3⟩ := R.lst hl
      rw [f.pre n a ha] at h1; cases h1
      obtain ⟨v, h4, h5⟩ := h3.get h'
      refine ⟨⟨xs, v, SqL.of h2, h4⟩, ?_⟩
      rintro x H'' ⟨rfl, q⟩
      have q' := q xs (SqL.of h2)
      rw [h4] at q'; cases q'
      exact ⟨.refl, R, h5⟩
    · cases h
  · unfold Src.item at h
    split at h
    · rename_i ws hl
      have h' : ws[i]? = none := by simpa using h
      obtain ⟨a', xs, h1, h2, h3⟩ := R.lst hl
      rw [f.pre n a ha] at h1; cases h1
      refine ⟨xs, SqL.of h2, ?_⟩
      rw [h3.length]
      exact List.getElem?_eq_none_iff.mp h'
    · cases h
theorem it_rng {lo : Int} {n : Nat} : ItOk K F e (.vals ((List.range n).map fun i => W.int (lo + (i : Nat)))) (Itr lo n) ρ H := by
  refine ⟨fun ρ' H' L i w f R h => ?_, fun ρ' H' L i f R h => ?_⟩
  · have h' : ((List.range n).map fun i => W.int (lo + (i : Nat)))[i]? = some w := by simpa [Src.item] using h
    rw [List.getElem?_map] at h'
    cases q : (List.range n)[i]? with
    | none => rw [q] at h'; cases h'
    | some j =>
      rw [q] at h'
      have hj := List.getElem?_eq_some_iff.mp q
      obtain ⟨hl, e1⟩ := hj
      rw [List.getElem_range] at e1
      rw [List.length_range] at hl
      subst e1
      have : W.int (lo + (i : Nat)) = w := Option.some.inj h'
      subst this
      refine ⟨hl, ?_⟩
      rintro x H'' ⟨rfl, rfl⟩
      exact ⟨.refl, R, rfl⟩
  · have h' : ((List.range n).map fun i => W.int (lo + (i : Nat)))[i]? = none := by simpa [Src.item] using h
    have := List.getElem?_eq_none_iff.mp h'
    show n ≤ i
    simpa using this
theorem it_zip {m n : Nat} {a b : Addr} (ha : ρ[m]? = some a) (hb : ρ[n]? = some b) : ItOk K F e (.zip (.obj m) (.obj n)) (Itz K a b) ρ H := by
  have A := it_lst (K := K) (F := F) (e := e) (H := H) ha
  have B := it_lst (K := K) (F := F) (e := e) (H := H) hb
  refine ⟨fun ρ' H' L i w f R h => ?_, fun ρ' H' L i f R h => ?_⟩
  · simp only [Src.item] at h
    split at h
    · cases h
    · split at h <;> cases h
    rename_i x hx
    split at h
    · cases h
    · cases h
    rename_i y hy
    have : W.tup [x, y] = w := Option.some.inj (Option.some.inj h)
    subst this
    obtain ⟨⟨xs, vx, s1, g1⟩, q1⟩ := A.go ρ' H' L i x f R hx
    obtain ⟨⟨ys, vy, s2, g2⟩, q2⟩ := B.go ρ' H' L i y f R hy
    refine ⟨⟨xs, ys, vx, vy, s1, s2, g1, g2⟩, ?_⟩
    rintro v H'' ⟨T, x', y', rfl, hT, rfl, e1, e2⟩
    obtain ⟨_, _, r1⟩ := q1 x' H' ⟨rfl, e1⟩
    obtain ⟨_, _, r2⟩ := q2 y' H' ⟨rfl, e2⟩
    obtain ⟨f3, r3, w3⟩ := new_tup R hT (.cons r1 (.cons r2 .nil))
    exact ⟨f3, r3, w3⟩
  · simp only [Src.item] at h
    split at h
    · cases h
    · rename_i hx
      obtain ⟨xs, s1, l1⟩ := A.stop ρ' H' L i f R hx
      split at h
      · cases h
      rename_i o ho
      cases o with
      | none =>
        obtain ⟨ys, s2, l2⟩ := B.stop ρ' H' L i f R ho
        exact ⟨xs, ys, s1, s2, .inl l1⟩
      | some y =>
        obtain ⟨⟨ys, vy, s2, g2⟩, q2⟩ := B.go ρ' H' L i y f R ho
        exact ⟨xs, ys, s1, s2, .inl l1⟩
    · rename_i x hx
      split at h
      · cases h
      · rename_i hy
        obtain ⟨⟨xs, vx, s1, g1⟩, q1⟩ := A.go ρ' H' L i x f R hx
        obtain ⟨ys, s2, l2⟩ := B.stop ρ' H' L i f R hy
        exact ⟨xs, ys, s1, s2, .inr l2⟩
      · cases h
theorem it_enum {m : Nat} {a : Addr} (ha : ρ[m]? = some a) : ItOk K F e (.enum (.obj m)) (Ite K a) ρ H := by
  have A := it_lst (K := K) (F := F) (e := e) (H := H) ha
  refine ⟨fun ρ' H' L i w f R h => ?_, fun ρ' H' L i f R h => ?_⟩
  · simp only [Src.item] at h
    split at h
    · cases h
    · cases h
    rename_i x hx
    have : W.tup [.int (i : Nat), x] = w := Option.some.inj (Option.some.inj h)
    subst this
    obtain ⟨⟨xs, vx, s1, g1⟩, q1⟩ := A.go ρ' H' L i x f R hx
    refine ⟨⟨xs, vx, s1, g1⟩, ?_⟩
    rintro v H'' ⟨T, x', rfl, hT, rfl, e1⟩
    obtain ⟨_, _, r1⟩ := q1 x' H' ⟨rfl, e1⟩
    obtain ⟨f3, r3, w3⟩ := new_tup R hT (.cons (w := .int (i : Nat)) (v := .int (i : Nat)) rfl (.cons r1 .nil))
    exact ⟨f3, r3, w3⟩
  · simp only [Src.item] at h
    split at h
    · cases h
    · rename_i hx
      exact A.stop ρ' H' L i f R hx
    · cases h
end
section
variable {X : Cx} {F : Fx} {ma mb : Ex} {ta tb : Et} {a b c tg : Expr} {pos p : Pos}
/-- for .. in a list or a tuple -/
theorem zi_val (ha : PE X a (TZ X.K F ma)) : PI X tg a (IZ X.K F (iVal ma)) := by
  refine PI.imp (PI.or (pi_list ha) (pi_tup ha)) ?_
  rintro σ H R ⟨e, ρ, sl, L, src, L', he, hs, hh, hm, k⟩
  unfold iVal at hm
  split at hm
  · cases hm
  rename_i x L1 h1
  split at hm
  · rename_i s hs'
    cases hm
    cases x with
    | tup ws =>
      cases hs'
      refine .inr ⟨e, ρ, sl, L, _, _, he, hs, hh, h1, fun ρ1 H1 v f1 r1 w1 => ?_⟩
      unfold RelW at w1
      obtain ⟨a, xs, rfl, s1, q⟩ := w1
      exact ⟨a, rfl, ⟨xs, s1⟩, k ρ1 H1 _ f1 r1 (it_tup s1 q)⟩
    | ref n =>
      simp only [srcOf] at hs'
      split at hs'
      · rename_i ws hl
        cases hs'
        refine .inl ⟨e, ρ, sl, L, _, _, he, hs, hh, h1, fun ρ1 H1 v f1 r1 w1 => ?_⟩
        unfold RelW at w1
        obtain ⟨a, rfl, ha⟩ := w1
        obtain ⟨a', xs, h2, h3, h4⟩ := r1.lst hl
        rw [ha] at h2; cases h2
        exact ⟨a, rfl, ⟨xs, SqL.of h3⟩, k ρ1 H1 _ f1 r1 (it_lst ha)⟩
      · cases hs'
    | non => cases hs'
    | bl _ => cases hs'
    | int _ => cases hs'
    | ia _ => cases hs'
    | str _ => cases hs'
    | fz _ => cases hs'
  · cases hm
def rngOk (i : Int) : Bool := decide (-1000000 ≤ i) && decide (i ≤ 1000000)
theorem rngOk_of {i : Int} (h : rngOk i = true) : -(2 ^ 62) ≤ i ∧ i < 2 ^ 62 := by
  unfold rngOk at h
  rw [Bool.and_eq_true, decide_eq_true_eq, decide_eq_true_eq] at h
  omega
def iRange1 (a : Ex) : Ei := fun sl L => match a sl L with
  | some (.int j, L1) => cond (rngOk j) (some (.vals ((List.range j.toNat).map fun i => W.int (0 + (i : Nat))), L1)) none
  | _ => none
def iRange2 (a b : Ex) : Ei := fun sl L => match a sl L with
  | some (.int i, L1) => match b sl L1 with
    | some (.int j, L2) => cond (rngOk i && rngOk j) (some (.vals ((List.range (j - i).toNat).map fun k => W.int (i + (k : Nat))), L2)) none
    | _ => none
  | _ => none
theorem zi_range1 (hg : Gl X "range") (hm : X.mg "range" = none) (ha : PE X a (TZ X.K F ma)) (hs : starEach [a] X.env = [(false, eval a X.env)] := by rfl) : PI X tg (.Call (.Name "range" p) [a] [] pos) (IZ X.K F (iRange1 ma)) := by
  refine PI.imp (pi_range1 hg hm (pa_cons ha pa_nil hs) hs) ?_
  rintro σ H R ⟨e, ρ, sl, L, src, L', he, hs, hh, hm, k⟩
  unfold iRange1 at hm
  split at hm
  · rename_i j L1 h1
    cases q : rngOk j with
    | false => rw [q] at hm; cases hm
    | true =>
      rw [q] at hm
      cases hm
      refine ⟨e, ρ, sl, L, _, _, he, hs, hh, h1, fun ρ1 H1 v f1 r1 w1 => ?_⟩
      cases w1
      exact ⟨j, rfl, (rngOk_of q).1, (rngOk_of q).2, k ρ1 H1 _ f1 r1 it_rng⟩
  · cases hm
theorem zi_range2 (hg : Gl X "range") (hm : X.mg "range" = none) (ha : PE X a (TZ X.K F ma)) (hb : PE X b (TZ X.K F mb)) (hs : starEach [a, b] X.env = [(false, eval a X.env), (false, eval b X.env)] := by rfl) (hs2 : starEach [b] X.env = [(false, eval b X.env)] := by rfl) : PI X tg (.Call (.Name "range" p) [a, b] [] pos) (IZ X.K F (iRange2 ma mb)) := by
  refine PI.imp (pi_range2 hg hm (pa_cons ha (pa_cons hb pa_nil hs2) (hs.trans (by rw [hs2]))) hs hs2) ?_
  rintro σ H R ⟨e, ρ, sl, L, src, L', he, hs, hh, hm, k⟩
  unfold iRange2 at hm
  split at hm
  · rename_i i L1 h1
    split at hm
    · rename_i j L2 h2
      cases q : (rngOk i && rngOk j) with
      | false => rw [q] at hm; cases hm
      | true =>
        rw [q] at hm
        cases hm
        rw [Bool.and_eq_true] at q
        refine ⟨e, ρ, sl, L, _, _, he, hs, hh, h1, fun ρ1 H1 v f1 r1 w1 => ?_⟩
        cases w1
        refine ⟨e, ρ1, sl, L1, _, _, he, f1.relSl hs, r1, h2, fun ρ2 H2 v2 f2 r2 w2 => ?_⟩
        cases w2
        exact ⟨i, j, rfl, ⟨(rngOk_of q.1).1, (rngOk_of q.1).2, (rngOk_of q.2).1, (rngOk_of q.2).2⟩, k ρ2 H2 _ (f1.trans f2) r2 it_rng⟩
    · cases hm
  · cases hm
def isList (L : LH) : W → Option Nat
  | .ref n => match L.get n with
    | some (.lst _) => some n
    | _ => none
  | _ => none
theorem isList_of {L : LH} : ∀ {w : W} {n : Nat}, isList L w = some n → w = .ref n ∧ ∃ ws, L.get n = some (.lst ws)
  | .ref m, n, h => by
    simp only [isList] at h
    split at h
    · rename_i ws q
      cases h
      exact ⟨rfl, ws, q⟩
    · cases h
def iZipM (a b : Ex) : Ei := fun sl L => match a sl L with
  | none => none
  | some (x, L1) => match b sl L1 with
    | none => none
    | some (y, L2) => match isList L2 x, isList L2 y with
      | some m, some n => some (.zip (.obj m) (.obj n), L2)
      | _, _ => none
def iEnumM (a : Ex) : Ei := fun sl L => match a sl L with
  | none => none
  | some (x, L1) => match isList L1 x with
      | some m => some (.enum (.obj m), L1)
      | _ => none
theorem zi_zip {elts : List Expr} {kk : Nat} {tpos : Pos} (hg : Gl X "zip") (hm : X.mg "zip" = none) (ha : PE X a (TZ X.K F ma)) (hb : PE X b (TZ X.K F mb))
    (hs : starEach [a, b] X.env = (false, eval a X.env) :: starEach [b] X.env := by rfl) (hs2 : starEach [b] X.env = (false, eval b X.env) :: starEach [] X.env := by rfl) (hpl : (backTo pos (starEach [b] X.env)).any (·.1) = false := by rfl) :
    PI X (.Tuple elts kk tpos) (.Call (.Name "zip" p) [a, b] [] pos) (IZ X.K F (iZipM ma mb)) := by
  refine PI.imp (pi_zip hg hm (pa_cons ha (pa_cons hb pa_nil hs2) hs) hs hpl) ?_
  rintro σ H R ⟨e, ρ, sl, L, src, L', he, hs, hh, hm, k⟩
  unfold iZipM at hm
  split at hm
  · cases hm
  rename_i x L1 h1
  split at hm
  · cases hm
  rename_i y L2 h2
  split at hm
  · rename_i m n hx hy
    cases hm
    obtain ⟨rfl, wx, gx⟩ := isList_of hx
    obtain ⟨rfl, wy, gy⟩ := isList_of hy
    refine ⟨e, ρ, sl, L, _, _, he, hs, hh, h1, fun ρ1 H1 v f1 r1 w1 => ?_⟩
    refine ⟨e, ρ1, sl, L1, _, _, he, f1.relSl hs, r1, h2, fun ρ2 H2 v2 f2 r2 w2 => ?_⟩
    have w1' := f2.rel w1
    unfold RelW at w1' w2
    obtain ⟨a, rfl, ha⟩ := w1'
    obtain ⟨b, rfl, hb⟩ := w2
    obtain ⟨a', xs, p1, p2, p3⟩ := r2.lst gx
    rw [ha] at p1; cases p1
    obtain ⟨b', ys, q1, q2, q3⟩ := r2.lst gy
    rw [hb] at q1; cases q1
    exact ⟨a, b, xs, ys, rfl, SqL.of p2, SqL.of q2, k ρ2 H2 _ (f1.trans f2) r2 (it_zip ha hb)⟩
  · cases hm
theorem zi_enum {elts : List Expr} {kk : Nat} {tpos : Pos} (hg : Gl X "enumerate") (hm : X.mg "enumerate" = none) (ha : PE X a (TZ X.K F ma)) (hs : starEach [a] X.env = [(false, eval a X.env)] := by rfl) :
    PI X (.Tuple elts kk tpos) (.Call (.Name "enumerate" p) [a] [] pos) (IZ X.K F (iEnumM ma)) := by
  refine PI.imp (pi_enum hg hm (pa_cons ha pa_nil hs) hs) ?_
  rintro σ H R ⟨e, ρ, sl, L, src, L', he, hs, hh, hm, k⟩
  unfold iEnumM at hm
  split at hm
  · cases hm
  rename_i x L1 h1
  split at hm
  · rename_i m hx
    cases hm
    obtain ⟨rfl, wx, gx⟩ := isList_of hx
    refine ⟨e, ρ, sl, L, _, _, he, hs, hh, h1, fun ρ1 H1 v f1 r1 w1 => ?_⟩
    unfold RelW at w1
    obtain ⟨a, rfl, ha⟩ := w1
    obtain ⟨a', xs, p1, p2, p3⟩ := r1.lst gx
    rw [ha] at p1; cases p1
    exact ⟨a, xs, rfl, SqL.of p2, k ρ1 H1 _ f1 r1 (it_enum ha)⟩
  · cases hm
end

/-! ### targets -/
abbrev Eg := W → Sl → LH → Option (Sl × LH)
abbrev Egs := List W → Sl → LH → Option (Sl × LH)
theorem wipe_set {σ : St} {i : Nat} {x : Option V} : ∀ {T : List Nat}, i ∈ T → wipe (σ.set i x) T = wipe σ T
  | [], h => by simp at h
  | t :: T, h => by
    unfold wipe
    by_cases ht : i = t
    · subst ht
      by_cases hT : i ∈ T
      · rw [wipe_set hT]
      · have : ∀ (U : List Nat) (τ : St), i ∉ U → wipe (τ.set i x) U = (wipe τ U).set i x := by
          intro U
          induction U with
          | nil => intro τ _; rfl
          | cons u U ih =>
            intro τ hu
            have h1 : u ≠ i := fun e => hu (by rw [e]; exact List.mem_cons_self)
            have h2 : i ∉ U := fun m => hu (List.mem_cons_of_mem _ m)
            unfold wipe
            rw [ih τ h2, List.set_comm _ _ h1.symm]
        rw [this T σ hT, List.set_set]
    · have hT : i ∈ T := by
        rcases List.mem_cons.mp h with e | m
        · exact absurd e ht
        · exact m
      rw [wipe_set hT]
theorem wipe_none (σ : St) {i : Nat} : ∀ {T : List Nat}, i ∈ T → i < σ.length → (wipe σ T)[i]? = some none
  | [], h, _ => by simp at h
  | t :: T, h, hl => by
    unfold wipe
    by_cases ht : t = i
    · subst ht
      exact List.getElem?_set_self (by rw [wipe_length]; exact hl)
    · have hT : i ∈ T := by
        rcases List.mem_cons.mp h with e | m
        · exact absurd e.symm ht
        · exact m
      rw [List.getElem?_set_ne ht]
      exact wipe_none σ hT hl
theorem wipe_wipe (σ : St) (T : List Nat) : wipe (wipe σ T) T = wipe σ T := by
  apply List.ext_getElem?
  intro i
  by_cases hT : i ∈ T
  · by_cases hl : i < σ.length
    · rw [wipe_none _ hT (by rw [wipe_length]; exact hl), wipe_none _ hT hl]
    · rw [List.getElem?_eq_none_iff.mpr (by rw [wipe_length, wipe_length]; omega), List.getElem?_eq_none_iff.mpr (by rw [wipe_length]; omega)]
  · rw [wipe_out hT]
/-- T: the slots that the target may store -/
def GZ (K : PySem.W.Frag) (F : Fx) (T : List Nat) (m : Eg) : TG := fun v σ H Q => ∃ e ρ sl L w sl' L', En.Ok F e ∧ RelSl K F e H ρ sl σ ∧ RH K F e H ρ L ∧ RelW K F e H ρ w v ∧ m w sl L = some (sl', L') ∧
  ∀ ρ' H' σ', Fm ρ ρ' H H' → RH K F e H' ρ' L' → RelSl K F e H' ρ' sl' σ' → wipe σ' T = wipe σ T → Q σ' H'
def GZs (K : PySem.W.Frag) (F : Fx) (T : List Nat) (m : Egs) : TGs := fun vs σ H Q => ∃ e ρ sl L ws sl' L', En.Ok F e ∧ RelSl K F e H ρ sl σ ∧ RH K F e H ρ L ∧ RelWs K F e H ρ ws vs ∧ m ws sl L = some (sl', L') ∧
  ∀ ρ' H' σ', Fm ρ ρ' H H' → RH K F e H' ρ' L' → RelSl K F e H' ρ' sl' σ' → wipe σ' T = wipe σ T → Q σ' H'
theorem PG.imp {X : Cx} {x : Expr} {t t' : TG} (h : PG X x t) (q : ∀ v σ H Q, t' v σ H Q → t v σ H Q) : PG X x t' := ⟨fun pins s σ H v u Q I r k => h.run pins s σ H v u Q I r (q v σ H Q k)⟩
theorem PG.or {X : Cx} {x : Expr} {t t' : TG} (h : PG X x t) (h' : PG X x t') : PG X x (fun v σ H Q => t v σ H Q ∨ t' v σ H Q) := ⟨fun pins s σ H v u Q I r k => by
  rcases k with k | k
  · exact h.run pins s σ H v u Q I r k
  · exact h'.run pins s σ H v u Q I r k⟩
theorem PGs.imp {X : Cx} {x : List Expr} {t t' : TGs} (h : PGs X x t) (q : ∀ v σ H Q, t' v σ H Q → t v σ H Q) : PGs X x t' := ⟨fun pins s σ H v u Q I r k => h.run pins s σ H v u Q I r (q v σ H Q k)⟩
def gSet (i : Nat) : Eg := fun w sl L => some (sl.set i (some w), L)
def gNilM : Egs := fun ws sl L => match ws with
  | [] => some (sl, L)
  | _ => none
def gConsM (g : Eg) (r : Egs) : Egs := fun ws sl L => match ws with
  | [] => none
  | w :: ws => match g w sl L with
    | some (sl1, L1) => r ws sl1 L1
    | none => none
def gTupM (n : Nat) (gs : Egs) : Eg := fun w sl L => match w with
  | .tup ws => cond (Nat.beq ws.length n) (gs ws sl L) none
  | .ref i => match L.get i with
    | some (.lst ws) => cond (Nat.beq ws.length n) (gs ws sl L) none
    | _ => none
  | _ => none
section
variable {X : Cx} {F : Fx} {T : List Nat} {g : Eg} {gs : Egs} {a b c tg : Expr} {es : List Expr} {pos p : Pos}
theorem zg_name {i : Nat} {x : Str} (hN : X.N.Nodup) (hi : X.N[i]? = some x) (hx : Loc X.env.scope x) (hT : i ∈ T := by decide) (hf : X.fn x = true ∨ X.env.scope.names.lookup x = some .local := by first | exact .inl rfl | exact .inr rfl | assumption) : PG X (.Name x pos) (GZ X.K F T (gSet i)) := by
  refine PG.imp (pg_name hN hi hx hf) ?_
  rintro v σ H Q ⟨e, ρ, sl, L, w, sl', L', he, hs, hh, hw, hm, k⟩
  cases hm
  exact k ρ H _ .refl hh (hs.set i hw) (wipe_set hT)
theorem zgs_nil : PGs X [] (GZs X.K F T gNilM) := by
  refine PGs.imp pgs_nil ?_
  rintro v σ H Q ⟨e, ρ, sl, L, ws, sl', L', he, hs, hh, hw, hm, k⟩
  unfold gNilM at hm
  split at hm
  · cases hm
    unfold RelWs at hw
    exact ⟨hw, k ρ H σ .refl hh hs rfl⟩
  · cases hm
theorem zgs_cons (h1 : PG X a (GZ X.K F T g)) (h2 : PGs X es (GZs X.K F T gs)) (hs : (assignEach (a :: es) X.env).map (·.2) = assign a X.env :: (assignEach es X.env).map (·.2) := by rfl) : PGs X (a :: es) (GZs X.K F T (gConsM g gs)) := by
  refine PGs.imp (pgs_cons h1 h2 hs) ?_
  rintro v σ H Q ⟨e, ρ, sl, L, ws, sl', L', he, hs, hh, hw, hm, k⟩
  unfold gConsM at hm
  split at hm
  · cases hm
  rename_i w ws
  split at hm
  · rename_i sl1 L1 q1
    obtain ⟨v, vr, rfl, r1, r2⟩ := hw.uncons
    refine ⟨v, vr, rfl, e, ρ, sl, L, w, _, _, he, hs, hh, r1, q1, fun ρ1 H1 σ1 f1 h1 s1 e1 => ?_⟩
    exact ⟨e, ρ1, sl1, L1, ws, _, _, he, s1, h1, f1.rels r2, hm, fun ρ2 H2 σ2 f2 h2 s2 e2 => k ρ2 H2 σ2 (f1.trans f2) h2 s2 (e2.trans e1)⟩
  · cases hm
theorem zg_tup {kk n : Nat} (hc : X.calm = true) (h : PGs X es (GZs X.K F T gs)) (hn : (assignEach es X.env).length = n := by rfl) (hst : (assignEach es X.env).findIdx? (·.1) = none := by rfl) : PG X (.Tuple es kk pos) (GZ X.K F T (gTupM n gs)) := by
  refine PG.imp (PG.or (pg_tup hc h hn hst) (pg_unl hc h hn hst)) ?_
  rintro v σ H Q ⟨e, ρ, sl, L, w, sl', L', he, hs, hh, hw, hm, k⟩
  unfold gTupM at hm
  split at hm
  · rename_i ws
    cases q : Nat.beq ws.length n with
    | false => rw [q] at hm; cases hm
    | true =>
      rw [q] at hm
      unfold RelW at hw
      obtain ⟨a, xs, rfl, s1, r1⟩ := hw
      refine .inl ⟨a, xs, rfl, s1, ?_, ?_⟩
      · rw [r1.length]; exact Nat.eq_of_beq_eq_true q
      · exact ⟨e, ρ, sl, L, ws, _, _, he, hs, hh, r1, hm, k⟩
  · rename_i i
    split at hm
    · rename_i ws hl
      cases q : Nat.beq ws.length n with
      | false => rw [q] at hm; cases hm
      | true =>
        rw [q] at hm
        unfold RelW at hw
        obtain ⟨a, rfl, ha⟩ := hw
        obtain ⟨a', xs, p1, p2, p3⟩ := hh.lst hl
        rw [ha] at p1; cases p1
        refine .inr ⟨a, xs, rfl, SqL.of p2, ?_, ?_⟩
        · rw [p3.length]; exact Nat.eq_of_beq_eq_true q
        · exact ⟨e, ρ, sl, L, ws, _, _, he, hs, hh, p3, hm, k⟩
    · cases hm
  · cases hm
/-- target = value -/
def sAsg (a : Ex) (g : Eg) : Sm := fun sl L => match a sl L with
  | none => none
  | some (w, L1) => match g w sl L1 with
    | some (sl', L2) => some (.nx, sl', L2)
    | none => none
theorem zs_asg {ma : Ex} (ha : PE X a (TZ X.K F ma)) (hg : PG X tg (GZ X.K F T g)) (hs : swapsWithSole [tg] a pos.line X.env = pure false := by rfl) (hw : swappedStores [tg] a X.env = pure none := by rfl)
    (h1 : (assignEach [tg] X.env).map (·.2) = [assign tg X.env] := by rfl) : PS X (.Assign [tg] a pos) (SZ X.K F (sAsg ma g)) := by
  refine PS.imp (ps_asg ha hg hs hw h1) ?_
  rintro D σ H ⟨e, ρ, sl, L, o, sl', L', he, hs, hh, hm, k⟩
  unfold sAsg at hm
  split at hm
  · cases hm
  rename_i w L1 h1
  split at hm
  · rename_i sl2 L2 h2
    cases hm
    refine ⟨e, ρ, sl, L, _, _, he, hs, hh, h1, fun ρ1 H1 v f1 r1 w1 => ?_⟩
    exact ⟨e, ρ1, sl, L1, _, _, _, he, f1.relSl hs, r1, w1, h2, fun ρ2 H2 σ2 f2 h2 s2 _ => k ρ2 H2 σ2 (f1.trans f2) h2 s2⟩
  · cases hm
end

/-! ### for -/
def forL (src : Src) (g : Eg) (b : Sm) : Nat → Nat → Sl → LH → Option (Out × Sl × LH)
  | 0, _, _, _ => none
  | f + 1, i, sl, L => match src.item L i with
    | none => none
    | some none => some (.nx, sl, L)
    | some (some w) => match g w sl L with
      | none => none
      | some (sl1, L1) => match b sl1 L1 with
        | some (.nx, sl2, L2) => forL src g b f (i + 1) sl2 L2
        | some (.ct, sl2, L2) => forL src g b f (i + 1) sl2 L2
        | some (.bk, sl2, L2) => some (.nx, sl2, L2)
        | some (.rt w, sl2, L2) => some (.rt w, sl2, L2)
        | none => none
def lid : Nat := 100000
def sFor (m : Ei) (g : Eg) (b : Sm) : Sm := fun sl L => match m sl L with
  | none => none
  | some (src, L1) => forL src g b lid 0 sl L1
section
variable {X : Cx} {F : Fx} {T : List Nat} {mi : Ei} {g : Eg} {mb : Sm} {iter tg : Expr} {body : List Stmt} {pos : Pos}
theorem zs_for (hp : PassesOwn (model X.prog X.w) X.A X.env X.xe) (hc : X.calm = true) (hi : PI X tg iter (IZ X.K F mi)) (hg : PG X tg (GZ X.K F T g)) (hb : PSs X body (SZ X.K F mb)) (hs : ∀ x, foldedSetIterable iter X.env x = pure x := by intro _; rfl) : PS X (.For tg iter body [] pos) (SZ X.K F (sFor mi g mb)) := by
  refine PS.imp (ps_for hp hc hi hg hb hs) ?_
  rintro D σ H ⟨e, ρ, sl, L, o, sl', L', he, hs, hh, hm, k⟩
  unfold sFor at hm
  split at hm
  · cases hm
  rename_i src L1 h1
  refine ⟨e, ρ, sl, L, _, _, he, hs, hh, h1, fun ρ1 H1 J f1 r1 ok => ?_⟩
  refine ⟨fun i m σ2 H2 => ∃ ρ2 sl2 L2, Fm ρ1 ρ2 H1 H2 ∧ RelSl X.K F e H2 ρ2 sl2 σ2 ∧ RH X.K F e H2 ρ2 L2 ∧ forL src g mb m i sl2 L2 = some (o, sl', L'), ⟨lid, ρ1, sl, L1, .refl, f1.relSl hs, r1, hm⟩, ?_⟩
  rintro i m σ2 H2 ⟨ρ2, sl2, L2, f2, s2, r2, hr⟩
  cases m with
  | zero => cases hr
  | succ m =>
    unfold forL at hr
    split at hr
    · cases hr
    · rename_i hx
      cases hr
      exact .inl ⟨ok.stop ρ2 H2 _ i f2 r2 hx, k ρ2 H2 σ2 (f1.trans f2) r2 s2⟩
    rename_i w hx
    obtain ⟨g1, g2⟩ := ok.go ρ2 H2 L2 i w f2 r2 hx
    refine .inr ⟨g1, fun σ' H' => ∃ ρ' sl3 L3, Fm ρ1 ρ' H1 H' ∧ RelSl X.K F e H' ρ' sl3 σ' ∧ RH X.K F e H' ρ' L3 ∧ forL src g mb m (i + 1) sl3 L3 = some (o, sl', L'), fun σ' H' ⟨ρ', sl3, L3, a1, a2, a3, a4⟩ => ⟨m, by omega, ρ', sl3, L3, a1, a2, a3, a4⟩, fun x H3 hy => ?_⟩
    obtain ⟨f3, r3, w3⟩ := g2 x H3 hy
    split at hr
    · cases hr
    rename_i sl4 L4 hg4
    refine ⟨e, ρ2, sl2, L2, w, _, _, he, f3.relSl s2, r3, w3, hg4, fun ρ4 H4 σ4 f4 r4 s4 _ => ?_⟩
    have fA : Fm ρ1 ρ4 H1 H4 := (f2.trans f3).trans f4
    split at hr
    · rename_i sl5 L5 hb5
      exact ⟨e, ρ4, sl4, L4, _, _, _, he, s4, r4, hb5, fun ρ5 H5 σ5 f5 r5 s5 => ⟨ρ5, sl5, L5, fA.trans f5, s5, r5, hr⟩⟩
    · rename_i sl5 L5 hb5
      exact ⟨e, ρ4, sl4, L4, _, _, _, he, s4, r4, hb5, fun ρ5 H5 σ5 f5 r5 s5 => ⟨ρ5, sl5, L5, fA.trans f5, s5, r5, hr⟩⟩
    · rename_i sl5 L5 hb5
      cases hr
      exact ⟨e, ρ4, sl4, L4, _, _, _, he, s4, r4, hb5, fun ρ5 H5 σ5 f5 r5 s5 => k ρ5 H5 σ5 (f1.trans (fA.trans f5)) r5 s5⟩
    · rename_i w5 sl5 L5 hb5
      cases hr
      exact ⟨e, ρ4, sl4, L4, _, _, _, he, s4, r4, hb5, fun ρ5 H5 σ5 f5 r5 s5 => k ρ5 H5 σ5 (f1.trans (fA.trans f5)) r5 s5⟩
    · cases hr
end
/-! ### while -/
def whileL (t : Et) (b : Sm) : Nat → Sl → LH → Option (Out × Sl × LH)
  | 0, _, _ => none
  | f + 1, sl, L => match t sl L with
    | none => none
    | some (false, L1) => some (.nx, sl, L1)
    | some (true, L1) => match b sl L1 with
      | some (.nx, sl2, L2) => whileL t b f sl2 L2
      | some (.ct, sl2, L2) => whileL t b f sl2 L2
      | some (.bk, sl2, L2) => some (.nx, sl2, L2)
      | some (.rt w, sl2, L2) => some (.rt w, sl2, L2)
      | none => none
def sWhile (t : Et) (b : Sm) : Sm := fun sl L => whileL t b lid sl L
section
variable {X : Cx} {F : Fx} {t : Et} {mb : Sm} {c : Expr} {body : List Stmt} {pos : Pos}
theorem zs_while (hp : PassesOwn (model X.prog X.w) X.A X.env X.xe) (hc : PT X c (TTZ X.K F t)) (hb : PSs X body (SZ X.K F mb)) : PS X (.While c body [] pos) (SZ X.K F (sWhile t mb)) := by
  refine PS.imp (ps_while hp hc hb) ?_
  rintro D σ H ⟨e, ρ, sl, L, o, sl', L', he, hs, hh, hm, k⟩
  refine ⟨fun m σ2 H2 => ∃ ρ2 sl2 L2, Fm ρ ρ2 H H2 ∧ RelSl X.K F e H2 ρ2 sl2 σ2 ∧ RH X.K F e H2 ρ2 L2 ∧ whileL t mb m sl2 L2 = some (o, sl', L'), ⟨lid, ρ, sl, L, .refl, hs, hh, hm⟩, ?_⟩
  rintro m σ2 H2 ⟨ρ2, sl2, L2, f2, s2, r2, hr⟩
  cases m with
  | zero => cases hr
  | succ m =>
    unfold whileL at hr
    split at hr
    · cases hr
    · rename_i L3 h3
      cases hr
      refine ⟨e, ρ2, _, L2, _, _, he, s2, r2, h3, fun ρ3 H3 f3 r3 => ?_⟩
      refine iteF ?_
      exact k ρ3 H3 σ2 (f2.trans f3) r3 (f3.relSl s2)
    · rename_i L3 h3
      refine ⟨e, ρ2, sl2, L2, _, _, he, s2, r2, h3, fun ρ3 H3 f3 r3 => ?_⟩
      refine iteT ?_
      refine ⟨fun σ' H' => ∃ ρ' sl3 L3, Fm ρ ρ' H H' ∧ RelSl X.K F e H' ρ' sl3 σ' ∧ RH X.K F e H' ρ' L3 ∧ whileL t mb m sl3 L3 = some (o, sl', L'), fun σ' H' ⟨ρ', sl3, L3, a1, a2, a3, a4⟩ => ⟨m, by omega, ρ', sl3, L3, a1, a2, a3, a4⟩, ?_⟩
      have fA : Fm ρ ρ3 H H3 := f2.trans f3
      split at hr
      · rename_i sl5 L5 hb5
        exact ⟨e, ρ3, sl2, L3, _, _, _, he, f3.relSl s2, r3, hb5, fun ρ5 H5 σ5 f5 r5 s5 => ⟨ρ5, sl5, L5, fA.trans f5, s5, r5, hr⟩⟩
      · rename_i sl5 L5 hb5
        exact ⟨e, ρ3, sl2, L3, _, _, _, he, f3.relSl s2, r3, hb5, fun ρ5 H5 σ5 f5 r5 s5 => ⟨ρ5, sl5, L5, fA.trans f5, s5, r5, hr⟩⟩
      · rename_i sl5 L5 hb5
        cases hr
        exact ⟨e, ρ3, sl2, L3, _, _, _, he, f3.relSl s2, r3, hb5, fun ρ5 H5 σ5 f5 r5 s5 => k ρ5 H5 σ5 (fA.trans f5) r5 s5⟩
      · rename_i w5 sl5 L5 hb5
        cases hr
        exact ⟨e, ρ3, sl2, L3, _, _, _, he, f3.relSl s2, r3, hb5, fun ρ5 H5 σ5 f5 r5 s5 => k ρ5 H5 σ5 (fA.trans f5) r5 s5⟩
      · cases hr
end
end Z

set_option Elab.async false
set_option linter.all false
set_option maxRecDepth 100000
namespace Z
open PySem PySem.Spec PyProof.Rows L2

/-! ### list comprehensions -/
def lcL (src : Src) (g : Eg) (t : Et) (m : Ex) (slw : Sl) : Nat → Nat → List W → LH → Option (List W × LH)
  | 0, _, _, _ => none
  | f + 1, i, acc, L => match src.item L i with
    | none => none
    | some none => some (acc.reverse, L)
    | some (some w) => match g w slw L with
      | none => none
      | some (sl1, L1) => match t sl1 L1 with
        | none => none
        | some (false, L2) => lcL src g t m slw f (i + 1) acc L2
        | some (true, L2) => match m sl1 L2 with
          | none => none
          | some (y, L3) => lcL src g t m slw f (i + 1) (y :: acc) L3
def wipeSl (sl : Sl) : List Nat → Sl
  | [] => sl
  | t :: T => (wipeSl sl T).set t none
def tYesM : Et := fun _ L => some (true, L)
def vLc (mi : Ei) (T : List Nat) (g : Eg) (t : Et) (m : Ex) : Ex := fun sl L => match mi sl L with
  | none => none
  | some (src, L1) => match lcL src g t m (wipeSl sl T) lid 0 [] L1 with
    | some (ws, L2) => fLst ws L2
    | none => none
theorem wipeSl_length (sl : Sl) : ∀ T : List Nat, (wipeSl sl T).length = sl.length
  | [] => rfl
  | t :: T => by unfold wipeSl; rw [List.length_set, wipeSl_length sl T]
theorem wipeSl_some {sl : Sl} {i : Nat} {w : W} : ∀ {T : List Nat}, (wipeSl sl T)[i]? = some (some w) → sl[i]? = some (some w) ∧ i ∉ T
  | [], h => ⟨h, by simp⟩
  | t :: T, h => by
    unfold wipeSl at h
    by_cases e : t = i
    · subst e
      by_cases hl : t < (wipeSl sl T).length
      · rw [List.getElem?_set_self hl] at h; cases h
      · rw [List.getElem?_eq_none_iff.mpr (by rw [List.length_set]; omega)] at h; cases h
    · rw [List.getElem?_set_ne e] at h
      obtain ⟨h1, h2⟩ := wipeSl_some h
      exact ⟨h1, fun m => by
        rcases List.mem_cons.mp m with q | q
        · exact e q.symm
        · exact h2 q⟩
section
variable {K : PySem.W.Frag} {F : Fx} {e : En} {H H' H1 : Hp} {ρ ρ' : List Addr} {L L' : LH} {D : Addr} {xs ys : List V}
theorem RelSl.wipe {sl : Sl} {σ : St} (h : RelSl K F e H ρ sl σ) (T : List Nat) : RelSl K F e H ρ (wipeSl sl T) (L2.wipe σ T) := by
  refine ⟨by rw [wipe_length, wipeSl_length, h.len], fun i w q => ?_⟩
  obtain ⟨q1, q2⟩ := wipeSl_some q
  obtain ⟨v, v1, v2⟩ := h.at_ i w q1
  exact ⟨v, by rw [wipe_out q2]; exact v1, v2⟩
theorem kp_lst (h : H D = some (.lst xs)) : Kp K H (upd H D (.lst ys)) := by
  refine ⟨fun a zs q => ?_, fun a zs q => ?_⟩
  · rcases q with q | q
    · refine .inl ?_
      rcases q with q | ⟨o, q⟩
      · exact .inl (by rw [upd_ne (ne_of q h (by intro z; cases z))]; exact q)
      · exact .inr ⟨o, by rw [upd_ne (ne_of q h (by intro z; cases z))]; exact q⟩
    · exact .inr q
  · rcases q with ⟨o, q⟩ | q
    · exact .inl ⟨o, by rw [upd_ne (ne_of q h (by intro z; cases z))]; exact q⟩
    · exact .inr q
theorem sqT_lst (h : H D = some (.lst xs)) (a : Addr) (zs : List V) (q : SqT K H a zs) : SqT K (upd H D (.lst ys)) a zs := by
  rcases q with q | q
  · refine .inl ?_
    rcases q with q | ⟨o, q⟩
    · exact .inl (by rw [upd_ne (ne_of q h (by intro z; cases z))]; exact q)
    · exact .inr ⟨o, by rw [upd_ne (ne_of q h (by intro z; cases z))]; exact q⟩
  · exact .inr q
/-- a list of another's grows -/
theorem RH.other (R : RH K F e H ρ L) (h : H D = some (.lst xs)) (hD : D ∉ ρ) : RH K F e (upd H D (.lst ys)) ρ L := by
  refine ⟨R.len, R.nd, fun n a q => ?_, R.fit⟩
  obtain ⟨o, h1, h2⟩ := R.ob n a q
  have ha : a ≠ D := fun z => hD (by rw [← z]; exact List.mem_iff_getElem?.mpr ⟨n, q⟩)
  exact ⟨o, h1, h2.stay (kp_lst h) (fun _ _ z => z) (upd_ne ha) fun d hd => by rw [upd_ne (ne_of hd h (by intro z; cases z))]; exact hd⟩
theorem Fm.patch (f : Fm ρ ρ' H H') (hn : H D = none) (h : H' D = some (.lst xs)) : Fm ρ ρ' H (upd H' D (.lst ys)) := by
  refine ⟨f.pre, f.new, fun a o q n => ?_, fun a o q => ?_, fun a zs q => ?_, fun a ob u q => ?_⟩
  · rw [upd_ne (ne_of_none q hn)]; exact f.keep a o q n
  · rw [upd_ne (ne_of_none q hn)]; exact f.there a o q
  · rcases f.tup a zs q with z | ⟨o, z⟩
    · exact .inl (by rw [upd_ne (ne_of z h (by intro z; cases z))]; exact z)
    · exact .inr ⟨o, by rw [upd_ne (ne_of z h (by intro z; cases z))]; exact z⟩
  · rw [upd_ne (ne_of_none q hn)]; exact f.frz a ob u q
theorem RH.adopt (R : RH K F e H ρ L) {p : Addr} {o : LO} (hpρ : p ∉ ρ) (hn : L.n < top) (ho : RelO K F e H (ρ ++ [p]) o p) : RH K F e H (ρ ++ [p]) (L.add o) := by
  have hpre : ∀ (n : Nat) (a : Addr), ρ[n]? = some a → (ρ ++ [p])[n]? = some a := fun n a h => by
    rw [List.getElem?_append_left (List.getElem?_eq_some_iff.mp h).1]; exact h
  refine ⟨by simp [R.len, LH.add], ?_, fun n a h => ?_, fun n ob h => ?_⟩
  · exact List.nodup_append.mpr ⟨R.nd, by simp, fun a ha b hb z => by
      rw [List.mem_singleton] at hb
      rw [z, hb] at ha
      exact hpρ ha⟩
  · rw [LH.get_add hn]
    by_cases hl : n < ρ.length
    · rw [List.getElem?_append_left hl] at h
      rw [if_neg (by rw [← R.len]; omega)]
      obtain ⟨ob, h1, h2⟩ := R.ob n a h
      exact ⟨ob, h1, h2.stay Kp.refl hpre rfl fun d hd => hd⟩
    · have hl2 : n = ρ.length := by
        have := (List.getElem?_eq_some_iff.mp h).1
        simp at this
        omega
      subst hl2
      have : p = a := by simpa using h
      subst this
      rw [if_pos R.len]
      exact ⟨o, rfl, ho⟩
  · rw [LH.get_add hn] at h
    show n < L.n + 1
    split at h
    · omega
    · have := R.fit n ob h; omega
theorem Fm.adopt (f : Fm ρ ρ' H H') (hn : H D = none) : Fm ρ (ρ' ++ [D]) H H' := by
  refine ⟨fun n a h => ?_, fun a h => ?_, f.keep, f.there, f.tup, f.frz⟩
  · have h2 := f.pre n a h
    rw [List.getElem?_append_left (List.getElem?_eq_some_iff.mp h2).1]; exact h2
  · rcases List.mem_append.mp h with q | q
    · exact f.new a q
    · rw [List.mem_singleton] at q
      rw [q]
      exact .inr hn
theorem lid_line : (lid : Nat) < sizeLine := by rw [sizeLine_eq]; decide
end
theorem tz_lc {K : PySem.W.Frag} {F : Fx} {T : List Nat} {mi : Ei} {g : Eg} {t : Et} {m : Ex} {σ : St} {H : Hp} {Q : VK} (h : TZ K F (vLc mi T g t m) σ H Q) : tLc (IZ K F mi) (GZ K F T g) (TTZ K F t) (TZ K F m) T σ H Q := by
  obtain ⟨e, ρ, sl, L, w, L', he, hs, hh, hm, k⟩ := h
  unfold vLc at hm
  split at hm
  · cases hm
  rename_i src L1 h1
  split at hm
  · rename_i ws Le h2
    obtain ⟨g1, g2, rfl, rfl⟩ := fLst_spec hm
    refine ⟨e, ρ, sl, L, _, _, he, hs, hh, h1, fun ρ1 H1 J f1 r1 ok D hD => ?_⟩
    have fD : Fm ρ1 ρ1 H1 (upd H1 D (.lst [])) := fm_new hD
    have hDρ : D ∉ ρ1 := fun z => by obtain ⟨_, q, _⟩ := r1.mut z; rw [hD] at q; cases q
    have sw := (f1.relSl hs).wipe T
    refine ⟨fun i n H2 => ∃ ρ2 L2 acc accV, Fm ρ1 ρ2 H1 H2 ∧ RH K F e H2 ρ2 L2 ∧ H2 D = some (.lst accV) ∧ D ∉ ρ2 ∧ RelWs K F e H2 ρ2 acc.reverse accV ∧ acc.length ≤ i ∧ i + n = lid ∧ lcL src g t m (wipeSl sl T) n i acc L2 = some (ws, Le),
      ⟨lid, ρ1, L1, [], [], fD, r1.new hD, upd_same, hDρ, .nil, Nat.le_refl _, Nat.zero_add _, h2⟩, ?_⟩
    rintro i n H2 ⟨ρ2, L2, acc, accV, f2, r2, hD2, nD2, ra, hl, hi, hr⟩
    cases n with
    | zero => cases hr
    | succ n =>
      unfold lcL at hr
      split at hr
      · cases hr
      · rename_i hx
        cases hr
        refine .inl ⟨ok.stop ρ2 H2 _ i f2 r2 hx, ?_⟩
        have f3 : Fm ρ1 (ρ2 ++ [D]) H1 H2 := f2.adopt hD
        have hpre : ∀ (n : Nat) (a : Addr), ρ2[n]? = some a → (ρ2 ++ [D])[n]? = some a := fun n a h => by
          rw [List.getElem?_append_left (List.getElem?_eq_some_iff.mp h).1]; exact h
        refine k (ρ2 ++ [D]) H2 (.ref D) (f1.trans f3) (r2.adopt nD2 g2 ⟨accV, hD2, RelWs.mono Kp.refl hpre _ _ ra⟩) ?_
        unfold RelW
        exact ⟨D, rfl, by rw [← r2.len]; simp⟩
      rename_i w hx
      obtain ⟨j1, j2⟩ := ok.go ρ2 H2 L2 i w f2 r2 hx
      refine .inr ⟨j1, fun H' => ∃ ρ2 L2 acc accV, Fm ρ1 ρ2 H1 H' ∧ RH K F e H' ρ2 L2 ∧ H' D = some (.lst accV) ∧ D ∉ ρ2 ∧ RelWs K F e H' ρ2 acc.reverse accV ∧ acc.length ≤ i + 1 ∧ (i + 1) + n = lid ∧ lcL src g t m (wipeSl sl T) n (i + 1) acc L2 = some (ws, Le),
        fun H' q => ⟨n, by omega, q⟩, fun x H3 hy => ?_⟩
      obtain ⟨f3, r3, w3⟩ := j2 x H3 hy
      have hD3 := f3.keep D _ hD2 nD2
      split at hr
      · cases hr
      rename_i sl4 L4 hg4
      refine ⟨e, ρ2, wipeSl sl T, L2, w, _, _, he, (f2.trans f3).relSl sw, r3, w3, hg4, fun ρ4 H4 σ4 f4 r4 s4 e4 => ⟨e4.trans (wipe_wipe σ T), ?_⟩⟩
      have nD4 : D ∉ ρ4 := fun z => by
        rcases f4.new D z with q | q
        · exact nD2 q
        · rw [hD3] at q; cases q
      have hD4 := f4.keep D _ hD3 nD2
      split at hr
      · cases hr
      · rename_i L5 ht
        refine ⟨e, ρ4, sl4, L4, _, _, he, s4, r4, ht, fun ρ5 H5 f5 r5 => ?_⟩
        refine iteF ?_
        have nD5 : D ∉ ρ5 := fun z => by
          rcases f5.new D z with q | q
          · exact nD4 q
          · rw [hD4] at q; cases q
        have fA := ((f3.trans f4).trans f5)
        exact ⟨ρ5, L5, acc, accV, f2.trans fA, r5, f5.keep D _ hD4 nD4, nD5, fA.rels ra, by omega, by omega, hr⟩
      · rename_i L5 ht
        refine ⟨e, ρ4, sl4, L4, _, _, he, s4, r4, ht, fun ρ5 H5 f5 r5 => ?_⟩
        refine iteT ?_
        have nD5 : D ∉ ρ5 := fun z => by
          rcases f5.new D z with q | q
          · exact nD4 q
          · rw [hD4] at q; cases q
        have hD5 := f5.keep D _ hD4 nD4
        split at hr
        · cases hr
        rename_i y L6 hy6
        refine ⟨e, ρ5, sl4, L5, _, _, he, f5.relSl s4, r5, hy6, fun ρ6 H6 v6 f6 r6 w6 => ?_⟩
        have nD6 : D ∉ ρ6 := fun z => by
          rcases f6.new D z with q | q
          · exact nD5 q
          · rw [hD5] at q; cases q
        have hD6 := f6.keep D _ hD5 nD5
        have fA := (((f3.trans f4).trans f5).trans f6)
        have ra6 := fA.rels ra
        have hlen : accV.length = acc.length := by rw [ra.length, List.length_reverse]
        refine ⟨accV, hD6, by rw [hlen]; exact Nat.lt_of_le_of_lt (show acc.length ≤ lid by omega) lid_line, ρ6, L6, y :: acc, accV ++ [v6], (f2.trans fA).patch hD hD6, r6.other hD6 nD6, upd_same, nD6, ?_, by simp; omega, by omega, hr⟩
        rw [List.reverse_cons]
        exact RelWs.mono (kp_lst hD6) (fun _ _ z => z) _ _ (ra6.append (.cons w6 .nil))
  · cases hm
section
variable {X : Cx} {F : Fx} {T : List Nat} {mi : Ei} {g : Eg} {t : Et} {m : Ex} {elt tg iter : Expr} {ifs : List Expr} {scope : Scope} {own : List (Str × Nat)} {pos spos py : Pos}
theorem zts_nil : PTs X [] (TTZ X.K F tYesM) := ⟨fun pins s σ H Q I h => by
  obtain ⟨e, ρ, sl, L, b, L', he, hs, hh, hm, k⟩ := h
  cases hm
  exact pts_nil.run pins s σ H Q I (k ρ H .refl hh)⟩
theorem zts_one {c : Expr} (h : PT X c (TTZ X.K F t)) : PTs X [c] (TTZ X.K F t) := pts_one h
theorem ze_lc (hc : X.calm = true) (hN : X.N.Nodup) (hi : PI X tg iter (IZ X.K F mi)) (ok : BlkOk X.N X.env.scope scope own) (hT : own.map (·.2) = T)
    (hg : ∀ (s : Shared) (H : Hp) (C : Addr) (cl : List (Str × Addr)) (fp : List Addr), PG (X.blk s H scope (compEnvC scope cl C X.env) fp) tg (GZ X.K F T g)) (ht : ∀ (s : Shared) (H : Hp) (C : Addr) (cl : List (Str × Addr)) (fp : List Addr), PTs (X.blk s H scope (compEnvC scope cl C X.env) fp) ifs (TTZ X.K F t))
    (hm : ∀ (s : Shared) (H : Hp) (C : Addr) (cl : List (Str × Addr)) (fp : List Addr), PE (X.blk s H scope (compEnvC scope cl C X.env) fp) elt (TZ X.K F m)) (hs : ∀ x, foldedSetIterable iter X.env x = pure x := by intro _; rfl) :
    PE X (.ListComp elt [⟨tg, iter, ifs, 0⟩] scope pos) (TZ X.K F (vLc mi T g t m)) := by
  subst hT
  exact PE.imp (pe_lc hc hN hi ok hg ht hm hs) fun σ H Q h => tz_lc h
theorem zs_setLc {i : Nat} {y : Str} (hc : X.calm = true) (hN : X.N.Nodup) (hy : X.N[i]? = some y) (hyl : X.env.scope.names.lookup y = some .local)
    (hsw : swapsWith (.ListComp elt [⟨tg, iter, ifs, 0⟩] scope pos) (some (.Name y py)) spos.line X.env = pure true) (hi : PI X tg iter (IZ X.K F mi)) (ok : BlkOk X.N X.env.scope scope own) (hT : own.map (·.2) = T)
    (hg : ∀ (s : Shared) (H : Hp) (C : Addr) (cl : List (Str × Addr)) (fp : List Addr), PG (X.blk s H scope (compEnvC scope cl C X.env) fp) tg (GZ X.K F T g)) (ht : ∀ (s : Shared) (H : Hp) (C : Addr) (cl : List (Str × Addr)) (fp : List Addr), PTs (X.blk s H scope (compEnvC scope cl C X.env) fp) ifs (TTZ X.K F t))
    (hm : ∀ (s : Shared) (H : Hp) (C : Addr) (cl : List (Str × Addr)) (fp : List Addr), PE (X.blk s H scope (compEnvC scope cl C X.env) fp) elt (TZ X.K F m)) (hs : ∀ x, foldedSetIterable iter X.env x = pure x := by intro _; rfl) :
    PS X (.Assign [.Name y py] (.ListComp elt [⟨tg, iter, ifs, 0⟩] scope pos) spos) (SZ X.K F (sSet i (vLc mi T g t m))) := by
  subst hT
  refine PS.imp (ps_setLc hc hN hy hyl hsw hi ok hg ht hm hs) ?_
  rintro D σ H ⟨e, ρ, sl, L, o, sl', L', he, hs, hh, hm, k⟩
  unfold sSet at hm
  split at hm
  · rename_i w L1 h1
    cases hm
    exact tz_lc ⟨e, ρ, sl, L, _, _, he, hs, hh, h1, fun ρ1 H1 v f1 r1 w1 => k ρ1 H1 _ f1 r1 ((f1.relSl hs).set i w1)⟩
  · cases hm
end

/-! ### defs -/
def spZ (K : PySem.W.Frag) (F : Fx) (n : Nat) (m : List W → LH → Option (W × LH)) : Sp := fun vs H Q _ => ∃ e ρ L ws w L', En.Ok F e ∧ RH K F e H ρ L ∧ RelWs K F e H ρ ws vs ∧ ws.length = n ∧ m ws L = some (w, L') ∧
  ∀ ρ' H' v, Fm ρ ρ' H H' → RH K F e H' ρ' L' → RelW K F e H' ρ' w v → Q v H'
/-- a def with n parameters and r further names -/
def fnZ (r : Nat) (b : Sm) : List W → LH → Option (W × LH) := fun ws L => match b (ws.map some ++ List.replicate r none) L with
  | some (.nx, _, L') => some (.non, L')
  | some (.rt w, _, L') => some (w, L')
  | _ => none
theorem relSl_start {K : PySem.W.Frag} {F : Fx} {e : En} {H : Hp} {ρ : List Addr} {ws : List W} {vs : List V} {r : Nat} {N : List Str} (h : RelWs K F e H ρ ws vs) (hN : N.length = ws.length + r) : RelSl K F e H ρ (ws.map some ++ List.replicate r none) (start N vs) := by
  unfold L2.start
  have hl := h.length
  refine ⟨by simp; omega, fun i w q => ?_⟩
  have hi : i < ws.length := by
    rcases Nat.lt_or_ge i ws.length with z | z
    · exact z
    · rw [List.getElem?_append_right (by simpa using z)] at q
      rw [List.getElem?_replicate] at q
      split at q <;> cases q
  rw [List.getElem?_append_left (by simpa using hi), List.getElem?_map] at q
  cases q1 : ws[i]? with
  | none => rw [q1] at q; cases q
  | some w' =>
    rw [q1] at q
    have : w' = w := Option.some.inj (Option.some.inj q)
    subst this
    obtain ⟨v, v1, v2⟩ := h.get q1
    exact ⟨v, by rw [List.getElem?_append_left (by simp; omega), List.getElem?_map, v1]; rfl, v2⟩
section
variable {P : Program} {w : World} {K : PySem.W.Frag} {mg : Str → Option Value} {base : Heap} {F : Fx}
theorem ok_z {x qual : Str} {st : Stmt} {f : Addr} {fd : FuncData} {N ps : List Str} {k : Nat} {b : Sm} {r : Nat} (Fn : Fun K x qual st f fd) (S : FnScope N ps (defScope st)) (hN : N.length = ps.length + r := by rfl)
    (hbody : ∀ (cdv : Value) (A : Around) (outer : List Env) (s : Shared) (H : Hp) (E : XK), Room k (A.deeper (envOfC qual (defScope st) s.heap.objs.size f cdv)) →
      PSs (cxOf CX0 P w K mg base N qual (defScope st) f cdv A outer s H E).nox (defBody st) (SZ K F b)) : FnOk P w K mg base CX0 (k + 1) f fd ps (spZ K F ps.length (fnZ r b)) := by
  refine Fn.ok S (fun vs H Q E h => ?_) (fun cdv A outer s H vs Q E hr h => ⟨_, hbody cdv A outer s H E hr, ?_⟩)
  · obtain ⟨e, ρ, L, ws, w, L', he, hh, hw, hn, hm, k⟩ := h
    rw [hw.length, hn]
  · obtain ⟨e, ρ, L, ws, w, L', he, hh, hw, hn, hm, k⟩ := h
    unfold fnZ at hm
    split at hm
    · rename_i sl1 L1 h1
      cases hm
      exact ⟨e, ρ, _, L, _, _, _, he, relSl_start hw (by rw [hN, hn]), hh, h1, fun ρ1 H1 σ1 f1 r1 s1 => k ρ1 H1 .non f1 r1 rfl⟩
    · rename_i w1 sl1 L1 h1
      cases hm
      exact ⟨e, ρ, _, L, _, _, _, he, relSl_start hw (by rw [hN, hn]), hh, h1, fun ρ1 H1 σ1 f1 r1 s1 v hv => k ρ1 H1 v f1 r1 hv⟩
    · cases hm
end
section
variable {X : Cx} {F : Fx} {k n : Nat} {f : Addr} {fd : FuncData} {ps : List Str} {m : List W → LH → Option (W × LH)} {x : Str} {p pos : Pos} {a : Expr} {es : List Expr} {ma : Ex} {mr : Ea}
/-- a call's arity is checked by the mirror too -/
def fN (n : Nat) (m : List W → LH → Option (W × LH)) : List W → LH → Option (W × LH) := fun ws L => cond (Nat.beq ws.length n) (m ws L) none
theorem tz_call {K : PySem.W.Frag} {σ : St} {H : Hp} {Q : VK} {E : XK} (h : TZ K F (mApp (fN n m) mr) σ H Q) : tCall (spZ K F n m) [] E (TAZ K F mr) σ H Q := by
  obtain ⟨e, ρ, sl, L, w, L', he, hs, hh, hm, k⟩ := h
  unfold mApp at hm
  split at hm
  · cases hm
  rename_i ws L1 h1
  unfold fN at hm
  cases q : Nat.beq ws.length n with
  | false => rw [q] at hm; cases hm
  | true =>
    rw [q] at hm
    refine ⟨e, ρ, sl, L, _, _, he, hs, hh, h1, fun ρ1 H1 vs f1 r1 w1 => ?_⟩
    show spZ K F n m (vs ++ []) H1 Q E
    rw [List.append_nil]
    exact ⟨e, ρ1, L1, ws, w, L', he, r1, w1, Nat.eq_of_beq_eq_true q, hm, fun ρ2 H2 v f2 r2 w2 => k ρ2 H2 v (f1.trans f2) r2 w2⟩
theorem ze_call (G : FnOk X.prog X.w X.K X.mg X.base CX0 k f fd ps (spZ X.K F n m)) (hr : Room k X.A) (hg : Gl X x) (hm : X.mg x = some (.ref f)) (hk : PySem.W.keepIn X.K (.ref f) = true) (hb : Binds X.K fd ps []) (ha : PA X (a :: es) (TAZ X.K F mr))
    (hdb : (x == ("__debug__" : Str)) = false := by decide) (he : starEach (a :: es) X.env = (false, eval a X.env) :: starEach es X.env := by rfl) (hpl : (backTo pos (starEach es X.env)).any (·.1) = false := by rfl) :
    PE X (.Call (.Name x p) (a :: es) [] pos) (TZ X.K F (mApp (fN n m) mr)) :=
  PE.imp (pe_call G hr hg hm hk hb .nil pass0 ha hdb he hpl) fun σ H Q h => tz_call h
theorem ze_call0 (G : FnOk X.prog X.w X.K X.mg X.base CX0 k f fd ps (spZ X.K F n m)) (hr : Room k X.A) (hg : Gl X x) (hm : X.mg x = some (.ref f)) (hk : PySem.W.keepIn X.K (.ref f) = true) (hb : Binds X.K fd ps [])
    (hdb : (x == ("__debug__" : Str)) = false := by decide) : PE X (.Call (.Name x p) [] [] pos) (TZ X.K F (mApp (fN n m) mNil)) := by
  refine PE.imp (pe_call0 G hr hg hm hk hb .nil pass0 hdb) fun σ H Q h => ?_
  have q := tz_call (E := fun _ _ _ => False) h
  obtain ⟨e, ρ, sl, L, w, L', he, hs, hh, hm, k⟩ := q
  cases hm
  exact k ρ H [] .refl hh .nil
end
end Z

set_option Elab.async false
set_option linter.all false
set_option maxRecDepth 100000
namespace Z
open PySem PySem.Spec PyProof.Rows L2

/-! ### data at any depth: == and != -/
def isDat (L : LH) : Nat → W → Bool
  | 0, .tup _ => false
  | 0, .ref _ => false
  | _, .fz _ => false
  | n + 1, .tup xs => xs.all (isDat L n)
  | n + 1, .ref i => match L.get i with
    | some (.lst xs) => xs.all (isDat L n)
    | _ => false
  | _, _ => true
def pyW (F : Fx) (e : En) (L : LH) : Nat → W → PyData
  | _, .non => .none
  | _, .bl b => .bool b
  | _, .int i => .int i
  | _, .ia k => .int ((e.nums[k]?).getD 0)
  | _, .str k => .str ((sOf F e k).getD ⟨#[]⟩)
  | n + 1, .tup xs => .tuple (xs.map (pyW F e L n))
  | n + 1, .ref i => match L.get i with
    | some (.lst xs) => .list (xs.map (pyW F e L n))
    | _ => .none
  | 0, .tup _ => .none
  | 0, .ref _ => .none
  | _, .fz _ => .none
/-- two lists, item by item -/
def eqL (f : W → W → Option Bool) : List W → List W → Option Bool
  | [], [] => some true
  | [], _ :: _ => some false
  | _ :: _, [] => some false
  | x :: xs, y :: ys => match f x y with
    | some true => eqL f xs ys
    | some false => some false
    | none => none
def eqW (L : LH) : Nat → W → W → Option Bool
  | n, x, y => match x, y with
    | .non, .non => some true
    | .bl a, .bl b => some (a == b)
    | .bl a, .int j => some ((if a then 1 else 0) == j)
    | .int i, .bl b => some (i == (if b then 1 else 0))
    | .int i, .int j => some (i == j)
    | .ia i, .ia j => cond (Nat.beq i j) (some true) none
    | .ia _, .int j => cond (decide (j < 2)) (some false) none
    | .int j, .ia _ => cond (decide (j < 2)) (some false) none
    | .ia _, .bl _ => some false
    | .bl _, .ia _ => some false
    | .str i, .str j => cond (Nat.blt i 1000 == Nat.blt j 1000) (some (Nat.beq i j)) none
    | .tup xs, .tup ys => match n with
      | 0 => none
      | n + 1 => eqL (eqW L n) xs ys
    | .ref i, .ref j => match n with
      | 0 => none
      | n + 1 => match L.get i, L.get j with
        | some (.lst xs), some (.lst ys) => eqL (eqW L n) xs ys
        | _, _ => none
    | _, _ => some false

section
variable {K : PySem.W.Frag} {F : Fx} {e : En} {H : Hp} {ρ : List Addr} {L : LH}
theorem sOf_strOk (he : En.Ok F e) {k : Nat} {x : Str} (h : sOf F e k = some x) : PyData.strOk x = true := by
  unfold sOf at h
  split at h
  · exact he.lok x (List.mem_of_getElem? h)
  · exact he.nok x (List.mem_of_getElem? h)
theorem depth_all {f : W → PyData} {n : Nat} : ∀ {xs : List W}, (∀ x ∈ xs, (f x).depth ≤ n) → PyData.depthAll (xs.map f) ≤ n
  | [], _ => by simp [PyData.depthAll]
  | x :: xs, h => by
    simp only [List.map_cons, PyData.depthAll]
    have h1 := h x List.mem_cons_self
    have h2 := depth_all (xs := xs) fun y hy => h y (List.mem_cons_of_mem _ hy)
    omega
theorem lay_all {f : W → PyData} : ∀ {xs : List W}, (∀ x ∈ xs, (f x).canLay0 = true) → PyData.canLayAll0 (xs.map f) = true
  | [], _ => by simp [PyData.canLayAll0]
  | x :: xs, h => by
    simp only [List.map_cons, PyData.canLayAll0, Bool.and_eq_true]
    exact ⟨h x List.mem_cons_self, lay_all fun y hy => h y (List.mem_cons_of_mem _ hy)⟩
theorem dp_all {f : W → PyData} : ∀ {xs : List W} {vs : List V}, (∀ x ∈ xs, ∀ v, RelW K F e H ρ x v → Dp K H v (f x)) → RelWs K F e H ρ xs vs → DpAll K H vs (xs.map f)
  | [], vs, _, r => by unfold RelWs at r; rw [r]; exact .nil
  | x :: xs, vs, h, r => by
    obtain ⟨v, vr, rfl, r1, r2⟩ := r.uncons
    exact .cons (h x List.mem_cons_self v r1) (dp_all (fun y hy => h y (List.mem_cons_of_mem _ hy)) r2)
theorem dat_ok (he : En.Ok F e) (R : RH K F e H ρ L) : ∀ (n : Nat) (w : W), isDat L n w = true → (pyW F e L n w).depth ≤ n ∧ (∀ v, RelW K F e H ρ w v → Dp K H v (pyW F e L n w) ∧ (pyW F e L n w).canLay0 = true)
  | n, .non, _ => ⟨by cases n <;> simp [pyW, PyData.depth], fun v r => by cases r; cases n <;> exact ⟨.non, rfl⟩⟩
  | n, .bl b, _ => ⟨by cases n <;> simp [pyW, PyData.depth], fun v r => by cases r; cases n <;> exact ⟨.bl b, rfl⟩⟩
  | n, .int i, _ => ⟨by cases n <;> simp [pyW, PyData.depth], fun v r => by cases r; cases n <;> exact ⟨.int i, rfl⟩⟩
  | n, .ia k, _ => ⟨by cases n <;> simp [pyW, PyData.depth], fun v r => by
      obtain ⟨i, h1, rfl⟩ := r
      cases n <;> (simp only [pyW, h1, Option.getD_some]; exact ⟨.int i, rfl⟩)⟩
  | n, .str k, _ => ⟨by cases n <;> simp [pyW, PyData.depth], fun v r => by
      obtain ⟨x, h1, rfl⟩ := r
      have h2 := sOf_strOk he h1
      cases n <;> (simp only [pyW, h1, Option.getD_some]; exact ⟨.str x, by simpa [PyData.canLay0] using h2⟩)⟩
  | 0, .fz xs, h => by simp [isDat] at h
  | n + 1, .fz xs, h => by simp [isDat] at h
  | 0, .tup xs, h => by simp [isDat] at h
  | 0, .ref i, h => by simp [isDat] at h
  | n + 1, .tup xs, h => by
    simp only [isDat, List.all_eq_true] at h
    have ih := fun x hx => dat_ok he R n x (h x hx)
    refine ⟨?_, fun v r => ?_⟩
    · simp only [pyW, PyData.depth]
      have := depth_all (n := n) fun x hx => (ih x hx).1
      omega
    · unfold RelW at r
      obtain ⟨a, vs, rfl, s, r⟩ := r
      simp only [pyW]
      exact ⟨.tup s (dp_all (fun x hx v hv => ((ih x hx).2 v hv).1) r), by
        rw [PyData.canLay0]
        refine lay_all fun x hx => ?_
        obtain ⟨i, hi⟩ := List.mem_iff_getElem?.mp hx
        obtain ⟨v, _, hv⟩ := r.get hi
        exact ((ih x hx).2 v hv).2⟩
  | n + 1, .ref i, h => by
    simp only [isDat] at h
    split at h
    · rename_i xs hl
      simp only [List.all_eq_true] at h
      have ih := fun x hx => dat_ok he R n x (h x hx)
      refine ⟨?_, fun v r => ?_⟩
      · simp only [pyW, hl, PyData.depth]
        have := depth_all (n := n) fun x hx => (ih x hx).1
        omega
      · unfold RelW at r
        obtain ⟨a, rfl, ha⟩ := r
        obtain ⟨a', vs, h1, h2, h3⟩ := R.lst hl
        rw [ha] at h1; cases h1
        simp only [pyW, hl]
        exact ⟨.lst (SqL.of h2) (dp_all (fun x hx v hv => ((ih x hx).2 v hv).1) h3), by
          rw [PyData.canLay0]
          refine lay_all fun x hx => ?_
          obtain ⟨i, hi⟩ := List.mem_iff_getElem?.mp hx
          obtain ⟨v, _, hv⟩ := h3.get hi
          exact ((ih x hx).2 v hv).2⟩
    · cases h
theorem eqL_ok {f : W → W → Option Bool} {g h : W → PyData} : ∀ {xs ys : List W} {b : Bool}, (∀ x ∈ xs, ∀ y ∈ ys, ∀ c, f x y = some c → PyData.eqv (g x) (h y) = c) → eqL f xs ys = some b → PyData.eqvAll (xs.map g) (ys.map h) = b
  | [], [], b, _, q => by cases q; rfl
  | [], y :: ys, b, _, q => by cases q; rfl
  | x :: xs, [], b, _, q => by cases q; rfl
  | x :: xs, y :: ys, b, k, q => by
    unfold eqL at q
    simp only [List.map_cons, PyData.eqvAll]
    split at q
    · rename_i h1
      rw [k x List.mem_cons_self y List.mem_cons_self true h1, Bool.true_and]
      exact eqL_ok (fun x hx y hy => k x (List.mem_cons_of_mem _ hx) y (List.mem_cons_of_mem _ hy)) q
    · rename_i h1
      cases q
      rw [k x List.mem_cons_self y List.mem_cons_self false h1, Bool.false_and]
    · cases q
end
theorem nodup_get {α : Type} {l : List α} (h : l.Nodup) {i j : Nat} {x : α} (a : l[i]? = some x) (b : l[j]? = some x) : i = j := by
  obtain ⟨q1, e1⟩ := List.getElem?_eq_some_iff.mp a
  obtain ⟨q2, e2⟩ := List.getElem?_eq_some_iff.mp b
  exact (List.getElem_inj h).mp (e1.trans e2.symm)
theorem names_lt {l : List Str} (h : l.Pairwise fun x y => x.cps.toList < y.cps.toList) {i j : Nat} {x y : Str} (a : l[i]? = some x) (b : l[j]? = some y) (hij : i < j) : x.cps.toList < y.cps.toList := by
  obtain ⟨q1, rfl⟩ := List.getElem?_eq_some_iff.mp a
  obtain ⟨q2, rfl⟩ := List.getElem?_eq_some_iff.mp b
  exact List.pairwise_iff_getElem.mp h i j q1 q2 hij
theorem names_inj {l : List Str} (h : l.Pairwise fun x y => x.cps.toList < y.cps.toList) {i j : Nat} {x : Str} (a : l[i]? = some x) (b : l[j]? = some x) : i = j := by
  rcases Nat.lt_trichotomy i j with q | q | q
  · exact absurd (names_lt h a b q) (List.lt_irrefl _)
  · exact q
  · exact absurd (names_lt h b a q) (List.lt_irrefl _)
theorem str_eq {F : Fx} {e : En} (he : En.Ok F e) {i j : Nat} {x y : Str} (h1 : sOf F e i = some x) (h2 : sOf F e j = some y) (c : (Nat.blt i 1000 == Nat.blt j 1000) = true) : (x == y) = Nat.beq i j := by
  have blt_iff : ∀ m : Nat, Nat.blt m 1000 = decide (m < 1000) := fun m => by
    cases h : Nat.blt m 1000 with
    | true => exact (decide_eq_true (Nat.le_of_ble_eq_true h)).symm
    | false =>
      refine (decide_eq_false fun z => ?_).symm
      have : Nat.blt m 1000 = true := Nat.ble_eq_true_of_le z
      rw [h] at this; cases this
  have hb : (Nat.beq i j) = decide (i = j) := by
    cases q : Nat.beq i j with
    | true => exact (decide_eq_true (Nat.eq_of_beq_eq_true q)).symm
    | false => exact (decide_eq_false (Nat.ne_of_beq_eq_false q)).symm
  rw [hb]
  by_cases hij : i = j
  · subst hij
    rw [h1] at h2; cases h2
    simp
  · rw [decide_eq_false hij]
    rw [beq_eq_false_iff_ne]
    intro z
    subst z
    rw [blt_iff, blt_iff] at c
    unfold sOf at h1 h2
    by_cases hi : i < 1000
    · by_cases hj : j < 1000
      · rw [if_pos hi] at h1
        rw [if_pos hj] at h2
        exact hij (names_inj he.lits h1 h2)
      · rw [decide_eq_true hi, decide_eq_false hj] at c; cases c
    · by_cases hj : j < 1000
      · rw [decide_eq_false hi, decide_eq_true hj] at c; cases c
      · rw [if_neg hi] at h1
        rw [if_neg hj] at h2
        have := names_inj he.names h1 h2
        omega
end Z

set_option Elab.async false
set_option linter.all false
set_option maxRecDepth 100000
namespace Z
open PySem PySem.Spec PyProof.Rows L2
theorem cond_some {α : Type} {c : Bool} {a b : α} (h : (bif c then some a else none) = some b) : c = true ∧ a = b := by
  cases c with
  | true => exact ⟨rfl, Option.some.inj h⟩
  | false => cases h
theorem cond_opt {α : Type} {c : Bool} {a : Option α} {b : α} (h : (bif c then a else none) = some b) : c = true ∧ a = some b := by
  cases c with
  | true => exact ⟨rfl, h⟩
  | false => cases h
section
variable {K : PySem.W.Frag} {F : Fx} {e : En} {H : Hp} {ρ : List Addr} {L : LH}
/-- scalars -/
def isSc : W → Bool
  | .tup _ => false
  | .ref _ => false
  | .fz _ => false
  | _ => true
theorem eqW_sc (he : En.Ok F e) {n : Nat} {x y : W} {b : Bool} {vx vy : V} (sx : isSc x = true) (sy : isSc y = true) (rx : RelW K F e H ρ x vx) (ry : RelW K F e H ρ y vy) (h : eqW L n x y = some b) : PyData.eqv (pyW F e L n x) (pyW F e L n y) = b := by
  cases x with
  | tup _ => cases sx
  | ref _ => cases sx
  | fz _ => cases sx
  | non => cases y <;> first | (cases sy; done) | (cases n <;> simp [eqW] at h <;> simp [pyW, PyData.eqv, h])
  | bl a => cases y <;> first | (cases sy; done) | (cases n <;> simp [eqW] at h <;> simp [pyW, PyData.eqv, h]; done) | (
      obtain ⟨i, h1, rfl⟩ := ry
      have := he.nums i (List.mem_of_getElem? h1)
      cases n <;> simp [eqW] at h <;> simp only [pyW, PyData.eqv, h1, Option.getD_some] <;> (subst h; rw [beq_eq_false_iff_ne]; split <;> omega))
  | int i => cases y <;> first | (cases sy; done) | (cases n <;> simp [eqW] at h <;> simp [pyW, PyData.eqv, h]; done) | (
      obtain ⟨j, h1, rfl⟩ := ry
      have := he.nums j (List.mem_of_getElem? h1)
      cases n <;> simp only [eqW] at h <;> (
        obtain ⟨q, rfl⟩ := cond_some h
        simp only [pyW, PyData.eqv, h1, Option.getD_some]
        rw [decide_eq_true_eq] at q
        rw [beq_eq_false_iff_ne]
        omega))
  | ia i =>
    obtain ⟨k, h1, rfl⟩ := rx
    have := he.nums k (List.mem_of_getElem? h1)
    cases y with
    | tup _ => cases sy
    | ref _ => cases sy
    | fz _ => cases sy
    | non => cases n <;> simp [eqW] at h <;> simp [pyW, PyData.eqv, h]
    | str _ => cases n <;> simp [eqW] at h <;> simp [pyW, PyData.eqv, h]
    | bl a => cases n <;> simp only [eqW] at h <;> (cases h; simp only [pyW, PyData.eqv, h1, Option.getD_some]; rw [beq_eq_false_iff_ne]; split <;> omega)
    | int j => cases n <;> simp only [eqW] at h <;> (
        obtain ⟨q, rfl⟩ := cond_some h
        simp only [pyW, PyData.eqv, h1, Option.getD_some]
        rw [decide_eq_true_eq] at q
        rw [beq_eq_false_iff_ne]
        omega)
    | ia j => cases n <;> simp only [eqW] at h <;> (
        obtain ⟨q, rfl⟩ := cond_some h
        have := Nat.eq_of_beq_eq_true q
        subst this
        simp [pyW, PyData.eqv])
  | str i =>
    obtain ⟨x, h1, rfl⟩ := rx
    cases y with
    | tup _ => cases sy
    | ref _ => cases sy
    | fz _ => cases sy
    | non => cases n <;> simp [eqW] at h <;> simp [pyW, PyData.eqv, h]
    | bl _ => cases n <;> simp [eqW] at h <;> simp [pyW, PyData.eqv, h]
    | int _ => cases n <;> simp [eqW] at h <;> simp [pyW, PyData.eqv, h]
    | ia _ => cases n <;> simp [eqW] at h <;> simp [pyW, PyData.eqv, h]
    | str j =>
      obtain ⟨y, h2, rfl⟩ := ry
      cases n <;> simp only [eqW] at h <;> (
        obtain ⟨q, rfl⟩ := cond_some h
        simp only [pyW, PyData.eqv, h1, h2, Option.getD_some]
        exact str_eq he h1 h2 q)
theorem eqW_mix {n : Nat} {x y : W} {b : Bool} (hk : isSc x = !isSc y) (dx : isDat L n x = true) (dy : isDat L n y = true) (h : eqW L n x y = some b) : PyData.eqv (pyW F e L n x) (pyW F e L n y) = b := by
  cases n with
  | zero => cases x <;> cases y <;> first | (cases hk; done) | (simp [isDat] at dx; done) | (simp [isDat] at dy; done)
  | succ n =>
    cases x <;> cases y <;> first | (cases hk; done) | (exfalso; simp [isDat] at dx; done) | (exfalso; simp [isDat] at dy; done) | (simp [eqW] at h; subst h; simp [pyW, PyData.eqv]; done) | (
      simp [eqW] at h; subst h
      first
      | (simp only [isDat] at dx; split at dx <;> first | (rename_i hl; simp [pyW, PyData.eqv, hl]; done) | (cases dx; done))
      | (simp only [isDat] at dy; split at dy <;> first | (rename_i hl; simp [pyW, PyData.eqv, hl]; done) | (cases dy; done)))
theorem eqW_ok (he : En.Ok F e) (R : RH K F e H ρ L) : ∀ (n : Nat) (x y : W) (b : Bool) (vx vy : V), isDat L n x = true → isDat L n y = true → RelW K F e H ρ x vx → RelW K F e H ρ y vy → eqW L n x y = some b → PyData.eqv (pyW F e L n x) (pyW F e L n y) = b := by
  intro n
  induction n with
  | zero =>
    intro x y b vx vy dx dy rx ry h
    have sx : isSc x = true := by cases x <;> first | rfl | (simp [isDat] at dx; done)
    have sy : isSc y = true := by cases y <;> first | rfl | (simp [isDat] at dy; done)
    exact eqW_sc he sx sy rx ry h
  | succ n ih =>
    intro x y b vx vy dx dy rx ry h
    by_cases sx : isSc x = true
    · by_cases sy : isSc y = true
      · exact eqW_sc he sx sy rx ry h
      · exact eqW_mix (by rw [sx]; simpa using sy) dx dy h
    · by_cases sy : isSc y = true
      · exact eqW_mix (by rw [sy]; simpa using sx) dx dy h
      · have go : ∀ {xs ys : List W} {us vs : List V} {c : Bool}, xs.all (isDat L n) = true → ys.all (isDat L n) = true → RelWs K F e H ρ xs us → RelWs K F e H ρ ys vs → eqL (eqW L n) xs ys = some c → PyData.eqvAll (xs.map (pyW F e L n)) (ys.map (pyW F e L n)) = c := by
          intro xs ys us vs c h1 h2 r1 r2 h3
          rw [List.all_eq_true] at h1 h2
          refine eqL_ok (fun x hx y hy d hd => ?_) h3
          obtain ⟨i, hi⟩ := List.mem_iff_getElem?.mp hx
          obtain ⟨j, hj⟩ := List.mem_iff_getElem?.mp hy
          obtain ⟨v, _, hv⟩ := r1.get hi
          obtain ⟨u, _, hu⟩ := r2.get hj
          exact ih x y d v u (h1 x hx) (h2 y hy) hv hu hd
        cases x with
        | tup xs =>
          unfold RelW at rx
          obtain ⟨a, us, rfl, s1, r1⟩ := rx
          simp only [isDat] at dx
          cases y with
          | tup ys =>
            unfold RelW at ry
            obtain ⟨a', vs, rfl, s2, r2⟩ := ry
            simp only [isDat] at dy
            simp only [eqW] at h
            simp only [pyW, PyData.eqv]
            exact go dx dy r1 r2 h
          | ref j =>
            simp only [isDat] at dy
            split at dy
            · rename_i ys hl
              simp only [eqW] at h
              cases h
              simp [pyW, PyData.eqv, hl]
            · cases dy
          | non => exact absurd rfl sy
          | bl _ => exact absurd rfl sy
          | int _ => exact absurd rfl sy
          | ia _ => exact absurd rfl sy
          | str _ => exact absurd rfl sy
          | fz _ => simp [isDat] at dy
        | ref i =>
          unfold RelW at rx
          obtain ⟨a, rfl, ha⟩ := rx
          simp only [isDat] at dx
          split at dx
          · rename_i xs hl
            obtain ⟨a', us, p1, p2, p3⟩ := R.lst hl
            cases y with
            | tup ys =>
              simp only [eqW] at h
              cases h
              simp [pyW, PyData.eqv, hl]
            | ref j =>
              unfold RelW at ry
              obtain ⟨a2, rfl, ha2⟩ := ry
              simp only [isDat] at dy
              split at dy
              · rename_i ys hl2
                obtain ⟨a3, vs, q1, q2, q3⟩ := R.lst hl2
                simp only [eqW, hl, hl2] at h
                simp only [pyW, PyData.eqv, hl, hl2]
                exact go dx dy p3 q3 h
              · cases dy
            | non => exact absurd rfl sy
            | bl _ => exact absurd rfl sy
            | int _ => exact absurd rfl sy
            | ia _ => exact absurd rfl sy
            | str _ => exact absurd rfl sy
            | fz _ => simp [isDat] at dy
          · cases dx
        | non => exact absurd rfl sx
        | bl _ => exact absurd rfl sx
        | int _ => exact absurd rfl sx
        | ia _ => exact absurd rfl sx
        | str _ => exact absurd rfl sx
        | fz _ => simp [isDat] at dx
end
/-- how deep data may be -/
def deep : Nat := 16
def fEq : W → W → LH → Option (W × LH) := fun x y L => cond (isDat L deep x && isDat L deep y) (match eqW L deep x y with
  | some b => some (.bl b, L)
  | none => none) none
def fNe : W → W → LH → Option (W × LH) := fun x y L => cond (isDat L deep x && isDat L deep y) (match eqW L deep x y with
  | some b => some (.bl (!b), L)
  | none => none) none
section
variable {K : PySem.W.Frag} {F : Fx}
theorem oz_eq : OpZ K F (rEqD K) fEq := by
  intro e ρ H L x y vx vy w L' Q he R rx ry h k
  unfold fEq at h
  obtain ⟨hd, h⟩ := cond_opt h
  rw [Bool.and_eq_true] at hd
  split at h
  · rename_i b hb
    cases h
    obtain ⟨d1, p1⟩ := dat_ok he R deep x hd.1
    obtain ⟨d2, p2⟩ := dat_ok he R deep y hd.2
    obtain ⟨q1, l1⟩ := p1 vx rx
    obtain ⟨q2, l2⟩ := p2 vy ry
    refine ⟨_, _, q1, q2, ?_, ?_, ?_⟩
    · unfold SeqAt.shaped; rw [l1, decide_eq_true (by have : (deep : Nat) = 16 := rfl; omega)]; rfl
    · unfold SeqAt.shaped; rw [l2, decide_eq_true (by have : (deep : Nat) = 16 := rfl; omega)]; rfl
    · rw [eqW_ok he R deep x y b vx vy hd.1 hd.2 rx ry hb]
      exact k ρ H _ .refl R rfl
  · cases h
theorem oz_ne : OpZ K F (rNeD K) fNe := by
  intro e ρ H L x y vx vy w L' Q he R rx ry h k
  unfold fNe at h
  obtain ⟨hd, h⟩ := cond_opt h
  rw [Bool.and_eq_true] at hd
  split at h
  · rename_i b hb
    cases h
    obtain ⟨d1, p1⟩ := dat_ok he R deep x hd.1
    obtain ⟨d2, p2⟩ := dat_ok he R deep y hd.2
    obtain ⟨q1, l1⟩ := p1 vx rx
    obtain ⟨q2, l2⟩ := p2 vy ry
    refine ⟨_, _, q1, q2, ?_, ?_, ?_⟩
    · unfold SeqAt.shaped; rw [l1, decide_eq_true (by have : (deep : Nat) = 16 := rfl; omega)]; rfl
    · unfold SeqAt.shaped; rw [l2, decide_eq_true (by have : (deep : Nat) = 16 := rfl; omega)]; rfl
    · rw [eqW_ok he R deep x y b vx vy hd.1 hd.2 rx ry hb]
      exact k ρ H _ .refl R rfl
  · cases h
end
end Z

set_option Elab.async false
set_option linter.all false
set_option maxRecDepth 100000
namespace Z
open PySem PySem.Spec PyProof.Rows L2
section
variable {K : PySem.W.Frag} {F : Fx}
theorem oz_or {r r' : R2} {f : W → W → LH → Option (W × LH)} (h : ∀ (e : En) (ρ : List Addr) (H : Hp) (L : LH) (x y : W) (vx vy : V) (w : W) (L' : LH) (Q : VK), En.Ok F e → RH K F e H ρ L →
    RelW K F e H ρ x vx → RelW K F e H ρ y vy → f x y L = some (w, L') → (∀ ρ' H' v, Fm ρ ρ' H H' → RH K F e H' ρ' L' → RelW K F e H' ρ' w v → Q v H') → r vx vy H Q ∨ r' vx vy H Q) : OpZ K F (fun x y H Q => r x y H Q ∨ r' x y H Q) f := h

/-! ### ints -/
def fI (C : Int → Int → Bool) (g : Int → Int → Int) : W → W → LH → Option (W × LH) := fun x y L => match x, y with
  | .int i, .int j => cond (C i j) (some (.int (g i j), L)) none
  | _, _ => none
def fIB (g : Int → Int → Bool) : W → W → LH → Option (W × LH) := fun x y L => match x, y with
  | .int i, .int j => some (.bl (g i j), L)
  | _, _ => none
theorem oz_i {C : Int → Int → Prop} {B : Int → Int → Bool} {g : Int → Int → Int} (hB : ∀ i j, B i j = true → C i j) : OpZ K F (rI C fun i j => .int (g i j)) (fI B g) := by
  intro e ρ H L x y vx vy w L' Q he R rx ry h k
  unfold fI at h
  split at h
  · rename_i i j
    obtain ⟨q, h⟩ := cond_some h
    cases h
    cases rx
    cases ry
    exact ⟨i, j, rfl, rfl, hB i j q, k ρ H _ .refl R rfl⟩
  · cases h
theorem oz_ib {g : Int → Int → Bool} : OpZ K F (rI0 fun i j => .bl (g i j)) (fIB g) := by
  intro e ρ H L x y vx vy w L' Q he R rx ry h k
  unfold fIB at h
  split at h
  · rename_i i j
    cases h
    cases rx
    cases ry
    exact ⟨i, j, rfl, rfl, k ρ H _ .refl R rfl⟩
  · cases h
def fSub : W → W → LH → Option (W × LH) := fun x y L => match x, y with
  | .int i, .int j => some (.int (i - j), L)
  | _, _ => none
theorem oz_sub : OpZ K F (rI0 fun i j => .int (i - j)) fSub := by
  intro e ρ H L x y vx vy w L' Q he R rx ry h k
  unfold fSub at h
  split at h
  · rename_i i j
    cases h
    cases rx
    cases ry
    exact ⟨i, j, rfl, rfl, k ρ H _ .refl R rfl⟩
  · cases h
/-- int + int, tuple + tuple, list + list -/
def fAdd : W → W → LH → Option (W × LH) := fun x y L => match x, y with
  | .int i, .int j => some (.int (i + j), L)
  | .tup xs, .tup ys => cond (Nat.ble (xs.length + ys.length) 1000000) (some (.tup (xs ++ ys), L)) none
  | .ref m, .ref n => match L.get m, L.get n with
    | some (.lst xs), some (.lst ys) => fLst (xs ++ ys) L
    | _, _ => none
  | _, _ => none
abbrev rAddZ (K : PySem.W.Frag) : R2 := fun x y H Q => (rI0 fun i j => .int (i + j)) x y H Q ∨ (fun x y H Q => rCatA K x y H Q ∨ rCat x y H Q) x y H Q
theorem oz_add : OpZ K F (rAddZ K) fAdd := by
  intro e ρ H L x y vx vy w L' Q he R rx ry h k
  unfold fAdd at h
  split at h
  · rename_i i j
    cases h
    cases rx
    cases ry
    exact .inl ⟨i, j, rfl, rfl, k ρ H _ .refl R rfl⟩
  · rename_i xs ys
    obtain ⟨q, h⟩ := cond_some h
    cases h
    unfold RelW at rx ry
    obtain ⟨a, us, rfl, s1, r1⟩ := rx
    obtain ⟨b, vs, rfl, s2, r2⟩ := ry
    refine .inr (.inl ⟨a, b, us, vs, rfl, rfl, s1, s2, ?_, ?_, ?_, ?_⟩)
    · rw [r1.length, r2.length]; exact line_ok (Nat.le_of_ble_eq_true q)
    · intro z
      subst z
      refine k ρ H _ .refl R ?_
      have := r1.append r2
      unfold RelW
      exact ⟨b, vs, rfl, s2, by simpa using this⟩
    · intro _ z
      subst z
      refine k ρ H _ .refl R ?_
      have := r1.append r2
      unfold RelW
      exact ⟨a, us, rfl, s1, by simpa using this⟩
    · intro _ _ p hp
      obtain ⟨f2, r2', w2⟩ := new_tup R hp (r1.append r2)
      exact k _ _ _ f2 r2' w2
  · rename_i m n
    split at h
    · rename_i xs ys g1 g2
      obtain ⟨h2, h3, rfl, rfl⟩ := fLst_spec h
      unfold RelW at rx ry
      obtain ⟨a, rfl, ha⟩ := rx
      obtain ⟨b, rfl, hb⟩ := ry
      obtain ⟨a', us, p1, p2, p3⟩ := R.lst g1
      rw [ha] at p1; cases p1
      obtain ⟨b', vs, q1, q2, q3⟩ := R.lst g2
      rw [hb] at q1; cases q1
      refine .inr (.inr ⟨a, b, us, vs, rfl, rfl, p2, q2, ?_, fun p hp => ?_⟩)
      · rw [p3.length, q3.length, ← List.length_append]; exact h2
      · obtain ⟨f2, r2', w2⟩ := new_lst R hp h3 (p3.append q3)
        exact k _ _ _ f2 r2' w2
    · cases h
  · cases h
theorem RelWs.rep {e : En} {H : Hp} {ρ : List Addr} {ws : List W} {vs : List V} (h : RelWs K F e H ρ ws vs) : ∀ n : Nat, RelWs K F e H ρ (List.replicate n ws).flatten (List.replicate n vs).flatten
  | 0 => .nil
  | n + 1 => by
    rw [List.replicate_succ, List.replicate_succ, List.flatten_cons, List.flatten_cons]
    exact h.append (h.rep n)
/-- int * int, list * int, tuple * int -/
def smallI (i : Int) : Bool := decide (-(2 ^ 64) < i) && decide (i < 2 ^ 64)
def fMul : W → W → LH → Option (W × LH) := fun x y L => match x, y with
  | .int i, .int j => cond (smallI i || smallI j) (some (.int (i * j), L)) none
  | .tup xs, .int k => cond (!xs.isEmpty && decide (2 ≤ k) && decide (k ≤ 1000) && Nat.ble xs.length 1000) (some (.tup (List.replicate k.toNat xs).flatten, L)) none
  | .ref m, .int k => match L.get m with
    | some (.lst xs) => cond (decide (-1000 ≤ k) && decide (k ≤ 1000) && Nat.ble (xs.length * k.toNat) 1000000) (fLst (List.replicate k.toNat xs).flatten L) none
    | _ => none
  | _, _ => none
abbrev rMulZ (K : PySem.W.Frag) : R2 := fun x y H Q => (rI CMul fun i j => .int (i * j)) x y H Q ∨ (fun x y H Q => rRepT K x y H Q ∨ rRep x y H Q) x y H Q
theorem smallI_of {i : Int} (h : smallI i = true) : -(2 ^ 64) < i ∧ i < 2 ^ 64 := by
  unfold smallI at h
  rw [Bool.and_eq_true, decide_eq_true_eq, decide_eq_true_eq] at h
  exact h
theorem flat_len {α : Type} (xs : List α) : ∀ n : Nat, (List.replicate n xs).flatten.length = xs.length * n
  | 0 => by simp
  | n + 1 => by rw [List.replicate_succ, List.flatten_cons, List.length_append, flat_len xs n, Nat.mul_succ, Nat.add_comm]
theorem oz_mul : OpZ K F (rMulZ K) fMul := by
  intro e ρ H L x y vx vy w L' Q he R rx ry h k
  unfold fMul at h
  split at h
  · rename_i i j
    obtain ⟨q, h⟩ := cond_some h
    cases h
    cases rx
    cases ry
    rw [Bool.or_eq_true] at q
    exact .inl ⟨i, j, rfl, rfl, q.imp smallI_of smallI_of, k ρ H _ .refl R rfl⟩
  · rename_i xs j
    obtain ⟨q, h⟩ := cond_some h
    cases h
    unfold RelW at rx
    obtain ⟨a, us, rfl, s1, r1⟩ := rx
    cases ry
    rw [Bool.and_eq_true, Bool.and_eq_true, Bool.and_eq_true, decide_eq_true_eq, decide_eq_true_eq] at q
    obtain ⟨⟨⟨q1, q2⟩, q3⟩, q4⟩ := q
    refine .inr (.inl ⟨a, j, us, rfl, rfl, s1, ?_, q2, q3, ?_, fun p hp => ?_⟩)
    · rintro rfl
      have := r1.length
      cases xs with
      | nil => simp at q1
      | cons _ _ => simp at this
    · rw [r1.length]; exact Nat.le_of_ble_eq_true q4
    · obtain ⟨f2, r2', w2⟩ := new_tup R hp (r1.rep j.toNat)
      exact k _ _ _ f2 r2' w2
  · rename_i m j
    split at h
    · rename_i xs g1
      obtain ⟨q, h⟩ := cond_opt h
      obtain ⟨h2, h3, rfl, rfl⟩ := fLst_spec h
      unfold RelW at rx
      obtain ⟨a, rfl, ha⟩ := rx
      cases ry
      obtain ⟨a', us, p1, p2, p3⟩ := R.lst g1
      rw [ha] at p1; cases p1
      rw [Bool.and_eq_true, Bool.and_eq_true, decide_eq_true_eq, decide_eq_true_eq] at q
      obtain ⟨⟨q2, q3⟩, q4⟩ := q
      refine .inr (.inr ⟨a, j, us, rfl, rfl, p2, by omega, by omega, ?_, fun p hp => ?_⟩)
      · rw [p3.length]; exact line_ok (Nat.le_of_ble_eq_true q4)
      · obtain ⟨f2, r2', w2⟩ := new_lst R hp h3 (p3.rep j.toNat)
        exact k _ _ _ f2 r2' w2
    · cases h
  · cases h

/-! ### is -/
def isNonW : W → Bool
  | .non => true
  | _ => false
def fIsN : W → W → LH → Option (W × LH) := fun x y L => match y with
  | .non => some (.bl (isNonW x), L)
  | _ => none
def fNotN : W → W → LH → Option (W × LH) := fun x y L => match y with
  | .non => some (.bl (!isNonW x), L)
  | _ => none
theorem rel_none {e : En} {H : Hp} {ρ : List Addr} {w : W} {v : V} (r : RelW K F e H ρ w v) : decide (v = .non) = isNonW w := by
  cases w with
  | non => cases r; rfl
  | bl b => cases r; rfl
  | int i => cases r; rfl
  | ia i => obtain ⟨_, _, rfl⟩ := r; rfl
  | str i => obtain ⟨_, _, rfl⟩ := r; rfl
  | tup xs => unfold RelW at r; obtain ⟨_, _, rfl, _⟩ := r; rfl
  | ref n => unfold RelW at r; obtain ⟨_, rfl, _⟩ := r; rfl
  | fz xs => unfold RelW at r; obtain ⟨_, _, rfl, _⟩ := r; rfl
theorem oz_isN : OpZ K F (fun x y H Q => y = .non ∧ Q (.bl (decide (x = .non))) H) fIsN := by
  intro e ρ H L x y vx vy w L' Q he R rx ry h k
  unfold fIsN at h
  split at h
  · cases h
    cases ry
    refine ⟨rfl, ?_⟩
    rw [rel_none rx]
    exact k ρ H _ .refl R rfl
  · cases h
theorem oz_notN : OpZ K F (fun x y H Q => y = .non ∧ Q (.bl (!decide (x = .non))) H) fNotN := by
  intro e ρ H L x y vx vy w L' Q he R rx ry h k
  unfold fNotN at h
  split at h
  · cases h
    cases ry
    refine ⟨rfl, ?_⟩
    rw [rel_none rx]
    exact k ρ H _ .refl R rfl
  · cases h
def fIsB : W → W → LH → Option (W × LH) := fun x y L => match x, y with
  | .bl a, .bl b => some (.bl (a == b), L)
  | _, _ => none
def fNotB : W → W → LH → Option (W × LH) := fun x y L => match x, y with
  | .bl a, .bl b => some (.bl (!(a == b)), L)
  | _, _ => none
theorem oz_isB : OpZ K F (fun x y H Q => ∃ a b, x = .bl a ∧ y = .bl b ∧ Q (.bl (decide (a = b))) H) fIsB := by
  intro e ρ H L x y vx vy w L' Q he R rx ry h k
  unfold fIsB at h
  split at h
  · rename_i a b
    cases h
    cases rx
    cases ry
    refine ⟨a, b, rfl, rfl, ?_⟩
    rw [show decide (a = b) = (a == b) by cases a <;> cases b <;> rfl]
    exact k ρ H _ .refl R rfl
  · cases h
theorem oz_notB : OpZ K F (fun x y H Q => ∃ a b, x = .bl a ∧ y = .bl b ∧ Q (.bl (!decide (a = b))) H) fNotB := by
  intro e ρ H L x y vx vy w L' Q he R rx ry h k
  unfold fNotB at h
  split at h
  · rename_i a b
    cases h
    cases rx
    cases ry
    refine ⟨a, b, rfl, rfl, ?_⟩
    rw [show decide (a = b) = (a == b) by cases a <;> cases b <;> rfl]
    exact k ρ H _ .refl R rfl
  · cases h

/-! ### subscripts -/
def fIx : W → W → LH → Option (W × LH) := fun x y L => match y with
  | .int i => match x with
    | .tup xs => match atI xs i with
      | some w => some (w, L)
      | none => none
    | .fz xs => match atI xs i with
      | some w => some (w, L)
      | none => none
    | .ref n => match L.get n with
      | some (.lst xs) => match atI xs i with
        | some w => some (w, L)
        | none => none
      | _ => none
    | _ => none
  | _ => none
theorem atI_rel {e : En} {H : Hp} {ρ : List Addr} {ws : List W} {vs : List V} {i : Int} {w : W} (r : RelWs K F e H ρ ws vs) (h : atI ws i = some w) : ∃ v, atI vs i = some v ∧ RelW K F e H ρ w v := by
  unfold atI at h ⊢
  rw [r.length]
  cases q : ixN ws.length i with
  | none => rw [q] at h; cases h
  | some j =>
    rw [q] at h
    exact r.get h
theorem oz_ix : OpZ K F (fun x y H Q => rIxL K x y H Q ∨ rIxT K x y H Q) fIx := by
  intro e ρ H L x y vx vy w L' Q he R rx ry h k
  unfold fIx at h
  split at h
  · rename_i i
    cases ry
    split at h
    · rename_i xs
      split at h
      · rename_i w' hw
        cases h
        unfold RelW at rx
        obtain ⟨a, us, rfl, s1, r1⟩ := rx
        obtain ⟨v, v1, v2⟩ := atI_rel r1 hw
        exact .inr ⟨a, us, i, v, rfl, rfl, s1, v1, k ρ H _ .refl R v2⟩
      · cases h
    · rename_i xs
      split at h
      · rename_i w' hw
        cases h
        unfold RelW at rx
        obtain ⟨a, us, rfl, s1, r1⟩ := rx
        obtain ⟨v, v1, v2⟩ := atI_rel r1 hw
        exact .inl ⟨a, us, i, v, rfl, rfl, s1.sq, v1, k ρ H _ .refl R v2⟩
      · cases h
    · rename_i n
      split at h
      · rename_i xs g1
        split at h
        · rename_i w' hw
          cases h
          unfold RelW at rx
          obtain ⟨a, rfl, ha⟩ := rx
          obtain ⟨a', us, p1, p2, p3⟩ := R.lst g1
          rw [ha] at p1; cases p1
          obtain ⟨v, v1, v2⟩ := atI_rel p3 hw
          exact .inl ⟨a, us, i, v, rfl, rfl, SqL.of p2, v1, k ρ H _ .refl R v2⟩
        · cases h
      · cases h
    · cases h
  · cases h
def cutW (xs : List W) (lo hi : Option Int) : List W := (xs.drop (HT.sIx xs.length 0 lo)).take (HT.sIx xs.length xs.length hi - HT.sIx xs.length 0 lo)
theorem cut_rel {e : En} {H : Hp} {ρ : List Addr} {ws : List W} {vs : List V} (r : RelWs K F e H ρ ws vs) (lo hi : Option Int) : RelWs K F e H ρ (cutW ws lo hi) (cutV vs lo hi) := by
  unfold cutW cutV
  rw [r.length]
  exact (r.drop _).take _
abbrev Eo := Sl → LH → Option (Option Int × LH)
def oNone : Eo := fun _ L => some (none, L)
def oSome (a : Ex) : Eo := fun sl L => match a sl L with
  | some (.int i, L1) => some (some i, L1)
  | _ => none
def TOZ (K : PySem.W.Frag) (F : Fx) (m : Eo) : TO := fun σ H Q => ∃ e ρ sl L o L', En.Ok F e ∧ RelSl K F e H ρ sl σ ∧ RH K F e H ρ L ∧ m sl L = some (o, L') ∧ ∀ ρ' H', Fm ρ ρ' H H' → RH K F e H' ρ' L' → Q o H'
def mSlice (a : Ex) (lo hi : Eo) : Ex := fun sl L => match a sl L with
  | none => none
  | some (x, L1) => match lo sl L1 with
    | none => none
    | some (l, L2) => match hi sl L2 with
      | none => none
      | some (h, L3) => match x with
        | .tup xs => some (.tup (cutW xs l h), L3)
        | .fz xs => cond (Nat.blt L3.n top) (some (.ref L3.n, L3.add (.lst (cutW xs l h)))) none
        | .ref n => match L3.get n with
          | some (.lst xs) => cond (Nat.blt L3.n top) (some (.ref L3.n, L3.add (.lst (cutW xs l h)))) none
          | _ => none
        | _ => none
end
section
variable {X : Cx} {F : Fx} {ma mb : Ex} {lo hi : Option Expr} {ml mh : Eo} {a b : Expr} {pos p2 : Pos}
theorem PO.imp {x : Option Expr} {t t' : TO} (h : PO X x t) (q : ∀ σ H Q, t' σ H Q → t σ H Q) : PO X x t' := ⟨fun pins s σ H Q I k => h.run pins s σ H Q I (q σ H Q k)⟩
theorem zo_none : PO X none (TOZ X.K F oNone) := by
  refine PO.imp po_none ?_
  rintro σ H Q ⟨e, ρ, sl, L, o, L', he, hs, hh, hm, k⟩
  cases hm
  exact k ρ H .refl hh
theorem zo_some (ha : PE X a (TZ X.K F ma)) : PO X (some a) (TOZ X.K F (oSome ma)) := by
  refine PO.imp (po_some ha) ?_
  rintro σ H Q ⟨e, ρ, sl, L, o, L', he, hs, hh, hm, k⟩
  unfold oSome at hm
  split at hm
  · rename_i i L1 h1
    cases hm
    exact ⟨e, ρ, sl, L, _, _, he, hs, hh, h1, fun ρ1 H1 v f1 r1 w1 => ⟨i, w1, k ρ1 H1 f1 r1⟩⟩
  · cases hm
theorem ze_slice (ha : PE X a (TZ X.K F ma)) (hl : PO X lo (TOZ X.K F ml)) (hh : PO X hi (TOZ X.K F mh)) : PE X (.Subscript a (.Slice lo hi none p2) pos) (TZ X.K F (mSlice ma ml mh)) := by
  refine PE.imp (pe_slice (sl_tupA.or sl_list) ha hl hh) ?_
  rintro σ H Q ⟨e, ρ, sl, L, w, L', he, hs, hh, hm, k⟩
  unfold mSlice at hm
  split at hm
  · cases hm
  rename_i x L1 h1
  split at hm
  · cases hm
  rename_i l L2 h2
  split at hm
  · cases hm
  rename_i h L3 h3
  refine ⟨e, ρ, sl, L, _, _, he, hs, hh, h1, fun ρ1 H1 v f1 r1 w1 => ?_⟩
  refine ⟨e, ρ1, sl, L1, _, _, he, f1.relSl hs, r1, h2, fun ρ2 H2 f2 r2 => ?_⟩
  refine ⟨e, ρ2, sl, L2, _, _, he, (f1.trans f2).relSl hs, r2, h3, fun ρ3 H3 f3 r3 => ?_⟩
  have w1' := (f2.trans f3).rel w1
  split at hm
  · rename_i xs
    cases hm
    unfold RelW at w1'
    obtain ⟨a, us, rfl, s1, q1⟩ := w1'
    have hc := cut_rel q1 l h
    refine .inl ⟨a, us, rfl, s1, fun z => ?_, fun _ p hp => ?_⟩
    · refine k ρ3 H3 _ ((f1.trans f2).trans f3) r3 ?_
      have e1 : cutV us l h = us := by
        unfold cutV
        rw [z.1, z.2]
        simp
      unfold RelW
      exact ⟨a, us, rfl, s1, by rw [e1] at hc; exact hc⟩
    · obtain ⟨f4, r4, w4⟩ := new_tup r3 hp hc
      exact k _ _ _ (((f1.trans f2).trans f3).trans f4) r4 w4
  · rename_i xs
    obtain ⟨q, hm⟩ := cond_some hm
    cases hm
    unfold RelW at w1'
    obtain ⟨a, us, rfl, s1, q1⟩ := w1'
    refine .inr ⟨a, us, rfl, s1.sq, fun p hp => ?_⟩
    obtain ⟨f4, r4, w4⟩ := new_lst r3 hp (Nat.le_of_ble_eq_true q) (cut_rel q1 l h)
    exact k _ _ _ (((f1.trans f2).trans f3).trans f4) r4 w4
  · rename_i n
    split at hm
    · rename_i xs g1
      obtain ⟨q, hm⟩ := cond_some hm
      cases hm
      unfold RelW at w1'
      obtain ⟨a, rfl, ha⟩ := w1'
      obtain ⟨a', us, p1, p2, p3⟩ := r3.lst g1
      rw [ha] at p1; cases p1
      refine .inr ⟨a, us, rfl, SqL.of p2, fun p hp => ?_⟩
      obtain ⟨f4, r4, w4⟩ := new_lst r3 hp (Nat.le_of_ble_eq_true q) (cut_rel p3 l h)
      exact k _ _ _ (((f1.trans f2).trans f3).trans f4) r4 w4
    · cases hm
  · cases hm
theorem ze_ix (ha : PE X a (TZ X.K F ma)) (hb : PE X b (TZ X.K F mb)) (hs : PlainIx b := by exact fun _ _ => rfl) : PE X (.Subscript a b pos) (TZ X.K F (mBin fIx ma mb)) :=
  PE.imp (pe_ix (IxR.or ix_list ix_tup) ha hb hs) fun _ _ _ h => tz_bin oz_ix h
/-- xs[i] = v -/
def gIx (a b : Ex) : Eg := fun w sl L => match a sl L with
  | some (.ref n, L1) => match b sl L1 with
    | some (.int i, L2) => match L2.get n with
      | some (.lst xs) => match ixN xs.length i with
        | some j => cond (Nat.blt L2.n top) (some (sl, L2.set n (.lst (xs.set j w)))) none
        | none => none
      | _ => none
    | _ => none
  | _ => none
theorem zg_ix {T : List Nat} (ha : PE X a (TZ X.K F ma)) (hb : PE X b (TZ X.K F mb)) (hs : ∀ v, assign (.Subscript a b pos) X.env v = (do
      let ov ← holding [v] (eval a X.env)
      let iv ← holding [v, ov] (eval b X.env)
      standAt pos
      holding [v, ov, iv] (setItem ov iv v)
      release [v, ov, iv] []) := by intro _; rfl) : PG X (.Subscript a b pos) (GZ X.K F T (gIx ma mb)) := by
  refine PG.imp (pg_sub ha hb set_list hs) ?_
  rintro v σ H Q ⟨e, ρ, sl, L, w, sl', L', he, hs, hh, hw, hm, k⟩
  unfold gIx at hm
  split at hm
  · rename_i n L1 h1
    split at hm
    · rename_i i L2 h2
      split at hm
      · rename_i xs g1
        split at hm
        · rename_i j hj
          obtain ⟨q, hm⟩ := cond_some hm
          cases hm
          refine ⟨e, ρ, sl, L, _, _, he, hs, hh, h1, fun ρ1 H1 v1 f1 r1 w1 => ?_⟩
          refine ⟨e, ρ1, sl, L1, _, _, he, f1.relSl hs, r1, h2, fun ρ2 H2 v2 f2 r2 w2 => ?_⟩
          have w1' := f2.rel w1
          cases w2
          unfold RelW at w1'
          obtain ⟨a, rfl, ha⟩ := w1'
          obtain ⟨a', us, p1, p2, p3⟩ := r2.lst g1
          rw [ha] at p1; cases p1
          refine ⟨a, us, i, j, rfl, rfl, p2, by rw [p3.length]; exact hj, ?_⟩
          have f3 : Fm ρ2 ρ2 H2 (upd H2 a (.lst (us.set j v))) := fm_put r2 ha (by rw [p2]; exact trivial)
          have fA := (f1.trans f2).trans f3
          exact k ρ2 _ σ fA (r2.put ha (by rw [p2]; exact trivial) (Nat.le_of_ble_eq_true q) ⟨_, upd_same, f3.rels (p3.set j ((f1.trans f2).rel hw))⟩) (fA.relSl hs) rfl
        · cases hm
      · cases hm
    · cases hm
  · cases hm
end

/-! ### builtins by values -/
def CallZ (K : PySem.W.Frag) (F : Fx) (r : List V → Hp → VK → Prop) (f : List W → LH → Option (W × LH)) : Prop := ∀ (e : En) (ρ : List Addr) (H : Hp) (L : LH) (xs : List W) (vs : List V) (w : W) (L' : LH) (Q : VK), En.Ok F e → RH K F e H ρ L →
  RelWs K F e H ρ xs vs → f xs L = some (w, L') → (∀ ρ' H' v, Fm ρ ρ' H H' → RH K F e H' ρ' L' → RelW K F e H' ρ' w v → Q v H') → r vs H Q
section
variable {X : Cx} {F : Fx} {r : List V → Hp → VK → Prop} {f : List W → LH → Option (W × LH)} {mr : Ea} {a : Expr} {es : List Expr} {x : Str} {p pos : Pos} {id T : String}
theorem CallR.or {r r' : List V → Hp → VK → Prop} {g : Value} (h : CallR X g r) (h' : CallR X g r') : CallR X g (fun vs H Q => r vs H Q ∨ r' vs H Q) := by
  intro pins s σ H xs us Q I rx q
  rcases q with q | q
  · exact h pins s σ H xs us Q I rx q
  · exact h' pins s σ H xs us Q I rx q
theorem tz_cb {K : PySem.W.Frag} (hz : CallZ K F r f) {σ : St} {H : Hp} {Q : VK} (h : TZ K F (mApp f mr) σ H Q) : tCB r (TAZ K F mr) σ H Q := by
  obtain ⟨e, ρ, sl, L, w, L', he, hs, hh, hm, k⟩ := h
  unfold mApp at hm
  split at hm
  · cases hm
  rename_i xs L1 h1
  refine ⟨e, ρ, sl, L, _, _, he, hs, hh, h1, fun ρ1 H1 vs f1 r1 w1 => ?_⟩
  exact hz e ρ1 H1 L1 xs vs w L' Q he r1 w1 hm fun ρ' H' v f3 r3 w3 => k ρ' H' v (f1.trans f3) r3 w3
theorem ze_callB (hz : CallZ X.K F r f) (hc : CallR X (.builtin id) r) (hg : Gl X x) (hm : X.mg x = none) (hv : bootBuiltins x = some (.builtin id)) (ha : PA X (a :: es) (TAZ X.K F mr)) (hn : x ≠ "__name__" := by decide) (hdb : (x == ("__debug__" : Str)) = false := by decide)
    (he : starEach (a :: es) X.env = (false, eval a X.env) :: starEach es X.env := by rfl) (hpl : (backTo pos (starEach es X.env)).any (·.1) = false := by rfl) : PE X (.Call (.Name x p) (a :: es) [] pos) (TZ X.K F (mApp f mr)) :=
  PE.imp (pe_callB hc hg hm hv ha hn hdb he hpl) fun _ _ _ h => tz_cb hz h
theorem ze_callTy (hz : CallZ X.K F r f) (hc : CallR X (.type T) r) (hg : Gl X x) (hm : X.mg x = none) (hv : bootBuiltins x = some (.type T)) (ha : PA X (a :: es) (TAZ X.K F mr)) (hn : x ≠ "__name__" := by decide) (hdb : (x == ("__debug__" : Str)) = false := by decide)
    (he : starEach (a :: es) X.env = (false, eval a X.env) :: starEach es X.env := by rfl) (hpl : (backTo pos (starEach es X.env)).any (·.1) = false := by rfl) : PE X (.Call (.Name x p) (a :: es) [] pos) (TZ X.K F (mApp f mr)) :=
  PE.imp (pe_callTy hc hg hm hv ha hn hdb he hpl) fun _ _ _ h => tz_cb hz h
end
section
variable {K : PySem.W.Frag} {F : Fx}
theorem rel1 {e : En} {H : Hp} {ρ : List Addr} {x : W} {vs : List V} (r : RelWs K F e H ρ [x] vs) : ∃ v, vs = [v] ∧ RelW K F e H ρ x v := by
  obtain ⟨v, vr, rfl, r1, r2⟩ := r.uncons
  unfold RelWs at r2
  exact ⟨v, by rw [r2], r1⟩
theorem rel2 {e : En} {H : Hp} {ρ : List Addr} {x y : W} {vs : List V} (r : RelWs K F e H ρ [x, y] vs) : ∃ u v, vs = [u, v] ∧ RelW K F e H ρ x u ∧ RelW K F e H ρ y v := by
  obtain ⟨u, vr, rfl, r1, r2⟩ := r.uncons
  obtain ⟨v, rfl, r3⟩ := rel1 r2
  exact ⟨u, v, rfl, r1, r3⟩
/-! len of a list, a tuple -/
def fLen : List W → LH → Option (W × LH) := fun xs L => match xs with
  | [.tup ws] => some (.int (ws.length : Nat), L)
  | [.fz ws] => some (.int (ws.length : Nat), L)
  | [.ref n] => match L.get n with
    | some (.lst ws) => some (.int (ws.length : Nat), L)
    | _ => none
  | _ => none
theorem cz_len : CallZ K F (fun xs H Q => ∃ x n, xs = [x] ∧ LenV K x H n ∧ Q (.int n) H) fLen := by
  intro e ρ H L xs vs w L' Q he R rx h k
  unfold fLen at h
  split at h
  · rename_i ws
    cases h
    obtain ⟨v, rfl, r⟩ := rel1 rx
    unfold RelW at r
    obtain ⟨a, us, rfl, s1, r1⟩ := r
    exact ⟨_, _, rfl, .inr ⟨us, s1, rfl⟩, by rw [r1.length]; exact k ρ H _ .refl R rfl⟩
  · rename_i ws
    cases h
    obtain ⟨v, rfl, r⟩ := rel1 rx
    unfold RelW at r
    obtain ⟨a, us, rfl, s1, r1⟩ := r
    exact ⟨_, _, rfl, .inl ⟨us, s1.sq, rfl⟩, by rw [r1.length]; exact k ρ H _ .refl R rfl⟩
  · rename_i n
    split at h
    · rename_i ws g1
      cases h
      obtain ⟨v, rfl, r⟩ := rel1 rx
      unfold RelW at r
      obtain ⟨a, rfl, ha⟩ := r
      obtain ⟨a', us, p1, p2, p3⟩ := R.lst g1
      rw [ha] at p1; cases p1
      exact ⟨_, _, rfl, .inl ⟨us, SqL.of p2, rfl⟩, by rw [p3.length]; exact k ρ H _ .refl R rfl⟩
    · cases h
  · cases h
/-! all of a list of truths -/
def allB : List W → Option Bool
  | [] => some true
  | .bl b :: r => match allB r with
    | some c => some (b && c)
    | none => none
  | _ => none
def fAll : List W → LH → Option (W × LH) := fun xs L => match xs with
  | [.ref n] => match L.get n with
    | some (.lst ws) => match allB ws with
      | some b => some (.bl b, L)
      | none => none
    | _ => none
  | _ => none
theorem allB_rel {e : En} {H : Hp} {ρ : List Addr} : ∀ {ws : List W} {vs : List V} {b : Bool}, RelWs K F e H ρ ws vs → allB ws = some b → ∃ bs : List Bool, vs = bs.map V.bl ∧ bs.all id = b
  | [], vs, b, r, h => by cases h; unfold RelWs at r; exact ⟨[], r, rfl⟩
  | w :: ws, vs, b, r, h => by
    unfold allB at h
    split at h
    · rename_i heq; cases heq
    · rename_i b0 r0 heq
      cases heq
      split at h
      · rename_i c hc
        cases h
        obtain ⟨v, vr, rfl, r1, r2⟩ := r.uncons
        obtain ⟨bs, e1, e2⟩ := allB_rel r2 hc
        cases r1
        exact ⟨b0 :: bs, by rw [e1]; rfl, by rw [List.all_cons, e2]; rfl⟩
      · cases h
    · cases h
theorem cz_all : CallZ K F (rAll K) fAll := by
  intro e ρ H L xs vs w L' Q he R rx h k
  unfold fAll at h
  split at h
  · rename_i n
    split at h
    · rename_i ws g1
      split at h
      · rename_i b hb
        cases h
        obtain ⟨v, rfl, r⟩ := rel1 rx
        unfold RelW at r
        obtain ⟨a, rfl, ha⟩ := r
        obtain ⟨a', us, p1, p2, p3⟩ := R.lst g1
        rw [ha] at p1; cases p1
        obtain ⟨bs, rfl, e2⟩ := allB_rel p3 hb
        exact ⟨a, bs, rfl, SqL.of p2, by rw [e2]; exact k ρ H _ .refl R rfl⟩
      · cases h
    · cases h
  · cases h
/-! list(x), tuple(x) of a list or a tuple -/
def fList : List W → LH → Option (W × LH) := fun xs L => match xs with
  | [.tup ws] => cond (Nat.blt L.n top) (some (.ref L.n, L.add (.lst ws))) none
  | [.ref n] => match L.get n with
    | some (.lst ws) => cond (Nat.blt L.n top) (some (.ref L.n, L.add (.lst ws))) none
    | _ => none
  | _ => none
theorem cz_list : CallZ K F (fun xs H Q => ∃ p ys, xs = [.ref p] ∧ (SqL K H p ys ∨ SqT K H p ys) ∧ ∀ l, H l = none → Q (.ref l) (upd H l (.lst ys))) fList := by
  intro e ρ H L xs vs w L' Q he R rx h k
  unfold fList at h
  split at h
  · rename_i ws
    obtain ⟨q, h⟩ := cond_some h
    cases h
    obtain ⟨v, rfl, r⟩ := rel1 rx
    unfold RelW at r
    obtain ⟨a, us, rfl, s1, r1⟩ := r
    refine ⟨a, us, rfl, .inr s1, fun p hp => ?_⟩
    obtain ⟨f4, r4, w4⟩ := new_lst R hp (Nat.le_of_ble_eq_true q) r1
    exact k _ _ _ f4 r4 w4
  · rename_i n
    split at h
    · rename_i ws g1
      obtain ⟨q, h⟩ := cond_some h
      cases h
      obtain ⟨v, rfl, r⟩ := rel1 rx
      unfold RelW at r
      obtain ⟨a, rfl, ha⟩ := r
      obtain ⟨a', us, p1, p2, p3⟩ := R.lst g1
      rw [ha] at p1; cases p1
      refine ⟨a, us, rfl, .inl (SqL.of p2), fun p hp => ?_⟩
      obtain ⟨f4, r4, w4⟩ := new_lst R hp (Nat.le_of_ble_eq_true q) p3
      exact k _ _ _ f4 r4 w4
    · cases h
  · cases h
def fTuple : List W → LH → Option (W × LH) := fun xs L => match xs with
  | [.tup ws] => some (.tup ws, L)
  | [.ref n] => match L.get n with
    | some (.lst ws) => some (.tup ws, L)
    | _ => none
  | _ => none
theorem cz_tuple : CallZ K F (fun xs H Q => ∃ p ys, xs = [.ref p] ∧ ((SqL K H p ys ∧ ∀ l, H l = none → Q (.ref l) (upd H l (.tup ys))) ∨ (SqT K H p ys ∧ Q (.ref p) H))) fTuple := by
  intro e ρ H L xs vs w L' Q he R rx h k
  unfold fTuple at h
  split at h
  · rename_i ws
    cases h
    obtain ⟨v, rfl, r⟩ := rel1 rx
    have r0 := r
    unfold RelW at r
    obtain ⟨a, us, rfl, s1, r1⟩ := r
    exact ⟨a, us, rfl, .inr ⟨s1, k ρ H _ .refl R r0⟩⟩
  · rename_i n
    split at h
    · rename_i ws g1
      cases h
      obtain ⟨v, rfl, r⟩ := rel1 rx
      unfold RelW at r
      obtain ⟨a, rfl, ha⟩ := r
      obtain ⟨a', us, p1, p2, p3⟩ := R.lst g1
      rw [ha] at p1; cases p1
      refine ⟨a, us, rfl, .inl ⟨SqL.of p2, fun p hp => ?_⟩⟩
      obtain ⟨f4, r4, w4⟩ := new_tup R hp p3
      exact k _ _ _ f4 r4 w4
    · cases h
  · cases h
end
end Z

set_option Elab.async false
set_option linter.all false
set_option maxRecDepth 100000
namespace Z
open PySem PySem.Spec PyProof.Rows L2

/-! ### isinstance of built-in types -/
inductive Ty where
  | non | bool | int | str | tuple | list | dict
def Ty.name : Ty → String
  | .non => "NoneType"
  | .bool => "bool"
  | .int => "int"
  | .str => "str"
  | .tuple => "tuple"
  | .list => "list"
  | .dict => "dict"
def subT : Ty → Ty → Bool
  | .non, .non => true
  | .bool, .bool => true
  | .bool, .int => true
  | .int, .int => true
  | .str, .str => true
  | .tuple, .tuple => true
  | .list, .list => true
  | .dict, .dict => true
  | _, _ => false
theorem kit_sub {K : PySem.W.Frag} (a b : Ty) : PySem.W.kitOne K (.type a.name) (.type b.name) = some (subT a b) := by
  cases a <;> cases b <;> exact kit_ty (by decide +kernel)
def tyW (L : LH) : W → Option Ty
  | .non => some .non
  | .bl _ => some .bool
  | .int _ => some .int
  | .ia _ => some .int
  | .str _ => some .str
  | .tup _ => some .tuple
  | .fz _ => none
  | .ref n => match L.get n with
    | some (.lst _) => some .list
    | _ => none
theorem ty_ok {K : PySem.W.Frag} {F : Fx} {e : En} {H : Hp} {ρ : List Addr} {L : LH} (R : RH K F e H ρ L) {v : V} {t : Ty} : ∀ {w : W}, RelW K F e H ρ w v → tyW L w = some t → TyX K H v (.type t.name)
  | .non, r, h => by cases r; cases h; exact .base .non
  | .bl b, r, h => by cases r; cases h; exact .base (.bl b)
  | .int i, r, h => by cases r; cases h; exact .base (.int i)
  | .ia j, r, h => by obtain ⟨i, q, rfl⟩ := r; cases h; exact .base (.int i)
  | .str j, r, h => by obtain ⟨x, q, rfl⟩ := r; cases h; exact .base (.str x)
  | .tup xs, r, h => by
    unfold RelW at r
    obtain ⟨a, vs, rfl, s, r⟩ := r
    cases h
    rcases s with (s | ⟨o, s⟩) | ⟨o, its, n, s1, s2, _⟩
    · exact .base (.tup s)
    · exact .fTuple s
    · exact .kTuple s1 s2
  | .fz _, r, h => by cases h
  | .ref n, r, h => by
    unfold RelW at r
    obtain ⟨a, rfl, ha⟩ := r
    simp only [tyW] at h
    split at h
    · rename_i xs hl
      cases h
      obtain ⟨a', vs, h1, h2, h3⟩ := R.lst hl
      rw [ha] at h1; cases h1
      exact .base (.lst h2)
    · cases h
def fIsi (T : Ty) : W → LH → Option (W × LH) := fun x L => match tyW L x with
  | some t => some (.bl (subT t T), L)
  | none => none
def fIsi2 (T U : Ty) : W → LH → Option (W × LH) := fun x L => match tyW L x with
  | some t => some (.bl (subT t T || subT t U), L)
  | none => none
section
variable {X : Cx} {F : Fx} {ma : Ex} {a : Expr} {p pos : Pos} {T U : Ty} {x y : Str} {p1 p2 p3 : Pos} {kk : Nat}
theorem ze_isi (ha : PE X a (TZ X.K F ma)) (hg : Gl X "isinstance") (hm : X.mg "isinstance" = none) (hx : Gl X x) (hmx : X.mg x = none) (hv : bootBuiltins x = some (.type T.name)) (hn : x ≠ "__name__" := by decide) (hd : (x == ("__debug__" : Str)) = false := by decide)
    (hs1 : starEach [a, .Name x p1] X.env = (false, eval a X.env) :: starEach [.Name x p1] X.env := by rfl) (hs2 : starEach [.Name x p1] X.env = (false, eval (.Name x p1) X.env) :: starEach [] X.env := by rfl) (hpl : (backTo pos (starEach [.Name x p1] X.env)).any (·.1) = false := by rfl) :
    PE X (.Call (.Name "isinstance" p) [a, .Name x p1] [] pos) (TZ X.K F (mUn (fIsi T) ma)) := by
  refine PE.imp (pe_callB call_isi hg hm (by decide +kernel) (pa_cons ha (pa_cons (pe_bltn (v := .ty T.name) hx hmx hv rfl hn hd) pa_nil hs2) hs1) (by decide) (by decide) hs1 hpl) ?_
  rintro σ H Q ⟨e, ρ, sl, L, w, L', he, hs, hh, hm, k⟩
  unfold mUn at hm
  split at hm
  · cases hm
  rename_i x1 L1 h1
  unfold fIsi at hm
  split at hm
  · rename_i t ht
    cases hm
    refine ⟨e, ρ, sl, L, _, _, he, hs, hh, h1, fun ρ1 H1 v f1 r1 w1 => ?_⟩
    exact ⟨v, .ty T.name, _, _, _, rfl, .ty _, ty_ok r1 w1 ht, kit_sub t T, k ρ1 H1 _ f1 r1 rfl⟩
  · cases hm
theorem ze_isi2 (ha : PE X a (TZ X.K F ma)) (hg : Gl X "isinstance") (hm : X.mg "isinstance" = none) (hx : Gl X x) (hmx : X.mg x = none) (hv : bootBuiltins x = some (.type T.name)) (hy : Gl X y) (hmy : X.mg y = none) (hvy : bootBuiltins y = some (.type U.name))
    (hn : x ≠ "__name__" := by decide) (hd : (x == ("__debug__" : Str)) = false := by decide) (hn' : y ≠ "__name__" := by decide) (hd' : (y == ("__debug__" : Str)) = false := by decide)
    (hs1 : starEach [a, .Tuple [.Name x p1, .Name y p2] kk p3] X.env = (false, eval a X.env) :: starEach [.Tuple [.Name x p1, .Name y p2] kk p3] X.env := by rfl) (hs2 : starEach [.Tuple [.Name x p1, .Name y p2] kk p3] X.env = (false, eval (.Tuple [.Name x p1, .Name y p2] kk p3) X.env) :: starEach [] X.env := by rfl)
    (hs3 : starEach [.Name x p1, .Name y p2] X.env = (false, eval (.Name x p1) X.env) :: starEach [.Name y p2] X.env := by rfl) (hs4 : starEach [.Name y p2] X.env = (false, eval (.Name y p2) X.env) :: starEach [] X.env := by rfl)
    (hpl : (backTo pos (starEach [.Tuple [.Name x p1, .Name y p2] kk p3] X.env)).any (·.1) = false := by rfl) :
    PE X (.Call (.Name "isinstance" p) [a, .Tuple [.Name x p1, .Name y p2] kk p3] [] pos) (TZ X.K F (mUn (fIsi2 T U) ma)) := by
  refine PE.imp (pe_callB call_isiT hg hm (by decide +kernel) (pa_cons ha (pa_cons (pe_tup (pa_cons (pe_bltn (v := .ty T.name) hx hmx hv rfl hn hd) (pa_cons (pe_bltn (v := .ty U.name) hy hmy hvy rfl hn' hd') pa_nil hs4) hs3)) pa_nil hs2) hs1) (by decide) (by decide) hs1 hpl) ?_
  rintro σ H Q ⟨e, ρ, sl, L, w, L', he, hs, hh, hm, k⟩
  unfold mUn at hm
  split at hm
  · cases hm
  rename_i x1 L1 h1
  unfold fIsi2 at hm
  split at hm
  · rename_i t ht
    cases hm
    refine ⟨e, ρ, sl, L, _, _, he, hs, hh, h1, fun ρ1 H1 v f1 r1 w1 => ?_⟩
    refine ⟨line_ok (show 2 ≤ 1000000 by decide), fun q hq => ?_⟩
    have f2 : Fm ρ1 ρ1 H1 (upd H1 q (.tup [.ty T.name, .ty U.name])) := fm_new hq
    have r2 := r1.new (o := .tup [.ty T.name, .ty U.name]) hq
    refine ⟨v, q, _, _, [.type T.name, .type U.name], _, rfl, upd_same, .cons (.ty _) (.cons (.ty _) .nil), ty_ok r2 (f2.rel w1) ht, ?_, k ρ1 _ _ (f1.trans f2) r2 rfl⟩
    unfold PySem.W.kitAny
    rw [kit_sub t T]
    cases subT t T with
    | true => rfl
    | false =>
      show PySem.W.kitAny X.K _ _ = _
      unfold PySem.W.kitAny
      rw [kit_sub t U]
      cases subT t U <;> rfl
  · cases hm
end

/-! ### calls by keywords -/
def permL {α : Type} (π : List Nat) (xs : List α) : List α := π.filterMap fun i => xs[i]?
/-- p positional values, q by keywords, put in the order π -/
def gK {α : Type} (p q : Nat) (π : List Nat) (us ws : List α) : List α := if us.length = p ∧ ws.length = q then permL π (us ++ ws) else []
theorem vals_filterMap {xs : List V} {us : List Value} (r : Vals xs us) : ∀ π : List Nat, Vals (permL π xs) (permL π us)
  | [] => .nil
  | i :: π => by
    unfold permL
    rw [List.filterMap_cons, List.filterMap_cons]
    cases q : xs[i]? with
    | none => rw [r.none_of q]; exact vals_filterMap r π
    | some x =>
      obtain ⟨u, h1, h2⟩ := r.get q
      rw [h1]
      exact .cons h2 (vals_filterMap r π)
theorem rel_filterMap {K : PySem.W.Frag} {F : Fx} {e : En} {H : Hp} {ρ : List Addr} {ws : List W} {vs : List V} (r : RelWs K F e H ρ ws vs) : ∀ π : List Nat, RelWs K F e H ρ (permL π ws) (permL π vs)
  | [] => .nil
  | i :: π => by
    unfold permL
    rw [List.filterMap_cons, List.filterMap_cons]
    cases q : ws[i]? with
    | none =>
      have : vs[i]? = none := List.getElem?_eq_none_iff.mpr (by rw [r.length]; exact List.getElem?_eq_none_iff.mp q)
      rw [this]; exact rel_filterMap r π
    | some x =>
      obtain ⟨u, h1, h2⟩ := r.get q
      rw [h1]
      exact .cons h2 (rel_filterMap r π)
theorem kb_mk {K : PySem.W.Frag} {fd : FuncData} {ps ks : List Str} {p q : Nat} {π : List Nat} (hp : ps.length ≠ 0)
    (h : ∀ us ws : List Value, us.length = p → ws.length = q → bindArgs fd ⟨us, ks.zip ws⟩ = pure (ps.zip (permL π (us ++ ws)))) : KBinds K fd ps ks (gK p q π) (gK p q π) := by
  refine ⟨fun s us ws X hl => ?_, fun r1 r2 => ?_⟩
  · unfold gK at hl ⊢
    split at hl
    · rename_i c
      rw [if_pos c]
      exact .of_eq (h us ws c.1 c.2)
    · exact absurd hl.symm hp
  · unfold gK
    rw [r1.length, r2.length]
    split
    · exact vals_filterMap (r1.append r2) π
    · exact .nil
section
variable {X : Cx} {F : Fx} {k n : Nat} {f : Addr} {fd : FuncData} {ps ks : List Str} {m : List W → LH → Option (W × LH)} {x : Str} {p pos kpos : Pos} {a : Expr} {es : List Expr} {kws : List Keyword} {ma : Ex} {mr mk : Ea} {pp qq : Nat} {π : List Nat} {nm : Option Str}
theorem PK.imp {x : List Keyword} {t t' : TA} (h : PK X x t) (q : ∀ σ H Q, t' σ H Q → t σ H Q) : PK X x t' := ⟨fun pos pins s σ H Q I k => h.run pos pins s σ H Q I (q σ H Q k)⟩
theorem zk_nil : PK X [] (TAZ X.K F mNil) := by
  refine PK.imp pk_nil ?_
  rintro σ H Q ⟨e, ρ, sl, L, w, L', he, hs, hh, hm, k⟩
  cases hm
  exact k ρ H [] .refl hh .nil
theorem zk_cons (ha : PE X a (TZ X.K F ma)) (hr : PK X kws (TAZ X.K F mr)) : PK X (⟨nm, a, kpos⟩ :: kws) (TAZ X.K F (mCons ma mr)) := by
  refine PK.imp (pk_cons ha hr) ?_
  rintro σ H Q ⟨e, ρ, sl, L, w, L', he, hs, hh, hm, k⟩
  unfold mCons at hm
  split at hm
  · cases hm
  rename_i x L1 h1
  split at hm
  · cases hm
  rename_i y L2 h2
  cases hm
  refine ⟨e, ρ, sl, L, x, L1, he, hs, hh, h1, fun ρ1 H1 vx f1 r1 w1 => ?_⟩
  refine ⟨e, ρ1, sl, L1, y, _, he, f1.relSl hs, r1, h2, fun ρ2 H2 vy f2 r2 w2 => ?_⟩
  exact k ρ2 H2 _ (f1.trans f2) r2 (.cons (f2.rel w1) w2)
theorem pe_callK0 {CX : CXT} {sp : Sp} {E : XK} {tk : TA} {g : List Value → List Value → List Value} {gV : List V → List V → List V} (Fn : FnOk X.prog X.w X.K X.mg X.base CX k f fd ps sp) (hr : Room k X.A) (hg : Gl X x) (hm : X.mg x = some (.ref f)) (hk : PySem.W.keepIn X.K (.ref f) = true) (hb : KBinds X.K fd ps ks g gV) (hx : Passes CX X E)
    (hkw : PK X kws tk) (hall : (backToKw pos (keywordEach kws X.env)).all (·.1.isSome) = true := by rfl) (hks : (backToKw pos (keywordEach kws X.env)).filterMap (·.1) = ks := by rfl)
    (hdb : (x == ("__debug__" : Str)) = false := by decide)
    (hpl : ((backTo pos (starEach [] X.env)).any (·.1) || (backToKw pos (keywordEach kws X.env)).any (·.1.isNone)) = false := by rfl) :
    PE X (.Call (.Name x p) [] kws pos) (tCallK sp gV E tNil tk) := by
  refine ⟨fun pins s σ H Q I h => ?_⟩
  refine wpAny_Call_Name_kw (ld_glob I hg hm ?_ hdb)
  refine PySem.W.callWith_KW0 (h₀ := X.base) I.ok.mod.kin hk hall ?_ hpl
  refine thn (hkw.run pos pins s σ H _ I h) fun ws s2 ⟨zs, H2, I2, rz, q2⟩ => ⟨I2.kIn, ?_⟩
  rw [hks]
  exact run_fnk Fn hr hb hx I2 .nil rz q2
/-- f(k = v, ..) -/
def fK (q : Nat) (π : List Nat) (n : Nat) (m : List W → LH → Option (W × LH)) : List W → LH → Option (W × LH) := fun ws L => cond (Nat.beq ws.length q) (fN n m (permL π ws) L) none
theorem ze_callK0 (G : FnOk X.prog X.w X.K X.mg X.base CX0 k f fd ps (spZ X.K F n m)) (hr : Room k X.A) (hg : Gl X x) (hm : X.mg x = some (.ref f)) (hk : PySem.W.keepIn X.K (.ref f) = true) (hb : KBinds X.K fd ps ks (gK 0 qq π) (gK 0 qq π)) (hkw : PK X kws (TAZ X.K F mk))
    (hall : (backToKw pos (keywordEach kws X.env)).all (·.1.isSome) = true := by rfl) (hks : (backToKw pos (keywordEach kws X.env)).filterMap (·.1) = ks := by rfl) (hdb : (x == ("__debug__" : Str)) = false := by decide)
    (hpl : ((backTo pos (starEach [] X.env)).any (·.1) || (backToKw pos (keywordEach kws X.env)).any (·.1.isNone)) = false := by rfl) :
    PE X (.Call (.Name x p) [] kws pos) (TZ X.K F (mApp (fK qq π n m) mk)) := by
  refine PE.imp (pe_callK0 (E := fun _ _ _ => False) G hr hg hm hk hb pass0 hkw hall hks hdb hpl) ?_
  rintro σ H Q ⟨e, ρ, sl, L, w, L', he, hs, hh, hm, k⟩
  unfold mApp at hm
  split at hm
  · cases hm
  rename_i ws L1 h1
  unfold fK at hm
  obtain ⟨q, hm⟩ := cond_opt hm
  unfold fN at hm
  obtain ⟨q2, hm⟩ := cond_opt hm
  refine ⟨e, ρ, sl, L, _, _, he, hs, hh, h1, fun ρ1 H1 vs f1 r1 w1 => ?_⟩
  have hl : vs.length = qq := by rw [w1.length]; exact Nat.eq_of_beq_eq_true q
  have e1 : gK 0 qq π ([] : List V) vs = permL π vs := by unfold gK; rw [if_pos ⟨rfl, hl⟩]; rfl
  show spZ X.K F n m (gK 0 qq π [] vs) H1 Q _
  rw [e1]
  exact ⟨e, ρ1, L1, _, w, L', he, r1, rel_filterMap w1 π, Nat.eq_of_beq_eq_true q2, hm, fun ρ2 H2 v f2 r2 w2 => k ρ2 H2 v (f1.trans f2) r2 w2⟩
/-- f(a, .., k = v, ..) -/
def mAppK (p q : Nat) (π : List Nat) (n : Nat) (m : List W → LH → Option (W × LH)) (r kw : Ea) : Ex := fun sl L => match r sl L with
  | none => none
  | some (us, L1) => match kw sl L1 with
    | none => none
    | some (ws, L2) => cond (Nat.beq us.length p && Nat.beq ws.length q) (fN n m (permL π (us ++ ws)) L2) none
theorem ze_callK (G : FnOk X.prog X.w X.K X.mg X.base CX0 k f fd ps (spZ X.K F n m)) (hr : Room k X.A) (hg : Gl X x) (hm : X.mg x = some (.ref f)) (hk : PySem.W.keepIn X.K (.ref f) = true) (hb : KBinds X.K fd ps ks (gK pp qq π) (gK pp qq π))
    (ha : PA X (a :: es) (TAZ X.K F mr)) (hkw : PK X kws (TAZ X.K F mk))
    (hall : (backToKw pos (keywordEach kws X.env)).all (·.1.isSome) = true := by rfl) (hks : (backToKw pos (keywordEach kws X.env)).filterMap (·.1) = ks := by rfl)
    (hdb : (x == ("__debug__" : Str)) = false := by decide) (he : starEach (a :: es) X.env = (false, eval a X.env) :: starEach es X.env := by rfl)
    (hpl : ((backTo pos (starEach (a :: es) X.env)).any (·.1) || (backToKw pos (keywordEach kws X.env)).any (·.1.isNone)) = false := by rfl) :
    PE X (.Call (.Name x p) (a :: es) kws pos) (TZ X.K F (mAppK pp qq π n m mr mk)) := by
  refine PE.imp (pe_callK (E := fun _ _ _ => False) G hr hg hm hk hb pass0 ha hkw hall hks hdb he hpl) ?_
  rintro σ H Q ⟨e, ρ, sl, L, w, L', he, hs, hh, hm, k⟩
  unfold mAppK at hm
  split at hm
  · cases hm
  rename_i us L1 h1
  split at hm
  · cases hm
  rename_i ws L2 h2
  obtain ⟨q, hm⟩ := cond_opt hm
  rw [Bool.and_eq_true] at q
  unfold fN at hm
  obtain ⟨q2, hm⟩ := cond_opt hm
  refine ⟨e, ρ, sl, L, _, _, he, hs, hh, h1, fun ρ1 H1 vs f1 r1 w1 => ?_⟩
  refine ⟨e, ρ1, sl, L1, _, _, he, f1.relSl hs, r1, h2, fun ρ2 H2 zs f2 r2 w2 => ?_⟩
  have e1 : gK pp qq π vs zs = permL π (vs ++ zs) := by
    unfold gK
    rw [if_pos ⟨by rw [w1.length]; exact Nat.eq_of_beq_eq_true q.1, by rw [w2.length]; exact Nat.eq_of_beq_eq_true q.2⟩]
  show spZ X.K F n m (gK pp qq π vs zs) H2 Q _
  rw [e1]
  exact ⟨e, ρ2, L2, _, w, L', he, r2, rel_filterMap ((f2.rels w1).append w2) π, Nat.eq_of_beq_eq_true q2, hm, fun ρ3 H3 v f3 r3 w3 => k ρ3 H3 v ((f1.trans f2).trans f3) r3 w3⟩
end
end Z

set_option Elab.async false
set_option linter.all false
set_option maxRecDepth 100000
namespace Z
open PySem PySem.Spec PyProof.Rows L2

/-! ### what is not carried: never reached by a run of the mirror -/
def vBad : Ex := fun _ _ => none
def tBad : Et := fun _ _ => none
def sBad : Sm := fun _ _ => none
def iBad : Ei := fun _ _ => none
def gBad : Eg := fun _ _ _ => none
section
variable {X : Cx} {F : Fx} {a tg : Expr} {st : Stmt} {T : List Nat}
theorem ze_bad : PE X a (TZ X.K F vBad) := ⟨fun pins s σ H Q I h => by obtain ⟨_, _, _, _, _, _, _, _, _, q, _⟩ := h; cases q⟩
theorem zt_bad : PT X a (TTZ X.K F tBad) := ⟨fun pins s σ H Q I h => by obtain ⟨_, _, _, _, _, _, _, _, _, q, _⟩ := h; cases q⟩
theorem zs_bad : PS X st (SZ X.K F sBad) := ⟨fun pins s σ H Q I h => by obtain ⟨_, _, _, _, _, _, _, _, _, _, q, _⟩ := h; cases q⟩
theorem zi_bad : PI X tg a (IZ X.K F iBad) := ⟨fun pins s σ H Q I h => by obtain ⟨_, _, _, _, _, _, _, _, _, q, _⟩ := h; cases q⟩
theorem zg_bad : PG X a (GZ X.K F T gBad) := ⟨fun pins s σ H v u Q I r h => by obtain ⟨_, _, _, _, _, _, _, _, _, _, _, q, _⟩ := h; cases q⟩
end
/-! ### more of ints -/
def fLt : W → W → LH → Option (W × LH) := fIB fun i j => decide (i < j)
def fLe : W → W → LH → Option (W × LH) := fIB fun i j => decide (i ≤ j)
def fGt : W → W → LH → Option (W × LH) := fIB fun i j => decide (j < i)
def fGe : W → W → LH → Option (W × LH) := fIB fun i j => decide (j ≤ i)
def fMod : W → W → LH → Option (W × LH) := fI (fun _ j => j != 0) fun i j => i.fmod j
def fDiv : W → W → LH → Option (W × LH) := fI (fun _ j => j != 0 && decide (j.natAbs < 1073741824)) fun i j => i.fdiv j
def fNeg : W → LH → Option (W × LH) := fun x L => match x with
  | .int i => some (.int (-i), L)
  | _ => none
section
variable {K : PySem.W.Frag} {F : Fx}
theorem oz_mod : OpZ K F (rI (fun _ j => j ≠ 0) fun i j => .int (i.fmod j)) fMod := oz_i fun i j h => by simpa using h
theorem oz_div : OpZ K F (rI CDivN fun i j => .int (i.fdiv j)) fDiv := oz_i fun i j h => by
  rw [Bool.and_eq_true, decide_eq_true_eq] at h
  exact ⟨by simpa using h.1, h.2⟩
end
section
variable {X : Cx} {F : Fx} {ma : Ex} {a : Expr} {pos : Pos} {x : Str}
theorem ze_un {op : UnaryOp} {r : V → Hp → VK → Prop} {f : W → LH → Option (W × LH)} (ho : UnR X (unaryOp op) r) (hz : ∀ (e : En) (ρ : List Addr) (H : Hp) (L : LH) (x : W) (vx : V) (w : W) (L' : LH) (Q : VK), En.Ok F e → RH X.K F e H ρ L →
    RelW X.K F e H ρ x vx → f x L = some (w, L') → (∀ ρ' H' v, Fm ρ ρ' H H' → RH X.K F e H' ρ' L' → RelW X.K F e H' ρ' w v → Q v H') → r vx H Q) (ha : PE X a (TZ X.K F ma)) : PE X (.UnaryOp op a pos) (TZ X.K F (mUn f ma)) := by
  refine PE.imp (pe_un ho ha) ?_
  rintro σ H Q ⟨e, ρ, sl, L, w, L', he, hs, hh, hm, k⟩
  unfold mUn at hm
  split at hm
  · cases hm
  rename_i x1 L1 h1
  exact ⟨e, ρ, sl, L, _, _, he, hs, hh, h1, fun ρ1 H1 v f1 r1 w1 => hz e ρ1 H1 L1 x1 v w L' Q he r1 w1 hm fun ρ' H' v f3 r3 w3 => k ρ' H' v (f1.trans f3) r3 w3⟩
theorem ze_neg (ha : PE X a (TZ X.K F ma)) : PE X (.UnaryOp .USub a pos) (TZ X.K F (mUn fNeg ma)) := by
  refine ze_un un_neg (fun e ρ H L x vx w L' Q he R rx h k => ?_) ha
  unfold fNeg at h
  split at h
  · rename_i i
    cases h
    cases rx
    exact ⟨i, rfl, k ρ H _ .refl R rfl⟩
  · cases h
theorem ze_gint {i : Int} (hg : Gl X x) (hm : ∃ t, X.mg x = some (.int i t)) (hd : (x == ("__debug__" : Str)) = false := by decide) : PE X (.Name x pos) (TZ X.K F (vC (.int i))) := by
  obtain ⟨t, hm⟩ := hm
  refine PE.imp (pe_glob (v := .int i) hg hm ⟨t, rfl⟩ hd) ?_
  rintro σ H Q ⟨e, ρ, sl, L, w, L', he, hs, hh, hm, k⟩
  cases hm
  exact k ρ H _ .refl hh rfl
theorem ze_gstr {z : Str} (n : Nat) (hg : Gl X x) (hm : ∃ t, X.mg x = some (.str z t)) (h : F.lits[n]? = some z) (hn : n < 1000 := by decide) (hd : (x == ("__debug__" : Str)) = false := by decide) : PE X (.Name x pos) (TZ X.K F (vC (.str n))) := by
  obtain ⟨t, hm⟩ := hm
  refine PE.imp (pe_glob (v := .str z) hg hm ⟨t, rfl⟩ hd) ?_
  rintro σ H Q ⟨e, ρ, sl, L, w, L', he, hs, hh, hm, k⟩
  cases hm
  exact k ρ H _ .refl hh ⟨z, sOf_lit h hn, rfl⟩
end
/-! ### abs, int, ** -/
def fPow : W → W → LH → Option (W × LH) := fI (fun i j => decide (0 ≤ j) && decide (j ≤ 1000) && decide (i.natAbs < 1000000)) fun i j => i ^ j.toNat
def fAbs : List W → LH → Option (W × LH) := fun xs L => match xs with
  | [.int i] => some (.int (if i < 0 then -i else i), L)
  | _ => none
def fInt : List W → LH → Option (W × LH) := fun xs L => match xs with
  | [.int i] => some (.int i, L)
  | [.bl b] => some (.int (if b then 1 else 0), L)
  | _ => none
section
variable {K : PySem.W.Frag} {F : Fx}
theorem oz_pow : OpZ K F (rI CPow fun i j => .int (i ^ j.toNat)) fPow := oz_i fun i j h => by
  rw [Bool.and_eq_true, Bool.and_eq_true, decide_eq_true_eq, decide_eq_true_eq, decide_eq_true_eq] at h
  exact ⟨h.1.1, by omega, by omega⟩
theorem cz_abs : CallZ K F (fun xs H Q => ∃ i, xs = [.int i] ∧ Q (.int (if i < 0 then -i else i)) H) fAbs := by
  intro e ρ H L xs vs w L' Q he R rx h k
  unfold fAbs at h
  split at h
  · rename_i i
    cases h
    obtain ⟨v, rfl, r⟩ := rel1 rx
    cases r
    exact ⟨i, rfl, k ρ H _ .refl R rfl⟩
  · cases h
theorem cz_int : CallZ K F (fun xs H Q => (∃ i, xs = [.int i] ∧ Q (.int i) H) ∨ ∃ k, xs = [.bl k] ∧ Q (.int (if k then 1 else 0)) H) fInt := by
  intro e ρ H L xs vs w L' Q he R rx h k
  unfold fInt at h
  split at h
  · rename_i i
    cases h
    obtain ⟨v, rfl, r⟩ := rel1 rx
    cases r
    exact .inl ⟨i, rfl, k ρ H _ .refl R rfl⟩
  · rename_i b
    cases h
    obtain ⟨v, rfl, r⟩ := rel1 rx
    cases r
    exact .inr ⟨b, rfl, k ρ H _ .refl R rfl⟩
  · cases h
end
/-! ### defs by FunD -/
section
variable {P : Program} {w : World} {K : PySem.W.Frag} {mg : Str → Option Value} {base : Heap} {F : Fx}
theorem ok_zD {x qual : Str} {params : Arguments} {body : List Stmt} {scope : Scope} {f : Addr} {fd : FuncData} {N ps : List Str} {k : Nat} {b : Sm} {r : Nat} (Fn : FunD K x qual params body scope [] [] f fd) (S : FnScope N ps scope) (hN : N.length = ps.length + r)
    (hbody : ∀ (cdv : Value) (A : Around) (outer : List Env) (s : Shared) (H : Hp) (E : XK), Room k (A.deeper (envOfC qual scope s.heap.objs.size f cdv)) →
      PSs (cxOf CX0 P w K mg base N qual scope f cdv A outer s H E).nox body (SZ K F b)) : FnOk P w K mg base CX0 (k + 1) f fd ps (spZ K F ps.length (fnZ r b)) := by
  refine Fn.ok S (fun vs H Q E h => ?_) (fun cdv A outer s H vs Q E hr h => ⟨_, (hbody cdv A outer s H E hr).nox, ?_⟩)
  · obtain ⟨e, ρ, L, ws, w, L', he, hh, hw, hn, hm, k⟩ := h
    rw [hw.length, hn]
  · obtain ⟨e, ρ, L, ws, w, L', he, hh, hw, hn, hm, k⟩ := h
    unfold fnZ at hm
    split at hm
    · rename_i sl1 L1 h1
      cases hm
      exact ⟨e, ρ, _, L, _, _, _, he, relSl_start hw (by rw [hN, hn]), hh, h1, fun ρ1 H1 σ1 f1 r1 s1 => k ρ1 H1 .non f1 r1 rfl⟩
    · rename_i w1 sl1 L1 h1
      cases hm
      exact ⟨e, ρ, _, L, _, _, _, he, relSl_start hw (by rw [hN, hn]), hh, h1, fun ρ1 H1 σ1 f1 r1 s1 v hv => k ρ1 H1 v f1 r1 hv⟩
    · cases hm
theorem ok_none {f : Addr} {fd : FuncData} {ps : List Str} {k n : Nat} : FnOk P w K mg base CX0 k f fd ps (spZ K F n fun _ _ => none) :=
  ⟨fun vs H Q E h => (by obtain ⟨_, _, _, _, _, _, _, _, _, _, q, _⟩ := h; cases q), fun A outer s H args us vs Q E _ _ _ _ h => (by obtain ⟨_, _, _, _, _, _, _, _, _, _, q, _⟩ := h; cases q)⟩
end
end Z

set_option Elab.async false
set_option linter.all false
set_option maxRecDepth 100000
set_option maxHeartbeats 4000000
namespace Z
open PySem PySem.Spec PyProof.Rows L2

/-! ### the laws' own helpers: the mirrors as the generator prints them -/
def gb_take : Sm :=
    (sSeq (sIf (mTest (mBin fGt (mBin fIx (vVar 0) (vC (.int 0))) (vC (.int 0)))) (sSeq (sSet 2 (mBin fMod (mApp fInt (mCons (mBin fIx (vVar 0) (vC (.int 0))) mNil)) (vVar 1)))
    (sSeq (sAsg (mBin fDiv (mBin fIx (vVar 0) (vC (.int 0))) (vVar 1)) (gIx (vVar 0) (vC (.int 0))))
    (sRet (vVar 2)))) sNil)
    (sSeq (sAsg (mBin fAdd (mBin fIx (vVar 0) (vC (.int 2))) (vC (.int 1))) (gIx (vVar 0) (vC (.int 2))))
    (sSeq (sSet 3 (mBin fMod (mApp fInt (mCons (mBin fMul (mBin fAdd (mBin fIx (vVar 0) (vC (.int 1))) (mBin fMul (vC (.int 48271)) (mBin fIx (vVar 0) (vC (.int 2))))) (mBin fAdd (vC (.int 39373)) (mBin fIx (vVar 0) (vC (.int 2))))) mNil)) (vC (.int 2147483647))))
    (sSeq (sSet 4 (mBin fAdd (mBin fMod (mApp fInt (mCons (vVar 3) mNil)) (vC (.int 40009))) (vC (.int 7))))
    (sSeq (sSet 5 (mBin fMod (mApp fInt (mCons (mBin fMul (mBin fAdd (mBin fAdd (vVar 3) (mBin fIx (vVar 0) (vC (.int 2)))) (mBin fDiv (mBin fIx (vVar 0) (vC (.int 1))) (vC (.int 1000003)))) (vVar 4)) mNil)) (vC (.int 2147483629))))
    (sRet (mBin fMod (mApp fInt (mCons (mBin fDiv (mBin fMod (mApp fInt (mCons (mBin fAdd (mBin fMul (vVar 5) (vC (.int 48271))) (vVar 3)) mNil)) (vC (.int 2147483587))) (vC (.int 64))) mNil)) (vVar 1))))))))
def g_take : List W → LH → Option (W × LH) := fnZ 4 gb_take
def gb_box : Sm :=
    (sSeq (sSet 2 (vIfM (mTest (mBin fLt (vVar 1) (mApp fLen (mCons (vVar 0) mNil)))) (mBin fIx (vVar 0) (vVar 1)) (vC (.int 0))))
    (sRet (mApp fLst (mCons (mBin fMul (mApp fAbs (mCons (vVar 2) mNil)) (mApp fInt (mCons (mBin fGe (mApp fAbs (mCons (vVar 2) mNil)) (mBin fPow (vC (.int 10)) (vC (.int 18)))) mNil))) (mCons (mBin fAdd (mBin fAdd (mBin fMod (mApp fInt (mCons (vVar 2) mNil)) (vC (.int 2305843009213693951))) (mBin fMul (vC (.int 39373)) (vVar 1))) (vC (.int 179))) (mCons (vC (.int 0)) mNil))))))
def g_box : List W → LH → Option (W × LH) := fnZ 1 gb_box
def gb_cells : Sm :=
    (sSeq (sSet 2 (vOrM (mApp fList (mCons (mSlice (vVar 0) oNone (oSome (vVar 1))) mNil)) (mApp fLst (mCons (vC (.int 0)) mNil))))
    (sSeq (sFor (iEnumM (mSlice (vVar 0) (oSome (vVar 1)) (oSome (vC (.int 63))))) (gTupM 2 (gConsM (gSet 3) (gConsM (gSet 4) gNilM))) (sSeq (sSet 5 (mBin fMod (mApp fInt (mCons (vVar 3) mNil)) (vVar 1)))
    (sAsg (mBin fAdd (mBin fIx (vVar 2) (vVar 5)) (mBin fMul (vVar 4) (mBin fAdd (vVar 3) (vC (.int 2))))) (gIx (vVar 2) (vVar 5)))))
    (sRet (vVar 2))))
def g_cells : List W → LH → Option (W × LH) := fnZ 4 gb_cells

/-! ### one object alone -/
def L1 (o : LO) : LH := ⟨1, .nd .nil (some o) .nil⟩
theorem draw_lt {x y z m : Int} (h : 1 ≤ m) : 0 ≤ (draw x y z m).1 ∧ (draw x y z m).1 < m := by
  unfold draw
  split
  · exact ⟨Int.fmod_nonneg_of_pos _ (by omega), Int.fmod_lt_of_pos _ (by omega)⟩
  · exact ⟨Int.fmod_nonneg_of_pos _ (by omega), Int.fmod_lt_of_pos _ (by omega)⟩
theorem draw_box {x y z m : Int} {n : Nat} (h : 1 ≤ m) (b : BoxOk x y z (n + 1)) : BoxOk (draw x y z m).2.1 (draw x y z m).2.2.1 (draw x y z m).2.2.2 n := by
  obtain ⟨b1, b2, b3, b4, b5⟩ := b
  unfold draw
  split
  · exact ⟨by show 0 ≤ x.fdiv m; exact Int.fdiv_nonneg b1 (by omega), b2, b3, b4, by push_cast at b5; show z + (n : Int) ≤ 1000000; omega⟩
  · exact ⟨b1, b2, b3, by show 0 ≤ z + 1; omega, by push_cast at b5; show z + 1 + (n : Int) ≤ 1000000; omega⟩
theorem smallI_ok {i : Int} (h1 : -(2 ^ 64) < i) (h2 : i < 2 ^ 64) : smallI i = true := by
  unfold smallI
  rw [decide_eq_true h1, decide_eq_true h2]
  rfl
theorem at0 {α : Type} {a b c : α} : atI [a, b, c] 0 = some a := rfl
theorem at1 {α : Type} {a b c : α} : atI [a, b, c] 1 = some b := rfl
theorem at2 {α : Type} {a b c : α} : atI [a, b, c] 2 = some c := rfl
theorem ix0 {α : Type} {a b c : α} : ixN [a, b, c].length 0 = some 0 := rfl
theorem ix2 {α : Type} {a b c : α} : ixN [a, b, c].length 2 = some 2 := rfl
theorem blt_top {n : Nat} (h : n < top) : Nat.blt n top = true := Nat.ble_eq_true_of_le h
theorem set_n (L : LH) (i : Nat) (o : LO) : (L.set i o).n = L.n := rfl
theorem cond_t {α : Type} {a b : α} : (bif true then a else b) = a := rfl
theorem take_eq {L : LH} {i : Nat} {x y z m : Int} {n : Nat} (hL : L.get i = some (.lst [.int x, .int y, .int z])) (hn : L.n < top) (hi : i < top) (b : BoxOk x y z (n + 1)) (h1 : 1 ≤ m) (h2 : m ≤ 1000) :
    g_take [.ref i, .int m] L = some (.int (draw x y z m).1, L.set i (.lst [.int (draw x y z m).2.1, .int (draw x y z m).2.2.1, .int (draw x y z m).2.2.2])) := by
  obtain ⟨b1, b2, b3, b4, b5⟩ := b
  have hm : (m != 0) = true := by rw [bne_iff_ne]; omega
  have hm2 : decide (m.natAbs < 1073741824) = true := decide_eq_true (by omega)
  have s1 : smallI (39373 + (z + 1)) = true := smallI_ok (by omega) (by omega)
  have s2 : smallI 48271 = true := by decide
  have hT := blt_top hn
  by_cases hx : 0 < x
  · have hx' : decide (0 < x) = true := decide_eq_true hx
    unfold draw
    rw [if_pos hx]
    simp only [g_take, gb_take, fnZ, sSeq, sIf, mTest, mBin, vVar, vC, fGt, fIB, fIx, sSet, mApp, mCons, mNil, fInt, fMod, fDiv, fI, sAsg, gIx, sRet, hL, at0, ix0, hx', hm, hm2, hT, cond_t, Bool.and_self, List.map, List.cons_append, List.nil_append, List.getElem?_cons_zero, List.getElem?_cons_succ, List.set, List.replicate]
  · have hx' : decide (0 < x) = false := decide_eq_false hx
    unfold draw
    rw [if_neg hx]
    have hL2 : (L.set i (.lst [.int x, .int y, .int (z + 1)])).get i = some (.lst [.int x, .int y, .int (z + 1)]) := by rw [LH.get_set hi, if_pos rfl]
    have f0 : 0 ≤ (((y + 48271 * (z + 1)) * (39373 + (z + 1))).fmod 2147483647).fmod 40009 := Int.fmod_nonneg_of_pos _ (by omega)
    have f1 : (((y + 48271 * (z + 1)) * (39373 + (z + 1))).fmod 2147483647).fmod 40009 < 40009 := Int.fmod_lt_of_pos _ (by omega)
    have s3 : smallI ((((y + 48271 * (z + 1)) * (39373 + (z + 1))).fmod 2147483647).fmod 40009 + 7) = true := smallI_ok (by omega) (by omega)
    have d1 : ((2147483647 : Int) != 0) = true := by decide
    have d2 : ((40009 : Int) != 0) = true := by decide
    have d3 : ((2147483629 : Int) != 0) = true := by decide
    have d4 : ((2147483587 : Int) != 0) = true := by decide
    have d5 : ((64 : Int) != 0 && decide ((64 : Int).natAbs < 1073741824)) = true := by decide
    have d6 : ((1000003 : Int) != 0 && decide ((1000003 : Int).natAbs < 1073741824)) = true := by decide
    simp only [g_take, gb_take, fnZ, sSeq, sIf, mTest, mBin, vVar, vC, fGt, fIB, fIx, sSet, mApp, mCons, mNil, fInt, fMod, fDiv, fI, fAdd, fMul, sAsg, gIx, sRet, sNil, hL, hL2, at0, at1, at2, ix0, ix2, hx', hm, hm2, hT, set_n, s1, s2, s3, d1, d2, d3, d4, d5, d6, cond_t, Bool.and_self, Bool.or_true, Bool.true_or, List.map, List.cons_append, List.nil_append, List.getElem?_cons_zero, List.getElem?_cons_succ, List.set, List.replicate]

/-! ### one object alone: what is shown of a heap with one object holds in any heap -/
section
variable {K : PySem.W.Frag} {F : Fx} {e : En} {H H' : Hp} {ρ : List Addr} {L : LH} {a : Addr} {n : Nat} {o o0 : LO}
theorem En.Ok.none (he : En.Ok F e) : En.Ok F ⟨[], []⟩ := ⟨he.lits, he.len, he.lok, .nil, fun _ h => (by cases h), fun _ h => (by cases h), fun _ h => (by cases h), fun _ h => (by cases h)⟩
theorem L1_get : (L1 o).get 0 = some o := rfl
theorem RH.one (h : RelO K F e H [a] o a) : RH K F e H [a] (L1 o) := by
  refine ⟨rfl, by simp, fun m b hb => ?_, fun m ob hm => ?_⟩
  · cases m with
    | zero =>
      have : a = b := by simpa using hb
      subst this
      exact ⟨o, rfl, h⟩
    | succ m => simp at hb
  · cases m with
    | zero => exact Nat.lt_succ_self 0
    | succ m =>
      exfalso
      unfold LH.get L1 at hm
      rw [Tr.get_succ] at hm
      cases h : Nat.beq (m % 2) 0 <;> rw [h] at hm <;> simp [Tr.l, Tr.r, Tr.get] at hm
/-- a step that touched a alone, seen from a heap in which a is one of many -/
theorem Fm.wide (R : RH K F e H ρ L) (ha : ρ[n]? = some a) {ρ' : List Addr} (f : Fm [a] ρ' H H') : Fm ρ ρ H H' := by
  have ma : a ∈ ρ := List.mem_iff_getElem?.mpr ⟨n, ha⟩
  refine ⟨fun _ _ h => h, fun _ h => .inl h, fun b o h hb => f.keep b o h fun z => ?_, f.there, f.tup, f.frz⟩
  rw [List.mem_singleton] at z
  exact hb (by rw [z]; exact ma)
theorem RH.repl (R : RH K F e H ρ L) (ha : ρ[n]? = some a) {ρ' : List Addr} (f : Fm [a] ρ' H H') (hn : L.n < top) (ho : RelO K F e H' ρ o a) : RH K F e H' ρ (L.set n o) := by
  have fw := f.wide R ha
  have ma : a ∈ ρ := List.mem_iff_getElem?.mpr ⟨n, ha⟩
  obtain ⟨q, hq, mu⟩ := R.mut ma
  have hnl : n < L.n := by rw [← R.len]; exact (List.getElem?_eq_some_iff.mp ha).1
  have keep : ∀ b o, H b = some o → b ≠ a → H' b = some o := fun b o h hb => f.keep b o h fun z => hb (by simpa using z)
  refine ⟨R.len, R.nd, fun m b h => ?_, fun m ob h => ?_⟩
  · rw [LH.get_set (by omega)]
    by_cases hm : m = n
    · subst hm
      rw [ha] at h; cases h
      exact ⟨o, by rw [if_pos rfl], ho⟩
    · rw [if_neg hm]
      obtain ⟨ob, h1, h2⟩ := R.ob m b h
      have hb : b ≠ a := fun z => hm (nd_ix R.nd h (by rw [z]; exact ha))
      obtain ⟨h3, e3, _⟩ := h2.mut
      exact ⟨ob, h1, h2.stay fw.kp fw.pre (by rw [keep b h3 e3 hb, e3]) fun d hd => keep d _ hd fun z => by
        rw [z, hq] at hd
        cases hd
        exact mu⟩
  · rw [LH.get_set (by omega)] at h
    show m < L.n
    split at h
    · omega
    · exact R.fit m ob h
end
/-- take, with the draws told in advance -/
def fTake : List W → LH → Option (W × LH) := fun ws L => match ws with
  | [.ref n, .int m] => match L.get n with
    | some (.box f ((m', r) :: ds)) => cond (decide (m = (m' : Nat)) && Nat.blt L.n top) (some (.int (r : Nat), L.set n (.box f ds))) none
    | _ => none
  | _ => none
section
variable {P : Program} {w : World} {K : PySem.W.Frag} {mg : Str → Option Value} {base : Heap} {F : Fx} {f : Addr} {fd : FuncData} {ps : List Str} {k : Nat}
theorem rel3 {e : En} {H : Hp} {ρ : List Addr} {x y z : Int} {vs : List V} (r : RelWs K F e H ρ [.int x, .int y, .int z] vs) : vs = [.int x, .int y, .int z] := by
  obtain ⟨u, vr, rfl, r1, r2⟩ := r.uncons
  obtain ⟨v, z', rfl, r3, r4⟩ := rel2 r2
  cases r1
  cases r3
  cases r4
  rfl
theorem ok_take (G : FnOk P w K mg base CX0 k f fd ps (spZ K F 2 g_take)) : FnOk P w K mg base CX0 k f fd ps (spZ K F 2 fTake) := by
  refine G.imp fun vs H Q E h => ?_
  obtain ⟨e, ρ, L, ws, w, L', he, hh, hw, hn, hm, k⟩ := h
  unfold fTake at hm
  split at hm
  · rename_i n m
    split at hm
    · rename_i fb m' r ds g1
      obtain ⟨q, hm⟩ := cond_some hm
      cases hm
      rw [Bool.and_eq_true, decide_eq_true_eq] at q
      obtain ⟨rfl, q2⟩ := q
      have q3 : L.n < top := Nat.le_of_ble_eq_true q2
      obtain ⟨u, v, rfl, r1, r2⟩ := rel2 hw
      cases r2
      unfold RelW at r1
      obtain ⟨a, rfl, ha⟩ := r1
      obtain ⟨a', ha', ho⟩ := hh.at_ g1
      rw [ha] at ha'; cases ha'
      obtain ⟨x, y, z, e1, b, d⟩ := ho
      obtain ⟨d1, d2, d3, d4⟩ := d
      refine ⟨⟨[], []⟩, [a], L1 (.lst [.int x, .int y, .int z]), [.ref 0, .int (m' : Nat)], _, _, he.none, RH.one ⟨_, e1, .cons rfl (.cons rfl (.cons rfl .nil))⟩, ?_, rfl, take_eq rfl (show 1 < top by decide) (show 0 < top by decide) b (by omega) (by omega), fun ρ' H' v f1 r1 w1 => ?_⟩
      · refine .cons ?_ (.cons rfl .nil)
        unfold RelW
        exact ⟨a, rfl, rfl⟩
      · have hv : v = .int (draw x y z m').1 := w1
        subst hv
        obtain ⟨a2, xs, p1, p2, p3⟩ := r1.lst (n := 0) (ws := [.int (draw x y z m').2.1, .int (draw x y z m').2.2.1, .int (draw x y z m').2.2.2]) (by rw [LH.get_set (by decide), if_pos rfl])
        rw [f1.pre 0 a rfl] at p1; cases p1
        have p4 := rel3 p3
        subst p4
        have fw := f1.wide hh ha
        refine k ρ H' _ fw (hh.repl ha f1 q3 ?_) (by rw [d3]; rfl)
        exact ⟨_, _, _, p2, draw_box (by omega) b, d4⟩
    · cases hm
  · cases hm
/-! ### a def that asks its box for draws of given moduli, and is True whatever is drawn -/
def allDraws : List Nat → List (List (Nat × Nat))
  | [] => [[]]
  | m :: ms => (List.range m).flatMap fun r => (allDraws ms).map fun ds => (m, r) :: ds
theorem draws_of {ms : List Nat} (hm : ∀ m ∈ ms, 1 ≤ m ∧ m ≤ 1000) : ∀ {x y z : Int}, ∃ ds ∈ allDraws ms, Draws x y z ds ∧ ds.length = ms.length := by
  induction ms with
  | nil => intro x y z; exact ⟨[], by simp [allDraws], trivial, rfl⟩
  | cons m ms ih =>
    intro x y z
    obtain ⟨h1, h2⟩ := hm m List.mem_cons_self
    obtain ⟨d1, d2⟩ := draw_lt (x := x) (y := y) (z := z) (m := (m : Int)) (by omega)
    obtain ⟨ds, i1, i2, i3⟩ := ih (fun m' hm' => hm m' (List.mem_cons_of_mem _ hm')) (x := (draw x y z m).2.1) (y := (draw x y z m).2.2.1) (z := (draw x y z m).2.2.2)
    refine ⟨(m, (draw x y z m).1.toNat) :: ds, ?_, ⟨h1, h2, ?_, i2⟩, by simp [i3]⟩
    · unfold allDraws
      rw [List.mem_flatMap]
      refine ⟨(draw x y z m).1.toNat, ?_, List.mem_map.mpr ⟨ds, i1, rfl⟩⟩
      rw [List.mem_range]
      omega
    · omega
def isTrueM : Option (W × LH) → Bool
  | some (.bl true, _) => true
  | _ => false
theorem isTrueM_of {o : Option (W × LH)} (h : isTrueM o = true) : ∃ L, o = some (.bl true, L) := by
  unfold isTrueM at h
  split at h
  · exact ⟨_, rfl⟩
  · cases h
/-- such a def, seen from outside: True, and the box is not known any more -/
def fRight : List W → LH → Option (W × LH) := fun ws L => match ws with
  | [.ref n] => match L.get n with
    | some (.lst [.int x, .int y, .int z]) => cond (decide (0 ≤ x) && decide (0 ≤ y) && decide (y < 2 ^ 62) && decide (z = 0) && Nat.blt L.n top) (some (.bl true, L.set n .any)) none
    | _ => none
  | _ => none
theorem ok_right {m : List W → LH → Option (W × LH)} {ms : List Nat} (hm : ∀ m ∈ ms, 1 ≤ m ∧ m ≤ 1000) (hl : ms.length ≤ 1000) (hall : ∀ ds ∈ allDraws ms, isTrueM (m [.ref 0] (L1 (.box 0 ds))) = true)
    (G : FnOk P w K mg base CX0 k f fd ps (spZ K F 1 m)) : FnOk P w K mg base CX0 k f fd ps (spZ K F 1 fRight) := by
  refine G.imp fun vs H Q E h => ?_
  obtain ⟨e, ρ, L, ws, w, L', he, hh, hw, hn, hm', k⟩ := h
  unfold fRight at hm'
  split at hm'
  · rename_i n
    split at hm'
    · rename_i x y z g1
      obtain ⟨q, hm'⟩ := cond_some hm'
      cases hm'
      rw [Bool.and_eq_true, Bool.and_eq_true, Bool.and_eq_true, Bool.and_eq_true, decide_eq_true_eq, decide_eq_true_eq, decide_eq_true_eq, decide_eq_true_eq] at q
      obtain ⟨⟨⟨⟨q1, q2⟩, q3⟩, q4⟩, q5⟩ := q
      subst q4
      obtain ⟨v, rfl, r1⟩ := rel1 hw
      unfold RelW at r1
      obtain ⟨a, rfl, ha⟩ := r1
      obtain ⟨a', xs, p1, p2, p3⟩ := hh.lst g1
      rw [ha] at p1; cases p1
      have p4 := rel3 p3
      subst p4
      obtain ⟨ds, i1, i2, i3⟩ := draws_of hm (x := x) (y := y) (z := 0)
      obtain ⟨L2, e2⟩ := isTrueM_of (hall ds i1)
      refine ⟨⟨[], []⟩, [a], L1 (.box 0 ds), [.ref 0], _, _, he.none, RH.one ⟨x, y, 0, p2, ⟨q1, q2, q3, by omega, by omega⟩, i2⟩, ?_, rfl, e2, fun ρ' H' v f1 r1 w1 => ?_⟩
      · refine .cons ?_ .nil
        unfold RelW
        exact ⟨a, rfl, rfl⟩
      · have fw := f1.wide hh ha
        have hv : v = .bl true := w1
        subst hv
        obtain ⟨o, _, ho⟩ := r1.ob 0 a (f1.pre 0 a rfl)
        exact k ρ H' _ fw (hh.repl ha f1 (Nat.le_of_ble_eq_true q5) ho.mut) rfl
    · cases hm'
  · cases hm'
end
end Z

set_option Elab.async false
set_option linter.all false
set_option maxRecDepth 100000
set_option maxHeartbeats 4000000
namespace Z
open PySem PySem.Spec PyProof.Rows L2

theorem atI_map {cs : List Int} {k : Nat} (h : k < cs.length) : atI (cs.map W.int) (k : Int) = some (.int cs[k]) := by
  unfold atI ixN
  rw [List.length_map, if_pos (by omega), if_pos (by omega)]
  show (cs.map W.int)[(k : Int).toNat]? = _
  rw [Int.toNat_natCast, List.getElem?_map, List.getElem?_eq_getElem h]
  rfl
theorem ixN_nat {n k : Nat} (h : k < n) : ixN n (k : Int) = some k := by
  unfold ixN
  rw [if_pos (by omega), if_pos (by omega), Int.toNat_natCast]
theorem ble3 {α : Type} {a b c : α} : Nat.ble [a, b, c].length 1000000 = true := show Nat.ble 3 1000000 = true by decide
theorem ble1 {α : Type} {a : α} : Nat.ble [a].length 1000000 = true := show Nat.ble 1 1000000 = true by decide
theorem box_eq {L : LH} {c k : Nat} {cs : List Int} (hL : L.get c = some (.lst (cs.map W.int))) (hk : k < cs.length) (hk2 : k < 100) (hn : L.n < top) :
    ∃ x y : Int, 0 ≤ x ∧ 0 ≤ y ∧ y < 2 ^ 62 ∧ g_box [.ref c, .int (k : Nat)] L = some (.ref L.n, L.add (.lst [.int x, .int y, .int 0])) := by
  have h1 : decide (((k : Nat) : Int) < ((cs.map W.int).length : Nat)) = true := decide_eq_true (by rw [List.length_map]; omega)
  have h2 := atI_map hk
  have h3 : (decide ((0 : Int) ≤ 18) && decide ((18 : Int) ≤ 1000) && decide ((10 : Int).natAbs < 1000000)) = true := by decide
  have h4 : ((2305843009213693951 : Int) != 0) = true := by decide
  have h5 : smallI 39373 = true := by decide
  have h6 : ∀ b : Bool, smallI (if b = true then 1 else 0) = true := by intro b; cases b <;> decide
  have m0 : 0 ≤ (cs[k]).fmod 2305843009213693951 := Int.fmod_nonneg_of_pos _ (by omega)
  have m1 : (cs[k]).fmod 2305843009213693951 < 2305843009213693951 := Int.fmod_lt_of_pos _ (by omega)
  refine ⟨(if cs[k] < 0 then -cs[k] else cs[k]) * (if decide ((10 : Int) ^ (18 : Int).toNat ≤ if cs[k] < 0 then -cs[k] else cs[k]) = true then 1 else 0), (cs[k]).fmod 2305843009213693951 + 39373 * (k : Nat) + 179, ?_, by omega, by omega, ?_⟩
  · refine Int.mul_nonneg ?_ ?_
    · split <;> omega
    · split <;> omega
  · simp only [g_box, gb_box, fnZ, sSeq, sSet, vIfM, mTest, mBin, mApp, mCons, mNil, vVar, vC, fLt, fIB, fLen, hL, h1, h2, fIx, sRet, fAbs, fInt, fGe, fPow, fI, h3, fMul, h6, fMod, h4, h5, fAdd, fLst, ble3, blt_top hn, cond_t, Bool.and_self, Bool.or_true, Bool.true_or, List.map, List.cons_append, List.nil_append, List.getElem?_cons_zero, List.getElem?_cons_succ, List.set, List.replicate]

def cB : Sm := (sSeq (sSet 5 (mBin fMod (mApp fInt (mCons (vVar 3) mNil)) (vVar 1)))
    (sAsg (mBin fAdd (mBin fIx (vVar 2) (vVar 5)) (mBin fMul (vVar 4) (mBin fAdd (vVar 3) (vC (.int 2))))) (gIx (vVar 2) (vVar 5))))
def cG : Eg := gTupM 2 (gConsM (gSet 3) (gConsM (gSet 4) gNilM))
theorem cells_loop {s c : Nat} {xs : List Int} {most : Nat} {w0 : W} (hm : 1 ≤ most) (hc : c < top) (hsc : s ≠ c) (hx : xs.length ≤ 100) : ∀ (rem i f : Nat) (L : LH) (cs : List Int) (a b d : Option W), i + rem = xs.length → rem < f → L.get s = some (.lst (xs.map W.int)) → L.get c = some (.lst (cs.map W.int)) →
    (xs ≠ [] → cs.length = most) → L.n < top →
    ∃ (sl' : Sl) (L' : LH) (cs' : List Int), forL (.enum (.obj s)) cG cB f i [some w0, some (.int (most : Nat)), some (.ref c), a, b, d] L = some (.nx, sl', L') ∧ sl'[2]? = some (some (.ref c)) ∧ L'.get c = some (.lst (cs'.map W.int)) ∧ cs'.length = cs.length ∧ L'.n = L.n
  | rem, i, 0, L, cs, a, b, d, hi, hf, _, _, _, _ => by omega
  | 0, i, f + 1, L, cs, a, b, d, hi, hf, hs, hcs, hl, hn => by
    refine ⟨[some w0, some (.int (most : Nat)), some (.ref c), a, b, d], L, cs, ?_, rfl, hcs, rfl, rfl⟩
    have e1 : (xs.map W.int)[i]? = none := List.getElem?_eq_none_iff.mpr (by rw [List.length_map]; omega)
    simp only [forL, Src.item, hs, e1]
  | rem + 1, i, f + 1, L, cs, a, b, d, hi, hf, hs, hcs, hl, hn => by
    have hil : i < xs.length := by omega
    have hne : xs ≠ [] := by
      intro z
      rw [z] at hil
      simp at hil
    have hcl := hl hne
    have e1 : (xs.map W.int)[i]? = some (.int xs[i]) := by rw [List.getElem?_map, List.getElem?_eq_getElem hil]; rfl
    have hmz : ((most : Nat) : Int) ≠ 0 := by omega
    have e2 : (((most : Nat) : Int) != 0) = true := by rw [bne_iff_ne]; exact hmz
    have e3 : ((i : Nat) : Int).fmod (most : Nat) = ((i % most : Nat) : Int) := by
      rw [Int.fmod_eq_emod_of_nonneg _ (by omega)]
      rfl
    have hk : i % most < cs.length := by rw [hcl]; exact Nat.mod_lt _ (by omega)
    have e4 := atI_map hk
    have e5 : smallI (((i : Nat) : Int) + 2) = true := smallI_ok (by omega) (by omega)
    have e6 : ixN (cs.map W.int).length ((i % most : Nat) : Int) = some (i % most) := ixN_nat (by rw [List.length_map]; exact hk)
    have e7 : (cs.map W.int).set (i % most) (.int (cs[i % most] + xs[i] * ((i : Nat) + 2))) = (cs.set (i % most) (cs[i % most] + xs[i] * ((i : Nat) + 2))).map W.int := by rw [List.map_set]
    have step : forL (.enum (.obj s)) cG cB (f + 1) i [some w0, some (.int (most : Nat)), some (.ref c), a, b, d] L = forL (.enum (.obj s)) cG cB f (i + 1) [some w0, some (.int (most : Nat)), some (.ref c), some (.int (i : Nat)), some (.int xs[i]), some (.int (i % most : Nat))] (L.set c (.lst ((cs.set (i % most) (cs[i % most] + xs[i] * ((i : Nat) + 2))).map W.int))) := by
      rw [forL]
      simp only [Src.item, hs, e1, cG, cB, gTupM, gConsM, gSet, gNilM, List.length, Nat.beq, cond_t, sSeq, sSet, mBin, mApp, mCons, mNil, vVar, vC, fInt, fMod, fI, e2, e3, sAsg, fAdd, fIx, hcs, e4, fMul, e5, e6, e7, gIx, blt_top hn, Bool.or_true, List.getElem?_cons_zero, List.getElem?_cons_succ, List.set]
    rw [step]
    obtain ⟨sl', L', cs', r1, r2, r3, r4, r5⟩ := cells_loop (w0 := w0) hm hc hsc hx rem (i + 1) f (L.set c (.lst ((cs.set (i % most) (cs[i % most] + xs[i] * ((i : Nat) + 2))).map W.int))) (cs.set (i % most) (cs[i % most] + xs[i] * ((i : Nat) + 2))) _ _ _ (by omega) (by omega)
      (by rw [LH.get_set hc, if_neg hsc]; exact hs) (by rw [LH.get_set hc, if_pos rfl]) (fun h => by rw [List.length_set]; exact hl h) hn
    exact ⟨sl', L', cs', r1, r2, r3, by rw [r4, List.length_set], r5⟩
theorem cutW_map (ns : List Int) (lo hi : Option Int) : cutW (ns.map W.int) lo hi = ((ns.drop (HT.sIx ns.length 0 lo)).take (HT.sIx ns.length ns.length hi - HT.sIx ns.length 0 lo)).map W.int := by
  unfold cutW
  rw [List.length_map, List.map_take, List.map_drop]
theorem cells_eq {L : LH} {ns : List Int} {most : Nat} (hm : 1 ≤ most) (hm2 : most ≤ 63) (hns : ns.length ≤ 63) (hn : L.n + 10 < top) :
    ∃ (c : Nat) (L' : LH) (cs : List Int), g_cells [.fz (ns.map W.int), .int (most : Nat)] L = some (.ref c, L') ∧ L'.get c = some (.lst (cs.map W.int)) ∧ 1 ≤ cs.length ∧ cs.length ≤ most ∧ L'.n ≤ L.n + 5 ∧ c < L'.n := by
  have s1 : HT.sIx ns.length 0 none = 0 := rfl
  have s2 : HT.sIx ns.length ns.length (some (most : Int)) = min most ns.length := HT.sIx_nat _ _ _
  have s3 : HT.sIx ns.length 0 (some (most : Int)) = min most ns.length := HT.sIx_nat _ _ _
  have s4 : HT.sIx ns.length ns.length (some (63 : Int)) = min 63 ns.length := HT.sIx_nat _ _ 63
  obtain ⟨A, hA, lA⟩ : ∃ A : List Int, cutW (ns.map W.int) none (some (most : Int)) = A.map W.int ∧ A.length = min most ns.length := by
    refine ⟨_, cutW_map _ _ _, ?_⟩
    rw [s1, s2, List.length_take, List.length_drop]
    omega
  obtain ⟨B, hB, lB⟩ : ∃ B : List Int, cutW (ns.map W.int) (some (most : Int)) (some 63) = B.map W.int ∧ B.length = min 63 ns.length - min most ns.length := by
    refine ⟨_, cutW_map _ _ _, ?_⟩
    rw [s3, s4, List.length_take, List.length_drop]
    omega
  -- the cells at the start
  obtain ⟨c, Lc, cs, e4, gc, hc, hcl, hcm, hln, hln0⟩ : ∃ (c : Nat) (Lc : LH) (cs : List Int), vOrM (mApp fList (mCons (mSlice (vVar 0) oNone (oSome (vVar 1))) mNil)) (mApp fLst (mCons (vC (.int 0)) mNil)) [some (.fz (ns.map W.int)), some (.int (most : Nat)), none, none, none, none] L = some (.ref c, Lc) ∧
      Lc.get c = some (.lst (cs.map W.int)) ∧ c < Lc.n ∧ 1 ≤ cs.length ∧ cs.length ≤ most ∧ Lc.n ≤ L.n + 3 ∧ (B ≠ [] → cs.length = most) := by
    have t0 : L.n < top := by omega
    obtain ⟨L1, hL1⟩ : ∃ L1, L1 = L.add (.lst (A.map W.int)) := ⟨_, rfl⟩
    have n1 : L1.n = L.n + 1 := by rw [hL1]; rfl
    have g1 : L1.get L.n = some (.lst (A.map W.int)) := by rw [hL1, LH.get_add t0, if_pos rfl]
    have t1 : L1.n < top := by omega
    obtain ⟨L2, hL2⟩ : ∃ L2, L2 = L1.add (.lst (A.map W.int)) := ⟨_, rfl⟩
    have n2 : L2.n = L.n + 2 := by rw [hL2]; show L1.n + 1 = _; omega
    have g2 : L2.get L1.n = some (.lst (A.map W.int)) := by rw [hL2, LH.get_add t1, if_pos rfl]
    have t2 : L2.n < top := by omega
    have e2 : mApp fList (mCons (mSlice (vVar 0) oNone (oSome (vVar 1))) mNil) [some (.fz (ns.map W.int)), some (.int (most : Nat)), none, none, none, none] L = some (.ref L1.n, L2) := by
      simp only [mApp, mCons, mNil, mSlice, oNone, oSome, vVar, hA, blt_top t0, cond_t, ← hL1, fList, g1, blt_top t1, ← hL2, List.getElem?_cons_zero, List.getElem?_cons_succ]
    by_cases hA0 : A = []
    · have u1 : truth L2 (.ref L1.n) = some false := by simp only [truth, g2, hA0]; rfl
      obtain ⟨L3, hL3⟩ : ∃ L3, L3 = L2.add (.lst [.int 0]) := ⟨_, rfl⟩
      have n3 : L3.n = L.n + 3 := by rw [hL3]; show L2.n + 1 = _; omega
      refine ⟨L2.n, L3, [0], ?_, ?_, by omega, by simp, hm, by omega, fun hb => ?_⟩
      · unfold vOrM
        rw [e2]
        simp only [u1, mApp, mCons, mNil, vC, fLst, ble1, blt_top t2, Bool.and_self, cond_t, ← hL3]
      · rw [hL3, LH.get_add t2, if_pos rfl]; rfl
      · exfalso
        rw [hA0] at lA
        apply hb
        have : ns.length = 0 := by simp at lA; omega
        exact List.eq_nil_of_length_eq_zero (by omega)
    · have hA1 : 1 ≤ A.length := by
        cases A with
        | nil => exact absurd rfl hA0
        | cons _ _ => simp
      have u1 : truth L2 (.ref L1.n) = some true := by
        simp only [truth, g2]
        cases A with
        | nil => exact absurd rfl hA0
        | cons _ _ => rfl
      refine ⟨L1.n, L2, A, ?_, g2, by omega, hA1, by omega, by omega, fun hb => ?_⟩
      · simp only [vOrM, e2, u1]
      · have : B.length ≠ 0 := fun z => hb (List.eq_nil_of_length_eq_zero z)
        omega
  have t3 : Lc.n < top := by omega
  obtain ⟨Ld, hLd⟩ : ∃ Ld, Ld = Lc.add (.lst (B.map W.int)) := ⟨_, rfl⟩
  have n4 : Ld.n = Lc.n + 1 := by rw [hLd]; rfl
  have g4 : Ld.get Lc.n = some (.lst (B.map W.int)) := by rw [hLd, LH.get_add t3, if_pos rfl]
  have g5 : Ld.get c = some (.lst (cs.map W.int)) := by rw [hLd, LH.get_add t3, if_neg (by omega)]; exact gc
  obtain ⟨sl', L', cs', r1, r2, r3, r4, r5⟩ := cells_loop (s := Lc.n) (c := c) (xs := B) (most := most) (w0 := .fz (ns.map W.int)) hm (by omega) (by omega) (by omega) B.length 0 lid Ld cs none none none (by omega) (show B.length < 100000 by omega) g4 g5 hln0 (by omega)
  refine ⟨c, L', cs', ?_, r3, by rw [r4]; exact hcl, by rw [r4]; exact hcm, by omega, by omega⟩
  have e5 : sFor (iEnumM (mSlice (vVar 0) (oSome (vVar 1)) (oSome (vC (.int 63))))) cG cB [some (.fz (ns.map W.int)), some (.int (most : Nat)), some (.ref c), none, none, none] Lc = some (.nx, sl', L') := by
    simp only [sFor, iEnumM, mSlice, oSome, vVar, vC, hB, blt_top t3, cond_t, ← hLd, isList, g4, r1, List.getElem?_cons_zero, List.getElem?_cons_succ]
  have e6 : g_cells [.fz (ns.map W.int), .int (most : Nat)] L = (match sSeq (sSet 2 (vOrM (mApp fList (mCons (mSlice (vVar 0) oNone (oSome (vVar 1))) mNil)) (mApp fLst (mCons (vC (.int 0)) mNil)))) (sSeq (sFor (iEnumM (mSlice (vVar 0) (oSome (vVar 1)) (oSome (vC (.int 63))))) cG cB) (sRet (vVar 2))) [some (.fz (ns.map W.int)), some (.int (most : Nat)), none, none, none, none] L with
    | some (.nx, _, L') => some (.non, L')
    | some (.rt w, _, L') => some (w, L')
    | _ => none) := rfl
  rw [e6]
  simp only [sSeq, sSet, e4, List.set, e5, sRet, vVar, r2]
/-! ### the law's own shape: all of _law_right(_law_box(cells, k)) -/
def gb_law (most : Nat) : Sm :=
    (sSeq (sSet 1 (mApp (fN 2 g_cells) (mCons (vVar 0) (mCons (vC (.int (most : Nat))) mNil))))
    (sRet (mApp fAll (mCons (vLc (iRange1 (mApp fLen (mCons (vVar 1) mNil))) [2] (gSet 2) tYesM (mApp (fN 1 fRight) (mCons (mApp (fN 2 g_box) (mCons (vVar 1) (mCons (vVar 2) mNil))) mNil))) mNil))))
def g_law (most : Nat) : List W → LH → Option (W × LH) := fnZ 2 (gb_law most)
theorem law_loop {c : Nat} {cs : List Int} {w0 : W} (hl : cs.length ≤ 63) : ∀ (rem i f : Nat) (L : LH) (acc : List W), i + rem = cs.length → rem < f → L.get c = some (.lst (cs.map W.int)) → c < L.n → L.n + 2 * rem + 2 < top →
    ∃ L', lcL (.vals ((List.range cs.length).map fun i => W.int (0 + (i : Nat)))) (gSet 2) tYesM (mApp (fN 1 fRight) (mCons (mApp (fN 2 g_box) (mCons (vVar 1) (mCons (vVar 2) mNil))) mNil)) [some w0, some (.ref c), none] f i acc L = some (acc.reverse ++ List.replicate rem (.bl true), L') ∧ L'.n ≤ L.n + rem
  | rem, i, 0, L, acc, hi, hf, _, _, _ => by omega
  | 0, i, f + 1, L, acc, hi, hf, hc, hcn, hn => by
    have e1 : ((List.range cs.length).map fun i => W.int (0 + (i : Nat)))[i]? = none := List.getElem?_eq_none_iff.mpr (by rw [List.length_map, List.length_range]; omega)
    exact ⟨L, by simp only [lcL, Src.item, e1, List.replicate, List.append_nil], by omega⟩
  | rem + 1, i, f + 1, L, acc, hi, hf, hc, hcn, hn => by
    have hil : i < cs.length := by omega
    have e1 : ((List.range cs.length).map fun i => W.int (0 + (i : Nat)))[i]? = some (.int (i : Nat)) := by
      rw [List.getElem?_map, List.getElem?_range hil]
      show some (W.int (0 + (i : Int))) = _
      rw [Int.zero_add]
    obtain ⟨x, y, x0, y0, y1, hb⟩ := box_eq (L := L) hc hil (by omega) (by omega)
    obtain ⟨Lb, hLb⟩ : ∃ Lb, Lb = L.add (.lst [.int x, .int y, .int 0]) := ⟨_, rfl⟩
    have nb : Lb.n = L.n + 1 := by rw [hLb]; rfl
    have tb : L.n < top := by omega
    have gb : Lb.get L.n = some (.lst [.int x, .int y, .int 0]) := by rw [hLb, LH.get_add tb, if_pos rfl]
    have d1 : (decide (0 ≤ x) && decide (0 ≤ y) && decide (y < 2 ^ 62) && decide ((0 : Int) = 0) && Nat.blt Lb.n top) = true := by
      rw [decide_eq_true x0, decide_eq_true y0, decide_eq_true y1, blt_top (by omega)]
      rfl
    have hR : fRight [.ref L.n] Lb = some (.bl true, Lb.set L.n .any) := by
      show (match Lb.get L.n with
        | some (.lst [.int x, .int y, .int z]) => cond (decide (0 ≤ x) && decide (0 ≤ y) && decide (y < 2 ^ 62) && decide (z = 0) && Nat.blt Lb.n top) (some (W.bl true, Lb.set L.n .any)) none
        | _ => none) = _
      rw [gb]
      show cond (decide (0 ≤ x) && decide (0 ≤ y) && decide (y < 2 ^ 62) && decide ((0 : Int) = 0) && Nat.blt Lb.n top) (some (W.bl true, Lb.set L.n .any)) none = _
      rw [d1]
      rfl
    have hgc : (Lb.set L.n .any).get c = some (.lst (cs.map W.int)) := by
      rw [LH.get_set tb, if_neg (by omega), hLb, LH.get_add tb, if_neg (by omega)]
      exact hc
    obtain ⟨L', r1, r2⟩ := law_loop (w0 := w0) hl rem (i + 1) f (Lb.set L.n .any) (.bl true :: acc) (by omega) (by omega) hgc (by rw [set_n]; omega) (by rw [set_n]; omega)
    refine ⟨L', ?_, by rw [set_n] at r2; omega⟩
    have b2 : Nat.beq [W.ref c, W.int (i : Nat)].length 2 = true := rfl
    have b1 : Nat.beq [W.ref L.n].length 1 = true := rfl
    simp only [lcL, Src.item, e1, gSet, tYesM, mApp, mCons, mNil, vVar, fN, b2, b1, cond_t, hb, ← hLb, hR, r1, List.set, List.getElem?_cons_zero, List.getElem?_cons_succ, List.reverse_cons, List.append_assoc, List.cons_append, List.nil_append, List.replicate_succ]
theorem allB_rep : ∀ n : Nat, allB (List.replicate n (.bl true)) = some true
  | 0 => rfl
  | n + 1 => by rw [List.replicate_succ, allB, allB_rep n]; rfl
theorem app1 {f : List W → LH → Option (W × LH)} {m : Ex} {sl : Sl} {L L1 : LH} {w : W} {r : Option (W × LH)} (h : m sl L = some (w, L1)) (q : f [w] L1 = r) : mApp f (mCons m mNil) sl L = r := by
  simp only [mApp, mCons, mNil, h, q]
theorem law_eq {L : LH} {ns : List Int} {most : Nat} (hm : 1 ≤ most) (hm2 : most ≤ 63) (hns : ns.length ≤ 63) (hn : L.n + 1000 < top) : ∃ L', g_law most [.fz (ns.map W.int)] L = some (.bl true, L') := by
  obtain ⟨c, Lc, cs, e1, gc, h1, h2, h3, h4⟩ := cells_eq (L := L) hm hm2 hns (by omega)
  obtain ⟨Le, e2, e3⟩ := law_loop (w0 := .fz (ns.map W.int)) (cs := cs) (by omega) cs.length 0 lid Lc [] (by omega) (show cs.length < 100000 by omega) gc h4 (by omega)
  have b2 : Nat.beq [W.fz (ns.map W.int), W.int (most : Nat)].length 2 = true := rfl
  have r1 : rngOk ((cs.map W.int).length : Nat) = true := by
    unfold rngOk
    rw [List.length_map, decide_eq_true (by omega), decide_eq_true (by omega)]
    rfl
  have e0 : iRange1 (mApp fLen (mCons (vVar 1) mNil)) [some (.fz (ns.map W.int)), some (.ref c), none] Lc = some (.vals ((List.range cs.length).map fun i => W.int (0 + (i : Nat))), Lc) := by
    simp only [iRange1, mApp, mCons, mNil, vVar, fLen, gc, r1, cond_t, List.getElem?_cons_zero, List.getElem?_cons_succ]
    rw [List.length_map, Int.toNat_natCast]
  have te : Le.n < top := by omega
  have w2 : wipeSl [some (.fz (ns.map W.int)), some (.ref c), none] [2] = [some (.fz (ns.map W.int)), some (.ref c), none] := rfl
  have l1 : (Nat.ble (([] : List W).reverse ++ List.replicate cs.length (W.bl true)).length 1000000 && Nat.blt Le.n top) = true := by
    rw [blt_top te, Bool.and_true]
    exact Nat.ble_eq_true_of_le (by simp; omega)
  obtain ⟨Lf, hLf⟩ : ∃ Lf, Lf = Le.add (.lst (([] : List W).reverse ++ List.replicate cs.length (W.bl true))) := ⟨_, rfl⟩
  have gf : Lf.get Le.n = some (.lst (List.replicate cs.length (W.bl true))) := by rw [hLf, LH.get_add te, if_pos rfl]; rfl
  refine ⟨Lf, ?_⟩
  have e6 : g_law most [.fz (ns.map W.int)] L = (match sSeq (sSet 1 (mApp (fN 2 g_cells) (mCons (vVar 0) (mCons (vC (.int (most : Nat))) mNil)))) (sRet (mApp fAll (mCons (vLc (iRange1 (mApp fLen (mCons (vVar 1) mNil))) [2] (gSet 2) tYesM (mApp (fN 1 fRight) (mCons (mApp (fN 2 g_box) (mCons (vVar 1) (mCons (vVar 2) mNil))) mNil))) mNil))) [some (.fz (ns.map W.int)), none, none] L with
    | some (.nx, _, L') => some (.non, L')
    | some (.rt w, _, L') => some (w, L')
    | _ => none) := rfl
  have e7 : sSet 1 (mApp (fN 2 g_cells) (mCons (vVar 0) (mCons (vC (.int (most : Nat))) mNil))) [some (.fz (ns.map W.int)), none, none] L = some (.nx, [some (.fz (ns.map W.int)), some (.ref c), none], Lc) := by
    simp only [sSet, mApp, mCons, mNil, vVar, vC, fN, b2, cond_t, e1, List.set, List.getElem?_cons_zero, List.getElem?_cons_succ]
  have e8 : vLc (iRange1 (mApp fLen (mCons (vVar 1) mNil))) [2] (gSet 2) tYesM (mApp (fN 1 fRight) (mCons (mApp (fN 2 g_box) (mCons (vVar 1) (mCons (vVar 2) mNil))) mNil)) [some (.fz (ns.map W.int)), some (.ref c), none] Lc = some (.ref Le.n, Lf) := by
    unfold vLc
    rw [e0, w2]
    simp only [e2, fLst, l1, cond_t, ← hLf]
  rw [e6]
  unfold sSeq
  rw [e7]
  have e9 : mApp fAll (mCons (vLc (iRange1 (mApp fLen (mCons (vVar 1) mNil))) [2] (gSet 2) tYesM (mApp (fN 1 fRight) (mCons (mApp (fN 2 g_box) (mCons (vVar 1) (mCons (vVar 2) mNil))) mNil))) mNil) [some (.fz (ns.map W.int)), some (.ref c), none] Lc = some (.bl true, Lf) := by
    refine app1 e8 ?_
    simp only [fAll, gf, allB_rep]
  simp only [sRet, e9]
end Z

set_option Elab.async false
set_option linter.all false
set_option maxRecDepth 100000
namespace Z
open PySem PySem.Spec PyProof.Rows L2
theorem RH.empty {K : PySem.W.Frag} {F : Fx} {e : En} {H : Hp} : RH K F e H [] ⟨0, .nil⟩ :=
  ⟨rfl, .nil, fun n a h => by simp at h, fun n o h => by simp [LH.get, Tr.get] at h⟩
theorem rel_ints {K : PySem.W.Frag} {F : Fx} {e : En} {H : Hp} {ρ : List Addr} : ∀ ns : List Int, RelWs K F e H ρ (ns.map W.int) (ns.map V.int)
  | [] => .nil
  | n :: ns => .cons rfl (rel_ints ns)
/-- the law's promise by its mirror -/
theorem top_z {K : PySem.W.Frag} {F : Fx} {m : List W → LH → Option (W × LH)} {ns : List Int} {H : Hp} {a : Addr} {E : XK} (hF : En.Ok F ⟨[], []⟩) (hm : ∃ L', m [.fz (ns.map W.int)] ⟨0, .nil⟩ = some (.bl true, L')) (hO : Only H) (hS : SqL K H a (ns.map V.int)) :
    spZ K F 1 m [.ref a] H (fun v _ => v = .bl true) E := by
  obtain ⟨L', e1⟩ := hm
  refine ⟨⟨[], []⟩, [], ⟨0, .nil⟩, [.fz (ns.map W.int)], _, _, hF, RH.empty, ?_, rfl, e1, fun ρ' H' v f r w => w⟩
  refine .cons ?_ .nil
  unfold RelW
  refine ⟨a, ns.map V.int, rfl, ?_, rel_ints ns⟩
  rcases hS with (h | ⟨o, h⟩) | h
  · rcases hO a with q | ⟨o, xs, q⟩
    · rw [q] at h; cases h
    · rw [q] at h; cases h
  · exact .inl ⟨o, h⟩
  · exact .inr h
end Z

set_option Elab.async false
set_option linter.all false
set_option maxRecDepth 100000
set_option maxHeartbeats 1000000
namespace Z
open PySem PySem.Spec PyProof.Rows L2

/-! ### one rule or the other -/
def mAlt (m1 m2 : Ex) : Ex := fun sl L => match m1 sl L with
  | none => m2 sl L
  | r => r
def sAlt (m1 m2 : Sm) : Sm := fun sl L => match m1 sl L with
  | none => m2 sl L
  | r => r
def iAlt (m1 m2 : Ei) : Ei := fun sl L => match m1 sl L with
  | none => m2 sl L
  | r => r
theorem PE.or {X : Cx} {x : Expr} {t t' : TE} (h : PE X x t) (h' : PE X x t') : PE X x (fun σ H Q => t σ H Q ∨ t' σ H Q) := ⟨fun pins s σ H Q I k => by
  rcases k with k | k
  · exact h.run pins s σ H Q I k
  · exact h'.run pins s σ H Q I k⟩
theorem PS.or {X : Cx} {x : Stmt} {t t' : TS} (h : PS X x t) (h' : PS X x t') : PS X x (fun D σ H => t D σ H ∨ t' D σ H) := ⟨fun pins s σ H D I k => by
  rcases k with k | k
  · exact h.run pins s σ H D I k
  · exact h'.run pins s σ H D I k⟩
section
variable {X : Cx} {F : Fx} {x tg : Expr} {st : Stmt}
theorem ze_alt {m1 m2 : Ex} (h1 : PE X x (TZ X.K F m1)) (h2 : PE X x (TZ X.K F m2)) : PE X x (TZ X.K F (mAlt m1 m2)) := by
  refine PE.imp (Z.PE.or h1 h2) ?_
  rintro σ H Q ⟨e, ρ, sl, L, w, L', he, hs, hh, hm, k⟩
  unfold mAlt at hm
  cases q : m1 sl L with
  | none => rw [q] at hm; exact .inr ⟨e, ρ, sl, L, w, L', he, hs, hh, hm, k⟩
  | some r => rw [q] at hm; exact .inl ⟨e, ρ, sl, L, w, L', he, hs, hh, by rw [q]; exact hm, k⟩
theorem zs_alt {m1 m2 : Sm} (h1 : PS X st (SZ X.K F m1)) (h2 : PS X st (SZ X.K F m2)) : PS X st (SZ X.K F (sAlt m1 m2)) := by
  refine PS.imp (Z.PS.or h1 h2) ?_
  rintro D σ H ⟨e, ρ, sl, L, o, sl', L', he, hs, hh, hm, k⟩
  unfold sAlt at hm
  cases q : m1 sl L with
  | none => rw [q] at hm; exact .inr ⟨e, ρ, sl, L, o, sl', L', he, hs, hh, hm, k⟩
  | some r => rw [q] at hm; exact .inl ⟨e, ρ, sl, L, o, sl', L', he, hs, hh, by rw [q]; exact hm, k⟩
theorem zi_alt {m1 m2 : Ei} (h1 : PI X tg x (IZ X.K F m1)) (h2 : PI X tg x (IZ X.K F m2)) : PI X tg x (IZ X.K F (iAlt m1 m2)) := by
  refine PI.imp (Z.PI.or h1 h2) ?_
  rintro σ H Q ⟨e, ρ, sl, L, w, L', he, hs, hh, hm, k⟩
  unfold iAlt at hm
  cases q : m1 sl L with
  | none => rw [q] at hm; exact .inr ⟨e, ρ, sl, L, w, L', he, hs, hh, hm, k⟩
  | some r => rw [q] at hm; exact .inl ⟨e, ρ, sl, L, w, L', he, hs, hh, by rw [q]; exact hm, k⟩
end

/-! ### instances with slots -/
section
variable {K : PySem.W.Frag} {F : Fx} {e : En} {H H' : Hp} {ρ ρ' : List Addr} {L : LH} {fs : List (Option W)} {vs : List (Option V)} {n c i : Nat} {a dx : Addr} {w : W} {v : V}
theorem RH.ins (R : RH K F e H ρ L) (hF : F.fld c = none) (h : L.get n = some (.ins c fs)) : ∃ a dx vs, ρ[n]? = some a ∧ SlX.Slt H a (F.C c) dx vs ∧ H a = some (SlX.SlO a (F.C c) dx vs) ∧ H dx = some (.xd []) ∧ RelFs K F e H ρ fs vs := by
  obtain ⟨a, h1, h2⟩ := R.at_ h
  simp only [RelO, hF] at h2
  obtain ⟨dx, vs, q1, q2, q3⟩ := h2
  exact ⟨a, dx, vs, h1, .inr ⟨q1, q2⟩, q1, q2, q3⟩
theorem RelFs.put (r : RelFs K F e H ρ fs vs) (hw : RelW K F e H ρ w v) : RelFs K F e H ρ (fs.set i (some w)) (SlX.putS i v vs) := by
  intro j u q
  by_cases hj : j = i
  · subst hj
    have hl : j < fs.length := by
      have := (List.getElem?_eq_some_iff.mp q).1
      simpa using this
    rw [List.getElem?_set_self hl] at q
    cases q
    exact ⟨v, SlX.putS_get j v vs, hw⟩
  · rw [List.getElem?_set_ne (Ne.symm hj)] at q
    obtain ⟨v', q1, q2⟩ := r j u q
    exact ⟨v', (SlX.putS_ne hj).mpr q1, q2⟩
theorem slH_eq (h : H dx = some (.xd [])) {C : Addr} : SlX.slH H a C dx vs = upd H a (SlX.SlO a C dx vs) := by
  unfold SlX.slH
  rw [upd_self h]
/-- a slot is stored -/
theorem put_slot (R : RH K F e H ρ L) (hF : F.fld c = none) (h : L.get n = some (.ins c fs)) (hn : L.n < top) (ha : ρ[n]? = some a) (q1 : H a = some (SlX.SlO a (F.C c) dx vs)) (q2 : H dx = some (.xd [])) (r : RelFs K F e H ρ fs vs) (hw : RelW K F e H ρ w v) :
    Fm ρ ρ H (SlX.slH H a (F.C c) dx (SlX.putS i v vs)) ∧ RH K F e (SlX.slH H a (F.C c) dx (SlX.putS i v vs)) ρ (L.set n (.ins c (fs.set i (some w)))) := by
  rw [slH_eq q2]
  have mu : Mut (H a) := by rw [q1]; trivial
  have f : Fm ρ ρ H (upd H a (SlX.SlO a (F.C c) dx (SlX.putS i v vs))) := fm_put R ha mu
  refine ⟨f, R.put ha mu hn ?_⟩
  simp only [RelO, hF]
  refine ⟨dx, _, upd_same, ?_, ?_⟩
  · rw [upd_ne fun z => ?_]
    · exact q2
    · rw [z, q1] at q2
      exact SlX.slO_not (Option.some.inj q2)
  · intro j u q
    obtain ⟨v', z1, z2⟩ := r.put hw j u q
    exact ⟨v', z1, f.rel z2⟩
end
/-- o.f -/
def mAttr (c i : Nat) (a : Ex) : Ex := fun sl L => match a sl L with
  | some (.ref n, L1) => match L1.get n with
    | some (.ins c' fs) => match fs[i]? with
      | some (some w) => cond (Nat.beq c' c) (some (w, L1)) none
      | _ => none
    | _ => none
  | _ => none
/-- o.f = v -/
def sAttr (c i : Nat) (a v : Ex) : Sm := fun sl L => match v sl L with
  | none => none
  | some (w, L1) => match a sl L1 with
    | some (.ref n, L2) => match L2.get n with
      | some (.ins c' fs) => cond (Nat.beq c' c && Nat.blt L2.n top) (some (.nx, sl, L2.set n (.ins c (fs.set i (some w))))) none
      | _ => none
    | _ => none
/-- o.f op= v -/
def sAttrAug (c i : Nat) (f : W → W → LH → Option (W × LH)) (a v : Ex) : Sm := fun sl L => match a sl L with
  | some (.ref n, L1) => match L1.get n with
    | some (.ins c' fs) => match fs[i]? with
      | some (some x) => match v sl L1 with
        | none => none
        | some (y, L2) => match f x y L2 with
          | none => none
          | some (z, L3) => match L3.get n with
            | some (.ins c'' fs') => cond (Nat.beq c' c && (Nat.beq c'' c && Nat.blt L3.n top)) (some (.nx, sl, L3.set n (.ins c (fs'.set i (some z))))) none
            | _ => none
      | _ => none
    | _ => none
  | _ => none
/-- o.m(..) -/
def mMeth (c n : Nat) (m : List W → LH → Option (W × LH)) (a : Ex) (r : Ea) : Ex := fun sl L => match a sl L with
  | some (.ref k, L1) => match L1.get k with
    | some (.ins c' _) => match Nat.beq c' c with
      | true => match r sl L1 with
        | some (xs, L2) => fN n m (.ref k :: xs) L2
        | none => none
      | false => none
    | _ => none
  | _ => none
/-- C(..): k slots -/
def mMake (c k n : Nat) (m : List W → LH → Option (W × LH)) (r : Ea) : Ex := fun sl L => match r sl L with
  | none => none
  | some (xs, L1) => match fN n m (.ref L1.n :: xs) (L1.add (.ins c (List.replicate k none))) with
    | some (.non, L2) => cond (Nat.blt L1.n top) (some (.ref L1.n, L2)) none
    | _ => none
section
variable {X : Cx} {F : Fx} {ma mv : Ex} {mr : Ea} {a o v value : Expr} {es : List Expr} {f m x : Str} {pos pos' apos tpos pp : Pos} {c i k n nk : Nat} {p g C : Addr} {fd : FuncData} {ps : List Str} {mm : List W → LH → Option (W × LH)}
theorem beq_nat {m n : Nat} (h : Nat.beq m n = true) : m = n := Nat.eq_of_beq_eq_true h
theorem ze_attr (hF : F.fld c = none) (sc : SlX.SCls X.K (F.C c)) (k : SlX.Slot1 X.K (F.C c) f p i) (he : PE X a (TZ X.K F ma)) (hb : attributeBase a f X.env (eval a X.env) = eval a X.env := by rfl) : PE X (.Attribute a f pos) (TZ X.K F (mAttr c i ma)) := by
  refine PE.imp (SlX.pe_sl he hb) ?_
  rintro σ H Q ⟨e, ρ, sl, L, w, L', he, hs, hh, hm, kk⟩
  unfold mAttr at hm
  split at hm
  · rename_i n L1 h1
    split at hm
    · rename_i c' fs g1
      split at hm
      · rename_i w' hw
        obtain ⟨q, hm⟩ := cond_some hm
        cases hm
        have := beq_nat q
        subst this
        refine ⟨e, ρ, sl, L, _, _, he, hs, hh, h1, fun ρ1 H1 v f1 r1 w1 => ?_⟩
        unfold RelW at w1
        obtain ⟨b, rfl, hb⟩ := w1
        obtain ⟨b', dx, vs, q1, q2, q3, q4, q5⟩ := r1.ins hF g1
        rw [hb] at q1; cases q1
        obtain ⟨v', z1, z2⟩ := q5 i _ hw
        exact ⟨b, _, dx, p, vs, i, v', rfl, q2, sc, k, z1, kk ρ1 H1 v' f1 r1 z2⟩
      · cases hm
    · cases hm
  · cases hm
theorem zs_attr (hF : F.fld c = none) (sc : SlX.SCls X.K (F.C c)) (k : SlX.Slot1 X.K (F.C c) f p i) (he : PE X o (TZ X.K F ma)) (hv : PE X value (TZ X.K F mv)) (hs : swapsWith value (some (.Attribute o f pos')) pos.line X.env = pure false := by rfl) :
    PS X (.Assign [.Attribute o f pos'] value pos) (SZ X.K F (sAttr c i ma mv)) := by
  refine PS.imp (SlX.ps_sl he hv hs) ?_
  rintro D σ H ⟨e, ρ, sl, L, oo, sl', L', he, hs, hh, hm, kk⟩
  unfold sAttr at hm
  split at hm
  · cases hm
  rename_i w L1 h1
  split at hm
  · rename_i n L2 h2
    split at hm
    · rename_i c' fs g1
      obtain ⟨q, hm⟩ := cond_some hm
      cases hm
      rw [Bool.and_eq_true] at q
      have := beq_nat q.1
      subst this
      refine ⟨e, ρ, sl, L, _, _, he, hs, hh, h1, fun ρ1 H1 v f1 r1 w1 => ?_⟩
      refine ⟨e, ρ1, sl, L1, _, _, he, f1.relSl hs, r1, h2, fun ρ2 H2 v2 f2 r2 w2 => ?_⟩
      unfold RelW at w2
      obtain ⟨b, rfl, hb⟩ := w2
      obtain ⟨b', dx, vs, q1, q2, q3, q4, q5⟩ := r2.ins hF g1
      rw [hb] at q1; cases q1
      obtain ⟨f3, r3⟩ := put_slot (i := i) r2 hF g1 (Nat.le_of_ble_eq_true q.2) hb q3 q4 q5 (f2.rel w1)
      refine ⟨b, _, dx, p, vs, i, rfl, q2, sc, k, ?_⟩
      have fA := (f1.trans f2).trans f3
      exact kk ρ2 _ σ fA r3 (fA.relSl hs)
    · cases hm
  · cases hm
/-- e.f op= value, f a slot -/
def sSlAugZ (K : PySem.W.Frag) (C : Addr) (i : Nat) (ta tv : TE) (rd : V → V → Hp → VK → Prop) : TS := fun D σ H => ta σ H fun x H1 => ∃ a dx vs v, x = .ref a ∧ SlX.Slt H1 a C dx vs ∧ vs[i]? = some (some v) ∧
  tv σ H1 fun y H2 => rd v y H2 fun z H3 => ∃ dx' vs', SlX.Slt H3 a C dx' vs' ∧ D.nx σ (SlX.slH H3 a C dx' (SlX.putS i z vs'))
theorem ps_slaugZ {op : Operator} {rd : V → V → Hp → VK → Prop} {ta tv : TE} (sc : SlX.SCls X.K C) (k : SlX.Slot1 X.K C f p i) (ha : PE X o ta) (hv : PE X value tv) (hop : InOp X op rd) :
    PS X (.AugAssign (.Attribute o f tpos) op value pos) (sSlAugZ X.K C i ta tv rd) := by
  refine ⟨fun pins s σ H D I h => ?_⟩
  refine wpAny_AugAssign_AttributeAny (thn (ha.run pins s σ H _ I h) fun ov s1 ⟨x, H1, I1, rx, a, dx, vs, v, ex, ea, l, q⟩ => ?_)
  subst ex
  obtain rfl : ov = Value.ref a := rx
  refine SlX.getslot_ok I1 ea sc k l fun u s2 I2 ru => thn (hv.run pins s2 σ H1 _ I2 q) fun w3 s3 ⟨y, H2, I3, ry, q3⟩ => thn (hop pins s3 σ H2 v y u w3 _ I3 ru ry q3) fun w4 s4 ⟨z, H3, I4, rz, dx', vs', ea', q4⟩ => ?_
  exact SlX.setslot_ok I4 ea' sc k rz fun s5 I5 => ⟨σ, _, I5, q4⟩
theorem zs_attrAug {op : Operator} {rd : R2} {ff : W → W → LH → Option (W × LH)} (hF : F.fld c = none) (sc : SlX.SCls X.K (F.C c)) (k : SlX.Slot1 X.K (F.C c) f p i) (he : PE X o (TZ X.K F ma)) (hv : PE X value (TZ X.K F mv)) (hop : InOp X op rd) (hz : OpZ X.K F rd ff) :
    PS X (.AugAssign (.Attribute o f tpos) op value pos) (SZ X.K F (sAttrAug c i ff ma mv)) := by
  refine PS.imp (ps_slaugZ sc k he hv hop) ?_
  rintro D σ H ⟨e, ρ, sl, L, oo, sl', L', he, hs, hh, hm, kk⟩
  unfold sAttrAug at hm
  split at hm
  · rename_i n L1 h1
    split at hm
    · rename_i c' fs g1
      split at hm
      · rename_i x hx
        split at hm
        · cases hm
        rename_i y L2 h2
        split at hm
        · cases hm
        rename_i z L3 h3
        split at hm
        · rename_i c'' fs' g3
          obtain ⟨q, hm⟩ := cond_some hm
          cases hm
          rw [Bool.and_eq_true, Bool.and_eq_true] at q
          obtain ⟨q1, q2, q3⟩ := q
          have := beq_nat q1
          subst this
          have := beq_nat q2
          subst this
          refine ⟨e, ρ, sl, L, _, _, he, hs, hh, h1, fun ρ1 H1 v f1 r1 w1 => ?_⟩
          unfold RelW at w1
          obtain ⟨b, rfl, hb⟩ := w1
          obtain ⟨b', dx, vs, u1, u2, u3, u4, u5⟩ := r1.ins hF g1
          rw [hb] at u1; cases u1
          obtain ⟨v', z1, z2⟩ := u5 i _ hx
          refine ⟨b, dx, vs, v', rfl, u2, z1, ?_⟩
          refine ⟨e, ρ1, sl, L1, _, _, he, f1.relSl hs, r1, h2, fun ρ2 H2 v2 f2 r2 w2 => ?_⟩
          refine hz e ρ2 H2 L2 x y v' v2 z L3 _ he r2 (f2.rel z2) w2 h3 fun ρ3 H3 v3 f3 r3 w3 => ?_
          obtain ⟨b', dx', vs', p1, p2, p3, p4, p5⟩ := r3.ins hF g3
          rw [f3.pre _ _ (f2.pre _ _ hb)] at p1; cases p1
          obtain ⟨f4, r4⟩ := put_slot (i := i) r3 hF g3 (Nat.le_of_ble_eq_true q3) (f3.pre _ _ (f2.pre _ _ hb)) p3 p4 p5 w3
          have fA := ((f1.trans f2).trans f3).trans f4
          exact ⟨dx', vs', p2, kk ρ3 _ σ fA r4 (fA.relSl hs)⟩
        · cases hm
      · cases hm
    · cases hm
  · cases hm
/-- o.m(e, ..), o an instance with slots -/
def tMethZ (C : Addr) (sp : Sp) (E : XK) (ta : TE) (t : TA) : TE := fun σ H Q => ta σ H fun x H1 => ∃ a dx vs, x = .ref a ∧ SlX.Slt H1 a C dx vs ∧ t σ H1 fun ws H2 => sp (x :: ws) H2 Q E
theorem pe_methZ {CX : CXT} {sp : Sp} {E : XK} {pl : Sem Bool} {ta : TE} {t : TA} (he : PE X o ta) (sc : SlX.SCls X.K C) (hm : Meth X.K C m g) (G : FnOk X.prog X.w X.K X.mg X.base CX k g fd ps sp) (hr : Room k X.A) (hb : Binds X.K fd ps []) (hx : Passes CX X E) (ha : PA X (a :: es) t)
    (hst : starEach (a :: es) X.env = (false, eval a X.env) :: starEach es X.env := by rfl) (hpl : (backTo pos (starEach es X.env)).any (·.1) = false := by rfl)
    (ht : eval (.Call (.Attribute o m apos) (a :: es) [] pos) X.env = (do
      let ov ← eval o X.env
      standAt apos.atName
      let (f, first) ← holding [ov] (getMethod ov m pl)
      callWith pos f first (backTo pos (starEach (a :: es) X.env)) (backToKw pos (keywordEach [] X.env))) := by rfl) :
    PE X (.Call (.Attribute o m apos) (a :: es) [] pos) (tMethZ C sp E ta t) := by
  refine ⟨fun pins s σ H Q I h => ?_⟩
  refine PySem.W.methodCall_KW (pl := pl) (thn (he.run pins s σ H _ I h) fun u s1 ⟨x, H1, I1, rx, a, dx, vs, ex, hsl, q⟩ => ?_) ht
  subst ex
  obtain rfl : u = Value.ref a := rx
  refine SlX.getmethsl_ok I1 hsl sc hm ?_
  refine PySem.W.callWith_K (first := [.ref a]) (h₀ := X.base) I.ok.mod.kin hm.kp (thn (ha.run pos pins s1 σ H1 _ I1 q) fun us s2 ⟨ws, H2, I2, r, q2⟩ => ⟨I2.kIn, ?_⟩) hst hpl
  exact run_fn (us := .ref a :: us) (vs := .ref a :: ws) G hr hb .nil hx I2 (.cons rfl r) (by rw [List.append_nil]; exact q2)
theorem pe_methZ0 {CX : CXT} {sp : Sp} {E : XK} {pl : Sem Bool} {ta : TE} (he : PE X o ta) (sc : SlX.SCls X.K C) (hm : Meth X.K C m g) (G : FnOk X.prog X.w X.K X.mg X.base CX k g fd ps sp) (hr : Room k X.A) (hb : Binds X.K fd ps []) (hx : Passes CX X E)
    (ht : eval (.Call (.Attribute o m apos) [] [] pos) X.env = (do
      let ov ← eval o X.env
      standAt apos.atName
      let (f, first) ← holding [ov] (getMethod ov m pl)
      callWith pos f first (backTo pos (starEach [] X.env)) (backToKw pos (keywordEach [] X.env))) := by rfl) :
    PE X (.Call (.Attribute o m apos) [] [] pos) (tMethZ C sp E ta tNil) := by
  refine ⟨fun pins s σ H Q I h => ?_⟩
  refine PySem.W.methodCall_KW (pl := pl) (thn (he.run pins s σ H _ I h) fun u s1 ⟨x, H1, I1, rx, a, dx, vs, ex, hsl, q⟩ => ?_) ht
  subst ex
  obtain rfl : u = Value.ref a := rx
  refine SlX.getmethsl_ok I1 hsl sc hm ?_
  exact PySem.W.callWith_K0 (first := [.ref a]) I1.kIn hm.kp (run_fn (us := [.ref a]) (vs := [.ref a]) G hr hb .nil hx I1 (.cons rfl .nil) (by rw [List.append_nil]; exact q))
theorem tz_meth {E : XK} {σ : St} {H : Hp} {Q : VK} (hF : F.fld c = none) (h : TZ X.K F (mMeth c n mm ma mr) σ H Q) : tMethZ (F.C c) (spZ X.K F n mm) E (TZ X.K F ma) (TAZ X.K F mr) σ H Q := by
  obtain ⟨e, ρ, sl, L, w, L', he, hs, hh, hm, kk⟩ := h
  unfold mMeth at hm
  split at hm
  · rename_i k' L1 h1
    split at hm
    · rename_i c' fs g1
      split at hm
      · rename_i q
        have := beq_nat q
        subst this
        split at hm
        · rename_i xs L2 h2
          unfold fN at hm
          obtain ⟨q2, hm⟩ := cond_opt hm
          refine ⟨e, ρ, sl, L, _, _, he, hs, hh, h1, fun ρ1 H1 v f1 r1 w1 => ?_⟩
          have w1' := w1
          unfold RelW at w1'
          obtain ⟨b, rfl, hb⟩ := w1'
          obtain ⟨b', dx, vs, p1, p2, p3, p4, p5⟩ := r1.ins hF g1
          rw [hb] at p1; cases p1
          refine ⟨b, dx, vs, rfl, p2, ?_⟩
          refine ⟨e, ρ1, sl, L1, _, _, he, f1.relSl hs, r1, h2, fun ρ2 H2 vs2 f2 r2 w2 => ?_⟩
          exact ⟨e, ρ2, L2, _, w, L', he, r2, .cons (f2.rel w1) w2, beq_nat q2, hm, fun ρ3 H3 v3 f3 r3 w3 => kk ρ3 H3 v3 ((f1.trans f2).trans f3) r3 w3⟩
        · cases hm
      · cases hm
    · cases hm
  · cases hm
theorem ze_meth {pl : Sem Bool} (hF : F.fld c = none) (he : PE X o (TZ X.K F ma)) (sc : SlX.SCls X.K (F.C c)) (hm : Meth X.K (F.C c) m g) (G : FnOk X.prog X.w X.K X.mg X.base CX0 k g fd ps (spZ X.K F n mm)) (hr : Room k X.A) (hb : Binds X.K fd ps []) (ha : PA X (a :: es) (TAZ X.K F mr))
    (hst : starEach (a :: es) X.env = (false, eval a X.env) :: starEach es X.env := by rfl) (hpl : (backTo pos (starEach es X.env)).any (·.1) = false := by rfl)
    (ht : eval (.Call (.Attribute o m apos) (a :: es) [] pos) X.env = (do
      let ov ← eval o X.env
      standAt apos.atName
      let (f, first) ← holding [ov] (getMethod ov m pl)
      callWith pos f first (backTo pos (starEach (a :: es) X.env)) (backToKw pos (keywordEach [] X.env))) := by rfl) :
    PE X (.Call (.Attribute o m apos) (a :: es) [] pos) (TZ X.K F (mMeth c n mm ma mr)) :=
  PE.imp (pe_methZ (pl := pl) (E := fun _ _ _ => False) he sc hm G hr hb pass0 ha hst hpl ht) fun σ H Q h => tz_meth hF h
theorem ze_meth0 {pl : Sem Bool} (hF : F.fld c = none) (he : PE X o (TZ X.K F ma)) (sc : SlX.SCls X.K (F.C c)) (hm : Meth X.K (F.C c) m g) (G : FnOk X.prog X.w X.K X.mg X.base CX0 k g fd ps (spZ X.K F n mm)) (hr : Room k X.A) (hb : Binds X.K fd ps [])
    (ht : eval (.Call (.Attribute o m apos) [] [] pos) X.env = (do
      let ov ← eval o X.env
      standAt apos.atName
      let (f, first) ← holding [ov] (getMethod ov m pl)
      callWith pos f first (backTo pos (starEach [] X.env)) (backToKw pos (keywordEach [] X.env))) := by rfl) :
    PE X (.Call (.Attribute o m apos) [] [] pos) (TZ X.K F (mMeth c n mm ma mNil)) := by
  refine PE.imp (pe_methZ0 (pl := pl) (E := fun _ _ _ => False) he sc hm G hr hb pass0 ht) fun σ H Q h => ?_
  obtain ⟨e, ρ, sl, L, w, L', he, hs, hh, hm, kk⟩ := tz_meth (E := fun _ _ _ => False) hF h
  refine ⟨e, ρ, sl, L, w, L', he, hs, hh, hm, fun ρ1 H1 v f1 r1 w1 => ?_⟩
  obtain ⟨a, dx, vs, e1, q1, q2⟩ := kk ρ1 H1 v f1 r1 w1
  refine ⟨a, dx, vs, e1, q1, ?_⟩
  obtain ⟨e, ρ, sl, L, ws, L', he, hs, hh, hm, kk⟩ := q2
  cases hm
  exact kk ρ H1 [] .refl hh .nil
/-- C(e, ..): the instance, its slots empty -/
def tMakeZ (C : Addr) (sp : Sp) (E : XK) (t : TA) : TE := fun σ H Q => t σ H fun vs H1 => ∀ x dx, H1 x = none → H1 dx = none → dx ≠ x → sp (.ref x :: vs) (upd (upd H1 dx (.xd [])) x (SlX.SlO x C dx [])) (fun v H2 => v = .non ∧ Q (.ref x) H2) E
theorem run_makeZ {CX : CXT} {sp : Sp} {E : XK} {g : Addr} {pins : List (Addr × Obj)} {σ : St} {H : Hp} {s : Shared} {Q : VK} {us : List Value} {vs : List V} (M : Mk X.K C g) (G : FnOk X.prog X.w X.K X.mg X.base CX k g fd ps sp) (hr : Room (k + 1) X.A) (hb : Binds X.K fd ps [])
    (hx : Passes CX X E) (I : Inv X pins σ H s) (r : Vals vs us)
    (h : ∀ x dx, H x = none → H dx = none → dx ≠ x → sp (.ref x :: vs) (upd (upd H dx (.xd [])) x (SlX.SlO x C dx [])) (fun v H2 => v = .non ∧ Q (.ref x) H2) E) :
    wpAny (model X.prog X.w) X.A (call (.ref C) us) (EP X pins σ Q) X.xe s := by
  have hne : s.heap.objs.size ≠ s.heap.objs.size + 1 := Nat.ne_of_lt (Nat.lt_succ_self _)
  have hq := h (s.heap.objs.size + 1) s.heap.objs.size (I.hok.fresh (Nat.le_succ _)) (I.hok.fresh (Nat.le_refl _)) hne
  have I1 := Inv.made (C := C) I
  obtain ⟨mA, O, _, _, _, _⟩ := ins_get I1.hok upd_same
  have I2 := SlX.inv_slot (vs' := []) (sl' := #[]) (t' := s.toks) I1 (.inl ⟨upd_same, rfl⟩) (fun _ _ _ _ e => e) (fun _ e => e) O.obj (SlX.SlR.nil _)
  have e1 : SlX.slH (upd (upd H s.heap.objs.size (.own (s.heap.objs.size + 1))) (s.heap.objs.size + 1) (.ins C s.heap.objs.size [])) (s.heap.objs.size + 1) C s.heap.objs.size [] = upd (upd H s.heap.objs.size (.xd [])) (s.heap.objs.size + 1) (SlX.SlO (s.heap.objs.size + 1) C s.heap.objs.size []) := by
    unfold SlX.slH
    funext b
    by_cases z : b = s.heap.objs.size + 1
    · rw [z, upd_same, upd_same]
    · rw [upd_ne z, upd_ne z]
      by_cases z2 : b = s.heap.objs.size
      · rw [z2, upd_same, upd_same]
      · rw [upd_ne z2, upd_ne z2, upd_ne z, upd_ne z2]
  rw [e1] at I2
  have r2 : Vals (V.ref (s.heap.objs.size + 1) :: vs) (Value.ref (s.heap.objs.size + 1) :: us) := .cons rfl r
  have hl : (Value.ref (s.heap.objs.size + 1) :: us ++ []).length = ps.length := by
    have e := r2.length
    rw [G.len _ _ _ _ hq] at e
    rw [List.append_nil]
    exact e.symm
  refine wpAny_call (make_map (f := g) I.kIn M.makes M.init (beq_iff_eq.mp M.fn) (codeAny_mono (G.run _ X.stack _ _ ⟨Value.ref (s.heap.objs.size + 1) :: us, []⟩ (Value.ref (s.heap.objs.size + 1) :: us) _ _ E (hr.make C us [])
    (I2.env0.make C us []) (by simpa using hb _ (Value.ref (s.heap.objs.size + 1) :: us) I2.kIn hl) r2 hq) fun r s' hq' => ?_))
  cases r with
  | error e => exact hx pins σ _ _ e s' I2 hq'
  | ok fl =>
    cases fl with
    | ret u =>
      obtain ⟨v, H', I3, rv, ev, q3⟩ := I2.after hq'
      subst ev
      exact ⟨rv, ⟨V.ref (s.heap.objs.size + 1), H', I3, rfl, q3⟩⟩
    | next => exact False.elim hq'
    | brk => exact False.elim hq'
    | cont => exact False.elim hq'
theorem pe_makeZ {CX : CXT} {sp : Sp} {E : XK} {g : Addr} {t : TA} (M : Mk X.K C g) (G : FnOk X.prog X.w X.K X.mg X.base CX k g fd ps sp) (hr : Room (k + 1) X.A) (hg : Gl X x) (hm : X.mg x = some (.ref C)) (hb : Binds X.K fd ps []) (hx : Passes CX X E)
    (ha : PA X (a :: es) t) (hdb : (x == ("__debug__" : Str)) = false := by decide) (he : starEach (a :: es) X.env = (false, eval a X.env) :: starEach es X.env := by rfl) (hpl : (backTo pos (starEach es X.env)).any (·.1) = false := by rfl) :
    PE X (.Call (.Name x pp) (a :: es) [] pos) (tMakeZ C sp E t) := by
  refine ⟨fun pins s σ H Q I h => ?_⟩
  refine wpAny_Call_Name_kw (ld_glob I hg hm ?_ hdb)
  refine PySem.W.callWith_K (h₀ := X.base) I.ok.mod.kin M.kp (thn (ha.run pos pins s σ H _ I h) fun us s1 ⟨vs, H1, I1, r, q⟩ => ⟨I1.kIn, ?_⟩) he hpl
  exact run_makeZ M G hr hb hx I1 r q
theorem pe_makeZ0 {CX : CXT} {sp : Sp} {E : XK} {g : Addr} (M : Mk X.K C g) (G : FnOk X.prog X.w X.K X.mg X.base CX k g fd ps sp) (hr : Room (k + 1) X.A) (hg : Gl X x) (hm : X.mg x = some (.ref C)) (hb : Binds X.K fd ps []) (hx : Passes CX X E)
    (hdb : (x == ("__debug__" : Str)) = false := by decide) : PE X (.Call (.Name x pp) [] [] pos) (tMakeZ C sp E tNil) := by
  refine ⟨fun pins s σ H Q I h => ?_⟩
  refine wpAny_Call_Name_kw (ld_glob I hg hm ?_ hdb)
  exact PySem.W.callWith_K0 I.kIn M.kp (run_makeZ (us := []) M G hr hb hx I .nil h)
theorem tz_make {E : XK} {σ : St} {H : Hp} {Q : VK} (hF : F.fld c = none) (h : TZ X.K F (mMake c nk n mm mr) σ H Q) : tMakeZ (F.C c) (spZ X.K F n mm) E (TAZ X.K F mr) σ H Q := by
  obtain ⟨e, ρ, sl, L, w, L', he, hs, hh, hm, kk⟩ := h
  unfold mMake at hm
  split at hm
  · cases hm
  rename_i xs L1 h1
  split at hm
  · rename_i L2 h2
    obtain ⟨q, hm⟩ := cond_some hm
    cases hm
    unfold fN at h2
    obtain ⟨q2, h2⟩ := cond_opt h2
    refine ⟨e, ρ, sl, L, _, _, he, hs, hh, h1, fun ρ1 H1 vs f1 r1 w1 x dx hx hdx hne => ?_⟩
    have r2 := r1.new (o := .xd []) hdx
    have f2 : Fm ρ1 ρ1 H1 (upd H1 dx (.xd [])) := fm_new hdx
    have hx2 : (upd H1 dx (.xd [])) x = none := by rw [upd_ne (Ne.symm hne)]; exact hx
    have f3 := fm_add (h' := SlX.SlO x (F.C c) dx []) r2 hx2
    have hn : L1.n < top := Nat.le_of_ble_eq_true q
    have r3 : RH X.K F e (upd (upd H1 dx (.xd [])) x (SlX.SlO x (F.C c) dx [])) (ρ1 ++ [x]) (L1.add (.ins c (List.replicate nk none))) := by
      refine r2.add hx2 hn ?_
      simp only [RelO, hF]
      refine ⟨dx, [], upd_same, by rw [upd_ne hne, upd_same], fun i w q => ?_⟩
      rw [List.getElem?_replicate] at q
      split at q <;> cases q
    have fA := (f1.trans f2).trans f3
    have hself : (ρ1 ++ [x])[L1.n]? = some x := by rw [← r1.len]; simp
    refine ⟨e, ρ1 ++ [x], _, .ref L1.n :: xs, .non, L', he, r3, .cons (by unfold RelW; exact ⟨x, rfl, hself⟩) ((f2.trans f3).rels w1), beq_nat q2, h2, fun ρ4 H4 v f4 r4 w4 => ⟨w4, ?_⟩⟩
    refine kk ρ4 H4 (.ref x) (fA.trans f4) r4 ?_
    unfold RelW
    exact ⟨x, rfl, f4.pre _ _ hself⟩
  · cases hm
theorem ze_make {g : Addr} (hF : F.fld c = none) (M : Mk X.K (F.C c) g) (G : FnOk X.prog X.w X.K X.mg X.base CX0 k g fd ps (spZ X.K F n mm)) (hr : Room (k + 1) X.A) (hg : Gl X x) (hm : X.mg x = some (.ref (F.C c))) (hb : Binds X.K fd ps []) (ha : PA X (a :: es) (TAZ X.K F mr))
    (hdb : (x == ("__debug__" : Str)) = false := by decide) (he : starEach (a :: es) X.env = (false, eval a X.env) :: starEach es X.env := by rfl) (hpl : (backTo pos (starEach es X.env)).any (·.1) = false := by rfl) :
    PE X (.Call (.Name x pp) (a :: es) [] pos) (TZ X.K F (mMake c nk n mm mr)) :=
  PE.imp (pe_makeZ (E := fun _ _ _ => False) M G hr hg hm hb pass0 ha hdb he hpl) fun σ H Q h => tz_make hF h
theorem ze_make0 {g : Addr} (hF : F.fld c = none) (M : Mk X.K (F.C c) g) (G : FnOk X.prog X.w X.K X.mg X.base CX0 k g fd ps (spZ X.K F n mm)) (hr : Room (k + 1) X.A) (hg : Gl X x) (hm : X.mg x = some (.ref (F.C c))) (hb : Binds X.K fd ps [])
    (hdb : (x == ("__debug__" : Str)) = false := by decide) : PE X (.Call (.Name x pp) [] [] pos) (TZ X.K F (mMake c nk n mm mNil)) := by
  refine PE.imp (pe_makeZ0 (E := fun _ _ _ => False) M G hr hg hm hb pass0 hdb) fun σ H Q h => ?_
  obtain ⟨e, ρ, sl, L, ws, L', he, hs, hh, hm, kk⟩ := tz_make (E := fun _ _ _ => False) hF h
  cases hm
  exact kk ρ H [] .refl hh .nil
end
end Z

set_option Elab.async false
set_option linter.all false
set_option maxRecDepth 100000
set_option maxHeartbeats 1000000
namespace Z
open PySem PySem.Spec PyProof.Rows L2

/-! ### keys -/
mutual
/-- == of two keys -/
def eqK : W → W → Option Bool
  | .non, y => match y with
    | .non => some true
    | .int _ => some false
    | .ia _ => some false
    | .str _ => some false
    | .tup _ => some false
    | _ => none
  | .int i, y => match y with
    | .int j => some (decide (i = j))
    | .ia _ => cond (decide (i < 2)) (some false) none
    | .non => some false
    | .str _ => some false
    | .tup _ => some false
    | _ => none
  | .ia k, y => match y with
    | .ia j => cond (Nat.beq k j) (some true) none
    | .int i => cond (decide (i < 2)) (some false) none
    | .non => some false
    | .str _ => some false
    | .tup _ => some false
    | _ => none
  | .str i, y => match y with
    | .str j => cond (Nat.blt i 1000 == Nat.blt j 1000) (some (Nat.beq i j)) none
    | .non => some false
    | .int _ => some false
    | .ia _ => some false
    | .tup _ => some false
    | _ => none
  | .tup xs, y => match y with
    | .tup ys => eqKs xs ys
    | .non => some false
    | .int _ => some false
    | .ia _ => some false
    | .str _ => some false
    | _ => none
  | _, _ => none
def eqKs : List W → List W → Option Bool
  | [], ys => match ys with
    | [] => some true
    | _ => some false
  | x :: xs, ys => match ys with
    | [] => some false
    | y :: ys => match eqK x y with
      | some true => eqKs xs ys
      | some false => some false
      | none => none
end
section
variable {K : PySem.W.Frag} {F : Fx} {e : En} {H : Hp} {ρ : List Addr}
theorem str_key (he : En.Ok F e) {i j : Nat} {b : Bool} {x y : Str} (h1 : sOf F e i = some x) (h2 : sOf F e j = some y) (h : (bif (Nat.blt i 1000 == Nat.blt j 1000) then some (Nat.beq i j) else none) = some b) : decide (x = y) = b := by
  obtain ⟨c, rfl⟩ := cond_some h
  rw [← str_eq he h1 h2 c]
  by_cases q : x = y
  · subst q; simp
  · rw [decide_eq_false q]; exact (beq_eq_false_iff_ne.mpr q).symm
mutual
theorem eqK_ok (he : En.Ok F e) : ∀ (x y : W) (b : Bool) (vx vy : V), RelW K F e H ρ x vx → RelW K F e H ρ y vy → eqK x y = some b → NestedKey.beq (kyW F e x) (kyW F e y) = b
  | .non, y, b, vx, vy, rx, ry, h => by
    cases y <;> simp [eqK] at h <;> (subst h; simp [kyW, NestedKey.beq])
  | .int i, y, b, vx, vy, rx, ry, h => by
    cases y with
    | int j => simp only [eqK, Option.some.injEq] at h; subst h; simp [kyW, NestedKey.beq]
    | ia j =>
      simp only [eqK] at h
      obtain ⟨c, rfl⟩ := cond_some h
      obtain ⟨z, h1, rfl⟩ := ry
      have := he.nums z (List.mem_of_getElem? h1)
      rw [decide_eq_true_eq] at c
      simp only [kyW, NestedKey.beq, h1, Option.getD_some, decide_eq_false_iff_not]
      omega
    | non => simp [eqK] at h; subst h; simp [kyW, NestedKey.beq]
    | str _ => simp [eqK] at h; subst h; simp [kyW, NestedKey.beq]
    | tup _ => simp [eqK] at h; subst h; simp [kyW, NestedKey.beq]
    | bl _ => simp [eqK] at h
    | ref _ => simp [eqK] at h
    | fz _ => simp [eqK] at h
  | .ia k, y, b, vx, vy, rx, ry, h => by
    cases y with
    | ia j =>
      simp only [eqK] at h
      obtain ⟨c, rfl⟩ := cond_some h
      have := beq_nat c
      subst this
      simp [kyW, NestedKey.beq]
    | int i =>
      simp only [eqK] at h
      obtain ⟨c, rfl⟩ := cond_some h
      obtain ⟨z, h1, rfl⟩ := rx
      have := he.nums z (List.mem_of_getElem? h1)
      rw [decide_eq_true_eq] at c
      simp only [kyW, NestedKey.beq, h1, Option.getD_some, decide_eq_false_iff_not]
      omega
    | non => simp [eqK] at h; subst h; simp [kyW, NestedKey.beq]
    | str _ => simp [eqK] at h; subst h; simp [kyW, NestedKey.beq]
    | tup _ => simp [eqK] at h; subst h; simp [kyW, NestedKey.beq]
    | bl _ => simp [eqK] at h
    | ref _ => simp [eqK] at h
    | fz _ => simp [eqK] at h
  | .str i, y, b, vx, vy, rx, ry, h => by
    cases y with
    | str j =>
      simp only [eqK] at h
      obtain ⟨x, h1, rfl⟩ := rx
      obtain ⟨z, h2, rfl⟩ := ry
      simp only [kyW, NestedKey.beq, h1, h2, Option.getD_some]
      exact str_key he h1 h2 h
    | non => simp [eqK] at h; subst h; simp [kyW, NestedKey.beq]
    | int _ => simp [eqK] at h; subst h; simp [kyW, NestedKey.beq]
    | ia _ => simp [eqK] at h; subst h; simp [kyW, NestedKey.beq]
    | tup _ => simp [eqK] at h; subst h; simp [kyW, NestedKey.beq]
    | bl _ => simp [eqK] at h
    | ref _ => simp [eqK] at h
    | fz _ => simp [eqK] at h
  | .tup xs, y, b, vx, vy, rx, ry, h => by
    cases y with
    | tup ys =>
      simp only [eqK] at h
      unfold RelW at rx ry
      obtain ⟨a, us, rfl, s1, r1⟩ := rx
      obtain ⟨a', vs, rfl, s2, r2⟩ := ry
      simp only [kyW, NestedKey.beq]
      exact eqKs_ok he xs ys b us vs r1 r2 h
    | non => simp [eqK] at h; subst h; simp [kyW, NestedKey.beq]
    | str _ => simp [eqK] at h; subst h; simp [kyW, NestedKey.beq]
    | int _ => simp [eqK] at h; subst h; simp [kyW, NestedKey.beq]
    | ia _ => simp [eqK] at h; subst h; simp [kyW, NestedKey.beq]
    | bl _ => simp [eqK] at h
    | ref _ => simp [eqK] at h
    | fz _ => simp [eqK] at h
  | .bl _, y, b, vx, vy, rx, ry, h => by simp [eqK] at h
  | .ref _, y, b, vx, vy, rx, ry, h => by simp [eqK] at h
  | .fz _, y, b, vx, vy, rx, ry, h => by simp [eqK] at h
theorem eqKs_ok (he : En.Ok F e) : ∀ (xs ys : List W) (b : Bool) (us vs : List V), RelWs K F e H ρ xs us → RelWs K F e H ρ ys vs → eqKs xs ys = some b → NestedKey.beqAll (kyWs F e xs) (kyWs F e ys) = b
  | [], ys, b, us, vs, rx, ry, h => by
    cases ys with
    | nil => simp [eqKs] at h; subst h; simp [kyWs, NestedKey.beqAll]
    | cons _ _ => simp [eqKs] at h; subst h; simp [kyWs, NestedKey.beqAll]
  | x :: xs, ys, b, us, vs, rx, ry, h => by
    cases ys with
    | nil => simp [eqKs] at h; subst h; simp [kyWs, NestedKey.beqAll]
    | cons y ys =>
      obtain ⟨u, ur, rfl, q1, q2⟩ := rx.uncons
      obtain ⟨v, vr, rfl, p1, p2⟩ := ry.uncons
      simp only [eqKs] at h
      simp only [kyWs, NestedKey.beqAll]
      split at h
      · rename_i hx
        rw [eqK_ok he x y true u v q1 p1 hx, Bool.true_and]
        exact eqKs_ok he xs ys b ur vr q2 p2 h
      · rename_i hx
        cases h
        rw [eqK_ok he x y false u v q1 p1 hx, Bool.false_and]
      · cases h
end
theorem eqK_ky (he : En.Ok F e) {x y : W} {b : Bool} {vx vy : V} (rx : RelW K F e H ρ x vx) (ry : RelW K F e H ρ y vy) (h : eqK x y = some b) : decide (kyW F e x = kyW F e y) = b := by
  rw [NestedKey.decide_eq]
  exact eqK_ok he x y b vx vy rx ry h
def keyN : L2.Key → NestedKey
  | .inl i => .num i
  | .inr x => .text x
theorem keyN_inj {a b : L2.Key} (h : keyN a = keyN b) : a = b := by
  cases a with
  | inl i => cases b with
    | inl j => injection (show NestedKey.num i = .num j from h) with h; rw [h]
    | inr y => exact nomatch (show NestedKey.num i = .text y from h)
  | inr x => cases b with
    | inl j => exact nomatch (show NestedKey.text x = .num j from h)
    | inr y => injection (show NestedKey.text x = .text y from h) with h; rw [h]
theorem lfW_key {w : W} (h : isLf w = true) : keyN (lfW F e w) = kyW F e w := by
  cases w <;> first | rfl | (simp [isLf] at h; done) | (simp [lfW, kyW, keyN])
theorem eqK_lf (he : En.Ok F e) {x y : W} {b : Bool} {vx vy : V} (rx : RelW K F e H ρ x vx) (ry : RelW K F e H ρ y vy) (lx : isLf x = true) (ly : isLf y = true) (h : eqK x y = some b) : decide (lfW F e x = lfW F e y) = b := by
  rw [← eqK_ky he rx ry h]
  rw [← lfW_key lx, ← lfW_key ly]
  by_cases q : lfW F e x = lfW F e y
  · rw [q]; simp
  · rw [decide_eq_false q, decide_eq_false fun z => q (keyN_inj z)]
theorem lf_is {w : W} {v : V} {u : Value} (h : isLf w = true) (r : RelW K F e H ρ w v) (rv : RelV v u) : keyIs (lfW F e w) u = true := by
  cases w with
  | int i => cases r; obtain ⟨t, rfl⟩ := rv; exact keyIs_int i t
  | ia k =>
    obtain ⟨i, q, rfl⟩ := r
    obtain ⟨t, rfl⟩ := rv
    simp only [lfW, q, Option.getD_some]
    exact keyIs_int i t
  | str k =>
    obtain ⟨x, q, rfl⟩ := r
    obtain ⟨t, rfl⟩ := rv
    simp only [lfW, q, Option.getD_some]
    exact keyIs_str x t
  | non => simp [isLf] at h
  | bl _ => simp [isLf] at h
  | tup _ => simp [isLf] at h
  | ref _ => simp [isLf] at h
  | fz _ => simp [isLf] at h
end
section
variable {X : Cx} {pins : List (Addr × Obj)} {σ : St} {F : Fx} {e : En} {H : Hp} {ρ : List Addr} {s : Shared}
mutual
theorem ky_is (I : Inv X pins σ H s) : ∀ (n : Nat) (w : W) (v : V) (u : Value), isKy n w = true → RelW X.K F e H ρ w v → RelV v u → NestedIs s.heap (kyW F e w) u ∧ (kyW F e w).depth ≤ n
  | n, .non, v, u, h, r, rv => by cases r; cases rv; exact ⟨.none, by simp [kyW, NestedKey.depth]⟩
  | n, .int i, v, u, h, r, rv => by cases r; obtain ⟨t, rfl⟩ := rv; exact ⟨.int _ _, by simp [kyW, NestedKey.depth]⟩
  | n, .ia k, v, u, h, r, rv => by
    obtain ⟨i, q, rfl⟩ := r
    obtain ⟨t, rfl⟩ := rv
    simp only [kyW, q, Option.getD_some]
    exact ⟨.int _ _, by simp [NestedKey.depth]⟩
  | n, .str k, v, u, h, r, rv => by
    obtain ⟨x, q, rfl⟩ := r
    obtain ⟨t, rfl⟩ := rv
    simp only [kyW, q, Option.getD_some]
    exact ⟨.text _ _, by simp [NestedKey.depth]⟩
  | n + 1, .tup xs, v, u, h, r, rv => by
    simp only [isKy] at h
    unfold RelW at r
    obtain ⟨a, vs, rfl, s1, r1⟩ := r
    cases rv
    obtain ⟨its, r2, ⟨o, h1, h2, m, h3⟩, _⟩ := I.tuple s1
    obtain ⟨k1, k2⟩ := kys_is I n xs vs its h r1 r2
    simp only [kyW]
    refine ⟨.tup h1 h2 h3 (by simpa using k1), ?_⟩
    simp only [NestedKey.depth]
    omega
  | 0, .tup xs, v, u, h, r, rv => by simp [isKy] at h
  | n, .bl _, v, u, h, r, rv => by cases n <;> simp [isKy] at h
  | n, .ref _, v, u, h, r, rv => by cases n <;> simp [isKy] at h
  | n, .fz _, v, u, h, r, rv => by cases n <;> simp [isKy] at h
theorem kys_is (I : Inv X pins σ H s) : ∀ (n : Nat) (ws : List W) (vs : List V) (us : List Value), isKys n ws = true → RelWs X.K F e H ρ ws vs → Vals vs us → NestedAll s.heap (kyWs F e ws) us ∧ NestedKey.depthAll (kyWs F e ws) ≤ n
  | n, [], vs, us, h, r, rv => by
    unfold RelWs at r
    subst r
    cases rv
    exact ⟨.nil, by simp [kyWs, NestedKey.depthAll]⟩
  | n, w :: ws, vs, us, h, r, rv => by
    simp only [isKys, Bool.and_eq_true] at h
    obtain ⟨v, vr, rfl, r1, r2⟩ := r.uncons
    cases rv with
    | cons p1 p2 =>
      obtain ⟨k1, k2⟩ := ky_is I n w v _ h.1 r1 p1
      obtain ⟨k3, k4⟩ := kys_is I n ws vr _ h.2 r2 p2
      refine ⟨.cons k1 k3, ?_⟩
      simp only [kyWs, NestedKey.depthAll]
      omega
end
theorem tp_is (I : Inv X pins σ H s) {w : W} {v : V} {u : Value} (h : isTp w = true) (r : RelW X.K F e H ρ w v) (rv : RelV v u) : ∃ b, v = .ref b ∧ u = .ref b ∧ (nestedKind X.prog X.w).is s.heap (kyW F e w) b := by
  cases w with
  | tup xs =>
    have h' : isKy 8 (.tup xs) = true := by simpa [isKy, isTp] using h
    have r' := r
    unfold RelW at r'
    obtain ⟨a, vs, rfl, s1, r1⟩ := r'
    have rv' := rv
    cases rv
    exact ⟨a, rfl, rfl, ky_is I 8 _ _ _ h' r rv'⟩
  | non => simp [isTp] at h
  | bl _ => simp [isTp] at h
  | int _ => simp [isTp] at h
  | ia _ => simp [isTp] at h
  | str _ => simp [isTp] at h
  | ref _ => simp [isTp] at h
  | fz _ => simp [isTp] at h
end

/-! ### tables -/
def dGet (k : W) : List (W × W) → Option (Option W)
  | [] => some none
  | (k', w) :: r => match eqK k' k with
    | some true => some (some w)
    | some false => dGet k r
    | none => none
def dPut (k w : W) : List (W × W) → Option (List (W × W))
  | [] => some [(k, w)]
  | (k', w') :: r => match eqK k' k with
    | some true => some ((k', w) :: r)
    | some false => match dPut k w r with
      | some r' => some ((k', w') :: r')
      | none => none
    | none => none
def dDrop (k : W) : List (W × W) → Option (List (W × W))
  | [] => some []
  | (k', w') :: r => match eqK k' k with
    | some true => some r
    | some false => match dDrop k r with
      | some r' => some ((k', w') :: r')
      | none => none
    | none => none
/-- the key is of the dict's kind -/
def sameK (k : W) : List (W × W) → Bool
  | [] => isLf k || isTp k
  | (k', _) :: _ => (isLf k && isLf k') || (isTp k && isTp k')
section
variable {κ α : Type} [DecidableEq κ] {S : W × W → κ × α → Prop} {k w : W} {l : κ} {P : α → Prop} {nw : α}
def fnd (l : List (κ × α)) (k : κ) : Option α := (l.find? fun p => decide (p.1 = k)).map (·.2)
theorem fnd_pos {p : κ × α} {r : List (κ × α)} {k : κ} (e : p.1 = k) : fnd (p :: r) k = some p.2 := by simp [fnd, List.find?_cons, e]
theorem fnd_neg {p : κ × α} {r : List (κ × α)} {k : κ} (e : ¬ p.1 = k) : fnd (p :: r) k = fnd r k := by simp [fnd, List.find?_cons, e]
/-- one key against another -/
def KeyDec (S : W × W → κ × α → Prop) (k : W) (l : κ) : Prop := ∀ p q b, S p q → eqK p.1 k = some b → decide (q.1 = l) = b
theorem get_rel (hE : KeyDec S k l) : ∀ {kvs : List (W × W)} {us : List (κ × α)} {o : Option W}, Paired S kvs us → dGet k kvs = some o → match o with
    | none => fnd us l = none
    | some w => ∃ p q, S p q ∧ p.2 = w ∧ q.1 = l ∧ fnd us l = some q.2
  | [], _, o, .nil, h => by cases h; rfl
  | (k', w') :: kvs, q :: us, o, .cons s t, h => by
    unfold dGet at h
    split at h
    · rename_i hk
      cases h
      have e := of_decide_eq_true (hE _ _ _ s hk)
      exact ⟨_, q, s, rfl, e, fnd_pos e⟩
    · rename_i hk
      have e := of_decide_eq_false (hE _ _ _ s hk)
      have ih := get_rel hE t h
      cases o with
      | none => rw [fnd_neg e]; exact ih
      | some w =>
        obtain ⟨p, q', h1, h2, h3, h4⟩ := ih
        exact ⟨p, q', h1, h2, h3, by rw [fnd_neg e]; exact h4⟩
    · cases h
/-- stored: in its place, or at the end -/
def putT (f : α → α) (nw : α) (us : List (κ × α)) (l : κ) : List (κ × α) := if (fnd us l).isSome = true then us.map (fun x => if x.1 = l then (x.1, f x.2) else x) else us ++ [(l, nw)]
theorem map_other {f : α → α} {us : List (κ × α)} (h : l ∉ us.map (·.1)) : us.map (fun x => if x.1 = l then (x.1, f x.2) else x) = us := by
  induction us with
  | nil => rfl
  | cons x us ih =>
    rw [List.map_cons, List.mem_cons, not_or] at h
    rw [List.map_cons, if_neg (fun z => h.1 z.symm), ih h.2]
theorem put_rel {f : α → α} (hE : KeyDec S k l) (hold : ∀ p q, S p q → q.1 = l → S (p.1, w) (q.1, f q.2)) (hnew : S (k, w) (l, nw)) : ∀ {kvs kvs' : List (W × W)} {us : List (κ × α)}, Paired S kvs us → (us.map (·.1)).Nodup → dPut k w kvs = some kvs' → Paired S kvs' (putT f nw us l)
  | [], kvs', _, .nil, _, h => by cases h; exact .cons hnew .nil
  | (k', w') :: kvs, kvs', q :: us, .cons s t, hn, h => by
    rw [List.map_cons, List.nodup_cons] at hn
    unfold dPut at h
    split at h
    · rename_i hk
      cases h
      have e := of_decide_eq_true (hE _ _ _ s hk)
      unfold putT
      rw [fnd_pos e, if_pos (show (some q.2).isSome = true from rfl), List.map_cons, if_pos e, map_other (by rw [← e]; exact hn.1)]
      exact .cons (hold _ _ s e) t
    · rename_i hk
      have e := of_decide_eq_false (hE _ _ _ s hk)
      split at h
      · rename_i r' hr
        cases h
        have ih := put_rel (f := f) hE hold hnew t hn.2 hr
        unfold putT at ih ⊢
        rw [fnd_neg e]
        by_cases c : (fnd us l).isSome = true
        · rw [if_pos c] at ih ⊢
          rw [List.map_cons, if_neg e]
          exact .cons s ih
        · rw [if_neg c] at ih ⊢
          exact .cons s ih
      · cases h
    · cases h
theorem putT_nodup {f : α → α} {us : List (κ × α)} (hn : (us.map (·.1)).Nodup) : ((putT f nw us l).map (·.1)).Nodup := by
  unfold putT
  by_cases c : (fnd us l).isSome = true
  · rw [if_pos c, List.map_map]
    have : ((fun x : κ × α => x.1) ∘ fun x => if x.1 = l then (x.1, f x.2) else x) = fun x => x.1 := by
      funext x
      by_cases z : x.1 = l <;> simp [z]
    rw [this]; exact hn
  · rw [if_neg c, List.map_append]
    refine List.nodup_append.mpr ⟨hn, by simp, fun a ha b hb z => ?_⟩
    simp at hb
    subst z
    subst hb
    obtain ⟨x, hx, e⟩ := List.mem_map.mp ha
    apply c
    clear hn
    induction us with
    | nil => cases hx
    | cons y us ih =>
      by_cases z : y.1 = a
      · rw [fnd_pos z]; rfl
      · rw [fnd_neg z]
        rcases List.mem_cons.mp hx with q | q
        · subst q; exact absurd e z
        · exact ih (List.mem_map.mpr ⟨x, q, e⟩) (by rw [fnd_neg z] at c; exact c) q
def dropT (us : List (κ × α)) (l : κ) : List (κ × α) := us.filter fun x => decide (x.1 ≠ l)
theorem filter_other {us : List (κ × α)} (h : l ∉ us.map (·.1)) : dropT us l = us := by
  unfold dropT
  rw [List.filter_eq_self]
  intro x hx
  refine decide_eq_true fun z => h ?_
  rw [← z]
  exact List.mem_map_of_mem hx
theorem drop_rel (hE : KeyDec S k l) : ∀ {kvs kvs' : List (W × W)} {us : List (κ × α)}, Paired S kvs us → (us.map (·.1)).Nodup → dDrop k kvs = some kvs' → Paired S kvs' (dropT us l)
  | [], kvs', _, .nil, _, h => by cases h; exact .nil
  | (k', w') :: kvs, kvs', q :: us, .cons s t, hn, h => by
    rw [List.map_cons, List.nodup_cons] at hn
    unfold dDrop at h
    split at h
    · rename_i hk
      cases h
      have e := of_decide_eq_true (hE _ _ _ s hk)
      unfold dropT
      rw [List.filter_cons, if_neg (by simp [e])]
      have := filter_other (l := l) (us := us) (by rw [← e]; exact hn.1)
      unfold dropT at this
      rw [this]
      exact t
    · rename_i hk
      have e := of_decide_eq_false (hE _ _ _ s hk)
      split at h
      · rename_i r' hr
        cases h
        have ih := drop_rel hE t hn.2 hr
        unfold dropT at ih ⊢
        rw [List.filter_cons, if_pos (by simp [e])]
        exact .cons s ih
      · cases h
    · cases h
theorem dropT_nodup {us : List (κ × α)} (hn : (us.map (·.1)).Nodup) : ((dropT us l).map (·.1)).Nodup := by
  unfold dropT
  exact hn.sublist (List.Sublist.map _ List.filter_sublist)
theorem dPut_length : ∀ {kvs kvs' : List (W × W)}, dPut k w kvs = some kvs' → kvs'.length ≤ kvs.length + 1
  | [], kvs', h => by cases h; simp
  | (k', w') :: kvs, kvs', h => by
    unfold dPut at h
    split at h
    · cases h; simp
    · split at h
      · rename_i r' hr
        cases h
        have := dPut_length hr
        simp; omega
      · cases h
    · cases h
theorem dDrop_length : ∀ {kvs kvs' : List (W × W)}, dDrop k kvs = some kvs' → kvs'.length ≤ kvs.length
  | [], kvs', h => by cases h; simp
  | (k', w') :: kvs, kvs', h => by
    unfold dDrop at h
    split at h
    · cases h; simp
    · split at h
      · rename_i r' hr
        cases h
        have := dDrop_length hr
        simp; omega
      · cases h
    · cases h
end
end Z

set_option Elab.async false
set_option linter.all false
set_option maxRecDepth 100000
set_option maxHeartbeats 1000000
namespace Z
open PySem PySem.Spec PyProof.Rows L2

/-! ### dicts: what the model does -/
/-- F is of this program -/
structure FxOk (X : Cx) (F : Fx) : Prop where
  P : F.P = X.prog
  w : F.w = X.w
/-- what the dict at a tells at the key u -/
def DSem (X : Cx) (s : Shared) (a : Addr) (u : Value) (vo : Option V) : Prop := (a == sysModules) = false ∧
  ((∃ l vs, keyIs l u = true ∧ s.heap.DictOf (mixKind X.prog X.w) a vs ∧ L2.RelO vo (valueAt vs l)) ∨
    ∃ nk b xs, u = .ref b ∧ (nestedKind X.prog X.w).is s.heap nk b ∧ s.heap.DictOfH (nestedKind X.prog X.w) a xs ∧ L2.RelO vo ((atKey xs nk).map (·.2)))
/-- the tuple dict of the heap -/
theorem tpO_at {X : Cx} {F : Fx} {pins : List (Addr × Obj)} {σ : St} {e : En} {H : Hp} {ρ : List Addr} {s : Shared} {kvs : List (W × W)} {us : List (NestedKey × Addr × V)} {xs : List (NestedKey × Addr × Value)} {a : Addr} (I : Inv X pins σ H s)
    (r : Paired (TpQ X.K F e H ρ) kvs us) (p : Paired TpP us xs) (raw : ∃ o es ep, s.heap.get? a = some o ∧ o.ExactDict ∧ o.data = .dict es ep ∧ es.toList = xs.map (entryOfKey (nestedKind X.prog X.w)) ∧ (xs.map (·.1)).Nodup) :
    s.heap.DictOfH (nestedKind X.prog X.w) a xs := by
  obtain ⟨o, es, ep, h1, h2, h3, h4, h5⟩ := raw
  refine ⟨o, es, ep, h1, h2, h3, h4, ?_, h5⟩
  clear h1 h2 h3 h4 h5
  induction r generalizing xs with
  | nil => cases p; exact fun x hx => nomatch hx
  | cons q _ ih =>
    cases p with
    | cons z t =>
      intro x hx
      rcases List.mem_cons.mp hx with e1 | e1
      · subst e1
        obtain ⟨q1, q2, q3, q4⟩ := q
        obtain ⟨z1, z2, z3⟩ := z
        obtain ⟨b, e2, e3, e4⟩ := tp_is I q1 q3 rfl
        cases e2
        rw [← z1, ← z2, q2]
        exact e4
      · exact ih t x e1
theorem atKey_rel {us : List (NestedKey × Addr × V)} {xs : List (NestedKey × Addr × Value)} (p : Paired TpP us xs) (k : NestedKey) : L2.RelO ((fnd us k).map (·.2)) ((atKey xs k).map (·.2)) := by
  induction p with
  | nil => exact True.intro
  | @cons x y us xs z t ih =>
    obtain ⟨z1, z2, z3⟩ := z
    by_cases h : x.1 = k
    · have e1 : atKey (y :: xs) k = some y.2 := by simp [atKey, List.find?_cons, z1.symm.trans h]
      rw [fnd_pos h, e1]
      exact z3
    · have e1 : atKey (y :: xs) k = atKey xs k := by
        have h' : ¬ y.1 = k := fun q => h (z1.trans q)
        simp [atKey, List.find?_cons, h']
      rw [fnd_neg h, e1]
      exact ih
theorem keys_tp {us : List (NestedKey × Addr × V)} {xs : List (NestedKey × Addr × Value)} (p : Paired TpP us xs) : us.map (·.1) = xs.map (·.1) := by
  induction p with
  | nil => rfl
  | cons z _ ih => rw [List.map_cons, List.map_cons, ih, z.1]
theorem isLf_isTp {w : W} (h : isLf w = true) : isTp w = false := by cases w <;> first | rfl | (simp [isLf] at h; done)
/-- the answer of a dict -/
def Ans (K : PySem.W.Frag) (F : Fx) (e : En) (H : Hp) (ρ : List Addr) : Option W → Option V → Prop
  | none, vo => vo = none
  | some w, vo => ∃ v, vo = some v ∧ RelW K F e H ρ w v
section
variable {K : PySem.W.Frag} {X : Cx} {F : Fx} {e : En} {H : Hp} {ρ : List Addr} {kvs kvs' : List (W × W)} {a : Addr} {uo : HO} {k w : W} {kv v : V} {o : Option W}
theorem keyDec_lf (he : En.Ok F e) (lk : isLf k = true) (rk : RelW K F e H ρ k kv) : KeyDec (LfP K F e H ρ) k (lfW F e k) := by
  rintro p q b ⟨s1, s2, ⟨z, s3⟩, s4⟩ hb
  rw [s2]
  exact eqK_lf he s3 rk s1 lk hb
theorem keyDec_tp (he : En.Ok F e) (rk : RelW K F e H ρ k kv) : KeyDec (TpQ K F e H ρ) k (kyW F e k) := by
  rintro p q b ⟨s1, s2, s3, s4⟩ hb
  rw [s2]
  exact eqK_ky he s3 rk hb
/-- the two kinds, whichever fits the key -/
theorem dct_kind (d : DctR K F e H ρ kvs a uo) (sk : sameK k kvs = true) :
    (isLf k = true ∧ (∃ us, Paired (LfP K F e H ρ) kvs us ∧ (us.map (·.1)).Nodup ∧ (uo = LfO F.P F.w a us ∨ (us = [] ∧ uo = TpO F.P F.w a [])))) ∨
    (isTp k = true ∧ (∃ us, Paired (TpQ K F e H ρ) kvs us ∧ (us.map (·.1)).Nodup ∧ (uo = TpO F.P F.w a us ∨ (us = [] ∧ uo = LfO F.P F.w a [])))) := by
  obtain ⟨_, _, ⟨us, rfl, r, nd⟩ | ⟨us, rfl, r, nd⟩⟩ := d
  · cases r with
    | nil =>
      rcases (Bool.or_eq_true _ _).mp (show (isLf k || isTp k) = true from sk) with h | h
      · exact .inl ⟨h, [], .nil, nd, .inl rfl⟩
      · exact .inr ⟨h, [], .nil, .nil, .inr ⟨rfl, rfl⟩⟩
    | @cons p q ps qs z t =>
      obtain ⟨p1, p2⟩ := p
      rcases (Bool.or_eq_true _ _).mp (show ((isLf k && isLf p1) || (isTp k && isTp p1)) = true from sk) with h | h
      · exact .inl ⟨((Bool.and_eq_true _ _).mp h).1, _, .cons z t, nd, .inl rfl⟩
      · have := ((Bool.and_eq_true _ _).mp h).2
        rw [isLf_isTp z.1] at this
        cases this
  · cases r with
    | nil =>
      rcases (Bool.or_eq_true _ _).mp (show (isLf k || isTp k) = true from sk) with h | h
      · exact .inl ⟨h, [], .nil, .nil, .inr ⟨rfl, rfl⟩⟩
      · exact .inr ⟨h, [], .nil, nd, .inl rfl⟩
    | @cons p q ps qs z t =>
      obtain ⟨p1, p2⟩ := p
      rcases (Bool.or_eq_true _ _).mp (show ((isLf k && isLf p1) || (isTp k && isTp p1)) = true from sk) with h | h
      · have := ((Bool.and_eq_true _ _).mp h).2
        have z1 := isLf_isTp this
        rw [show isTp p1 = true from z.1] at z1
        cases z1
      · exact .inr ⟨((Bool.and_eq_true _ _).mp h).1, _, .cons z t, nd, .inl rfl⟩
theorem dictOf_empty {P : Program} {w : World} {h : Heap} (hm : ∃ o es ep, h.get? a = some o ∧ o.ExactDict ∧ o.data = .dict es ep ∧ es.toList = ([] : List (NestedKey × Addr × Value)).map (entryOfKey (nestedKind P w)) ∧ (([] : List (NestedKey × Addr × Value)).map (·.1)).Nodup) : h.DictOf (mixKind P w) a [] := by
  obtain ⟨o, es, ep, h1, h2, h3, h4, _⟩ := hm
  have e : es.toList = [] := h4
  refine ⟨o, es, ep, h1, h2, h3, fun x hx => ?_, by rw [e]; exact .nil, .nil⟩
  rw [← Array.mem_toList_iff, e] at hx
  cases hx
theorem dictOfH_empty {P : Program} {w : World} {h : Heap} (hm : h.DictOf (mixKind P w) a []) : ∃ o es ep, h.get? a = some o ∧ o.ExactDict ∧ o.data = .dict es ep ∧ es.toList = ([] : List (NestedKey × Addr × Value)).map (entryOfKey (nestedKind P w)) ∧ (([] : List (NestedKey × Addr × Value)).map (·.1)).Nodup := by
  obtain ⟨o, es, ep, h1, h2, h3, _, h5, _⟩ := hm
  refine ⟨o, es, ep, h1, h2, h3, ?_, .nil⟩
  generalize es.toList = l at h5 ⊢
  cases h5
  rfl
/-- the heap's dict, keys carried by value -/
theorem lf_sem (hX : FxOk X F) {us : List (L2.Key × V)} {pins : List (Addr × Obj)} {σ : St} {s : Shared} (I : Inv X pins σ H s) (hr : Rd H a uo) (hu : uo = LfO F.P F.w a us ∨ (us = [] ∧ uo = TpO F.P F.w a [])) : ∃ vs, KV us vs ∧ s.heap.DictOf (mixKind X.prog X.w) a vs := by
  rcases hu with rfl | ⟨rfl, rfl⟩
  · obtain ⟨⟨vs, h1, h2⟩, _⟩ := hr.ok I.hok
    rw [hX.P, hX.w] at h2
    exact ⟨vs, h1, h2⟩
  · obtain ⟨⟨xs, h1, h2⟩, _⟩ := hr.ok I.hok
    rw [hX.P, hX.w] at h2
    cases h1
    exact ⟨[], .nil, dictOf_empty h2⟩
theorem tp_sem (hX : FxOk X F) {us : List (NestedKey × Addr × V)} {pins : List (Addr × Obj)} {σ : St} {s : Shared} (I : Inv X pins σ H s) (hr : Rd H a uo) (r : Paired (TpQ X.K F e H ρ) kvs us) (hu : uo = TpO F.P F.w a us ∨ (us = [] ∧ uo = LfO F.P F.w a [])) :
    ∃ xs, Paired TpP us xs ∧ s.heap.DictOfH (nestedKind X.prog X.w) a xs := by
  rcases hu with rfl | ⟨rfl, rfl⟩
  · obtain ⟨⟨xs, h1, h2⟩, _⟩ := hr.ok I.hok
    rw [hX.P, hX.w] at h2
    exact ⟨xs, h1, tpO_at I r h1 h2⟩
  · obtain ⟨⟨vs, h1, h2⟩, _⟩ := hr.ok I.hok
    rw [hX.P, hX.w] at h2
    have h1' : KV ([] : List (L2.Key × V)) vs := h1
    unfold KV at h1'
    cases h1'
    exact ⟨[], .nil, tpO_at I r .nil (dictOfH_empty h2)⟩
/-- a dict is asked -/
theorem dct_get (hX : FxOk X F) (he : En.Ok F e) (d : DctR X.K F e H ρ kvs a uo) (rk : RelW X.K F e H ρ k kv) (sk : sameK k kvs = true) (hg : dGet k kvs = some o) :
    ∃ vo : Option V, Ans X.K F e H ρ o vo ∧ ∀ (pins : List (Addr × Obj)) (σ : St) (s : Shared) (u : Value), Inv X pins σ H s → Rd H a uo → RelV kv u → DSem X s a u vo := by
  rcases dct_kind d sk with ⟨lk, us, r, nd, hu⟩ | ⟨tk, us, r, nd, hu⟩
  · have g := get_rel (keyDec_lf he lk rk) r hg
    refine ⟨fnd us (lfW F e k), ?_, fun pins σ s u I hr ru => ⟨d.1, .inl ?_⟩⟩
    · cases o with
      | none => exact g
      | some w =>
        obtain ⟨p, q, h1, h2, h3, h4⟩ := g
        exact ⟨q.2, h4, h2 ▸ h1.2.2.2⟩
    · obtain ⟨vs, kv', dd⟩ := lf_sem hX I hr hu
      exact ⟨_, vs, lf_is lk rk ru, dd, kv'.val (lfW F e k)⟩
  · have g := get_rel (keyDec_tp he rk) r hg
    refine ⟨(fnd us (kyW F e k)).map (·.2), ?_, fun pins σ s u I hr ru => ⟨d.1, .inr ?_⟩⟩
    · cases o with
      | none => rw [show fnd us (kyW F e k) = none from g]; rfl
      | some w =>
        obtain ⟨p, q, h1, h2, h3, h4⟩ := g
        exact ⟨q.2.2, by rw [h4]; rfl, h2 ▸ h1.2.2.2⟩
    · obtain ⟨xs, kv', dd⟩ := tp_sem hX I hr r hu
      obtain ⟨b, e1, e2, e3⟩ := tp_is I tk rk ru
      exact ⟨_, b, xs, e2, e3, dd, atKey_rel kv' (kyW F e k)⟩
theorem kv_put {us : List (L2.Key × V)} {vs : List (L2.Key × Value)} (r : KV us vs) (l : L2.Key) {y : V} {u : Value} (ry : RelV y u) : KV (putT (fun _ => y) y us l) (stored vs l u) := by
  have e : putT (fun _ => y) y us l = putK us l y := by
    unfold putT putK
    rw [valV_any]
    rfl
  rw [e]
  exact r.put l ry
theorem kv_drop {us : List (L2.Key × V)} {vs : List (L2.Key × Value)} (r : KV us vs) (l : L2.Key) : KV (dropT us l) (without vs l) := r.drop l
theorem tp_put {us : List (NestedKey × Addr × V)} {xs : List (NestedKey × Addr × Value)} (r : Paired TpP us xs) (l : NestedKey) {b : Addr} {y : V} {u : Value} (ry : RelV y u) : Paired TpP (putT (fun p => (p.1, y)) (b, y) us l) (storedH xs l b u) := by
  have e : (fnd us l).isSome = (atKey xs l).isSome := by
    have q := (atKey_rel r l).isSome_eq
    rwa [Option.isSome_map, Option.isSome_map] at q
  unfold putT storedH
  rw [e]
  by_cases c : (atKey xs l).isSome = true
  · rw [if_pos c, if_pos c]
    clear c e
    induction r with
    | nil => exact .nil
    | cons z _ ih =>
      rw [List.map_cons, List.map_cons]
      refine .cons ?_ ih
      obtain ⟨z1, z2, z3⟩ := z
      unfold putAt
      rw [← z1]
      split
      · exact ⟨rfl, z2, ry⟩
      · exact ⟨z1, z2, z3⟩
  · rw [if_neg c, if_neg c]
    exact Paired.snoc r ⟨rfl, rfl, ry⟩
theorem tp_drop {us : List (NestedKey × Addr × V)} {xs : List (NestedKey × Addr × Value)} (r : Paired TpP us xs) (l : NestedKey) : Paired TpP (dropT us l) (withoutH xs l) := by
  unfold dropT withoutH
  induction r with
  | nil => exact .nil
  | cons z _ ih =>
    rw [List.filter_cons, List.filter_cons]
    obtain ⟨z1, z2, z3⟩ := z
    rw [← z1]
    split
    · exact .cons ⟨z1, z2, z3⟩ ih
    · exact ih
/-- what a write of the dict at a must tell: the state behind it -/
def DWr (X : Cx) (H : Hp) (a : Addr) (uo' : HO) (s : Shared) (h' : Heap) : Prop := ∀ (pins : List (Addr × Obj)) (σ : St) (t' : Nat), Inv X pins σ H s → Inv X pins σ (upd H a uo') { s with heap := h', toks := t' }
/-- a dict is written: by keys carried by value, or by tuples -/
theorem dct_putA (he : En.Ok F e) (d : DctR K F e H ρ kvs a uo) (hH : H a = some uo) (rk : RelW K F e H ρ k kv) (rw_ : RelW K F e H ρ w v) (sk : sameK k kvs = true) (hp : dPut k w kvs = some kvs') (hl : kvs.length < 1000000) :
    ∃ uo', DctR K F e H ρ kvs' a uo' ∧ ∀ X : Cx, X.K = K → FxOk X F → ∀ (pins : List (Addr × Obj)) (σ : St) (s : Shared) (u r : Value), Inv X pins σ H s → RelV kv u → RelV v r →
      (∃ l vs, keyIs l u = true ∧ s.heap.DictOf (mixKind X.prog X.w) a vs ∧ vs.length ≤ sizeLine ∧ ∀ h', h'.DictOf (mixKind X.prog X.w) a (stored vs l r) → Heap.SameBut a s.heap h' → DWr X H a uo' s h') ∨
      ∃ nk b xs, u = .ref b ∧ (nestedKind X.prog X.w).is s.heap nk b ∧ s.heap.DictOfH (nestedKind X.prog X.w) a xs ∧ xs.length ≤ sizeLine ∧ ∀ h', h'.DictOfH (nestedKind X.prog X.w) a (storedH xs nk b r) → Heap.SameBut a s.heap h' → DWr X H a uo' s h' := by
  have hl' : kvs'.length ≤ 1000000 := by have := dPut_length hp; omega
  have mu : Mut (H a) := by rw [hH]; exact d.mut
  rcases dct_kind d sk with ⟨lk, us, r, nd, hu⟩ | ⟨tk, us, r, nd, hu⟩
  · have g := put_rel (f := fun _ => v) (nw := v) (keyDec_lf he lk rk) (fun p q s e1 => ⟨s.1, s.2.1, s.2.2.1, rw_⟩) ⟨lk, rfl, ⟨kv, rk⟩, rw_⟩ r nd hp
    refine ⟨LfO F.P F.w a _, ⟨d.1, hl', .inl ⟨_, rfl, g, putT_nodup nd⟩⟩, fun X hK hX pins σ s u r' I ru rr => .inl ?_⟩
    subst hK
    obtain ⟨vs, kv', dd⟩ := lf_sem hX I (.of hH) hu
    refine ⟨_, vs, lf_is lk rk ru, dd, ?_, fun h' dd' hs pins' σ' t' I' => ?_⟩
    · have q1 := kv'.length
      have q2 := Paired.length r
      rw [← q1, ← q2]
      exact line_ok d.2.1
    · obtain ⟨ob, z1, z2⟩ : ∃ ob, h'.get? a = some ob ∧ True := let ⟨ob, _, _, h1, _⟩ := dd'; ⟨ob, h1, trivial⟩
      refine d_write I' mu hs ⟨ob, z1⟩ ⟨⟨_, kv_put kv' _ rr, by rw [hX.P, hX.w]; exact dd'⟩, ⟨ob, z1⟩, ?_⟩
      rintro h1 h2 ⟨vs2, y1, o2, es2, ep2, y2, y3⟩ kk
      exact ⟨vs2, y1, o2, es2, ep2, kk _ y2, y3⟩
  · have r0 := rk
    obtain ⟨b0, hb0⟩ : ∃ b, kv = .ref b := by
      cases k with
      | tup xs => unfold RelW at r0; obtain ⟨b, _, e1, _⟩ := r0; exact ⟨b, e1⟩
      | non => simp [isTp] at tk
      | bl _ => simp [isTp] at tk
      | int _ => simp [isTp] at tk
      | ia _ => simp [isTp] at tk
      | str _ => simp [isTp] at tk
      | ref _ => simp [isTp] at tk
      | fz _ => simp [isTp] at tk
    have g := put_rel (f := fun p : Addr × V => (p.1, v)) (nw := (b0, v)) (keyDec_tp he rk) (fun p q s e1 => ⟨s.1, s.2.1, s.2.2.1, rw_⟩) ⟨tk, rfl, by rw [← hb0]; exact rk, rw_⟩ r nd hp
    refine ⟨TpO F.P F.w a _, ⟨d.1, hl', .inr ⟨_, rfl, g, putT_nodup nd⟩⟩, fun X hK hX pins σ s u r' I ru rr => .inr ?_⟩
    subst hK
    obtain ⟨xs, kv', dd⟩ := tp_sem hX I (.of hH) r hu
    obtain ⟨b, e1, e2, e3⟩ := tp_is I tk rk ru
    rw [hb0] at e1; cases e1
    refine ⟨_, b0, xs, e2, e3, dd, ?_, fun h' dd' hs pins' σ' t' I' => ?_⟩
    · have q1 := Paired.length kv'
      have q2 := Paired.length r
      rw [← q1, ← q2]
      exact line_ok d.2.1
    · obtain ⟨ob, es, ep, z1, z2, z3, z4, _, z5⟩ := dd'
      refine d_write I' mu hs ⟨ob, z1⟩ ⟨⟨_, tp_put kv' _ rr, by rw [hX.P, hX.w]; exact ⟨ob, es, ep, z1, z2, z3, z4, z5⟩⟩, ⟨ob, z1⟩, ?_⟩
      rintro h1 h2 ⟨vs2, y1, o2, es2, ep2, y2, y3⟩ kk
      exact ⟨vs2, y1, o2, es2, ep2, kk _ y2, y3⟩
theorem dct_put (hX : FxOk X F) (he : En.Ok F e) (d : DctR X.K F e H ρ kvs a uo) (hH : H a = some uo) (rk : RelW X.K F e H ρ k kv) (rw_ : RelW X.K F e H ρ w v) (sk : sameK k kvs = true) (hp : dPut k w kvs = some kvs') (hl : kvs.length < 1000000) :
    ∃ uo', DctR X.K F e H ρ kvs' a uo' ∧ ∀ (pins : List (Addr × Obj)) (σ : St) (s : Shared) (u r : Value), Inv X pins σ H s → RelV kv u → RelV v r →
      (∃ l vs, keyIs l u = true ∧ s.heap.DictOf (mixKind X.prog X.w) a vs ∧ vs.length ≤ sizeLine ∧ ∀ h', h'.DictOf (mixKind X.prog X.w) a (stored vs l r) → Heap.SameBut a s.heap h' → DWr X H a uo' s h') ∨
      ∃ nk b xs, u = .ref b ∧ (nestedKind X.prog X.w).is s.heap nk b ∧ s.heap.DictOfH (nestedKind X.prog X.w) a xs ∧ xs.length ≤ sizeLine ∧ ∀ h', h'.DictOfH (nestedKind X.prog X.w) a (storedH xs nk b r) → Heap.SameBut a s.heap h' → DWr X H a uo' s h' := by
  obtain ⟨uo', d', h⟩ := dct_putA he d hH rk rw_ sk hp hl
  exact ⟨uo', d', h X rfl hX⟩
theorem dct_drop (hX : FxOk X F) (he : En.Ok F e) (d : DctR X.K F e H ρ kvs a uo) (hH : H a = some uo) (rk : RelW X.K F e H ρ k kv) (sk : sameK k kvs = true) (hg : dGet k kvs = some (some w)) (hp : dDrop k kvs = some kvs') :
    ∃ uo' v, DctR X.K F e H ρ kvs' a uo' ∧ RelW X.K F e H ρ w v ∧ ∀ (pins : List (Addr × Obj)) (σ : St) (s : Shared) (u : Value), Inv X pins σ H s → RelV kv u →
      (∃ l vs r, keyIs l u = true ∧ s.heap.DictOf (mixKind X.prog X.w) a vs ∧ vs.length ≤ sizeLine ∧ RelV v r ∧ valueAt vs l = some r ∧ (keyPart u).isSome = true ∧ ∀ h', h'.DictOf (mixKind X.prog X.w) a (without vs l) → Heap.SameBut a s.heap h' → DWr X H a uo' s h') ∨
      ∃ nk b xs p, u = .ref b ∧ (nestedKind X.prog X.w).is s.heap nk b ∧ s.heap.DictOfH (nestedKind X.prog X.w) a xs ∧ xs.length ≤ sizeLine ∧ atKey xs nk = some p ∧ RelV v p.2 ∧ ∀ h', h'.DictOfH (nestedKind X.prog X.w) a (withoutH xs nk) → Heap.SameBut a s.heap h' → DWr X H a uo' s h' := by
  have hl' : kvs'.length ≤ 1000000 := by have := dDrop_length hp; have := d.2.1; omega
  have mu : Mut (H a) := by rw [hH]; exact d.mut
  rcases dct_kind d sk with ⟨lk, us, r, nd, hu⟩ | ⟨tk, us, r, nd, hu⟩
  · have g := drop_rel (keyDec_lf he lk rk) r nd hp
    obtain ⟨p, q, g1, g2, g3, g4⟩ := get_rel (keyDec_lf he lk rk) r hg
    refine ⟨LfO F.P F.w a _, q.2, ⟨d.1, hl', .inl ⟨_, rfl, g, dropT_nodup nd⟩⟩, g2 ▸ g1.2.2.2, fun pins σ s u I ru => .inl ?_⟩
    obtain ⟨vs, kv', dd⟩ := lf_sem hX I (.of hH) hu
    obtain ⟨r', hr1, hr2⟩ := RelO.some_of (v := q.2) (o := valueAt vs (lfW F e k)) (by rw [← g4]; exact kv'.val (lfW F e k))
    refine ⟨_, vs, r', lf_is lk rk ru, dd, ?_, hr2, hr1, ?_, fun h' dd' hs pins' σ' t' I' => ?_⟩
    · have q1 := kv'.length
      have q2 := Paired.length r
      rw [← q1, ← q2]
      exact line_ok d.2.1
    · have := lf_is lk rk ru
      cases k with
      | non => simp [isLf] at lk
      | int i => cases rk; obtain ⟨t, rfl⟩ := ru; rfl
      | ia j => obtain ⟨i, _, rfl⟩ := rk; obtain ⟨t, rfl⟩ := ru; rfl
      | str j => obtain ⟨x, _, rfl⟩ := rk; obtain ⟨t, rfl⟩ := ru; rfl
      | bl _ => simp [isLf] at lk
      | tup _ => simp [isLf] at lk
      | ref _ => simp [isLf] at lk
      | fz _ => simp [isLf] at lk
    · obtain ⟨ob, z1, z2⟩ : ∃ ob, h'.get? a = some ob ∧ True := let ⟨ob, _, _, h1, _⟩ := dd'; ⟨ob, h1, trivial⟩
      refine d_write I' mu hs ⟨ob, z1⟩ ⟨⟨_, kv_drop kv' _, by rw [hX.P, hX.w]; exact dd'⟩, ⟨ob, z1⟩, ?_⟩
      rintro h1 h2 ⟨vs2, y1, o2, es2, ep2, y2, y3⟩ kk
      exact ⟨vs2, y1, o2, es2, ep2, kk _ y2, y3⟩
  · have g := drop_rel (keyDec_tp he rk) r nd hp
    obtain ⟨p, q, g1, g2, g3, g4⟩ := get_rel (keyDec_tp he rk) r hg
    refine ⟨TpO F.P F.w a _, q.2.2, ⟨d.1, hl', .inr ⟨_, rfl, g, dropT_nodup nd⟩⟩, g2 ▸ g1.2.2.2, fun pins σ s u I ru => .inr ?_⟩
    obtain ⟨xs, kv', dd⟩ := tp_sem hX I (.of hH) r hu
    obtain ⟨b, e1, e2, e3⟩ := tp_is I tk rk ru
    obtain ⟨r', hr1, hr2⟩ := RelO.some_of (v := q.2.2) (o := (atKey xs (kyW F e k)).map (·.2)) (by
      have z := atKey_rel kv' (kyW F e k)
      rw [g4] at z
      exact z)
    obtain ⟨p', hp1, hp2⟩ := Option.map_eq_some_iff.mp hr1
    refine ⟨_, b, xs, p', e2, e3, dd, ?_, hp1, by rw [hp2]; exact hr2, fun h' dd' hs pins' σ' t' I' => ?_⟩
    · have q1 := Paired.length kv'
      have q2 := Paired.length r
      rw [← q1, ← q2]
      exact line_ok d.2.1
    · obtain ⟨ob, es, ep, z1, z2, z3, z4, _, z5⟩ := dd'
      refine d_write I' mu hs ⟨ob, z1⟩ ⟨⟨_, tp_drop kv' _, by rw [hX.P, hX.w]; exact ⟨ob, es, ep, z1, z2, z3, z4, z5⟩⟩, ⟨ob, z1⟩, ?_⟩
      rintro h1 h2 ⟨vs2, y1, o2, es2, ep2, y2, y3⟩ kk
      exact ⟨vs2, y1, o2, es2, ep2, kk _ y2, y3⟩
end
end Z

set_option Elab.async false
set_option linter.all false
set_option maxRecDepth 100000
set_option maxHeartbeats 1000000
namespace Z
open PySem PySem.Spec PyProof.Rows L2

/-! ### dicts: operators, methods -/
/-- the table of a dict, locked or not -/
def tabOf (L : LH) (n : Nat) : Option (List (W × W)) := match L.get n with
  | some (.dct kvs) => some kvs
  | some (.dlk kvs) => some kvs
  | _ => none
def dAsk (x k : W) (L : LH) : Option (Option W) := match x with
  | .ref n => match tabOf L n with
    | some kvs => cond (sameK k kvs) (dGet k kvs) none
    | none => none
  | _ => none
def fDGet : W → W → LH → Option (W × LH) := fun x y L => match dAsk x y L with
  | some (some w) => some (w, L)
  | _ => none
def fDIn : W → W → LH → Option (W × LH) := fun y x L => match dAsk x y L with
  | some o => some (.bl o.isSome, L)
  | none => none
def fDNotIn : W → W → LH → Option (W × LH) := fun y x L => match dAsk x y L with
  | some o => some (.bl (!o.isSome), L)
  | none => none
section
variable {X : Cx} {F : Fx} {e : En} {H : Hp} {ρ : List Addr} {L : LH} {n : Nat} {kvs : List (W × W)}
theorem RH.tab (R : RH X.K F e H ρ L) (h : tabOf L n = some kvs) : ∃ a uo, ρ[n]? = some a ∧ Rd H a uo ∧ DctR X.K F e H ρ kvs a uo := by
  unfold tabOf at h
  split at h
  · rename_i q hg
    cases h
    obtain ⟨a, h1, u, h2, h3⟩ := R.at_ hg
    exact ⟨a, u, h1, .inl h2, h3⟩
  · rename_i q hg
    cases h
    obtain ⟨a, h1, o, u, h2, h3⟩ := R.at_ hg
    exact ⟨a, u, h1, .inr ⟨o, h2⟩, h3⟩
  · cases h
/-- what is asked of a dict -/
def Asks (X : Cx) (H : Hp) (x y : V) (vo : Option V) : Prop := ∃ a, x = .ref a ∧ ∀ (pins : List (Addr × Obj)) (σ : St) (s : Shared) (u : Value), Inv X pins σ H s → RelV y u → DSem X s a u vo
theorem dAsk_ok (hX : FxOk X F) (he : En.Ok F e) (R : RH X.K F e H ρ L) {x k : W} {vx vk : V} {o : Option W} (rx : RelW X.K F e H ρ x vx) (rk : RelW X.K F e H ρ k vk) (h : dAsk x k L = some o) :
    ∃ vo : Option V, Ans X.K F e H ρ o vo ∧ Asks X H vx vk vo := by
  cases x with
  | ref n =>
    simp only [dAsk] at h
    cases ht : tabOf L n with
    | none => rw [ht] at h; cases h
    | some kvs =>
      rw [ht] at h
      obtain ⟨sk, hg⟩ := cond_opt h
      obtain ⟨a, uo, ha, hr, d⟩ := R.tab ht
      obtain ⟨vo, h1, h2⟩ := dct_get hX he d rk sk hg
      unfold RelW at rx
      obtain ⟨a', rfl, ha'⟩ := rx
      rw [ha] at ha'; cases ha'
      exact ⟨vo, h1, a, rfl, fun pins σ s u I ru => h2 pins σ s u I hr ru⟩
  | non => cases h
  | bl _ => cases h
  | int _ => cases h
  | ia _ => cases h
  | str _ => cases h
  | tup _ => cases h
  | fz _ => cases h
abbrev rDGetZ (X : Cx) : R2 := fun x y H Q => ∃ v, Asks X H x y (some v) ∧ Q v H
abbrev rDInZ (X : Cx) : R2 := fun y x H Q => ∃ vo, Asks X H x y vo ∧ Q (.bl vo.isSome) H
abbrev rDNotInZ (X : Cx) : R2 := fun y x H Q => ∃ vo, Asks X H x y vo ∧ Q (.bl (!vo.isSome)) H
theorem nkRoom {A : Around} (hu : A.units + 64 < cLine) : (nestedKind X.prog X.w).room A.in1 := by
  show A.units + 1 + 8 < cLine
  omega
theorem dsem_type {s : Shared} {a : Addr} {u : Value} {vo : Option V} (d : DSem X s a u vo) : s.TypeIs (.ref a) "dict" := by
  obtain ⟨_, ⟨l, vs, _, dd, _⟩ | ⟨nk, b, xs, _, _, dd, _⟩⟩ := d
  · exact dd.typeIs
  · exact dd.typeIs
theorem dsem_get {s : Shared} {a : Addr} {u : Value} {v : V} {A : Around} {E : Value → Shared → Prop} {Q : Value → Shared → Prop} (hu : A.units + 64 < cLine) (d : DSem X s a u (some v)) (h : ∀ w' t, RelV v w' → Q w' { s with toks := t }) :
    wpAny (model X.prog X.w) A (getItem (.ref a) u) Q E s := by
  obtain ⟨_, ⟨l, vs, lu, dd, r⟩ | ⟨nk, b, xs, rfl, hk, dd, r⟩⟩ := d
  · obtain ⟨w', hw, rw'⟩ := RelO.some_of (v := v) r
    exact wpAny_getItem_of lu dd.mapOf hw (h w' _ rw')
  · obtain ⟨w', hw, rw'⟩ := RelO.some_of (v := v) r
    obtain ⟨p, hp, hp2⟩ := Option.map_eq_some_iff.mp hw
    refine wpAny_getItem_heap (nkRoom hu) hk dd hp ?_
    rw [hp2]
    exact h w' _ rw'
theorem ix_dctZ (hu : X.A.units + 64 < cLine) : IxR X (rDGetZ X) := by
  intro value slice pins s σ H x y v u Q I rx ry h hs
  obtain ⟨z, ⟨a, rfl, q⟩, hq⟩ := h
  cases rx
  have d := q pins σ s u I ry
  have hT := dsem_type d
  unfold subscriptTail
  refine wpAny_bind ?_
  rw [getitemInPython_of_ne hT.not_modules]
  refine wpAny_bind (wpAny_specialOf hT PySem.F.slot_dict_getitem.lookup ?_)
  have fin : wpAny (model X.prog X.w) X.A (subscripted slice false (.ref a) u) (fun r s₃ => wpAny (model X.prog X.w) X.A (letTemporaryGo value (.ref a) r >>= fun _ => pure r) (EP X pins σ Q) X.xe s₃) X.xe s := by
    rw [hs]
    exact wpAny_operating (dsem_get hu d fun w' t rw' => wpAny_bind (wpAny_letTemporaryGo (wpAny_pure ⟨z, H, I.tok t, rw', hq⟩)))
  first
    | exact wpAny_pure (wpAny_bind fin)
    | exact wpAny_bind (wpAny_pure (wpAny_bind fin))
    | exact wpAny_bind fin
theorem op_dinZ (hu : X.A.units + 64 < cLine) : OpR X (compareOp .In) (rDInZ X) := by
  intro pins s σ H y x u v Q I ry rx h
  obtain ⟨vo, ⟨a, rfl, q⟩, hq⟩ := h
  cases rx
  obtain ⟨hd, ⟨l, vs, lu, dd, r⟩ | ⟨nk, b, xs, rfl, hk, dd, r⟩⟩ := q pins σ s u I ry
  · refine wpAny_in_of lu hd dd.mapOf ?_
    rw [← r.isSome_eq]
    exact ⟨.bl _, H, I.tok _, rfl, hq⟩
  · refine PySem.wpAny_in_heap (nkRoom hu) hk hd dd ?_
    have e := r.isSome_eq
    rw [Option.isSome_map] at e
    rw [← e]
    exact ⟨.bl _, H, I.tok _, rfl, hq⟩
theorem op_dnotinZ (hu : X.A.units + 64 < cLine) : OpR X (compareOp .NotIn) (rDNotInZ X) := by
  intro pins s σ H y x u v Q I ry rx h
  obtain ⟨vo, ⟨a, rfl, q⟩, hq⟩ := h
  cases rx
  obtain ⟨hd, ⟨l, vs, lu, dd, r⟩ | ⟨nk, b, xs, rfl, hk, dd, r⟩⟩ := q pins σ s u I ry
  · refine wpAny_notIn_of lu hd dd.mapOf ?_
    rw [← r.isSome_eq]
    exact ⟨.bl _, H, I.tok _, rfl, hq⟩
  · refine wpAny_notIn_heap (nkRoom hu) hk hd dd ?_
    have e := r.isSome_eq
    rw [Option.isSome_map] at e
    rw [← e]
    exact ⟨.bl _, H, I.tok _, rfl, hq⟩
theorem oz_dget (hX : FxOk X F) : OpZ X.K F (rDGetZ X) fDGet := by
  intro e ρ H L x y vx vy w L' Q he R rx ry h k
  unfold fDGet at h
  split at h
  · rename_i w' hw
    cases h
    obtain ⟨vo, ⟨v, rfl, rv⟩, q⟩ := dAsk_ok hX he R rx ry hw
    exact ⟨v, q, k ρ H v .refl R rv⟩
  · cases h
theorem asks_isSome {o : Option W} {vo : Option V} {e : En} {H : Hp} {ρ : List Addr} (h : Ans X.K F e H ρ o vo) : vo.isSome = o.isSome := by
  cases o with
  | none => rw [show vo = none from h]; rfl
  | some w => obtain ⟨v, rfl, _⟩ := h; rfl
theorem oz_din (hX : FxOk X F) : OpZ X.K F (rDInZ X) fDIn := by
  intro e ρ H L x y vx vy w L' Q he R rx ry h k
  unfold fDIn at h
  split at h
  · rename_i o ho
    cases h
    obtain ⟨vo, h1, q⟩ := dAsk_ok hX he R ry rx ho
    refine ⟨vo, q, ?_⟩
    rw [asks_isSome h1]
    exact k ρ H _ .refl R rfl
  · cases h
theorem oz_dnotin (hX : FxOk X F) : OpZ X.K F (rDNotInZ X) fDNotIn := by
  intro e ρ H L x y vx vy w L' Q he R rx ry h k
  unfold fDNotIn at h
  split at h
  · rename_i o ho
    cases h
    obtain ⟨vo, h1, q⟩ := dAsk_ok hX he R ry rx ho
    refine ⟨vo, q, ?_⟩
    rw [asks_isSome h1]
    exact k ρ H _ .refl R rfl
  · cases h
end
section
variable {X : Cx} {F : Fx} {ma mb : Ex} {a b : Expr} {pos : Pos}
theorem ze_dget (hX : FxOk X F) (hu : X.A.units + 64 < cLine) (ha : PE X a (TZ X.K F ma)) (hb : PE X b (TZ X.K F mb)) (hs : PlainIx b := by exact fun _ _ => rfl) : PE X (.Subscript a b pos) (TZ X.K F (mBin fDGet ma mb)) :=
  PE.imp (pe_ix (ix_dctZ hu) ha hb hs) fun _ _ _ h => tz_bin (oz_dget hX) h
/-- a subscript, of a list, a tuple, a dict -/
def fSub2 : W → W → LH → Option (W × LH) := fun x y L => match fIx x y L with
  | none => fDGet x y L
  | r => r
theorem oz_or2 {K : PySem.W.Frag} {r r' : R2} {f g : W → W → LH → Option (W × LH)} (h : OpZ K F r f) (h' : OpZ K F r' g) : OpZ K F (fun x y H Q => r x y H Q ∨ r' x y H Q) (fun x y L => match f x y L with
  | none => g x y L
  | q => q) := by
  intro e ρ H L x y vx vy w L' Q he R rx ry hf k
  dsimp only at hf
  cases q : f x y L with
  | none => rw [q] at hf; exact .inr (h' e ρ H L x y vx vy w L' Q he R rx ry hf k)
  | some z => rw [q] at hf; exact .inl (h e ρ H L x y vx vy w L' Q he R rx ry (by rw [q]; exact hf) k)
theorem ze_sub2 (hX : FxOk X F) (hu : X.A.units + 64 < cLine) (ha : PE X a (TZ X.K F ma)) (hb : PE X b (TZ X.K F mb)) (hs : PlainIx b := by exact fun _ _ => rfl) : PE X (.Subscript a b pos) (TZ X.K F (mBin fSub2 ma mb)) :=
  PE.imp (pe_ix (IxR.or (IxR.or ix_list ix_tup) (ix_dctZ hu)) ha hb hs) fun _ _ _ h => tz_bin (oz_or2 oz_ix (oz_dget hX)) h
/-- d[k] = v -/
def gDx (a b : Ex) : Eg := fun w sl L => match a sl L with
  | some (.ref n, L1) => match b sl L1 with
    | some (k, L2) => match L2.get n with
      | some (.dct kvs) => match dPut k w kvs with
        | some kvs' => cond (sameK k kvs && (Nat.blt kvs.length 1000000 && Nat.blt L2.n top)) (some (sl, L2.set n (.dct kvs'))) none
        | none => none
      | _ => none
    | none => none
  | _ => none
/-- what a store into a dict tells -/
def Puts (X : Cx) (H : Hp) (a : Addr) (y z : V) (uo' : HO) : Prop := ∀ (pins : List (Addr × Obj)) (σ : St) (s : Shared) (u r : Value), Inv X pins σ H s → RelV y u → RelV z r →
  (∃ l vs, keyIs l u = true ∧ s.heap.DictOf (mixKind X.prog X.w) a vs ∧ vs.length ≤ sizeLine ∧ ∀ h', h'.DictOf (mixKind X.prog X.w) a (stored vs l r) → Heap.SameBut a s.heap h' → DWr X H a uo' s h') ∨
  ∃ nk b xs, u = .ref b ∧ (nestedKind X.prog X.w).is s.heap nk b ∧ s.heap.DictOfH (nestedKind X.prog X.w) a xs ∧ xs.length ≤ sizeLine ∧ ∀ h', h'.DictOfH (nestedKind X.prog X.w) a (storedH xs nk b r) → Heap.SameBut a s.heap h' → DWr X H a uo' s h'
def rDPutZ (X : Cx) : TSet := fun x y z H Q => ∃ a uo', x = .ref a ∧ Puts X H a y z uo' ∧ Q (upd H a uo')
theorem set_dctZ (hu : X.A.units + 64 < cLine) : PSet X (rDPutZ X) := by
  intro pins s σ H o i v ov iv u Q I ro ri rv h
  obtain ⟨a, uo', rfl, hp, q⟩ := h
  cases ro
  rcases hp pins σ s iv u I ri rv with ⟨l, vs, lu, dd, hz, kk⟩ | ⟨nk, b, xs, rfl, hk, dd, hz, kk⟩
  · exact wpAny_setItem_pairs (hsz := hz) lu dd fun h' dd' hs => ⟨_, kk h' dd' hs pins σ _ I, q⟩
  · exact wpAny_setItem_heap (hsz := hz) (nkRoom hu) hk dd fun h' dd' hs => ⟨_, kk h' dd' hs pins σ _ I, q⟩
theorem RH.dct {e : En} {H : Hp} {ρ : List Addr} {L : LH} {n : Nat} {kvs : List (W × W)} (R : RH X.K F e H ρ L) (h : L.get n = some (.dct kvs)) : ∃ a uo, ρ[n]? = some a ∧ H a = some uo ∧ DctR X.K F e H ρ kvs a uo := by
  obtain ⟨a, h1, u, h2, h3⟩ := R.at_ h
  exact ⟨a, u, h1, h2, h3⟩
/-- a dict of ours is written -/
theorem put_dct {e : En} {H : Hp} {ρ : List Addr} {L : LH} {n : Nat} {a : Addr} {uo uo' : HO} {kvs kvs' : List (W × W)} (R : RH X.K F e H ρ L) (ha : ρ[n]? = some a) (hn : L.n < top) (hH : H a = some uo) (d : DctR X.K F e H ρ kvs a uo) (d' : DctR X.K F e H ρ kvs' a uo') :
    Fm ρ ρ H (upd H a uo') ∧ RH X.K F e (upd H a uo') ρ (L.set n (.dct kvs')) := by
  have mu : Mut (H a) := by rw [hH]; exact d.mut
  have f : Fm ρ ρ H (upd H a uo') := fm_put R ha mu
  exact ⟨f, R.put ha mu hn ⟨uo', upd_same, d'.mono f.kp f.pre⟩⟩
theorem zg_dx {T : List Nat} (hX : FxOk X F) (hu : X.A.units + 64 < cLine) (ha : PE X a (TZ X.K F ma)) (hb : PE X b (TZ X.K F mb)) (hs : ∀ v, assign (.Subscript a b pos) X.env v = (do
      let ov ← holding [v] (eval a X.env)
      let iv ← holding [v, ov] (eval b X.env)
      standAt pos
      holding [v, ov, iv] (setItem ov iv v)
      release [v, ov, iv] []) := by intro _; rfl) : PG X (.Subscript a b pos) (GZ X.K F T (gDx ma mb)) := by
  refine PG.imp (pg_sub ha hb (set_dctZ hu) hs) ?_
  rintro v σ H Q ⟨e, ρ, sl, L, w, sl', L', he, hs, hh, hw, hm, k⟩
  unfold gDx at hm
  split at hm
  · rename_i n L1 h1
    split at hm
    · rename_i kk L2 h2
      split at hm
      · rename_i kvs g1
        split at hm
        · rename_i kvs' hp
          obtain ⟨q, hm⟩ := cond_some hm
          cases hm
          rw [Bool.and_eq_true, Bool.and_eq_true] at q
          obtain ⟨q1, q2, q3⟩ := q
          refine ⟨e, ρ, sl, L, _, _, he, hs, hh, h1, fun ρ1 H1 v1 f1 r1 w1 => ?_⟩
          refine ⟨e, ρ1, sl, L1, _, _, he, f1.relSl hs, r1, h2, fun ρ2 H2 v2 f2 r2 w2 => ?_⟩
          have w1' := f2.rel w1
          unfold RelW at w1'
          obtain ⟨a, rfl, ha⟩ := w1'
          obtain ⟨a', uo, p1, p2, p3⟩ := r2.dct g1
          rw [ha] at p1; cases p1
          obtain ⟨uo', d', op⟩ := dct_put hX he p3 p2 w2 ((f1.trans f2).rel hw) q1 hp (Nat.le_of_ble_eq_true q2)
          obtain ⟨f3, r3⟩ := put_dct r2 ha (Nat.le_of_ble_eq_true q3) p2 p3 d'
          have fA := (f1.trans f2).trans f3
          exact ⟨a, uo', rfl, op, k ρ2 _ σ fA r3 (fA.relSl hs) rfl⟩
        · cases hm
      · cases hm
    · cases hm
  · cases hm
/-- a target, one or the other -/
def gAlt (g1 g2 : Eg) : Eg := fun w sl L => match g1 w sl L with
  | none => g2 w sl L
  | r => r
theorem zg_alt {T : List Nat} {g1 g2 : Eg} (h1 : PG X a (GZ X.K F T g1)) (h2 : PG X a (GZ X.K F T g2)) : PG X a (GZ X.K F T (gAlt g1 g2)) := by
  refine PG.imp (PG.or h1 h2) ?_
  rintro v σ H Q ⟨e, ρ, sl, L, w, sl', L', he, hs, hh, hw, hm, k⟩
  unfold gAlt at hm
  cases q : g1 w sl L with
  | none => rw [q] at hm; exact .inr ⟨e, ρ, sl, L, w, sl', L', he, hs, hh, hw, hm, k⟩
  | some r => rw [q] at hm; exact .inl ⟨e, ρ, sl, L, w, sl', L', he, hs, hh, hw, by rw [q]; exact hm, k⟩

/-! ### methods of builtins -/
def MtZ (K : PySem.W.Frag) (F : Fx) (r : V → List V → Hp → VK → Prop) (f : W → List W → LH → Option (W × LH)) : Prop := ∀ (e : En) (ρ : List Addr) (H : Hp) (L : LH) (x : W) (xs : List W) (vx : V) (vs : List V) (w : W) (L' : LH) (Q : VK), En.Ok F e → RH K F e H ρ L →
  RelW K F e H ρ x vx → RelWs K F e H ρ xs vs → f x xs L = some (w, L') → (∀ ρ' H' v, Fm ρ ρ' H H' → RH K F e H' ρ' L' → RelW K F e H' ρ' w v → Q v H') → r vx vs H Q
/-- the receiver is of the type -/
def TyZ (K : PySem.W.Frag) (F : Fx) (ty : V → Hp → Prop) (c : LH → W → Bool) : Prop := ∀ (e : En) (ρ : List Addr) (H : Hp) (L : LH) (x : W) (vx : V), RH K F e H ρ L → RelW K F e H ρ x vx → c L x = true → ty vx H
def mMt (c : LH → W → Bool) (f : W → List W → LH → Option (W × LH)) (a : Ex) (r : Ea) : Ex := fun sl L => match a sl L with
  | none => none
  | some (x, L1) => match c L1 x with
    | true => match r sl L1 with
      | some (xs, L2) => f x xs L2
      | none => none
    | false => none
variable {es : List Expr} {mr : Ea} {name : Str} {apos cpos : Pos} {T id : String} {r : V → List V → Hp → VK → Prop} {ty : V → Hp → Prop} {c : LH → W → Bool} {f : W → List W → LH → Option (W × LH)} {o : Expr}
theorem tz_mt (hty : TyZ X.K F ty c) (hz : MtZ X.K F r f) {σ : St} {H : Hp} {Q : VK} (h : TZ X.K F (mMt c f ma mr) σ H Q) : tMG ty r (TZ X.K F ma) (TAZ X.K F mr) σ H Q := by
  obtain ⟨e, ρ, sl, L, w, L', he, hs, hh, hm, k⟩ := h
  unfold mMt at hm
  split at hm
  · cases hm
  rename_i x L1 h1
  split at hm
  · rename_i hc
    split at hm
    · rename_i xs L2 h2
      refine ⟨e, ρ, sl, L, _, _, he, hs, hh, h1, fun ρ1 H1 v1 f1 r1 w1 => ⟨hty e ρ1 H1 L1 x v1 r1 w1 hc, ?_⟩⟩
      refine ⟨e, ρ1, sl, L1, _, _, he, f1.relSl hs, r1, h2, fun ρ2 H2 v2 f2 r2 w2 => ?_⟩
      exact hz e ρ2 H2 L2 x xs v1 v2 w L' Q he r2 (f2.rel w1) w2 hm fun ρ' H' v f3 r3 w3 => k ρ' H' v ((f1.trans f2).trans f3) r3 w3
    · cases hm
  · cases hm
theorem ze_mt (hty : TyZ X.K F ty c) (hz : MtZ X.K F r f) (ht : TyOk X T ty) (pa : PlainAttrs T) (slot : Slot T name id) (htp : typeOf (.builtin id) = pure (.type "method_descriptor")) (hm : MtR X id r) (ho : PE X o (TZ X.K F ma)) (ha : PA X (a :: es) (TAZ X.K F mr))
    (hbase : attributeBase o name X.env (eval o X.env) = eval o X.env := by rfl)
    (hfew : ((backTo cpos (starEach (a :: es) X.env)).all (fun x => !x.1) && (backToKw cpos (keywordEach [] X.env)).all (fun x => x.1.isSome)
      && decide ((a :: es).length + ([] : List Keyword).length + (if ([] : List Keyword).isEmpty then 0 else 1) < 30)) = true := by rfl)
    (hline : (apos.endLine == cpos.line) = true := by rfl) (hs : starEach (a :: es) X.env = (false, eval a X.env) :: starEach es X.env := by rfl) (hplain : (backTo cpos (starEach es X.env)).any (·.1) = false := by rfl) :
    PE X (.Call (.Attribute o name apos) (a :: es) [] cpos) (TZ X.K F (mMt c f ma mr)) :=
  PE.imp (pe_mG ht pa slot htp hm ho ha hbase hfew hline hs hplain) fun _ _ _ h => tz_mt hty hz h
theorem ze_mt0 (hty : TyZ X.K F ty c) (hz : MtZ X.K F r f) (ht : TyOk X T ty) (pa : PlainAttrs T) (slot : Slot T name id) (htp : typeOf (.builtin id) = pure (.type "method_descriptor")) (hm : MtR X id r) (ho : PE X o (TZ X.K F ma))
    (hbase : attributeBase o name X.env (eval o X.env) = eval o X.env := by rfl) (hline : (apos.endLine == cpos.line) = true := by rfl) : PE X (.Call (.Attribute o name apos) [] [] cpos) (TZ X.K F (mMt c f ma mNil)) := by
  refine PE.imp (pe_mG0 ht pa slot htp hm ho hbase hline) fun σ H Q h => ?_
  obtain ⟨e, ρ, sl, L, w, L', he, hs, hh, hm, k⟩ := tz_mt hty hz h
  refine ⟨e, ρ, sl, L, w, L', he, hs, hh, hm, fun ρ1 H1 v f1 r1 w1 => ?_⟩
  obtain ⟨q1, q2⟩ := k ρ1 H1 v f1 r1 w1
  refine ⟨q1, ?_⟩
  obtain ⟨e, ρ, sl, L, ws, L', he, hs, hh, hm, kk⟩ := q2
  cases hm
  exact kk ρ H1 [] .refl hh .nil
/-! lists -/
def isL (L : LH) : W → Bool
  | .ref n => match L.get n with
    | some (.lst _) => true
    | _ => false
  | _ => false
theorem ty_list : TyOk X "list" (tyV X.K "list") := fun pins σ H s x v I rx h => tyV_is I rx h
theorem tz_list {K : PySem.W.Frag} : TyZ K F (tyV K "list") isL := by
  intro e ρ H L x vx R rx h
  unfold isL at h
  split at h
  · rename_i n
    split at h
    · rename_i xs g
      unfold RelW at rx
      obtain ⟨a, rfl, ha⟩ := rx
      obtain ⟨a', us, p1, p2, p3⟩ := R.lst g
      exact .inl ⟨rfl, us, by rw [ha] at p1; cases p1; exact SqL.of p2⟩
    · cases h
  · cases h
def fAppend : W → List W → LH → Option (W × LH) := fun x ys L => match x with
  | .ref n => match ys with
    | [y] => match L.get n with
      | some (.lst xs) => cond (Nat.blt xs.length 1000000 && Nat.blt L.n top) (some (.non, L.set n (.lst (xs ++ [y])))) none
      | _ => none
    | _ => none
  | _ => none
theorem mz_append {K : PySem.W.Frag} : MtZ K F rAppend fAppend := by
  intro e ρ H L x ys vx vs w L' Q he R rx ry h k
  unfold fAppend at h
  split at h
  · rename_i n
    split at h
    · rename_i y
      split at h
      · rename_i xs g
        obtain ⟨q, h⟩ := cond_some h
        cases h
        rw [Bool.and_eq_true] at q
        unfold RelW at rx
        obtain ⟨a, rfl, ha⟩ := rx
        obtain ⟨a', us, p1, p2, p3⟩ := R.lst g
        rw [ha] at p1; cases p1
        obtain ⟨v, rfl, rv⟩ := rel1 ry
        have mu : Mut (H a) := by rw [p2]; exact trivial
        have f : Fm ρ ρ H (upd H a (.lst (us ++ [v]))) := fm_put R ha mu
        refine ⟨a, us, v, rfl, rfl, p2, ?_, ?_⟩
        · rw [p3.length, sizeLine_eq]
          have := Nat.le_of_ble_eq_true q.1
          omega
        · exact k ρ _ .non f (R.put ha mu (Nat.le_of_ble_eq_true q.2) ⟨_, upd_same, f.rels (p3.append (.cons rv .nil))⟩) rfl
      · cases h
    · cases h
  · cases h
def fPopAt : W → List W → LH → Option (W × LH) := fun x ys L => match x with
  | .ref n => match ys with
    | [.int i] => match L.get n with
      | some (.lst xs) => match seqIndex? i xs.length with
        | some j => match xs[j]? with
          | some w => cond (decide (-(2 ^ 63) ≤ i) && (decide (i < 2 ^ 63) && Nat.blt L.n top)) (some (w, L.set n (.lst (xs.eraseIdx j)))) none
          | none => none
        | none => none
      | _ => none
    | _ => none
  | _ => none
theorem RelWs.erase {K : PySem.W.Frag} {F : Fx} {e : En} {H : Hp} {ρ : List Addr} : ∀ {ws : List W} {vs : List V} (i : Nat), RelWs K F e H ρ ws vs → RelWs K F e H ρ (ws.eraseIdx i) (vs.eraseIdx i)
  | [], vs, i, h => by unfold RelWs at h; rw [h]; exact .nil
  | w :: ws, vs, 0, h => by
    obtain ⟨v, vr, rfl, r1, r2⟩ := h.uncons
    exact r2
  | w :: ws, vs, i + 1, h => by
    obtain ⟨v, vr, rfl, r1, r2⟩ := h.uncons
    exact .cons r1 (RelWs.erase i r2)
theorem mz_popAt {K : PySem.W.Frag} : MtZ K F rPopAt fPopAt := by
  intro e ρ H L x ys vx vs w L' Q he R rx ry h k
  unfold fPopAt at h
  split at h
  · rename_i n
    split at h
    · rename_i i
      split at h
      · rename_i xs g
        split at h
        · rename_i j hj
          split at h
          · rename_i w' hw
            obtain ⟨q, h⟩ := cond_some h
            cases h
            rw [Bool.and_eq_true, Bool.and_eq_true, decide_eq_true_eq, decide_eq_true_eq] at q
            obtain ⟨q1, q2, q3⟩ := q
            unfold RelW at rx
            obtain ⟨a, rfl, ha⟩ := rx
            obtain ⟨a', us, p1, p2, p3⟩ := R.lst g
            rw [ha] at p1; cases p1
            obtain ⟨v, rfl, rv⟩ := rel1 ry
            cases rv
            have mu : Mut (H a) := by rw [p2]; exact trivial
            obtain ⟨v, v1, v2⟩ := p3.get hw
            have f : Fm ρ ρ H (upd H a (.lst (us.eraseIdx j))) := fm_put R ha mu
            exact ⟨a, us, i, j, v, rfl, rfl, p2, q1, q2, by rw [p3.length]; exact hj, v1, k ρ _ v f (R.put ha mu (Nat.le_of_ble_eq_true q3) ⟨_, upd_same, f.rels (p3.erase j)⟩) (f.rel v2)⟩
          · cases h
        · cases h
      · cases h
    · cases h
  · cases h
def fPop : W → List W → LH → Option (W × LH) := fun x ys L => match x with
  | .ref n => match ys with
    | [] => match L.get n with
      | some (.lst xs) => match xs[xs.length - 1]? with
        | some w => cond (Nat.blt L.n top) (some (w, L.set n (.lst xs.dropLast))) none
        | none => none
      | _ => none
    | _ => none
  | _ => none
theorem mz_pop {K : PySem.W.Frag} : MtZ K F rPop fPop := by
  intro e ρ H L x ys vx vs w L' Q he R rx ry h k
  unfold fPop at h
  split at h
  · rename_i n
    split at h
    · split at h
      · rename_i xs g
        split at h
        · rename_i w' hw
          obtain ⟨q, h⟩ := cond_some h
          cases h
          unfold RelW at rx
          obtain ⟨a, rfl, ha⟩ := rx
          obtain ⟨a', us, p1, p2, p3⟩ := R.lst g
          rw [ha] at p1; cases p1
          unfold RelWs at ry
          subst ry
          have mu : Mut (H a) := by rw [p2]; exact trivial
          obtain ⟨v, v1, v2⟩ := p3.get hw
          have f : Fm ρ ρ H (upd H a (.lst us.dropLast)) := fm_put R ha mu
          refine ⟨a, us, v, rfl, rfl, p2, by rw [p3.length]; exact v1, k ρ _ v f (R.put ha mu (Nat.le_of_ble_eq_true q) ⟨_, upd_same, f.rels ?_⟩) (f.rel v2)⟩
          rw [List.dropLast_eq_take, List.dropLast_eq_take, p3.length]
          exact p3.take _
        · cases h
      · cases h
    · cases h
  · cases h
/-! dicts -/
def isD (L : LH) : W → Bool
  | .ref n => (tabOf L n).isSome
  | _ => false
def tyD (X : Cx) (x : V) (H : Hp) : Prop := ∃ a uo, x = .ref a ∧ Rd H a uo ∧ ((∃ us, uo = LfO X.prog X.w a us) ∨ ∃ us, uo = TpO X.prog X.w a us)
theorem ty_dctZ : TyOk X "dict" (tyD X) := by
  rintro pins σ H s x v I rx ⟨a, uo, rfl, hr, q⟩
  cases rx
  have key : ∃ o, s.heap.get? a = some o ∧ o.ExactDict := by
    rcases q with ⟨us, rfl⟩ | ⟨us, rfl⟩
    · obtain ⟨⟨vs, h1, o, es, ep, h2, h3, _⟩, _⟩ := hr.ok I.hok
      exact ⟨o, h2, h3⟩
    · obtain ⟨⟨xs, h1, o, es, ep, h2, h3, _⟩, _⟩ := hr.ok I.hok
      exact ⟨o, h2, h3⟩
  obtain ⟨o, h1, h2⟩ := key
  exact ⟨⟨o, h1, h2.1⟩, fun b e => by cases e; exact ⟨o, h1, h2.2.1⟩⟩
theorem tz_dct (hX : FxOk X F) : TyZ X.K F (tyD X) isD := by
  intro e ρ H L x vx R rx h
  unfold isD at h
  split at h
  · rename_i n
    obtain ⟨kvs, ht⟩ := Option.isSome_iff_exists.mp h
    obtain ⟨a, uo, ha, hr, d⟩ := R.tab ht
    unfold RelW at rx
    obtain ⟨a', rfl, ha'⟩ := rx
    rw [ha] at ha'; cases ha'
    refine ⟨a, uo, rfl, hr, ?_⟩
    obtain ⟨_, _, ⟨us, rfl, _⟩ | ⟨us, rfl, _⟩⟩ := d
    · exact .inl ⟨us, by rw [hX.P, hX.w]⟩
    · exact .inr ⟨us, by rw [hX.P, hX.w]⟩
  · cases h
def fDGetM : W → List W → LH → Option (W × LH) := fun x ys L => match ys with
  | [y] => match dAsk x y L with
    | some o => some (o.getD .non, L)
    | none => none
  | [y, z] => match dAsk x y L with
    | some o => some (o.getD z, L)
    | none => none
  | _ => none
abbrev rDGetM (X : Cx) : V → List V → Hp → VK → Prop := fun x vs H Q => ∃ y vo, Asks X H x y vo ∧ ((vs = [y] ∧ Q (vo.getD .non) H) ∨ ∃ z, vs = [y, z] ∧ Q (vo.getD z) H)
theorem vals1' {x : V} {us : List Value} (r : Vals [x] us) : ∃ u, us = [u] ∧ RelV x u := by
  cases r with
  | cons h t => cases t; exact ⟨_, rfl, h⟩
theorem vals2' {x y : V} {us : List Value} (r : Vals [x, y] us) : ∃ u v, us = [u, v] ∧ RelV x u ∧ RelV y v := by
  cases r with
  | cons h t => cases t with
    | cons h2 t2 => cases t2; exact ⟨_, _, rfl, h, h2⟩
theorem mt_dgetZ (hu : X.A.units + 64 < cLine) : MtR X "dict.get" (rDGetM X) := by
  rintro pins s σ H x xs v us Q I rx rxs ⟨y, vo, ⟨a, rfl, q⟩, h⟩
  cases rx
  rcases h with ⟨rfl, h⟩ | ⟨z, rfl, h⟩
  · obtain ⟨u, rfl, ru⟩ := vals1' rxs
    obtain ⟨hd, ⟨l, vs, lu, dd, r⟩ | ⟨nk, b, xs, rfl, hk, dd, r⟩⟩ := q pins σ s u I ru
    · exact call_meetsIn PySem.F.slot_dict_get dd.typeIs PySem.F.entry_dict_get (PySem.F.args_dict_get_2 _ _) (meets_dict_get (mixKind X.prog X.w) a lu hd) ⟨_, dd.mapOf, ⟨_, H, I.tok _, r.getD (d := .non) rfl, h⟩⟩
    · exact call_meetsIn PySem.F.slot_dict_get dd.typeIs PySem.F.entry_dict_get (PySem.F.args_dict_get_2 _ _) (meetsH_dict_get (nestedKind X.prog X.w) a b hd) ⟨nkRoom hu, nk, xs, hk, dd, ⟨_, H, I.tok _, r.getD (d := .non) rfl, h⟩⟩
  · obtain ⟨u, w, rfl, ru, rw'⟩ := vals2' rxs
    obtain ⟨hd, ⟨l, vs, lu, dd, r⟩ | ⟨nk, b, xs, rfl, hk, dd, r⟩⟩ := q pins σ s u I ru
    · exact call_meetsIn PySem.F.slot_dict_get dd.typeIs PySem.F.entry_dict_get (PySem.F.args_dict_get_3 _ _ _) (meets_dict_get_default (mixKind X.prog X.w) a lu hd w) ⟨_, dd.mapOf, ⟨_, H, I.tok _, r.getD rw', h⟩⟩
    · exact call_meetsIn PySem.F.slot_dict_get dd.typeIs PySem.F.entry_dict_get (PySem.F.args_dict_get_3 _ _ _) (meetsH_dict_get_default (nestedKind X.prog X.w) a b hd w) ⟨nkRoom hu, nk, xs, hk, dd, ⟨_, H, I.tok _, r.getD rw', h⟩⟩
theorem mz_dget (hX : FxOk X F) : MtZ X.K F (rDGetM X) fDGetM := by
  intro e ρ H L x ys vx vs w L' Q he R rx ry h k
  unfold fDGetM at h
  split at h
  · rename_i y
    split at h
    · rename_i o ho
      cases h
      obtain ⟨v, rfl, rv⟩ := rel1 ry
      obtain ⟨vo, h1, q⟩ := dAsk_ok hX he R rx rv ho
      refine ⟨v, vo, q, .inl ⟨rfl, ?_⟩⟩
      cases o with
      | none => rw [show vo = none from h1]; exact k ρ H _ .refl R rfl
      | some w => obtain ⟨v', rfl, rv'⟩ := h1; exact k ρ H _ .refl R rv'
    · cases h
  · rename_i y z
    split at h
    · rename_i o ho
      cases h
      obtain ⟨v, v2, rfl, rv, rv2⟩ := rel2 ry
      obtain ⟨vo, h1, q⟩ := dAsk_ok hX he R rx rv ho
      refine ⟨v, vo, q, .inr ⟨v2, rfl, ?_⟩⟩
      cases o with
      | none => rw [show vo = none from h1]; exact k ρ H _ .refl R rv2
      | some w => obtain ⟨v', rfl, rv'⟩ := h1; exact k ρ H _ .refl R rv'
    · cases h
  · cases h
/-- d.pop(k), there -/
def fDPop : W → List W → LH → Option (W × LH) := fun x ys L => match x with
  | .ref n => match ys with
    | [k] => match L.get n with
      | some (.dct kvs) => match dGet k kvs with
        | some (some w) => match dDrop k kvs with
          | some kvs' => cond (sameK k kvs && Nat.blt L.n top) (some (w, L.set n (.dct kvs'))) none
          | none => none
        | _ => none
      | _ => none
    | _ => none
  | _ => none
/-- what a removal tells -/
def Drops (X : Cx) (H : Hp) (a : Addr) (y v : V) (uo' : HO) : Prop := ∀ (pins : List (Addr × Obj)) (σ : St) (s : Shared) (u : Value), Inv X pins σ H s → RelV y u →
  (∃ l vs r, keyIs l u = true ∧ s.heap.DictOf (mixKind X.prog X.w) a vs ∧ vs.length ≤ sizeLine ∧ RelV v r ∧ valueAt vs l = some r ∧ (keyPart u).isSome = true ∧ ∀ h', h'.DictOf (mixKind X.prog X.w) a (without vs l) → Heap.SameBut a s.heap h' → DWr X H a uo' s h') ∨
  ∃ nk b xs p, u = .ref b ∧ (nestedKind X.prog X.w).is s.heap nk b ∧ s.heap.DictOfH (nestedKind X.prog X.w) a xs ∧ xs.length ≤ sizeLine ∧ atKey xs nk = some p ∧ RelV v p.2 ∧ (a == sysModules) = false ∧ ∀ h', h'.DictOfH (nestedKind X.prog X.w) a (withoutH xs nk) → Heap.SameBut a s.heap h' → DWr X H a uo' s h'
abbrev rDPopZ (X : Cx) : V → List V → Hp → VK → Prop := fun x vs H Q => ∃ a y v uo', x = .ref a ∧ vs = [y] ∧ Drops X H a y v uo' ∧ Q v (upd H a uo')
theorem mt_dpopZ (hu : X.A.units + 64 < cLine) : MtR X "dict.pop" (rDPopZ X) := by
  rintro pins s σ H x xs v us Q I rx rxs ⟨a, y, z, uo', rfl, rfl, dr, q⟩
  cases rx
  obtain ⟨u, rfl, ru⟩ := vals1' rxs
  rcases dr pins σ s u I ru with ⟨l, vs, r, lu, dd, hz, rv, hv, hp, kk⟩ | ⟨nk, b, xs, p, rfl, hk, dd, hz, hp, rv, hd, kk⟩
  · exact call_meetsIn PySem.F.slot_dict_pop dd.typeIs PySem.F.entry_dict_pop (PySem.F.args_dict_pop_2 _ _) (meets_dict_pop_there (mixKind X.prog X.w) a lu [] (.inl rfl) hp)
      ⟨vs, r, dd, hz, hv, fun h' dd' hs => ⟨z, _, kk h' dd' hs pins σ _ I, rv, q⟩⟩
  · exact call_pop_heap (hsz := hz) (.inl rfl) (PySem.F.args_dict_pop_2 _ _) (nkRoom hu) hk hd dd hp fun h' dd' hs => ⟨z, _, kk h' dd' hs pins σ _ I, rv, q⟩
theorem mz_dpop (hX : FxOk X F) : MtZ X.K F (rDPopZ X) fDPop := by
  intro e ρ H L x ys vx vs w L' Q he R rx ry h k
  unfold fDPop at h
  split at h
  · rename_i n
    split at h
    · rename_i y
      split at h
      · rename_i kvs g
        split at h
        · rename_i w' hg
          split at h
          · rename_i kvs' hp
            obtain ⟨q, h⟩ := cond_some h
            cases h
            rw [Bool.and_eq_true] at q
            unfold RelW at rx
            obtain ⟨a, rfl, ha⟩ := rx
            obtain ⟨a', uo, p1, p2, p3⟩ := R.dct g
            rw [ha] at p1; cases p1
            obtain ⟨v, rfl, rv⟩ := rel1 ry
            obtain ⟨uo', z, d', rz, op⟩ := dct_drop hX he p3 p2 rv q.1 hg hp
            obtain ⟨f3, r3⟩ := put_dct R ha (Nat.le_of_ble_eq_true q.2) p2 p3 d'
            refine ⟨a, v, z, uo', rfl, rfl, fun pins σ s u I ru => ?_, k ρ _ z f3 r3 (f3.rel rz)⟩
            rcases op pins σ s u I ru with h | ⟨nk, b, xs, p, h1, h2, h3, h4, h5, h6, h7⟩
            · exact .inl h
            · exact .inr ⟨nk, b, xs, p, h1, h2, h3, h4, h5, h6, p3.1, h7⟩
          · cases h
        · cases h
      · cases h
    · cases h
  · cases h
end
end Z

set_option Elab.async false
set_option linter.all false
set_option maxRecDepth 100000
set_option maxHeartbeats 1000000
namespace Z
open PySem PySem.Spec PyProof.Rows L2

/-! ### the rows of a dict -/
theorem lfV_rel {l : L2.Key} {v : V} {K : PySem.W.Frag} {F : Fx} {e : En} {H : Hp} {ρ : List Addr} {w : W} (h : isLf w = true) (hl : l = lfW F e w) (r : RelW K F e H ρ w v) : v = kV l := by
  subst hl
  cases w with
  | int i => cases r; rfl
  | ia k => obtain ⟨i, q, rfl⟩ := r; simp [lfW, q, kV]
  | str k => obtain ⟨x, q, rfl⟩ := r; simp [lfW, q, kV]
  | non => simp [isLf] at h
  | bl _ => simp [isLf] at h
  | tup _ => simp [isLf] at h
  | ref _ => simp [isLf] at h
  | fz _ => simp [isLf] at h
/-- the object o holds the keys ks, the values vs -/
def RawRel (o : Obj) (ks vs : List V) : Prop := ∃ (es : Array DictEntry) (ep : Nat), o.ExactDict ∧ o.data = .dict es ep ∧ es.size = ks.length ∧ vs.length = ks.length ∧
  ∀ (i : Nat) (k v : V), ks[i]? = some k → vs[i]? = some v → ∃ en, es[i]? = some en ∧ RelV k en.key ∧ RelV v en.val
def Rows (X : Cx) (a : Addr) (u : HO) (ks vs : List V) : Prop := (a == sysModules) = false ∧ (∀ (H : Hp) (h : Heap) (o : Obj), h.get? a = some o → ObjOk X.prog X.w H h a u → RawRel o ks vs) ∧ ∀ (H : Hp) (h : Heap), ObjOk X.prog X.w H h a u → ∃ o, h.get? a = some o
theorem pairs_get {κ : Type} [DecidableEq κ] {P : Program} {w : World} {knd : PySem.KeyKind P w κ} : ∀ {es : List DictEntry} {kvs : List (κ × Value)}, PySem.Pairs knd es kvs → ∀ {i : Nat} {q : κ × Value}, kvs[i]? = some q → ∃ en, es[i]? = some en ∧ knd.is q.1 en.key = true ∧ en.val = q.2
  | _, _, .nil, i, q, h => by simp at h
  | _, _, .cons a b t, 0, q, h => by
    simp at h
    subst h
    exact ⟨_, rfl, a, b⟩
  | _, _, .cons a b t, i + 1, q, h => by
    obtain ⟨en, h1, h2⟩ := pairs_get t (i := i) (q := q) (by simpa using h)
    exact ⟨en, by simpa using h1, h2⟩
theorem rows_lf {X : Cx} {a : Addr} {us : List (L2.Key × V)} (hs : (a == sysModules) = false) : Rows X a (LfO X.prog X.w a us) (us.map fun p => kV p.1) (us.map (·.2)) := by
  refine ⟨hs, fun H h o ho x => ?_, fun H h x => x.2.1⟩
  obtain ⟨⟨vs, kv, o', es, ep, h1, h2, h3, h4, h5, h6⟩, _⟩ := x
  rw [ho] at h1
  cases h1
  refine ⟨es, ep, h2, h3, ?_, by simp, fun i k v hk hv => ?_⟩
  · have := h5.length
    have q := Paired.length kv
    simp at this ⊢
    omega
  · rw [List.getElem?_map] at hk hv
    cases q : us[i]? with
    | none => rw [q] at hk; cases hk
    | some p =>
      rw [q] at hk hv
      have hk' : kV p.1 = k := Option.some.inj hk
      have hv' : p.2 = v := Option.some.inj hv
      subst hk' hv'
      obtain ⟨b, hb, e1, e2⟩ := paired_get kv q
      obtain ⟨en, z1, z2, z3⟩ := pairs_get h5 hb
      refine ⟨en, by rw [← Array.getElem?_toList]; exact z1, ?_, by rw [z3]; exact e2⟩
      rw [e1]
      exact relV_key z2
theorem rows_tp {X : Cx} {a : Addr} {us : List (NestedKey × Addr × V)} (hs : (a == sysModules) = false) : Rows X a (TpO X.prog X.w a us) (us.map fun p => V.ref p.2.1) (us.map (·.2.2)) := by
  refine ⟨hs, fun H h o ho x => ?_, fun H h x => x.2.1⟩
  obtain ⟨⟨xs, pr, o', es, ep, h1, h2, h3, h4, h5⟩, _⟩ := x
  rw [ho] at h1
  cases h1
  refine ⟨es, ep, h2, h3, ?_, by simp, fun i k v hk hv => ?_⟩
  · have := size_of_entries h4
    have q := Paired.length pr
    simp
    omega
  · rw [List.getElem?_map] at hk hv
    cases q : us[i]? with
    | none => rw [q] at hk; cases hk
    | some p =>
      rw [q] at hk hv
      have hk' : V.ref p.2.1 = k := Option.some.inj hk
      have hv' : p.2.2 = v := Option.some.inj hv
      subst hk' hv'
      obtain ⟨b, hb, e1, e2, e3⟩ := paired_get pr q
      have z := entry_at h4 i
      rw [hb] at z
      exact ⟨_, z, by rw [e2]; rfl, e3⟩
/-- the rows, as W tells them -/
theorem dct_rows {X : Cx} {F : Fx} {e : En} {H : Hp} {ρ : List Addr} {kvs : List (W × W)} {a : Addr} {u : HO} (hX : FxOk X F) (d : DctR X.K F e H ρ kvs a u) :
    ∃ ks vs, Rows X a u ks vs ∧ RelWs X.K F e H ρ (kvs.map (·.1)) ks ∧ RelWs X.K F e H ρ (kvs.map (·.2)) vs := by
  obtain ⟨hs, hl, ⟨us, rfl, r, nd⟩ | ⟨us, rfl, r, nd⟩⟩ := d
  · rw [hX.P, hX.w]
    refine ⟨_, _, rows_lf hs, ?_, ?_⟩
    · clear hl nd
      induction r with
      | nil => exact .nil
      | cons z _ ih =>
        obtain ⟨z1, z2, ⟨k, z3⟩, z4⟩ := z
        refine .cons ?_ ih
        show RelW X.K F e H ρ _ (kV _)
        rw [← lfV_rel z1 z2 z3]
        exact z3
    · clear hl nd
      induction r with
      | nil => exact .nil
      | cons z _ ih => exact .cons z.2.2.2 ih
  · rw [hX.P, hX.w]
    refine ⟨_, _, rows_tp hs, ?_, ?_⟩
    · clear hl nd
      induction r with
      | nil => exact .nil
      | cons z _ ih => exact .cons z.2.2.1 ih
    · clear hl nd
      induction r with
      | nil => exact .nil
      | cons z _ ih => exact .cons z.2.2.2 ih

/-! ### walks of a locked dict -/
def ItkZ (a : Addr) (o : Obj) (u : HO) (ks : List V) : It :=
  ⟨fun i H => H a = some (.frz o u) ∧ i < ks.length, fun i H x H' => H' = H ∧ ks[i]? = some x, fun i H => H a = some (.frz o u) ∧ ks.length ≤ i⟩
def ItiZ (a : Addr) (o : Obj) (u : HO) (ks vs : List V) : It :=
  ⟨fun i H => H a = some (.frz o u) ∧ i < ks.length, fun i H x H' => ∃ T k v, ks[i]? = some k ∧ vs[i]? = some v ∧ x = .ref T ∧ H T = none ∧ H' = upd H T (.tup [k, v]), fun i H => H a = some (.frz o u) ∧ ks.length ≤ i⟩
section
variable {P : Program} {w : World} {K : PySem.W.Frag} {tg : Expr} {a : Addr} {o : Obj} {u : HO} {ks vs : List V} {es : Array DictEntry} {ep : Nat}
theorem turn_keysZ (it : Addr) (hx : o.ExactDict) (hod : o.data = .dict es ep) (hsz : es.size = ks.length) (hr : ∀ (i : Nat) (k : V), ks[i]? = some k → ∃ en, es[i]? = some en ∧ RelV k en.key) :
    Turn P w K tg (ItkZ a o u ks) [it] it (fun i h => h.IsKeyIter it a i es.size ep) where
  mem := by simp
  obj := fun i h st b hb => by
    have e : b = it := by simpa using hb
    subst e
    obtain ⟨oi, e, c, dd⟩ := st
    exact ⟨oi, e, fun v z => by rw [dd] at z; cases z⟩
  keep := fun i h h' st k => st.at fun oi e => k it (by simp) oi e
  item := by
    intro X hP hw hK hc i pins s σ H E I hf st hg
    subst hP hw hK
    obtain ⟨hd, hi⟩ := hg
    obtain ⟨f0, f1, f2, f3, f4, f5⟩ := hf it (by simp)
    obtain ⟨hgd, _⟩ := (show ObjOk X.prog X.w H s.heap a (.frz o u) from I.hok a _ hd)
    obtain ⟨k, hk⟩ : ∃ p, ks[i]? = some p := ⟨ks[i], List.getElem?_eq_getElem hi⟩
    obtain ⟨en, hen, ren⟩ := hr i k hk
    refine next_key_item st hgd hod rfl hen fun h' st' sb => ?_
    have I1 : Inv X pins σ H { s with heap := h' } := I.turned (t' := s.toks) (fun b ob hb e => (sb.2 b hb).trans e) f0 f1 f3 f4 f5
    obtain ⟨oi, e, c, dd⟩ := id st'
    exact ⟨en.key, rfl, go_of (s := { s with heap := h' }) e c dd (by decide) ⟨k, H, I1, ren, ⟨rfl, hk⟩, st', fun b hb => (hf b hb).1⟩⟩
  done := by
    intro X hP hw hK hc i pins s σ H E I hf st hg
    subst hP hw hK
    obtain ⟨hd, hi⟩ := hg
    obtain ⟨f0, f1, f2, f3, f4, f5⟩ := hf it (by simp)
    obtain ⟨hgd, _⟩ := (show ObjOk X.prog X.w H s.heap a (.frz o u) from I.hok a _ hd)
    exact next_key_end (I.ok.hd hc) st hgd hod rfl (by omega) fun h' eb => ⟨rfl, I.turned (t' := s.toks) (fun b ob hb e => eb b ob hb e) f0 f1 f3 f4 f5⟩
  self := fun A i s Q E st h => wpAny_pyIter_keyiter st h
theorem turn_valsZ (it : Addr) (hx : o.ExactDict) (hod : o.data = .dict es ep) (hsz : es.size = vs.length) (hr : ∀ (i : Nat) (v : V), vs[i]? = some v → ∃ en, es[i]? = some en ∧ RelV v en.val) :
    Turn P w K tg (ItkZ a o u vs) [it] it (fun i h => h.IsValIter it a i es.size ep) where
  mem := by simp
  obj := fun i h st b hb => by
    have e : b = it := by simpa using hb
    subst e
    obtain ⟨oi, e, c, dd⟩ := st
    exact ⟨oi, e, fun v z => by rw [dd] at z; cases z⟩
  keep := fun i h h' st k => st.at fun oi e => k it (by simp) oi e
  item := by
    intro X hP hw hK hc i pins s σ H E I hf st hg
    subst hP hw hK
    obtain ⟨hd, hi⟩ := hg
    obtain ⟨f0, f1, f2, f3, f4, f5⟩ := hf it (by simp)
    obtain ⟨hgd, _⟩ := (show ObjOk X.prog X.w H s.heap a (.frz o u) from I.hok a _ hd)
    obtain ⟨k, hk⟩ : ∃ p, vs[i]? = some p := ⟨vs[i], List.getElem?_eq_getElem hi⟩
    obtain ⟨en, hen, ren⟩ := hr i k hk
    have hlt : i < es.size := (Array.getElem?_eq_some_iff.mp hen).1
    have hen' : es[i] = en := (Array.getElem?_eq_some_iff.mp hen).2
    refine wpAny_pyNext_values_item_raw st ⟨o, hgd, hx, hod⟩ hlt fun h' st' sb => ?_
    have I1 : Inv X pins σ H { s with heap := h' } := I.turned (t' := s.toks) (fun b ob hb e => (sb.2 b hb).trans e) f0 f1 f3 f4 f5
    obtain ⟨oi, e, c, dd⟩ := id st'
    exact ⟨es[i].val, rfl, go_of (s := { s with heap := h' }) e c dd (by decide) ⟨k, H, I1, by rw [hen']; exact ren, ⟨rfl, hk⟩, st', fun b hb => (hf b hb).1⟩⟩
  done := by
    intro X hP hw hK hc i pins s σ H E I hf st hg
    subst hP hw hK
    obtain ⟨hd, hi⟩ := hg
    obtain ⟨f0, f1, f2, f3, f4, f5⟩ := hf it (by simp)
    obtain ⟨hgd, _⟩ := (show ObjOk X.prog X.w H s.heap a (.frz o u) from I.hok a _ hd)
    exact wpAny_pyNext_values_end_raw (I.ok.hd hc) st ⟨o, hgd, hx, hod⟩ (by omega) fun h' eb => ⟨rfl, I.turned (t' := s.toks) (fun b ob hb e => eb b ob hb e) f0 f1 f3 f4 f5⟩
  self := fun A i s Q E st h => wpAny_pyIter_valiter st h
theorem turn_itemsZ {elts : List Expr} {kk : Nat} {tpos : Pos} (it : Addr) (hx : o.ExactDict) (hod : o.data = .dict es ep) (hsz : es.size = ks.length) (hvl : vs.length = ks.length) (hr : ∀ (i : Nat) (k v : V), ks[i]? = some k → vs[i]? = some v → ∃ en, es[i]? = some en ∧ RelV k en.key ∧ RelV v en.val) :
    Turn P w K (.Tuple elts kk tpos) (ItiZ a o u ks vs) [it] it (fun i h => ∃ ok ov, IsItemIter h it a i es.size ep ok ov) where
  mem := by simp
  obj := fun i h st b hb => by
    have e : b = it := by simpa using hb
    subst e
    obtain ⟨ok, ov, e⟩ := st
    exact ⟨_, e, fun v z => nomatch z⟩
  keep := fun i h h' st k => let ⟨ok, ov, e⟩ := st; ⟨ok, ov, k it (by simp) _ e⟩
  item := by
    intro X hP hw hK hc i pins s σ H E I hf st hg
    subst hP hw hK
    obtain ⟨hd, hi⟩ := hg
    obtain ⟨hgd, _⟩ := (show ObjOk X.prog X.w H s.heap a (.frz o u) from I.hok a _ hd)
    obtain ⟨k, hk⟩ : ∃ p, ks[i]? = some p := ⟨ks[i], List.getElem?_eq_getElem hi⟩
    obtain ⟨v, hv⟩ : ∃ p, vs[i]? = some p := ⟨vs[i]'(by omega), List.getElem?_eq_getElem (by omega)⟩
    obtain ⟨en, hen, rk, rv⟩ := hr i k v hk hv
    have hlt0 : i < es.size := (Array.getElem?_eq_some_iff.mp hen).1
    have hen' : es[i] = en := (Array.getElem?_eq_some_iff.mp hen).2
    obtain ⟨ok, ov, he⟩ := st
    have hlt : it < s.heap.objs.size := Heap.lt_size he
    refine wpAny_pyNext_items_item_raw he ⟨o, hgd, hx, hod⟩ hlt0 fun h' ho hT hz hkk => ?_
    rw [hen'] at ho hT
    refine ⟨_, rfl, wpAny_letOwnedTupleGo_items (s := { s with heap := h' }) ho fun h'' he' sb => ?_⟩
    have hT2 : h''.get? s.heap.objs.size = some { cls := .type "tuple", data := .seq #[en.key, en.val] } := (sb.2 _ (Nat.ne_of_gt hlt)).trans hT
    have new : ObjOk X.prog X.w (upd H s.heap.objs.size (.tup [k, v])) h'' s.heap.objs.size (.tup [k, v]) :=
      ⟨by show 2 ≤ sizeLine; decide, [en.key, en.val], .cons rk (.cons rv .nil), ⟨_, hT2, rfl, _, rfl⟩⟩
    have I1 : Inv X pins σ (upd H s.heap.objs.size (.tup [k, v])) { s with heap := h'' } :=
      I.turnedNew (t' := s.toks) (ch := [it]) (fun b ob hb e => (sb.2 b (by simpa using hb)).trans (hkk b ob (by simpa using hb) e)) hf (Nat.le_refl _) new
    refine ⟨.ref s.heap.objs.size, _, I1, rfl, ⟨_, k, v, hk, hv, rfl, I.hok.fresh (Nat.le_refl _), rfl⟩, ⟨en.key, en.val, he'⟩, fun b hb => ?_⟩
    have e : b = it := by simpa using hb
    rw [e, upd_ne (Nat.ne_of_lt hlt)]
    exact (hf it (by simp)).1
  done := by
    intro X hP hw hK hc i pins s σ H E I hf st hg
    subst hP hw hK
    obtain ⟨hd, hi⟩ := hg
    obtain ⟨f0, f1, f2, f3, f4, f5⟩ := hf it (by simp)
    obtain ⟨hgd, _⟩ := (show ObjOk X.prog X.w H s.heap a (.frz o u) from I.hok a _ hd)
    obtain ⟨ok, ov, he⟩ := st
    exact wpAny_pyNext_items_end_raw (I.ok.hd hc) he ⟨o, hgd, hx, hod⟩ (by omega) fun h' eb => ⟨rfl, I.turned (t' := s.toks) (fun b ob hb e => eb b ob hb e) f0 f1 f3 f4 f5⟩
  self := fun A i s Q E st h => let ⟨_, _, e⟩ := st; PySem.W.kcp_self e h
end
/-- the dict is locked -/
def iKeysZ (X : Cx) (td : TE) : TI := fun σ H R => td σ H fun x H1 => ∃ a o u ks vs, x = .ref a ∧ H1 a = some (.frz o u) ∧ Rows X a u ks vs ∧ R (ItkZ a o u ks) H1
def iValsZ (X : Cx) (td : TE) : TI := fun σ H R => td σ H fun x H1 => ∃ a o u ks vs, x = .ref a ∧ H1 a = some (.frz o u) ∧ Rows X a u ks vs ∧ R (ItkZ a o u vs) H1
def iItemsZ (X : Cx) (td : TE) : TI := fun σ H R => td σ H fun x H1 => ∃ a o u ks vs, x = .ref a ∧ H1 a = some (.frz o u) ∧ Rows X a u ks vs ∧ R (ItiZ a o u ks vs) H1
section
variable {X : Cx} {tg e : Expr} {td : TE} {apos cpos : Pos}
theorem frz_raw {pins : List (Addr × Obj)} {σ : St} {H : Hp} {s : Shared} {a : Addr} {o : Obj} {u : HO} {ks vs : List V} (I : Inv X pins σ H s) (h : H a = some (.frz o u)) (r : Rows X a u ks vs) : s.heap.get? a = some o ∧ RawRel o ks vs := by
  obtain ⟨hgd, x⟩ := (show ObjOk X.prog X.w H s.heap a (.frz o u) from I.hok a _ h)
  exact ⟨hgd, r.2.1 _ _ _ hgd x⟩
theorem pi_keysZ (he : PE X e td) : PI X tg e (iKeysZ X td) := by
  refine ⟨fun pins s σ H R I h => ?_⟩
  refine thn (he.run pins s σ H _ I h) fun u0 s1 ⟨x, H1, I1, rx, a, o, u, ks, vs, ex, hd, rw_, q⟩ => ?_
  subst ex
  obtain rfl : u0 = Value.ref a := rx
  obtain ⟨hgd, es, ep, hx, hdt, hsz, hvl, hr⟩ := frz_raw I1 hd rw_
  refine iter_keys rw_.1 hgd hx hdt (pi_one (tk := s1.toks) I1 _ (turn_keysZ _ hx hdt hsz fun i k hk => ?_) ⟨_, Heap.get?_push_size _ rfl, rfl, rfl⟩ q)
  obtain ⟨v, hv⟩ : ∃ p, vs[i]? = some p := ⟨vs[i]'(by have := (List.getElem?_eq_some_iff.mp hk).1; omega), List.getElem?_eq_getElem (by have := (List.getElem?_eq_some_iff.mp hk).1; omega)⟩
  obtain ⟨en, h1, h2, h3⟩ := hr i k v hk hv
  exact ⟨en, h1, h2⟩
theorem pi_valuesZ (he : PE X e td) (hbase : attributeBase e "values" X.env (eval e X.env) = eval e X.env := by rfl) (hline : (apos.endLine == cpos.line) = true := by rfl) : PI X tg (.Call (.Attribute e "values" apos) [] [] cpos) (iValsZ X td) := by
  refine ⟨fun pins s σ H R I h => ?_⟩
  refine wpAny_Call_method (T := "dict") (id := "dict.values") hbase rfl hline PySem.F.plainAttrs_dict PySem.F.slot_dict_values PySem.F.type_dict_values (thn (he.run pins s σ H _ I h) fun u0 s1 ⟨x, H1, I1, rx, a, o, u, ks, vs, ex, hd, rw_, q⟩ => ?_)
  subst ex
  obtain rfl : u0 = Value.ref a := rx
  obtain ⟨hgd, es, ep, hx, hdt, hsz, hvl, hr⟩ := frz_raw I1 hd rw_
  have hT : s1.TypeIs (.ref a) "dict" := ⟨o, hgd, hx.1⟩
  refine ⟨hT, fun b e => by cases e; exact ⟨o, hgd, hx.2.1⟩, ?_⟩
  have hm : s1.heap.DictRaw a es ep := ⟨o, hgd, hx, hdt⟩
  have I2 : Inv X pins σ H1 { s1 with heap := s1.heap.push { cls := .type "dict_values", data := .fields #[.ref a] } } := I1.kept (t' := s1.toks) fun b ob q => Heap.get?_push_of_some _ q
  have fin : wpAny (model X.prog X.w) X.A (pyIter (.ref s1.heap.objs.size)) (PIE X pins σ tg R) X.xe { s1 with heap := s1.heap.push { cls := .type "dict_values", data := .fields #[.ref a] } } := by
    refine wpAny_pyIter_values_raw (d := a) ⟨_, Heap.get?_push_size _ rfl, rfl, rfl⟩ (hm.push _) (pi_one (tk := s1.toks) I2 _ (turn_valsZ _ hx hdt (by omega) fun i v hv => ?_) ⟨_, Heap.get?_push_size _ rfl, rfl, rfl⟩ q)
    obtain ⟨k, hk⟩ : ∃ p, ks[i]? = some p := ⟨ks[i]'(by have := (List.getElem?_eq_some_iff.mp hv).1; omega), List.getElem?_eq_getElem (by have := (List.getElem?_eq_some_iff.mp hv).1; omega)⟩
    obtain ⟨en, h1, h2, h3⟩ := hr i k v hk hv
    exact ⟨en, h1, h3⟩
  show wpAny _ _ (callWith cpos (.builtin "dict.values") [.ref a] [] []) _ X.xe s1
  exact method_meetsIn PySem.F.slot_dict_values PySem.F.entry_dict_values rfl (PySem.evalArgs_none ⟨rfl, hT, PySem.F.args_dict_values_1 _, _, meets_dict_values_raw a rw_.1, ⟨es, ep, hm⟩, fin⟩)
theorem pi_itemsZ {elts : List Expr} {kk : Nat} {tpos : Pos} (he : PE X e td) (hbase : attributeBase e "items" X.env (eval e X.env) = eval e X.env := by rfl) (hline : (apos.endLine == cpos.line) = true := by rfl) :
    PI X (.Tuple elts kk tpos) (.Call (.Attribute e "items" apos) [] [] cpos) (iItemsZ X td) := by
  refine ⟨fun pins s σ H R I h => ?_⟩
  refine wpAny_Call_method (T := "dict") (id := "dict.items") hbase rfl hline PySem.F.plainAttrs_dict PySem.F.slot_dict_items PySem.F.type_dict_items (thn (he.run pins s σ H _ I h) fun u0 s1 ⟨x, H1, I1, rx, a, o, u, ks, vs, ex, hd, rw_, q⟩ => ?_)
  subst ex
  obtain rfl : u0 = Value.ref a := rx
  obtain ⟨hgd, es, ep, hx, hdt, hsz, hvl, hr⟩ := frz_raw I1 hd rw_
  have hT : s1.TypeIs (.ref a) "dict" := ⟨o, hgd, hx.1⟩
  refine ⟨hT, fun b e => by cases e; exact ⟨o, hgd, hx.2.1⟩, ?_⟩
  have hm : s1.heap.DictRaw a es ep := ⟨o, hgd, hx, hdt⟩
  have I2 : Inv X pins σ H1 { s1 with heap := s1.heap.push { cls := .type "dict_items", data := .fields #[.ref a] } } := I1.kept (t' := s1.toks) fun b ob q => Heap.get?_push_of_some _ q
  have fin : wpAny (model X.prog X.w) X.A (pyIter (.ref s1.heap.objs.size)) (PIE X pins σ (.Tuple elts kk tpos) R) X.xe { s1 with heap := s1.heap.push { cls := .type "dict_items", data := .fields #[.ref a] } } :=
    wpAny_pyIter_items_raw (d := a) ⟨_, Heap.get?_push_size _ rfl, rfl, rfl⟩ (hm.push _) (pi_one (tk := s1.toks) I2 _ (turn_itemsZ _ hx hdt hsz hvl hr) ⟨.none, .none, Heap.get?_push_size _ rfl⟩ q)
  show wpAny _ _ (callWith cpos (.builtin "dict.items") [.ref a] [] []) _ X.xe s1
  exact method_meetsIn PySem.F.slot_dict_items PySem.F.entry_dict_items rfl (PySem.evalArgs_none ⟨rfl, hT, PySem.F.args_dict_items_1 _, _, meets_dict_items_raw a rw_.1, ⟨es, ep, hm⟩, fin⟩)
end
end Z

set_option Elab.async false
set_option linter.all false
set_option maxRecDepth 100000
set_option maxHeartbeats 1000000
namespace Z
open PySem PySem.Spec PyProof.Rows L2

/-! ### a dict is locked while it is walked -/
section
variable {K : PySem.W.Frag} {F : Fx} {e : En} {H H' : Hp} {ρ ρ' : List Addr} {L L' : LH} {n : Nat} {a : Addr} {od : Obj} {u : HO} {kvs : List (W × W)}
theorem RH.lock (R : RH K F e H ρ L) (ha : ρ[n]? = some a) (hn : L.n < top) (hH : H a = some u) (d : DctR K F e H ρ kvs a u) :
    Fm ρ ρ H (upd H a (.frz od u)) ∧ RH K F e (upd H a (.frz od u)) ρ (L.set n (.dlk kvs)) := by
  have mu : Mut (H a) := by rw [hH]; exact d.mut
  have f : Fm ρ ρ H (upd H a (.frz od u)) := fm_put R ha mu
  exact ⟨f, R.put ha mu hn ⟨od, u, upd_same, d.mono f.kp f.pre⟩⟩
theorem ext_ne {u : HO} (d : DctR K F e H ρ kvs a u) : (∀ xs, u ≠ .tup xs) ∧ (∀ xs, u ≠ .lst xs) ∧ u ≠ .xd [] ∧ (∀ o v, u ≠ .frz o v) := by
  obtain ⟨_, _, ⟨us, rfl, _⟩ | ⟨us, rfl, _⟩⟩ := d
  · unfold LfO
    exact ⟨fun _ z => (by cases z), fun _ z => (by cases z), fun z => (by cases z), fun _ _ z => (by cases z)⟩
  · unfold TpO
    exact ⟨fun _ z => (by cases z), fun _ z => (by cases z), fun z => (by cases z), fun _ _ z => (by cases z)⟩
/-- unlocked again -/
theorem RH.unlock (hH : H a = some u) (d : DctR K F e H ρ kvs a u) (ha : ρ[n]? = some a) (f : Fm ρ ρ' (upd H a (.frz od u)) H') (R : RH K F e H' ρ' L') {kvs' : List (W × W)} (g : L'.get n = some (.dlk kvs')) (hn : L'.n < top) :
    H' a = some (.frz od u) ∧ Fm ρ ρ' H (upd H' a u) ∧ RH K F e (upd H' a u) ρ' (L'.set n (.dct kvs')) ∧ ∀ w v, RelW K F e H' ρ' w v → RelW K F e (upd H' a u) ρ' w v := by
  obtain ⟨n1, n2, n3, n4⟩ := ext_ne d
  have hz := f.frz a od u upd_same
  have ha' := f.pre n a ha
  obtain ⟨a2, q1, o2, u2, q2, q3⟩ := R.at_ g
  rw [ha'] at q1; cases q1
  rw [hz] at q2; cases q2
  have kp : Kp K H' (upd H' a u) := by
    refine ⟨fun b xs h => ?_, fun b xs h => ?_⟩
    · rcases h with h | h
      · refine .inl ?_
        have hb : b ≠ a := fun z => by
          subst z
          rcases h with h | ⟨o, h⟩
          · rw [hz] at h; cases h
          · rw [hz] at h; cases h; exact n1 _ rfl
        rcases h with h | ⟨o, h⟩
        · exact .inl (by rw [upd_ne hb]; exact h)
        · exact .inr ⟨o, by rw [upd_ne hb]; exact h⟩
      · exact .inr h
    · rcases h with ⟨o, h⟩ | h
      · have hb : b ≠ a := fun z => by
          subst z
          rw [hz] at h; cases h; exact n2 _ rfl
        exact .inl ⟨o, by rw [upd_ne hb]; exact h⟩
      · exact .inr h
  have hn' : n < L'.n := by rw [← R.len]; exact (List.getElem?_eq_some_iff.mp ha').1
  refine ⟨hz, ⟨f.pre, fun b h => ?_, fun b o h hb => ?_, fun b o h => ?_, fun b xs h => ?_, fun b o v h => ?_⟩, ⟨R.len, R.nd, fun m b h => ?_, fun m ob h => ?_⟩, fun w v h => RelW.mono kp (fun _ _ z => z) w v h⟩
  · rcases f.new b h with q | q
    · exact .inl q
    · by_cases z : b = a
      · rw [z, upd_same] at q; cases q
      · rw [upd_ne z] at q; exact .inr q
  · have z : b ≠ a := fun z => hb (by rw [z]; exact List.mem_iff_getElem?.mpr ⟨n, ha⟩)
    rw [upd_ne z]
    exact f.keep b o (by rw [upd_ne z]; exact h) hb
  · by_cases z : b = a
    · exact ⟨u, by rw [z, upd_same]⟩
    · obtain ⟨o', q⟩ := f.there b o (by rw [upd_ne z]; exact h)
      exact ⟨o', by rw [upd_ne z]; exact q⟩
  · have z : b ≠ a := fun z => by
      subst z
      rcases h with h | ⟨o, h⟩
      · rw [hH] at h; cases h; exact n1 _ rfl
      · rw [hH] at h; cases h; exact n4 _ _ rfl
    have h' : Rd (upd H a (.frz od u)) b (.tup xs) := by
      rcases h with h | ⟨o, h⟩
      · exact .inl (by rw [upd_ne z]; exact h)
      · exact .inr ⟨o, by rw [upd_ne z]; exact h⟩
    rcases f.tup b xs h' with q | ⟨o, q⟩
    · exact .inl (by rw [upd_ne z]; exact q)
    · exact .inr ⟨o, by rw [upd_ne z]; exact q⟩
  · have z : b ≠ a := fun z => by
      subst z
      rw [hH] at h; cases h; exact n4 _ _ rfl
    rw [upd_ne z]
    exact f.frz b o v (by rw [upd_ne z]; exact h)
  · rw [LH.get_set (by omega)]
    by_cases hm : m = n
    · subst hm
      rw [ha'] at h; cases h
      exact ⟨.dct kvs', by rw [if_pos rfl], u, upd_same, q3.mono kp fun _ _ z => z⟩
    · rw [if_neg hm]
      obtain ⟨ob, h1, h2⟩ := R.ob m b h
      have hb : b ≠ a := fun z => hm (nd_ix R.nd h (by rw [z]; exact ha'))
      exact ⟨ob, h1, h2.stay kp (fun _ _ z => z) (upd_ne hb) fun d hd => by rw [upd_ne (fun z => by subst z; rw [hz] at hd; cases hd)]; exact hd⟩
  · rw [LH.get_set (by omega)] at h
    show m < L'.n
    split at h
    · omega
    · exact R.fit m ob h
end
def dctAt (L : LH) (n : Nat) : Option (List (W × W)) := match L.get n with
  | some (.dct kvs) => some kvs
  | _ => none
/-- the dict that a tells is locked while m runs -/
def eLock (a m : Ex) : Ex := fun sl L => match a sl L with
  | some (.ref n, _) => match dctAt L n with
    | some kvs => match m sl (L.set n (.dlk kvs)) with
      | some (w, L2) => match L2.get n with
        | some (.dlk kvs') => cond (Nat.blt L.n top && Nat.blt L2.n top) (some (w, L2.set n (.dct kvs'))) none
        | _ => none
      | none => none
    | none => m sl L
  | _ => m sl L
def sLock (a : Ex) (m : Sm) : Sm := fun sl L => match a sl L with
  | some (.ref n, _) => match dctAt L n with
    | some kvs => match m sl (L.set n (.dlk kvs)) with
      | some (o, sl2, L2) => match L2.get n with
        | some (.dlk kvs') => cond (Nat.blt L.n top && Nat.blt L2.n top) (some (o, sl2, L2.set n (.dct kvs'))) none
        | _ => none
      | none => none
    | none => m sl L
  | _ => m sl L
/-- what stands in a locked dict -/
def dlkOf (L : LH) : W → Option (List (W × W))
  | .ref n => match L.get n with
    | some (.dlk kvs) => some kvs
    | _ => none
  | _ => none
def iDk (a : Ex) : Ei := fun sl L => match a sl L with
  | some (x, L1) => match dlkOf L1 x with
    | some kvs => some (.vals (kvs.map fun p => p.1), L1)
    | none => none
  | none => none
def iDv (a : Ex) : Ei := fun sl L => match a sl L with
  | some (x, L1) => match dlkOf L1 x with
    | some kvs => some (.vals (kvs.map fun p => p.2), L1)
    | none => none
  | none => none
def iDi (a : Ex) : Ei := fun sl L => match a sl L with
  | some (x, L1) => match dlkOf L1 x with
    | some kvs => some (.vals (kvs.map fun p => .tup [p.1, p.2]), L1)
    | none => none
  | none => none
section
variable {X : Cx} {F : Fx} {x tg : Expr} {st : Stmt} {ma : Ex}
theorem dctAt_get {L : LH} {n : Nat} {kvs : List (W × W)} (h : dctAt L n = some kvs) : L.get n = some (.dct kvs) := by
  unfold dctAt at h
  split at h
  · rename_i q hg; cases h; exact hg
  · cases h
theorem ze_lock {m : Ex} (h : PE X x (TZ X.K F m)) : PE X x (TZ X.K F (eLock ma m)) := by
  refine PE.imp (Z.PE.or (pe_lock h) h) ?_
  rintro σ H Q ⟨e, ρ, sl, L, w, L', he, hs, hh, hm, k⟩
  unfold eLock at hm
  split at hm
  · rename_i n _ _
    split at hm
    · rename_i kvs hd
      split at hm
      · rename_i w2 L2 h2
        split at hm
        · rename_i kvs' hg
          obtain ⟨q, hm⟩ := cond_some hm
          cases hm
          rw [Bool.and_eq_true] at q
          obtain ⟨a, u, ha, hH, d⟩ := hh.dct (dctAt_get hd)
          refine .inl ⟨a, u, hH, d.mut, fun od => ?_⟩
          obtain ⟨f1, r1⟩ := hh.lock (od := od) ha (Nat.le_of_ble_eq_true q.1) hH d
          refine ⟨e, ρ, sl, _, _, _, he, f1.relSl hs, r1, h2, fun ρ' H' v f2 r2 w3 => ?_⟩
          obtain ⟨z1, z2, z3, z4⟩ := RH.unlock hH d ha f2 r2 hg (Nat.le_of_ble_eq_true q.2)
          exact ⟨z1, k ρ' _ v z2 z3 (z4 _ _ w3)⟩
        · cases hm
      · cases hm
    · exact .inr ⟨e, ρ, sl, L, w, L', he, hs, hh, hm, k⟩
  · exact .inr ⟨e, ρ, sl, L, w, L', he, hs, hh, hm, k⟩
theorem zs_lock {m : Sm} (h : PS X st (SZ X.K F m)) : PS X st (SZ X.K F (sLock ma m)) := by
  refine PS.imp (Z.PS.or (ps_lock h) h) ?_
  rintro D σ H ⟨e, ρ, sl, L, o, sl', L', he, hs, hh, hm, k⟩
  unfold sLock at hm
  split at hm
  · rename_i n _ _
    split at hm
    · rename_i kvs hd
      split at hm
      · rename_i o2 sl2 L2 h2
        split at hm
        · rename_i kvs' hg
          obtain ⟨q, hm⟩ := cond_some hm
          cases hm
          rw [Bool.and_eq_true] at q
          obtain ⟨a, u, ha, hH, d⟩ := hh.dct (dctAt_get hd)
          refine .inl ⟨a, u, hH, d.mut, fun od => ?_⟩
          obtain ⟨f1, r1⟩ := hh.lock (od := od) ha (Nat.le_of_ble_eq_true q.1) hH d
          refine ⟨e, ρ, sl, _, _, _, _, he, f1.relSl hs, r1, h2, fun ρ' H' σ' f2 r2 s2 => ?_⟩
          obtain ⟨z1, z2, z3, z4⟩ := RH.unlock hH d ha f2 r2 hg (Nat.le_of_ble_eq_true q.2)
          have s3 : RelSl X.K F e (upd H' a u) ρ' sl' σ' := ⟨s2.len, fun i w q => let ⟨v, q1, q2⟩ := s2.at_ i w q; ⟨v, q1, z4 _ _ q2⟩⟩
          have kk := k ρ' _ σ' z2 z3 s3
          cases o with
          | nx => exact ⟨z1, kk⟩
          | bk => exact ⟨z1, kk⟩
          | ct => exact ⟨z1, kk⟩
          | rt w => exact fun v hv => ⟨z1, kk v (z4 _ _ hv)⟩
        · cases hm
      · cases hm
    · exact .inr ⟨e, ρ, sl, L, o, sl', L', he, hs, hh, hm, k⟩
  · exact .inr ⟨e, ρ, sl, L, o, sl', L', he, hs, hh, hm, k⟩
theorem it_kz {e : En} {H : Hp} {ρ : List Addr} {a : Addr} {o : Obj} {u : HO} {ws : List W} {ks : List V} (hz : H a = some (.frz o u)) (r : RelWs X.K F e H ρ ws ks) : ItOk X.K F e (.vals ws) (ItkZ a o u ks) ρ H := by
  refine ⟨fun ρ' H' L i w f R h => ?_, fun ρ' H' L i f R h => ?_⟩
  · have h' : ws[i]? = some w := by simpa [Src.item] using h
    obtain ⟨v, h1, h2⟩ := (f.rels r).get h'
    refine ⟨⟨f.frz a o u hz, (List.getElem?_eq_some_iff.mp h1).1⟩, ?_⟩
    rintro x H'' ⟨rfl, q⟩
    rw [h1] at q; cases q
    exact ⟨.refl, R, h2⟩
  · have h' : ws[i]? = none := by simpa [Src.item] using h
    refine ⟨f.frz a o u hz, ?_⟩
    rw [r.length]
    exact List.getElem?_eq_none_iff.mp h'
theorem it_iz {e : En} {H : Hp} {ρ : List Addr} {a : Addr} {o : Obj} {u : HO} {kvs : List (W × W)} {ks vs : List V} (hz : H a = some (.frz o u)) (r1 : RelWs X.K F e H ρ (kvs.map fun p => p.1) ks) (r2 : RelWs X.K F e H ρ (kvs.map fun p => p.2) vs) :
    ItOk X.K F e (.vals (kvs.map fun p => .tup [p.1, p.2])) (ItiZ a o u ks vs) ρ H := by
  refine ⟨fun ρ' H' L i w f R h => ?_, fun ρ' H' L i f R h => ?_⟩
  · have h' : (kvs.map fun p => W.tup [p.1, p.2])[i]? = some w := by simpa [Src.item] using h
    rw [List.getElem?_map] at h'
    cases q : kvs[i]? with
    | none => rw [q] at h'; cases h'
    | some p =>
      rw [q] at h'
      have : W.tup [p.1, p.2] = w := Option.some.inj h'
      subst this
      obtain ⟨k, h1, h2⟩ := (f.rels r1).get (i := i) (w := p.1) (by rw [List.getElem?_map, q]; rfl)
      obtain ⟨v, h3, h4⟩ := (f.rels r2).get (i := i) (w := p.2) (by rw [List.getElem?_map, q]; rfl)
      refine ⟨⟨f.frz a o u hz, (List.getElem?_eq_some_iff.mp h1).1⟩, ?_⟩
      rintro x H'' ⟨T, k', v', e1, e2, rfl, hT, rfl⟩
      rw [h1] at e1; cases e1
      rw [h3] at e2; cases e2
      exact new_tup R hT (.cons h2 (.cons h4 .nil))
  · have h' : (kvs.map fun p => W.tup [p.1, p.2])[i]? = none := by simpa [Src.item] using h
    refine ⟨f.frz a o u hz, ?_⟩
    rw [r1.length]
    have := List.getElem?_eq_none_iff.mp h'
    simpa using this
theorem dlk_ok {e : En} {H : Hp} {ρ : List Addr} {L : LH} {w : W} {v : V} {kvs : List (W × W)} (hX : FxOk X F) (R : RH X.K F e H ρ L) (r : RelW X.K F e H ρ w v) (h : dlkOf L w = some kvs) :
    ∃ a o u ks vs, v = .ref a ∧ H a = some (.frz o u) ∧ Rows X a u ks vs ∧ RelWs X.K F e H ρ (kvs.map fun p => p.1) ks ∧ RelWs X.K F e H ρ (kvs.map fun p => p.2) vs := by
  cases w with
  | ref n =>
    simp only [dlkOf] at h
    split at h
    · rename_i q hg
      cases h
      unfold RelW at r
      obtain ⟨a, rfl, ha⟩ := r
      obtain ⟨a', h1, o, u, h2, d⟩ := R.at_ hg
      rw [ha] at h1; cases h1
      obtain ⟨ks, vs, q1, q2, q3⟩ := dct_rows hX d
      exact ⟨a, o, u, ks, vs, rfl, h2, q1, q2, q3⟩
    · cases h
  | non => cases h
  | bl _ => cases h
  | int _ => cases h
  | ia _ => cases h
  | str _ => cases h
  | tup _ => cases h
  | fz _ => cases h
theorem zi_dk (hX : FxOk X F) (ha : PE X x (TZ X.K F ma)) : PI X tg x (IZ X.K F (iDk ma)) := by
  refine PI.imp (pi_keysZ ha) ?_
  rintro σ H R ⟨e, ρ, sl, L, src, L', he, hs, hh, hm, k⟩
  unfold iDk at hm
  split at hm
  · rename_i w L1 h1
    split at hm
    · rename_i kvs hd
      cases hm
      refine ⟨e, ρ, sl, L, _, _, he, hs, hh, h1, fun ρ1 H1 v f1 r1 w1 => ?_⟩
      obtain ⟨a, o, u, ks, vs, rfl, hz, rws, q1, q2⟩ := dlk_ok hX r1 w1 hd
      exact ⟨a, o, u, ks, vs, rfl, hz, rws, k ρ1 H1 _ f1 r1 (it_kz hz q1)⟩
    · cases hm
  · cases hm
theorem zi_dv {apos cpos : Pos} (hX : FxOk X F) (ha : PE X x (TZ X.K F ma)) (hbase : attributeBase x "values" X.env (eval x X.env) = eval x X.env := by rfl) (hline : (apos.endLine == cpos.line) = true := by rfl) :
    PI X tg (.Call (.Attribute x "values" apos) [] [] cpos) (IZ X.K F (iDv ma)) := by
  refine PI.imp (pi_valuesZ ha hbase hline) ?_
  rintro σ H R ⟨e, ρ, sl, L, src, L', he, hs, hh, hm, k⟩
  unfold iDv at hm
  split at hm
  · rename_i w L1 h1
    split at hm
    · rename_i kvs hd
      cases hm
      refine ⟨e, ρ, sl, L, _, _, he, hs, hh, h1, fun ρ1 H1 v f1 r1 w1 => ?_⟩
      obtain ⟨a, o, u, ks, vs, rfl, hz, rws, q1, q2⟩ := dlk_ok hX r1 w1 hd
      exact ⟨a, o, u, ks, vs, rfl, hz, rws, k ρ1 H1 _ f1 r1 (it_kz hz q2)⟩
    · cases hm
  · cases hm
theorem zi_di {apos cpos tpos : Pos} {elts : List Expr} {kk : Nat} (hX : FxOk X F) (ha : PE X x (TZ X.K F ma)) (hbase : attributeBase x "items" X.env (eval x X.env) = eval x X.env := by rfl) (hline : (apos.endLine == cpos.line) = true := by rfl) :
    PI X (.Tuple elts kk tpos) (.Call (.Attribute x "items" apos) [] [] cpos) (IZ X.K F (iDi ma)) := by
  refine PI.imp (pi_itemsZ ha hbase hline) ?_
  rintro σ H R ⟨e, ρ, sl, L, src, L', he, hs, hh, hm, k⟩
  unfold iDi at hm
  split at hm
  · rename_i w L1 h1
    split at hm
    · rename_i kvs hd
      cases hm
      refine ⟨e, ρ, sl, L, _, _, he, hs, hh, h1, fun ρ1 H1 v f1 r1 w1 => ?_⟩
      obtain ⟨a, o, u, ks, vs, rfl, hz, rws, q1, q2⟩ := dlk_ok hX r1 w1 hd
      exact ⟨a, o, u, ks, vs, rfl, hz, rws, k ρ1 H1 _ f1 r1 (it_iz hz q1 q2)⟩
    · cases hm
  · cases hm
end
end Z

set_option Elab.async false
set_option linter.all false
set_option maxRecDepth 100000
set_option maxHeartbeats 2000000
namespace Z
open PySem PySem.Spec PyProof.Rows L2

/-! ### a thing of another's that may be written -/
section
variable {K : PySem.W.Frag} {F : Fx} {e : En} {H H' : Hp} {ρ ρ' : List Addr} {L : LH} {D : Addr} {o' : HO}
theorem kp_mut (mu : Mut (H D)) : Kp K H (upd H D o') := by
  refine ⟨fun b xs h => ?_, fun b xs h => ?_⟩
  · rcases h with h | h
    · refine .inl ?_
      have hb : b ≠ D := fun z => by
        subst z
        rcases h with h | ⟨o, h⟩
        · rw [h] at mu; exact mu
        · rw [h] at mu; exact mu
      rcases h with h | ⟨o, h⟩
      · exact .inl (by rw [upd_ne hb]; exact h)
      · exact .inr ⟨o, by rw [upd_ne hb]; exact h⟩
    · exact .inr h
  · rcases h with ⟨o, h⟩ | h
    · have hb : b ≠ D := fun z => by subst z; rw [h] at mu; exact mu
      exact .inl ⟨o, by rw [upd_ne hb]; exact h⟩
    · exact .inr h
theorem RH.otherM (R : RH K F e H ρ L) (mu : Mut (H D)) (hD : D ∉ ρ) : RH K F e (upd H D o') ρ L := by
  refine ⟨R.len, R.nd, fun n a q => ?_, R.fit⟩
  obtain ⟨o, h1, h2⟩ := R.ob n a q
  have ha : a ≠ D := fun z => hD (by rw [← z]; exact List.mem_iff_getElem?.mpr ⟨n, q⟩)
  exact ⟨o, h1, h2.stay (kp_mut mu) (fun _ _ z => z) (upd_ne ha) fun d hd => by rw [upd_ne (fun z => by subst z; rw [hd] at mu; exact mu)]; exact hd⟩
theorem Fm.patchM (f : Fm ρ ρ' H H') (hn : H D = none) (mu : Mut (H' D)) : Fm ρ ρ' H (upd H' D o') := by
  refine ⟨f.pre, f.new, fun a o q n => ?_, fun a o q => ?_, fun a zs q => ?_, fun a ob u q => ?_⟩
  · rw [upd_ne (ne_of_none q hn)]; exact f.keep a o q n
  · rw [upd_ne (ne_of_none q hn)]; exact f.there a o q
  · rcases f.tup a zs q with z | ⟨o, z⟩
    · exact .inl (by rw [upd_ne (fun y => by subst y; rw [z] at mu; exact mu)]; exact z)
    · exact .inr ⟨o, by rw [upd_ne (fun y => by subst y; rw [z] at mu; exact mu)]; exact z⟩
  · rw [upd_ne (ne_of_none q hn)]; exact f.frz a ob u q
end

/-! ### dict comprehensions -/
/-- a store, in any context of the program -/
def PutsA (P : Program) (w : World) (K : PySem.W.Frag) (H : Hp) (a : Addr) (y z : V) (uo' : HO) : Prop := ∀ X : Cx, X.prog = P → X.w = w → X.K = K → Puts X H a y z uo'
def tDcZ (P : Program) (w : World) (K : PySem.W.Frag) (wi : TI) (g : TG) (tt : TT) (tk tv : TE) (vs : List Nat) : TE := fun σ H Q => wi σ H fun J H1 => ∀ D, H1 D = none → (D == sysModules) = false → ∃ W : Nat → Nat → Hp → Prop, (∃ m, W 0 m (upd H1 D (LfO P w D []))) ∧ ∀ i m H, W i m H →
  (J.stop i H ∧ Q (.ref D) H) ∨ (J.go i H ∧ ∃ Nx : Hp → Prop, (∀ H', Nx H' → ∃ m', m' < m ∧ W (i + 1) m' H') ∧ ∀ x H', J.yld i H x H' → g x (wipe σ vs) H' fun σ2 H2 => wipe σ2 vs = wipe σ vs ∧ tt σ2 H2 fun b H3 =>
    if b = true then tk σ2 H3 fun y H4 => tv σ2 H4 fun z H5 => ∃ uo', PutsA P w K H5 D y z uo' ∧ Nx (upd H5 D uo') else Nx H3)
theorem lf_new {P : Program} {w : World} {H : Hp} (h : Heap) : ObjOk P w H (h.push { cls := .type "dict", data := .dict #[] }) h.objs.size (LfO P w h.objs.size []) := by
  refine ⟨⟨[], .nil, Heap.DictOf.new h⟩, ⟨_, Heap.get?_push_size _ rfl⟩, ?_⟩
  rintro h1 h2 ⟨vs2, y1, o2, es2, ep2, y2, y3⟩ kk
  exact ⟨vs2, y1, o2, es2, ep2, kk _ y2, y3⟩
theorem puts_dictSet {X : Cx} {pins : List (Addr × Obj)} {σ : St} {H : Hp} {s : Shared} {E : Value → Shared → Prop} {D : Addr} {y z : V} {u r : Value} {uo' : HO} {Q : Unit → Shared → Prop} (hu : X.A.units + 64 < cLine) (I : Inv X pins σ H s) (hp : Puts X H D y z uo')
    (ry : RelV y u) (rv : RelV z r) (h : ∀ s', Inv X pins σ (upd H D uo') s' → Q () s') : wpAny (model X.prog X.w) X.A (dictSet D u r) Q E s := by
  rcases hp pins σ s u r I ry rv with ⟨l, vs, lu, dd, hz, kk⟩ | ⟨nk, b, xs, rfl, hk, dd, hz, kk⟩
  · exact wpAny_dictSet_pairs (hsz := hz) lu dd fun h' dd' hs => h _ (kk h' dd' hs pins σ _ I)
  · exact wpAny_dictSet_heap (hsz := hz) (by show X.A.units + 8 < cLine; omega) hk dd fun h' dd' hs => h _ (kk h' dd' hs pins σ _ I)
section
variable {X : Cx}
/-- the block's run, the dict's object of any kind -/
theorem dc_run {pins : List (Addr × Obj)} {s : Shared} {σ : St} {H : Hp} {Q : VK} {kx vx tg iter : Expr} {ifs : List Expr} {scope : Scope} {own : List (Str × Nat)} {pos pos' : Pos} {wi : TI} {g : TG} {tt : TT} {tk tv : TE} {use : Option (Value → Sem Unit)} {Qf : Value → Shared → Prop}
    (hc : X.calm = true) (hu : X.A.units + 64 < cLine) (hN : X.N.Nodup) (I : Inv X pins σ H s) (hi : PI X tg iter wi) (ok : BlkOk X.N X.env.scope scope own)
    (hg : ∀ (s : Shared) (H : Hp) (C : Addr) (cl : List (Str × Addr)) (fp : List Addr), PG (X.blk s H scope (compEnvC scope cl C X.env) fp) tg g) (ht : ∀ (s : Shared) (H : Hp) (C : Addr) (cl : List (Str × Addr)) (fp : List Addr), PTs (X.blk s H scope (compEnvC scope cl C X.env) fp) ifs tt)
    (hk : ∀ (s : Shared) (H : Hp) (C : Addr) (cl : List (Str × Addr)) (fp : List Addr), PE (X.blk s H scope (compEnvC scope cl C X.env) fp) kx tk)
    (he : ∀ (s : Shared) (H : Hp) (C : Addr) (cl : List (Str × Addr)) (fp : List Addr), PE (X.blk s H scope (compEnvC scope cl C X.env) fp) vx tv) (hs : ∀ x, foldedSetIterable iter X.env x = pure x)
    (h : tDcZ X.prog X.w X.K wi g tt tk tv (own.map (·.2)) σ H Q)
    (last : ∀ D C s' m H', Inv X pins σ H' s' → Q (.ref D) H' → s'.heap.Ns C m → FpOk X pins H' C → compPost (model X.prog X.w) X.A X.xe use Qf (.ref D) C (.ok .next) s') :
    wpAny (model X.prog X.w) X.A (comprehension (.DictComp kx vx [⟨tg, iter, ifs, 0⟩] scope pos) scope X.env pos' newDict false (eval iter X.env) use) Qf X.xe s := by
  have free : ∀ y ∈ scope.names, y.2 = .free → ∃ c, X.env.cells.lookup y.1 = some c := fun y hy e => by
    rcases ok.free y hy e with k | k
    · exact I.ok.has _ (.inl k)
    · exact I.ok.has _ (.inr k)
  refine wpAny_comprehension_free (use := use) rfl hs (closure_ok free) ok.kind (fun y hy e => by rw [ok.uniq y hy, e]) ?_
  refine thn (hi.run pins s σ H _ I h) fun xv s1 hx => thn hx fun itv s2 ⟨it, fp, tn, J, H2, ev, I2, T, st2, f2, q⟩ => ?_
  subst ev
  refine wpAny_newObj_type (newEnv_comp ?_)
  generalize hD : s2.heap.objs.size = D
  have hDn : H2 D = none := I2.hok.fresh (Nat.le_of_eq hD)
  have hDs : (D == sysModules) = false := beq_eq_false_iff_ne.mpr (by rw [← hD]; exact Ne.symm (Nat.ne_of_lt I2.big))
  obtain ⟨W, ⟨m0, w0⟩, turn⟩ := q D hDn hDs
  generalize hs3 : ({ s2 with heap := s2.heap.push { cls := .type "dict", data := .dict #[] } } : Shared) = s3
  have h3 : s3.heap = s2.heap.push { cls := .type "dict", data := .dict #[] } := by rw [← hs3]
  have I3 : Inv X pins σ (upd H2 D (LfO X.prog X.w D [])) s3 := by
    rw [← hs3]
    refine I2.laid (t' := s2.toks) (fun b o e => Heap.get?_push_of_some _ e) (Nat.le_of_eq hD) ?_
    rw [← hD]
    exact lf_new s2.heap
  have f3 : ∀ b ∈ fp, FpOk X pins (upd H2 D (LfO X.prog X.w D [])) b ∧ b < s3.heap.objs.size := fun b hb => by
    obtain ⟨o, e, _⟩ := T.obj _ _ st2 b hb
    have hlt := Heap.lt_size e
    refine ⟨⟨?_, (f2 b hb).2⟩, by rw [h3, Heap.size_push]; exact Nat.lt_succ_of_lt hlt⟩
    rw [upd_ne (by rw [← hD]; exact Nat.ne_of_lt hlt)]
    exact (f2 b hb).1
  have I4 := block_start I3 ok hN f3
  have pg := hg s3 (upd H2 D (LfO X.prog X.w D [])) s3.heap.objs.size (cellsFrom (s3.heap.objs.size + 1) scope.names (cloFrom X.env.cells scope.names [])) fp
  have pt := ht s3 (upd H2 D (LfO X.prog X.w D [])) s3.heap.objs.size (cellsFrom (s3.heap.objs.size + 1) scope.names (cloFrom X.env.cells scope.names [])) fp
  have pk := hk s3 (upd H2 D (LfO X.prog X.w D [])) s3.heap.objs.size (cellsFrom (s3.heap.objs.size + 1) scope.names (cloFrom X.env.cells scope.names [])) fp
  have pe := he s3 (upd H2 D (LfO X.prog X.w D [])) s3.heap.objs.size (cellsFrom (s3.heap.objs.size + 1) scope.names (cloFrom X.env.cells scope.names [])) fp
  show codeAny _ _ (.compStart (.DictComp kx vx [⟨tg, iter, ifs, 0⟩] scope pos) 0 (.ref it) (.ref D) (compEnvC scope (cellsFrom (s3.heap.objs.size + 1) scope.names (cloFrom X.env.cells scope.names [])) s3.heap.objs.size X.env)) (compPost (model X.prog X.w) X.A X.xe use Qf (.ref D) s3.heap.objs.size) _
  have nfp : ∀ b ∈ fp, (upd H2 D (LfO X.prog X.w D [])) b = none := fun b hb => (f3 b hb).1.1
  generalize hce : compEnvC scope (cellsFrom (s3.heap.objs.size + 1) scope.names (cloFrom X.env.cells scope.names [])) s3.heap.objs.size X.env = ce at I4 pg pt pk pe ⊢
  have cL : ce.locals = s3.heap.objs.size := by subst hce; rfl
  generalize hH3 : upd H2 D (LfO X.prog X.w D []) = H3 at I3 I4 pg pt pk pe w0 nfp f3
  generalize hs4 : ({ s3 with heap := pushCells (s3.heap.push { cls := .type "dict", data := .dict #[] }) scope.names } : Shared) = s4 at I4 ⊢
  have st4 : tn 0 s4.heap := T.keep _ _ _ st2 fun b _ o e => by
    rw [← hs4]
    exact pushCells_keeps _ _ _ _ (Heap.get?_push_of_some _ (by rw [h3]; exact Heap.get?_push_of_some _ e))
  have stat : ∀ {σ' : St} {H' : Hp} {s' : Shared}, Inv (X.blk s3 H3 scope ce fp) [] σ' H' s' → (∀ b ∈ fp, H' b = none) → ∀ b ∈ fp, FpOk (X.blk s3 H3 scope ce fp) [] H' b := fun {σ' H' s'} I' hn b hb =>
    ⟨hn b hb, (I'.ok.exf b hb).1, I'.ok.exfs b hb, .inl hb, fun x c e => (I'.ok.exf b hb).2 x c e, fun p hp => absurd (show p ∈ ([] : List (Addr × Obj)) ++ [] from hp) (by simp)⟩
  have loop : codeAny (model X.prog X.w) X.A (.compLoop (.DictComp kx vx [⟨tg, iter, ifs, 0⟩] scope pos) 0 (.ref it) (.ref D) ce) (compPost (model X.prog X.w) X.A X.xe use Qf (.ref D) s3.heap.objs.size) s4 := by
    refine compLoop_anyD (fun n s' => ∃ i H', Inv (X.blk s3 H3 scope ce fp) [] (wipe σ (own.map (·.2))) H' s' ∧ tn i s'.heap ∧ (∀ b ∈ fp, H' b = none) ∧ W i n H') ?_ m0 ⟨0, H3, I4, st4, nfp, w0⟩
    rintro n s5 ⟨i, H5, I5, st5, n5, w5⟩
    rcases turn i n H5 w5 with ⟨stop, qq⟩ | ⟨go, Nx, hNx, step⟩
    · refine thnF (T.done (X.blk s3 H3 scope ce fp) rfl rfl rfl hc i [] s5 _ H5 (fun _ _ => False) I5 (stat I5 n5) st5 stop) fun r s6 ⟨hr, I6⟩ => ?_
      subst hr
      have I7 : Inv X pins σ H5 s6 := I3.call' (ch := fp) I6.os I6.base I6.hok I6.bare fun b hb => ⟨(f3 b hb).1.2.2.2.1, (f3 b hb).1.2.1, (f3 b hb).1.2.2.2.2.1, (f3 b hb).1.2.2.2.2.2⟩
      have nC : H5 s3.heap.objs.size = none := by rw [← cL]; exact I6.free
      obtain ⟨m, hn, _⟩ := I6.loc
      have hn' : s6.heap.Ns ce.locals m := hn
      rw [cL] at hn'
      exact last D s3.heap.objs.size s6 m H5 I7 qq hn' (I3.fpOk (Nat.le_refl _) nC)
    · refine thnF (T.item (X.blk s3 H3 scope ce fp) rfl rfl rfl hc i [] s5 _ H5 (fun _ _ => False) I5 (stat I5 n5) st5 go) fun r s6 ⟨u, hr, h6⟩ => ?_
      subst hr
      refine thnF h6 fun _ s7 ⟨x, H7, I7, r7, y7, st7, n7⟩ => ?_
      have I7' := I7.pinned (stat I7 n7) (T.obj _ _ st7)
      refine thnF (pg.run _ s7 _ H7 x u _ I7' r7 (step x H7 y7)) fun _ s8 ⟨σ8, H8, I8, hw8, q8⟩ => ?_
      have fin : ∀ {s' : Shared} {H' : Hp}, Inv (X.blk s3 H3 scope ce fp) ([] ++ pinsAt fp s7.heap) σ8 H' s' → Nx H' → ∃ m, m < n ∧ ∃ i H', Inv (X.blk s3 H3 scope ce fp) [] (wipe σ (own.map (·.2))) H' s' ∧ tn i s'.heap ∧ (∀ b ∈ fp, H' b = none) ∧ W i m H' := fun {s' H'} I' nx => by
        obtain ⟨m', hm, w'⟩ := hNx H' nx
        have pin' : ∀ b ∈ fp, ∀ o, s7.heap.get? b = some o → s'.heap.get? b = some o ∧ H' b = none := fun b hb o e =>
          let z := I'.pin (b, o) (List.mem_append_right _ (List.mem_append_right _ (mem_pinsAt hb e)))
          ⟨z.1, z.2.1⟩
        refine ⟨m', hm, i + 1, H', (I'.unpinned (pins := [])).weak (by rw [← hw8, wipe_length]) (fun j v e => ?_), T.keep _ _ _ st7 fun b hb o e => (pin' b hb o e).1, fun b hb => ?_, w'⟩
        · rw [← hw8] at e
          exact (wipe_some e).1
        · obtain ⟨o, e, _⟩ := T.obj _ _ st7 b hb
          exact (pin' b hb o e).2
      refine thnF (pt.run _ s8 σ8 H8 _ I8 q8) fun b s9 ⟨H9, I9, q9⟩ => ?_
      cases b with
      | false =>
        simp only [Bool.false_eq_true, if_false] at q9 ⊢
        exact fin I9 q9
      | true =>
        simp only [if_true] at q9 ⊢
        refine thnF (pk.run _ s9 σ8 H9 _ I9 q9) fun z s10 ⟨yk, H10, I10, r10, q10⟩ => ?_
        refine thnF (pe.run _ s10 σ8 H10 _ I10 q10) fun z2 s11 ⟨yv, H11, I11, r11, uo', hp, nx⟩ => ?_
        exact puts_dictSet (X := X.blk s3 H3 scope ce fp) hu I11 (hp _ rfl rfl rfl) r10 r11 fun s12 I12 => fin I12 nx
  exact codeAny_compStart_dict loop (T.self X.A 0 _ _ _ st4 loop)
theorem pe_dcZ {kx vx tg iter : Expr} {ifs : List Expr} {scope : Scope} {own : List (Str × Nat)} {pos : Pos} {wi : TI} {g : TG} {tt : TT} {tk tv : TE} (hc : X.calm = true) (hu : X.A.units + 64 < cLine) (hN : X.N.Nodup) (hi : PI X tg iter wi) (ok : BlkOk X.N X.env.scope scope own)
    (hg : ∀ (s : Shared) (H : Hp) (C : Addr) (cl : List (Str × Addr)) (fp : List Addr), PG (X.blk s H scope (compEnvC scope cl C X.env) fp) tg g) (ht : ∀ (s : Shared) (H : Hp) (C : Addr) (cl : List (Str × Addr)) (fp : List Addr), PTs (X.blk s H scope (compEnvC scope cl C X.env) fp) ifs tt)
    (hk : ∀ (s : Shared) (H : Hp) (C : Addr) (cl : List (Str × Addr)) (fp : List Addr), PE (X.blk s H scope (compEnvC scope cl C X.env) fp) kx tk)
    (he : ∀ (s : Shared) (H : Hp) (C : Addr) (cl : List (Str × Addr)) (fp : List Addr), PE (X.blk s H scope (compEnvC scope cl C X.env) fp) vx tv) (hs : ∀ x, foldedSetIterable iter X.env x = pure x := by intro _; rfl) :
    PE X (.DictComp kx vx [⟨tg, iter, ifs, 0⟩] scope pos) (tDcZ X.prog X.w X.K wi g tt tk tv (own.map (·.2))) := by
  refine ⟨fun pins s σ H Q I h => ?_⟩
  rw [arm_eval_DictComp]
  refine dc_run hc hu hN I hi ok hg ht hk he hs h fun D C s' m H' I' q hn f => ⟨m, hn, fun h'' sb => ?_⟩
  obtain ⟨f0, f1, f2, f3, f4, f5⟩ := f
  exact ⟨.ref D, H', I'.turned (t' := s'.toks) (fun b o hb e => (sb.2 b hb).trans e) f0 f1 f3 f4 f5, rfl, q⟩
end
end Z

set_option Elab.async false
set_option linter.all false
set_option maxRecDepth 100000
set_option maxHeartbeats 2000000
namespace Z
open PySem PySem.Spec PyProof.Rows L2

/-! ### dict comprehensions, by values -/
def dcL (src : Src) (g : Eg) (t : Et) (mk mv : Ex) (slw : Sl) : Nat → Nat → List (W × W) → LH → Option (List (W × W) × LH)
  | 0, _, _, _ => none
  | f + 1, i, acc, L => match src.item L i with
    | none => none
    | some none => some (acc, L)
    | some (some w) => match g w slw L with
      | none => none
      | some (sl1, L1) => match t sl1 L1 with
        | none => none
        | some (false, L2) => dcL src g t mk mv slw f (i + 1) acc L2
        | some (true, L2) => match mk sl1 L2 with
          | none => none
          | some (k, L3) => match mv sl1 L3 with
            | none => none
            | some (v, L4) => match dPut k v acc with
              | none => none
              | some acc' => match sameK k acc && Nat.blt acc.length 1000000 with
                | true => dcL src g t mk mv slw f (i + 1) acc' L4
                | false => none
def vDc (mi : Ei) (T : List Nat) (g : Eg) (t : Et) (mk mv : Ex) : Ex := fun sl L => match mi sl L with
  | none => none
  | some (src, L1) => match dcL src g t mk mv (wipeSl sl T) lid 0 [] L1 with
    | some (kvs, L2) => cond (Nat.blt L2.n top) (some (.ref L2.n, L2.add (.dct kvs))) none
    | none => none
theorem tz_dc {P : Program} {w : World} {K : PySem.W.Frag} {F : Fx} {T : List Nat} {mi : Ei} {g : Eg} {t : Et} {mk mv : Ex} {σ : St} {H : Hp} {Q : VK} (hP : F.P = P) (hw : F.w = w) (h : TZ K F (vDc mi T g t mk mv) σ H Q) : tDcZ P w K (IZ K F mi) (GZ K F T g) (TTZ K F t) (TZ K F mk) (TZ K F mv) T σ H Q := by
  obtain ⟨e, ρ, sl, L, w0, L', he, hs, hh, hm, k⟩ := h
  unfold vDc at hm
  split at hm
  · cases hm
  rename_i src L1 h1
  split at hm
  · rename_i kvs Le h2
    obtain ⟨g2, hm⟩ := cond_some hm
    cases hm
    have g2 : Le.n < top := Nat.le_of_ble_eq_true g2
    refine ⟨e, ρ, sl, L, _, _, he, hs, hh, h1, fun ρ1 H1 J f1 r1 ok D hD hDs => ?_⟩
    have fD : Fm ρ1 ρ1 H1 (upd H1 D (LfO P w D [])) := fm_new hD
    have hDρ : D ∉ ρ1 := fun z => by obtain ⟨_, q, _⟩ := r1.mut z; rw [hD] at q; cases q
    have sw := (f1.relSl hs).wipe T
    refine ⟨fun i n H2 => ∃ ρ2 L2 acc uo, Fm ρ1 ρ2 H1 H2 ∧ RH K F e H2 ρ2 L2 ∧ H2 D = some uo ∧ D ∉ ρ2 ∧ DctR K F e H2 ρ2 acc D uo ∧ i + n = lid ∧ dcL src g t mk mv (wipeSl sl T) n i acc L2 = some (kvs, Le),
      ⟨lid, ρ1, L1, [], _, fD, r1.new hD, upd_same, hDρ, ⟨hDs, Nat.zero_le _, .inl ⟨[], by rw [hP, hw], .nil, .nil⟩⟩, Nat.zero_add _, h2⟩, ?_⟩
    rintro i n H2 ⟨ρ2, L2, acc, uo, f2, r2, hD2, nD2, ra, hi, hr⟩
    cases n with
    | zero => cases hr
    | succ n =>
      unfold dcL at hr
      split at hr
      · cases hr
      · rename_i hx
        cases hr
        refine .inl ⟨ok.stop ρ2 H2 _ i f2 r2 hx, ?_⟩
        have f3 : Fm ρ1 (ρ2 ++ [D]) H1 H2 := f2.adopt hD
        have hpre : ∀ (n : Nat) (a : Addr), ρ2[n]? = some a → (ρ2 ++ [D])[n]? = some a := fun n a h => by
          rw [List.getElem?_append_left (List.getElem?_eq_some_iff.mp h).1]; exact h
        refine k (ρ2 ++ [D]) H2 (.ref D) (f1.trans f3) (r2.adopt nD2 g2 ⟨uo, hD2, ra.mono Kp.refl hpre⟩) ?_
        unfold RelW
        exact ⟨D, rfl, by rw [← r2.len]; simp⟩
      rename_i w hx
      obtain ⟨j1, j2⟩ := ok.go ρ2 H2 L2 i w f2 r2 hx
      refine .inr ⟨j1, fun H' => ∃ ρ2 L2 acc uo, Fm ρ1 ρ2 H1 H' ∧ RH K F e H' ρ2 L2 ∧ H' D = some uo ∧ D ∉ ρ2 ∧ DctR K F e H' ρ2 acc D uo ∧ (i + 1) + n = lid ∧ dcL src g t mk mv (wipeSl sl T) n (i + 1) acc L2 = some (kvs, Le),
        fun H' q => ⟨n, by omega, q⟩, fun x H3 hy => ?_⟩
      obtain ⟨f3, r3, w3⟩ := j2 x H3 hy
      have hD3 := f3.keep D _ hD2 nD2
      split at hr
      · cases hr
      rename_i sl4 L4 hg4
      refine ⟨e, ρ2, wipeSl sl T, L2, w, _, _, he, (f2.trans f3).relSl sw, r3, w3, hg4, fun ρ4 H4 σ4 f4 r4 s4 e4 => ⟨e4.trans (wipe_wipe σ T), ?_⟩⟩
      have nD4 : D ∉ ρ4 := fun z => by
        rcases f4.new D z with q | q
        · exact nD2 q
        · rw [hD3] at q; cases q
      have hD4 := f4.keep D _ hD3 nD2
      split at hr
      · cases hr
      · rename_i L5 ht
        refine ⟨e, ρ4, sl4, L4, _, _, he, s4, r4, ht, fun ρ5 H5 f5 r5 => ?_⟩
        refine iteF ?_
        have nD5 : D ∉ ρ5 := fun z => by
          rcases f5.new D z with q | q
          · exact nD4 q
          · rw [hD4] at q; cases q
        have fA := ((f3.trans f4).trans f5)
        exact ⟨ρ5, L5, acc, uo, f2.trans fA, r5, f5.keep D _ hD4 nD4, nD5, ra.mono fA.kp fA.pre, by omega, hr⟩
      · rename_i L5 ht
        refine ⟨e, ρ4, sl4, L4, _, _, he, s4, r4, ht, fun ρ5 H5 f5 r5 => ?_⟩
        refine iteT ?_
        have nD5 : D ∉ ρ5 := fun z => by
          rcases f5.new D z with q | q
          · exact nD4 q
          · rw [hD4] at q; cases q
        have hD5 := f5.keep D _ hD4 nD4
        split at hr
        · cases hr
        rename_i ky L6 hk6
        refine ⟨e, ρ5, sl4, L5, _, _, he, f5.relSl s4, r5, hk6, fun ρ6 H6 v6 f6 r6 w6 => ?_⟩
        have nD6 : D ∉ ρ6 := fun z => by
          rcases f6.new D z with q | q
          · exact nD5 q
          · rw [hD5] at q; cases q
        have hD6 := f6.keep D _ hD5 nD5
        split at hr
        · cases hr
        rename_i vv L7 hv7
        refine ⟨e, ρ6, sl4, L6, _, _, he, (f5.trans f6).relSl s4, r6, hv7, fun ρ7 H7 v7 f7 r7 w7 => ?_⟩
        have nD7 : D ∉ ρ7 := fun z => by
          rcases f7.new D z with q | q
          · exact nD6 q
          · rw [hD6] at q; cases q
        have hD7 := f7.keep D _ hD6 nD6
        have fA := ((((f3.trans f4).trans f5).trans f6).trans f7)
        have ra7 : DctR K F e H7 ρ7 acc D uo := ra.mono fA.kp fA.pre
        split at hr
        · cases hr
        rename_i acc' hp
        split at hr
        · rename_i hc
          rw [Bool.and_eq_true] at hc
          obtain ⟨uo', d', op⟩ := dct_putA he ra7 hD7 (f7.rel w6) w7 hc.1 hp (Nat.le_of_ble_eq_true hc.2)
          have mu : Mut (H7 D) := by rw [hD7]; exact ra7.mut
          refine ⟨uo', fun X hXP hXw hXK => op X hXK ⟨hP.trans hXP.symm, hw.trans hXw.symm⟩, ρ7, L7, acc', uo', (f2.trans fA).patchM hD mu, r7.otherM mu nD7, upd_same, nD7, d'.mono (kp_mut mu) fun _ _ z => z, by omega, hr⟩
        · cases hr
  · cases hm
section
variable {X : Cx} {F : Fx} {T : List Nat} {mi : Ei} {g : Eg} {t : Et} {mk mv : Ex} {kx vx tg iter : Expr} {ifs : List Expr} {scope : Scope} {own : List (Str × Nat)} {pos spos py : Pos}
theorem ze_dc (hX : FxOk X F) (hu : X.A.units + 64 < cLine) (hc : X.calm = true) (hN : X.N.Nodup) (hi : PI X tg iter (IZ X.K F mi)) (ok : BlkOk X.N X.env.scope scope own) (hT : own.map (·.2) = T)
    (hg : ∀ (s : Shared) (H : Hp) (C : Addr) (cl : List (Str × Addr)) (fp : List Addr), PG (X.blk s H scope (compEnvC scope cl C X.env) fp) tg (GZ X.K F T g)) (ht : ∀ (s : Shared) (H : Hp) (C : Addr) (cl : List (Str × Addr)) (fp : List Addr), PTs (X.blk s H scope (compEnvC scope cl C X.env) fp) ifs (TTZ X.K F t))
    (hk : ∀ (s : Shared) (H : Hp) (C : Addr) (cl : List (Str × Addr)) (fp : List Addr), PE (X.blk s H scope (compEnvC scope cl C X.env) fp) kx (TZ X.K F mk))
    (hm : ∀ (s : Shared) (H : Hp) (C : Addr) (cl : List (Str × Addr)) (fp : List Addr), PE (X.blk s H scope (compEnvC scope cl C X.env) fp) vx (TZ X.K F mv)) (hs : ∀ x, foldedSetIterable iter X.env x = pure x := by intro _; rfl) :
    PE X (.DictComp kx vx [⟨tg, iter, ifs, 0⟩] scope pos) (TZ X.K F (vDc mi T g t mk mv)) := by
  subst hT
  exact PE.imp (pe_dcZ hc hu hN hi ok hg ht hk hm hs) fun σ H Q h => tz_dc hX.P hX.w h
theorem sw_trueD {gs : List Comprehension} {y : Str} {l : Nat} {env : Env} (hk : env.scope.kind = .function) (hy : env.scope.names.lookup y = some .local) (hl : (py.line == pos.line) = true)
    (ha : (scope.names.any fun (n, k) => n == y && (k == .local || k == .cell)) = false) : swapsWith (.DictComp kx vx gs scope pos) (some (.Name y py)) l env = pure true := by
  have ky : env.kindOf y = some .local := hy
  have hb : env.blockKind = .function := by unfold Env.blockKind; rw [hk]; rfl
  unfold swapsWith
  simp only [hb, ky, ha, Expr.pos, hl]
  rfl
theorem zs_setDc {i : Nat} {y : Str} (hX : FxOk X F) (hu : X.A.units + 64 < cLine) (hc : X.calm = true) (hN : X.N.Nodup) (hy : X.N[i]? = some y) (hyl : X.env.scope.names.lookup y = some .local)
    (hsw : swapsWith (.DictComp kx vx [⟨tg, iter, ifs, 0⟩] scope pos) (some (.Name y py)) spos.line X.env = pure true) (hi : PI X tg iter (IZ X.K F mi)) (ok : BlkOk X.N X.env.scope scope own) (hT : own.map (·.2) = T)
    (hg : ∀ (s : Shared) (H : Hp) (C : Addr) (cl : List (Str × Addr)) (fp : List Addr), PG (X.blk s H scope (compEnvC scope cl C X.env) fp) tg (GZ X.K F T g)) (ht : ∀ (s : Shared) (H : Hp) (C : Addr) (cl : List (Str × Addr)) (fp : List Addr), PTs (X.blk s H scope (compEnvC scope cl C X.env) fp) ifs (TTZ X.K F t))
    (hk : ∀ (s : Shared) (H : Hp) (C : Addr) (cl : List (Str × Addr)) (fp : List Addr), PE (X.blk s H scope (compEnvC scope cl C X.env) fp) kx (TZ X.K F mk))
    (hm : ∀ (s : Shared) (H : Hp) (C : Addr) (cl : List (Str × Addr)) (fp : List Addr), PE (X.blk s H scope (compEnvC scope cl C X.env) fp) vx (TZ X.K F mv)) (hs : ∀ x, foldedSetIterable iter X.env x = pure x := by intro _; rfl) :
    PS X (.Assign [.Name y py] (.DictComp kx vx [⟨tg, iter, ifs, 0⟩] scope pos) spos) (SZ X.K F (sSet i (vDc mi T g t mk mv))) := by
  subst hT
  refine ⟨fun pins s σ H D I h => ?_⟩
  obtain ⟨e, ρ, sl, L, o, sl', L', he, hs', hh, hm', k⟩ := h
  unfold sSet at hm'
  split at hm'
  · rename_i w L1 h1
    cases hm'
    rw [exec_Assign_Name_used _ _ _ _ hsw]
    refine wpAny_bind (wpAny_standAt (wpAny_bind ?_))
    show wpAny _ X.A (do let _ ← comprehension (.DictComp kx vx [⟨tg, iter, ifs, 0⟩] scope pos) scope X.env (firstIterPos [⟨tg, iter, ifs, 0⟩] pos) newDict false (eval iter X.env) (some (assign (.Name y py) X.env))) _ _ s
    have hq : tDcZ X.prog X.w X.K (IZ X.K F mi) (GZ X.K F (own.map (·.2)) g) (TTZ X.K F t) (TZ X.K F mk) (TZ X.K F mv) (own.map (·.2)) σ H (fun x H1 => D.nx (σ.set i (some x)) H1) :=
      tz_dc hX.P hX.w ⟨e, ρ, sl, L, _, _, he, hs', hh, h1, fun ρ1 H1 v f1 r1 w1 => k ρ1 H1 _ f1 r1 ((f1.relSl hs').set i w1)⟩
    refine wpAny_bind (thn (dc_run (Qf := fun _ s' => SP X pins D .next s') hc hu hN I hi ok hg ht hk hm hs hq fun DD C s' m H' I' q hn f => ?_) fun _ s' hq => wpAny_pure (wpAny_pure hq))
    show wpAny _ _ (assign (.Name y py) X.env (.ref DD)) _ _ _
    refine wpAny_assign_Name (store_ok2 (v := V.ref DD) I' hN hy (.inl hyl) rfl (fun s2 I2 ⟨a, sb, ha⟩ => ?_) (.inr hyl))
    obtain ⟨f0, f1, f2, f3, f4, f5⟩ := f
    have haC : C ≠ a := by
      rcases ha with z | z
      · rw [z]; exact f1
      · exact fun e => f4 y a z e.symm
    refine ⟨m, hn.sameBut sb haC, fun h3 sb3 => ?_⟩
    exact ⟨_, H', I2.turned (t' := s2.toks) (fun b o hb e => (sb3.2 b hb).trans e) f0 f1 f3 f4 f5, q⟩
  · cases hm'
/-- {} -/
def vDnew : Ex := fun _ L => cond (Nat.blt L.n top) (some (.ref L.n, L.add (.dct []))) none
theorem pe_dnewZ {pos : Pos} : PE X (.Dict [] [] pos) (fun _ H Q => ∀ p, H p = none → (p == sysModules) = false → Q (.ref p) (upd H p (LfO X.prog X.w p []))) := ⟨fun pins s σ H Q I h =>
  wpAny_Dict_empty ⟨.ref s.heap.objs.size, _, I.laid (a := s.heap.objs.size) (o := LfO X.prog X.w s.heap.objs.size []) (t' := s.toks) (fun _ _ q => Heap.get?_push_of_some _ q) (Nat.le_refl _) (lf_new s.heap), rfl, h _ (I.hok.fresh (Nat.le_refl _)) (beq_eq_false_iff_ne.mpr (Ne.symm (Nat.ne_of_lt I.big)))⟩⟩
theorem ze_dnew (hX : FxOk X F) : PE X (.Dict [] [] pos) (TZ X.K F vDnew) := by
  refine PE.imp pe_dnewZ ?_
  rintro σ H Q ⟨e, ρ, sl, L, w, L', he, hs, hh, hm, k⟩ p hp hps
  unfold vDnew at hm
  obtain ⟨g2, hm⟩ := cond_some hm
  cases hm
  have f := fm_add (h' := LfO X.prog X.w p []) hh hp
  refine k _ _ _ f (hh.add hp (Nat.le_of_ble_eq_true g2) ⟨_, upd_same, hps, Nat.zero_le _, .inl ⟨[], by rw [hX.P, hX.w], .nil, .nil⟩⟩) ?_
  unfold RelW
  exact ⟨p, rfl, by rw [← hh.len]; simp⟩
end
end Z

set_option Elab.async false
set_option linter.all false
set_option maxRecDepth 100000
set_option maxHeartbeats 1000000
namespace Z
open PySem PySem.Spec PyProof.Rows L2

/-! ### x in a tuple, a list -/
def anyW (L : LH) (x : W) : List W → Option Bool
  | [] => some false
  | z :: r => match eqW L deep z x with
    | some true => some true
    | some false => anyW L x r
    | none => none
def itemsOf (L : LH) : W → Option (List W)
  | .tup ys => some ys
  | .ref n => match L.get n with
    | some (.lst ys) => some ys
    | _ => none
  | _ => none
def inW (L : LH) (x y : W) : Option Bool := match itemsOf L y with
  | some ys => cond (isDat L deep x && ys.all (isDat L deep)) (anyW L x ys) none
  | none => none
def fIn : W → W → LH → Option (W × LH) := fun x y L => match inW L x y with
  | some b => some (.bl b, L)
  | none => none
def fNotIn : W → W → LH → Option (W × LH) := fun x y L => match inW L x y with
  | some b => some (.bl (!b), L)
  | none => none
abbrev rInZ (K : PySem.W.Frag) (n : Bool) : R2 := fun x y H Q => ∃ d ds, Dp K H x d ∧ (Dp K H y (.list ds) ∨ Dp K H y (.tuple ds)) ∧ SeqAt.shaped d = true ∧ SeqAt.shaped (.list ds) = true ∧ Q (.bl (n != (ds.any fun z => PyData.eqv z d))) H
section
variable {X : Cx}
theorem op_inZ (hu : X.A.units + 65 < cLine) : OpR X (compareOp .In) (rInZ X.K false) := by
  intro pins s σ H x y v u Q I rx ry h
  obtain ⟨d, ds, hd, he, sd, se, q⟩ := h
  obtain ⟨as, r1⟩ := Dp.reads I d x v hd rx
  rw [Bool.false_bne] at q
  rcases he with he | he
  · obtain ⟨bs, r2⟩ := Dp.reads I (.list ds) y u he ry
    exact SeqAt.in_list_reads r2 r1 (SeqAt.canLay_of_shaped se) (SeqAt.canLay_of_shaped sd) (room_in_shaped sd hu) ⟨.bl _, H, I, rfl, q⟩
  · obtain ⟨bs, r2⟩ := Dp.reads I (.tuple ds) y u he ry
    exact SeqAt.in_tuple_reads r2 r1 (SeqAt.canLay_of_shaped se) (SeqAt.canLay_of_shaped sd) (room_in_shaped sd hu) ⟨.bl _, H, I, rfl, q⟩
theorem op_notInZ (hu : X.A.units + 65 < cLine) : OpR X (compareOp .NotIn) (rInZ X.K true) := by
  intro pins s σ H x y v u Q I rx ry h
  obtain ⟨d, ds, hd, he, sd, se, q⟩ := h
  obtain ⟨as, r1⟩ := Dp.reads I d x v hd rx
  rw [Bool.true_bne] at q
  rcases he with he | he
  · obtain ⟨bs, r2⟩ := Dp.reads I (.list ds) y u he ry
    exact SeqAt.notIn_list_reads r2 r1 (SeqAt.canLay_of_shaped se) (SeqAt.canLay_of_shaped sd) (room_in_shaped sd hu) ⟨.bl _, H, I, rfl, q⟩
  · obtain ⟨bs, r2⟩ := Dp.reads I (.tuple ds) y u he ry
    exact SeqAt.notIn_tuple_reads r2 r1 (SeqAt.canLay_of_shaped se) (SeqAt.canLay_of_shaped sd) (room_in_shaped sd hu) ⟨.bl _, H, I, rfl, q⟩
end
section
variable {K : PySem.W.Frag} {F : Fx} {e : En} {H : Hp} {ρ : List Addr} {L : LH}
theorem anyW_ok {g : W → PyData} {d : PyData} {x : W} : ∀ {ys : List W} {b : Bool}, (∀ y ∈ ys, ∀ c, eqW L deep y x = some c → PyData.eqv (g y) d = c) → anyW L x ys = some b → ((ys.map g).any fun z => PyData.eqv z d) = b
  | [], b, _, h => by cases h; rfl
  | y :: ys, b, k, h => by
    unfold anyW at h
    rw [List.map_cons, List.any_cons]
    split at h
    · rename_i h1
      cases h
      rw [k y List.mem_cons_self true h1, Bool.true_or]
    · rename_i h1
      rw [k y List.mem_cons_self false h1, Bool.false_or]
      exact anyW_ok (fun y hy => k y (List.mem_cons_of_mem _ hy)) h
    · cases h
theorem items_dp (R : RH K F e H ρ L) {y : W} {vy : V} {ys : List W} (ry : RelW K F e H ρ y vy) (h : itemsOf L y = some ys) {ds : List PyData} (hd : ∀ {vs : List V}, RelWs K F e H ρ ys vs → DpAll K H vs ds) :
    (∃ vs, RelWs K F e H ρ ys vs) ∧ (Dp K H vy (.list ds) ∨ Dp K H vy (.tuple ds)) := by
  cases y with
  | tup zs =>
    cases h
    unfold RelW at ry
    obtain ⟨a, vs, rfl, s, r⟩ := ry
    exact ⟨⟨vs, r⟩, .inr (.tup s (hd r))⟩
  | ref n =>
    simp only [itemsOf] at h
    split at h
    · rename_i zs hl
      cases h
      unfold RelW at ry
      obtain ⟨a, rfl, ha⟩ := ry
      obtain ⟨a', vs, h1, h2, h3⟩ := R.lst hl
      rw [ha] at h1; cases h1
      exact ⟨⟨vs, h3⟩, .inl (.lst (SqL.of h2) (hd h3))⟩
    · cases h
  | non => cases h
  | bl _ => cases h
  | int _ => cases h
  | ia _ => cases h
  | str _ => cases h
  | fz _ => cases h
theorem inW_ok (he : En.Ok F e) (R : RH K F e H ρ L) {x y : W} {vx vy : V} {b : Bool} (rx : RelW K F e H ρ x vx) (ry : RelW K F e H ρ y vy) (h : inW L x y = some b) :
    ∃ d ds, Dp K H vx d ∧ (Dp K H vy (.list ds) ∨ Dp K H vy (.tuple ds)) ∧ SeqAt.shaped d = true ∧ SeqAt.shaped (.list ds) = true ∧ (ds.any fun z => PyData.eqv z d) = b := by
  unfold inW at h
  split at h
  · rename_i ys hy
    obtain ⟨hc, h⟩ := cond_opt h
    rw [Bool.and_eq_true, List.all_eq_true] at hc
    obtain ⟨d1, p1⟩ := dat_ok he R deep x hc.1
    obtain ⟨q1, l1⟩ := p1 vx rx
    have hit := fun z hz => dat_ok he R deep z (hc.2 z hz)
    obtain ⟨⟨vs, rv⟩, hdp⟩ := items_dp (ds := ys.map (pyW F e L deep)) R ry hy fun {vs} rv => dp_all (fun z hz v hv => ((hit z hz).2 v hv).1) rv
    refine ⟨_, _, q1, hdp, ?_, ?_, ?_⟩
    · unfold SeqAt.shaped; rw [l1, decide_eq_true (by have : (deep : Nat) = 16 := rfl; omega)]; rfl
    · have l2 : (PyData.list (ys.map (pyW F e L deep))).canLay0 = true := by
        rw [PyData.canLay0]
        refine lay_all fun z hz => ?_
        obtain ⟨i, hi⟩ := List.mem_iff_getElem?.mp hz
        obtain ⟨v, _, hv⟩ := rv.get hi
        exact ((hit z hz).2 v hv).2
      have d2 : (PyData.list (ys.map (pyW F e L deep))).depth ≤ 64 := by
        simp only [PyData.depth]
        have := depth_all (n := deep) fun z hz => (hit z hz).1
        have : (deep : Nat) = 16 := rfl
        omega
      unfold SeqAt.shaped; rw [l2, decide_eq_true d2]; rfl
    · refine anyW_ok (fun z hz c hcz => ?_) h
      obtain ⟨i, hi⟩ := List.mem_iff_getElem?.mp hz
      obtain ⟨v, _, hv⟩ := rv.get hi
      exact eqW_ok he R deep z x c v vx (hc.2 z hz) hc.1 hv rx hcz
  · cases h
theorem oz_in : OpZ K F (rInZ K false) fIn := by
  intro e ρ H L x y vx vy w L' Q he R rx ry h k
  unfold fIn at h
  split at h
  · rename_i b hb
    cases h
    obtain ⟨d, ds, h1, h2, h3, h4, h5⟩ := inW_ok he R rx ry hb
    refine ⟨d, ds, h1, h2, h3, h4, ?_⟩
    rw [h5, Bool.false_bne]
    exact k ρ H _ .refl R rfl
  · cases h
theorem oz_notIn : OpZ K F (rInZ K true) fNotIn := by
  intro e ρ H L x y vx vy w L' Q he R rx ry h k
  unfold fNotIn at h
  split at h
  · rename_i b hb
    cases h
    obtain ⟨d, ds, h1, h2, h3, h4, h5⟩ := inW_ok he R rx ry hb
    refine ⟨d, ds, h1, h2, h3, h4, ?_⟩
    rw [h5, Bool.true_bne]
    exact k ρ H _ .refl R rfl
  · cases h
end
/-- in, whatever it is -/
def fIn2 : W → W → LH → Option (W × LH) := fun x y L => match fIn x y L with
  | none => fDIn x y L
  | r => r
def fNotIn2 : W → W → LH → Option (W × LH) := fun x y L => match fNotIn x y L with
  | none => fDNotIn x y L
  | r => r
section
variable {X : Cx} {F : Fx}
theorem op_in2 (hu : X.A.units + 65 < cLine) : OpR X (compareOp .In) (fun x y H Q => rInZ X.K false x y H Q ∨ rDInZ X x y H Q) := L2.OpR.or (op_inZ hu) (op_dinZ (by omega))
theorem op_notIn2 (hu : X.A.units + 65 < cLine) : OpR X (compareOp .NotIn) (fun x y H Q => rInZ X.K true x y H Q ∨ rDNotInZ X x y H Q) := L2.OpR.or (op_notInZ hu) (op_dnotinZ (by omega))
theorem oz_in2 (hX : FxOk X F) : OpZ X.K F (fun x y H Q => rInZ X.K false x y H Q ∨ rDInZ X x y H Q) fIn2 := oz_or2 oz_in (oz_din hX)
theorem oz_notIn2 (hX : FxOk X F) : OpZ X.K F (fun x y H Q => rInZ X.K true x y H Q ∨ rDNotInZ X x y H Q) fNotIn2 := oz_or2 oz_notIn (oz_dnotin hX)
end

/-! ### a < b < c -/
def mChain (f g : W → W → LH → Option (W × LH)) (a b c : Ex) : Ex := fun sl L => match a sl L with
  | none => none
  | some (x, L1) => match b sl L1 with
    | none => none
    | some (y, L2) => match f x y L2 with
      | some (.bl true, L3) => match c sl L3 with
        | none => none
        | some (z, L4) => g y z L4
      | some (.bl false, L3) => some (.bl false, L3)
      | _ => none
section
variable {X : Cx} {F : Fx} {ma mb mc : Ex} {a b c : Expr} {pos : Pos}
theorem tz_chain {K : PySem.W.Frag} {r r' : R2} {f g : W → W → LH → Option (W × LH)} (hf : OpZ K F r f) (hg : OpZ K F r' g) {σ : St} {H : Hp} {Q : VK} (h : TZ K F (mChain f g ma mb mc) σ H Q) : tChain r r' (TZ K F ma) (TZ K F mb) (TZ K F mc) σ H Q := by
  obtain ⟨e, ρ, sl, L, w, L', he, hs, hh, hm, k⟩ := h
  unfold mChain at hm
  split at hm
  · cases hm
  rename_i x L1 h1
  split at hm
  · cases hm
  rename_i y L2 h2
  refine ⟨e, ρ, sl, L, x, L1, he, hs, hh, h1, fun ρ1 H1 vx f1 r1 w1 => ?_⟩
  refine ⟨e, ρ1, sl, L1, y, L2, he, f1.relSl hs, r1, h2, fun ρ2 H2 vy f2 r2 w2 => ?_⟩
  have fA := f1.trans f2
  split at hm
  · rename_i L3 h3
    refine hf e ρ2 H2 L2 x y vx vy _ L3 _ he r2 (f2.rel w1) w2 h3 fun ρ3 H3 v3 f3 r3 w3 => ⟨true, w3, ?_⟩
    refine iteT ?_
    split at hm
    · cases hm
    rename_i z L4 h4
    refine ⟨e, ρ3, sl, L3, z, L4, he, (fA.trans f3).relSl hs, r3, h4, fun ρ4 H4 v4 f4 r4 w4 => ?_⟩
    exact hg e ρ4 H4 L4 y z vy v4 w L' Q he r4 ((f3.trans f4).rel w2) w4 hm fun ρ5 H5 v5 f5 r5 w5 => k ρ5 H5 v5 (((fA.trans f3).trans f4).trans f5) r5 w5
  · rename_i L3 h3
    cases hm
    refine hf e ρ2 H2 L2 x y vx vy (.bl false) L' _ he r2 (f2.rel w1) w2 h3 fun ρ3 H3 v3 f3 r3 w3 => ⟨false, w3, ?_⟩
    refine iteF ?_
    exact k ρ3 H3 _ (fA.trans f3) r3 rfl
  · cases hm
theorem ze_chain {op op' : CmpOp} {r r' : R2} {f g : W → W → LH → Option (W × LH)} (ho : OpR X (compareOp op) r) (hf : OpZ X.K F r f) (ho' : OpR X (compareOp op') r') (hg : OpZ X.K F r' g) (ha : PE X a (TZ X.K F ma)) (hb : PE X b (TZ X.K F mb)) (hc : PE X c (TZ X.K F mc))
    (hm : lastMarks [op, op'] [b, c] = false := by with_unfolding_all rfl) : PE X (.Compare a [op, op'] [b, c] pos) (TZ X.K F (mChain f g ma mb mc)) :=
  PE.imp (pe_chain ho ho' ha hb hc hm) fun _ _ _ h => tz_chain hf hg h
theorem zt_chain {op op' : CmpOp} {r r' : R2} {f g : W → W → LH → Option (W × LH)} (ho : OpR X (compareOp op) r) (hf : OpZ X.K F r f) (ho' : OpR X (compareOp op') r') (hg : OpZ X.K F r' g) (ha : PE X a (TZ X.K F ma)) (hb : PE X b (TZ X.K F mb)) (hc : PE X c (TZ X.K F mc))
    (hm : lastMarks [op, op'] [b, c] = false := by with_unfolding_all rfl) : PT X (.Compare a [op, op'] [b, c] pos) (TTZ X.K F (mTest (mChain f g ma mb mc))) := by
  refine PT.imp (pt_chain ho ho' ha hb hc hm) ?_
  rintro σ H Q ⟨e, ρ, sl, L, w, L', he, hs, hh, hm, k⟩
  unfold mTest at hm
  split at hm
  · rename_i b' L1 h1
    cases hm
    exact tz_chain hf hg ⟨e, ρ, sl, L, _, _, he, hs, hh, h1, fun ρ' H' v f1 r1 w1 => ⟨_, w1, k ρ' H' f1 r1⟩⟩
  · cases hm
end
end Z

set_option Elab.async false
set_option linter.all false
set_option maxRecDepth 100000
set_option maxHeartbeats 1000000
namespace Z
open PySem PySem.Spec PyProof.Rows L2 PySem.W

/-! ### sorting, by values: ints, texts, tuples of such -/
def ltS : W → W → Option Bool
  | .int i, y => match y with
    | .int j => some (decide (i < j))
    | _ => none
  | .str i, y => match y with
    | .str j => cond (Nat.blt i 1000 == Nat.blt j 1000) (some (Nat.blt i j)) none
    | _ => none
  | _, _ => none
def ltL (lt eq : W → W → Option Bool) : List W → List W → Option Bool
  | [], ys => match ys with
    | [] => some false
    | _ => some true
  | x :: xs, ys => match ys with
    | [] => some false
    | y :: ys => match eq x y with
      | some true => ltL lt eq xs ys
      | some false => lt x y
      | none => none
def ltW (L : LH) : Nat → W → W → Option Bool
  | 0, x, y => ltS x y
  | n + 1, x, y => match x with
    | .tup xs => match y with
      | .tup ys => ltL (ltW L n) (eqW L n) xs ys
      | _ => none
    | _ => ltS x y
def alL (f : W → W → Bool) : List W → List W → Bool
  | x :: xs, y :: ys => f x y && alL f xs ys
  | _, _ => true
def alW : Nat → W → W → Bool
  | 0, x, y => match x, y with
    | .int _, .int _ => true
    | .str _, .str _ => true
    | _, _ => false
  | n + 1, x, y => match x, y with
    | .int _, .int _ => true
    | .str _, .str _ => true
    | .tup xs, .tup ys => alL (alW n) xs ys
    | _, _ => false
def plW : Nat → W → Bool
  | 0, x => match x with
    | .int _ => true
    | .str _ => true
    | _ => false
  | n + 1, x => match x with
    | .int _ => true
    | .str _ => true
    | .tup xs => xs.all (plW n)
    | _ => false
section
variable {K : PySem.W.Frag} {F : Fx} {e : En} {H : Hp} {ρ : List Addr} {L : LH}
theorem plW_dat : ∀ (n : Nat) (x : W), plW n x = true → isDat L n x = true
  | 0, x, h => by cases x <;> first | rfl | (simp [plW] at h; done)
  | n + 1, x, h => by
    cases x with
    | tup xs =>
      simp only [plW, List.all_eq_true] at h
      simp only [isDat, List.all_eq_true]
      exact fun y hy => plW_dat n y (h y hy)
    | int _ => rfl
    | str _ => rfl
    | non => simp [plW] at h
    | bl _ => simp [plW] at h
    | ia _ => simp [plW] at h
    | ref _ => simp [plW] at h
    | fz _ => simp [plW] at h
theorem alL_ok {f : W → W → Bool} {g : W → PyData} (h : ∀ x y, f x y = true → alike (g x) (g y) = true) : ∀ {xs ys : List W}, alL f xs ys = true → alikeAll (xs.map g) (ys.map g) = true
  | [], ys, _ => by simp [alikeAll]
  | x :: xs, [], _ => by simp [alikeAll]
  | x :: xs, y :: ys, q => by
    simp only [alL, Bool.and_eq_true] at q
    simp only [List.map_cons, alikeAll, Bool.and_eq_true]
    exact ⟨h x y q.1, alL_ok h q.2⟩
theorem alW_ok : ∀ (n : Nat) (x y : W), alW n x y = true → alike (pyW F e L n x) (pyW F e L n y) = true
  | 0, x, y, h => by
    cases x <;> first | (simp [alW] at h; done) | (cases y <;> first | (simp [alW] at h; done) | simp [pyW, alike])
  | n + 1, x, y, h => by
    cases x with
    | tup xs => cases y with
      | tup ys =>
        simp only [alW] at h
        simp only [pyW, alike]
        exact alL_ok (alW_ok n) h
      | _ => simp [alW] at h
    | int i => cases y <;> first | (simp [alW] at h; done) | simp [pyW, alike]
    | str i => cases y <;> first | (simp [alW] at h; done) | simp [pyW, alike]
    | non => simp [alW] at h
    | bl _ => simp [alW] at h
    | ia _ => simp [alW] at h
    | ref _ => simp [alW] at h
    | fz _ => simp [alW] at h
end
theorem str_lt {F : Fx} {e : En} (he : En.Ok F e) {i j : Nat} {x y : Str} {b : Bool} (h1 : sOf F e i = some x) (h2 : sOf F e j = some y) (h : (bif (Nat.blt i 1000 == Nat.blt j 1000) then some (Nat.blt i j) else none) = some b) : decide (x.cps.toList < y.cps.toList) = b := by
  obtain ⟨c, rfl⟩ := cond_some h
  have blt_iff : ∀ m n : Nat, Nat.blt m n = decide (m < n) := fun m n => by
    cases h : Nat.blt m n with
    | true => exact (decide_eq_true (Nat.le_of_ble_eq_true h)).symm
    | false =>
      refine (decide_eq_false fun z => ?_).symm
      have : Nat.blt m n = true := Nat.ble_eq_true_of_le z
      rw [h] at this; cases this
  rw [blt_iff, blt_iff] at c
  rw [blt_iff]
  have key : ∀ {l : List Str} (hp : l.Pairwise fun x y => x.cps.toList < y.cps.toList) {i' j' : Nat}, l[i']? = some x → l[j']? = some y → decide (x.cps.toList < y.cps.toList) = decide (i' < j') := by
    intro l hp i' j' a b
    rcases Nat.lt_trichotomy i' j' with q | q | q
    · rw [decide_eq_true q, decide_eq_true (names_lt hp a b q)]
    · subst q
      rw [a] at b; cases b
      rw [decide_eq_false (Nat.lt_irrefl _), decide_eq_false (List.lt_irrefl _)]
    · rw [show decide (i' < j') = false from decide_eq_false (by omega), show decide (x.cps.toList < y.cps.toList) = false from decide_eq_false fun z => List.lt_irrefl _ (List.lt_trans z (names_lt hp b a q))]
  unfold sOf at h1 h2
  by_cases hi : i < 1000
  · by_cases hj : j < 1000
    · rw [if_pos hi] at h1
      rw [if_pos hj] at h2
      exact key he.lits h1 h2
    · rw [decide_eq_true hi, decide_eq_false hj] at c; cases c
  · by_cases hj : j < 1000
    · rw [decide_eq_false hi, decide_eq_true hj] at c; cases c
    · rw [if_neg hi] at h1
      rw [if_neg hj] at h2
      rw [key he.names h1 h2]
      by_cases q : i < j
      · rw [decide_eq_true q, decide_eq_true (by omega)]
      · rw [decide_eq_false q, decide_eq_false (by omega)]
section
variable {K : PySem.W.Frag} {F : Fx} {e : En} {H : Hp} {ρ : List Addr} {L : LH}
theorem ltS_ok (he : En.Ok F e) {n : Nat} {x y : W} {b : Bool} {vx vy : V} (rx : RelW K F e H ρ x vx) (ry : RelW K F e H ρ y vy) (h : ltS x y = some b) : dataLt (pyW F e L n x) (pyW F e L n y) = b := by
  cases x with
  | int i => cases y with
    | int j =>
      simp only [ltS, Option.some.injEq] at h
      subst h
      cases n <;> (simp only [pyW]; exact dataLt_int i j)
    | _ => simp [ltS] at h
  | str i => cases y with
    | str j =>
      simp only [ltS] at h
      obtain ⟨x, h1, rfl⟩ := rx
      obtain ⟨z, h2, rfl⟩ := ry
      cases n <;> (simp only [pyW, h1, h2, Option.getD_some, dataLt_str]; exact str_lt he h1 h2 h)
    | _ => simp [ltS] at h
  | _ => simp [ltS] at h
theorem ltW_ok (he : En.Ok F e) (R : RH K F e H ρ L) : ∀ (n : Nat) (x y : W) (b : Bool) (vx vy : V), plW n x = true → plW n y = true → alW n x y = true → RelW K F e H ρ x vx → RelW K F e H ρ y vy → ltW L n x y = some b → dataLt (pyW F e L n x) (pyW F e L n y) = b := by
  intro n
  induction n with
  | zero => intro x y b vx vy px py al rx ry h; exact ltS_ok he rx ry h
  | succ n ih =>
    intro x y b vx vy px py al rx ry h
    cases x with
    | tup xs => cases y with
      | tup ys =>
        simp only [ltW] at h
        simp only [plW, List.all_eq_true] at px py
        simp only [alW] at al
        unfold RelW at rx ry
        obtain ⟨a, us, rfl, s1, r1⟩ := rx
        obtain ⟨a', vs, rfl, s2, r2⟩ := ry
        simp only [pyW]
        rw [dataLt_tuple]
        clear s1 s2 a a'
        induction xs generalizing ys us vs with
        | nil => cases ys with
          | nil => simp only [ltL, Option.some.injEq] at h; subst h; exact lex_irrefl _
          | cons y ys =>
            simp only [ltL, Option.some.injEq] at h
            subst h
            simp only [List.map_cons, List.map_nil, toks_all_cons]
            simp only [keyToksAll]
            rw [lex_diff (O := itemOrd) (by simp)]
            rfl
        | cons x xs ihx => cases ys with
          | nil =>
            simp only [ltL, Option.some.injEq] at h
            subst h
            simp only [List.map_cons, List.map_nil, toks_all_cons]
            simp only [keyToksAll]
            rw [lex_diff (O := itemOrd) (by simp)]
            rfl
          | cons y ys =>
            simp only [alL, Bool.and_eq_true] at al
            obtain ⟨u, ur, rfl, q1, q2⟩ := r1.uncons
            obtain ⟨v, vr, rfl, p1, p2⟩ := r2.uncons
            have hx := px x List.mem_cons_self
            have hy := py y List.mem_cons_self
            simp only [ltL] at h
            rw [List.map_cons, List.map_cons, dataLt_cons (alW_ok n x y al.1)]
            split at h
            · rename_i h1
              rw [if_pos (eqW_ok he R n x y true u v (plW_dat n x hx) (plW_dat n y hy) q1 p1 h1)]
              apply ihx <;> first | exact al.2 | exact h | exact q2 | exact p2 | exact fun z hz => px z (List.mem_cons_of_mem _ hz) | exact fun z hz => py z (List.mem_cons_of_mem _ hz)
            · rename_i h1
              rw [if_neg (by rw [eqW_ok he R n x y false u v (plW_dat n x hx) (plW_dat n y hy) q1 p1 h1]; exact Bool.false_ne_true)]
              exact ih x y b u v hx hy al.1 q1 p1 h
            · cases h
      | _ => simp [ltW] at h
    | int i => simp only [ltW] at h; exact ltS_ok he rx ry h
    | str i => simp only [ltW] at h; exact ltS_ok he rx ry h
    | non => simp [plW] at px
    | bl _ => simp [plW] at px
    | ia _ => simp [plW] at px
    | ref _ => simp [plW] at px
    | fz _ => simp [plW] at px
end
end Z

set_option Elab.async false
set_option linter.all false
set_option maxRecDepth 100000
set_option maxHeartbeats 1000000
namespace Z
open PySem PySem.Spec PyProof.Rows L2 PySem.W

/-! ### insertion, by values -/
def insW (L : LH) (x : W) : List W → Option (List W)
  | [] => some [x]
  | y :: ys => match ltW L deep x y with
    | some true => some (x :: y :: ys)
    | some false => match insW L x ys with
      | some r => some (y :: r)
      | none => none
    | none => none
def isortW (L : LH) : List W → List W → Option (List W)
  | acc, [] => some acc
  | acc, x :: r => match insW L x acc with
    | some a => isortW L a r
    | none => none
section
variable {L : LH} {x : W} {le : W → W → Bool} {M : W → Prop}
theorem insW_perm : ∀ {ys r : List W}, insW L x ys = some r → r.Perm (x :: ys)
  | [], r, h => by cases h; exact List.Perm.refl _
  | y :: ys, r, h => by
    unfold insW at h
    split at h
    · cases h; exact List.Perm.refl _
    · split at h
      · rename_i r' hr
        cases h
        exact ((insW_perm hr).cons y).trans (List.Perm.swap x y ys)
      · cases h
    · cases h
/-- the order, as ltW asks it of members -/
structure Asked (L : LH) (le : W → W → Bool) (M : W → Prop) : Prop where
  lt : ∀ x y b, M x → M y → ltW L deep x y = some b → le y x = !b
  tot : ∀ x y, le x y = true ∨ le y x = true
  tr : ∀ x y z, le x y = true → le y z = true → le x z = true
theorem insW_sorted (A : Asked L le M) (hx : M x) : ∀ {ys r : List W}, (∀ y ∈ ys, M y) → (ys.Pairwise fun a b => le a b = true) → insW L x ys = some r → r.Pairwise fun a b => le a b = true
  | [], r, _, _, h => by cases h; exact List.pairwise_singleton _ _
  | y :: ys, r, hM, hs, h => by
    rw [List.pairwise_cons] at hs
    unfold insW at h
    split at h
    · rename_i h1
      cases h
      have q := A.lt x y true hx (hM y List.mem_cons_self) h1
      have xy : le x y = true := by
        rcases A.tot x y with z | z
        · exact z
        · rw [q] at z; cases z
      refine List.pairwise_cons.mpr ⟨fun z hz => ?_, List.pairwise_cons.mpr hs⟩
      rcases List.mem_cons.mp hz with e | e
      · rw [e]; exact xy
      · exact A.tr x y z xy (hs.1 z e)
    · rename_i h1
      have yx : le y x = true := A.lt x y false hx (hM y List.mem_cons_self) h1
      split at h
      · rename_i r' hr
        cases h
        refine List.pairwise_cons.mpr ⟨fun z hz => ?_, insW_sorted A hx (fun y hy => hM y (List.mem_cons_of_mem _ hy)) hs.2 hr⟩
        rcases List.mem_cons.mp ((insW_perm hr).mem_iff.mp hz) with e | e
        · rw [e]; exact yx
        · exact hs.1 z e
      · cases h
    · cases h
theorem isortW_perm : ∀ {r acc out : List W}, isortW L acc r = some out → out.Perm (acc ++ r)
  | [], acc, out, h => by cases h; rw [List.append_nil]
  | x :: r, acc, out, h => by
    unfold isortW at h
    split at h
    · rename_i a ha
      refine (isortW_perm h).trans ?_
      refine ((insW_perm ha).append_right r).trans ?_
      exact (List.perm_middle (a := x) (l₁ := acc) (l₂ := r)).symm
    · cases h
theorem isortW_sorted (A : Asked L le M) : ∀ {r acc out : List W}, (∀ y ∈ r, M y) → (∀ y ∈ acc, M y) → (acc.Pairwise fun a b => le a b = true) → isortW L acc r = some out → out.Pairwise fun a b => le a b = true
  | [], acc, out, _, _, hs, h => by cases h; exact hs
  | x :: r, acc, out, hr, ha, hs, h => by
    unfold isortW at h
    split at h
    · rename_i a hi
      have hx := hr x List.mem_cons_self
      refine isortW_sorted A (fun y hy => hr y (List.mem_cons_of_mem _ hy)) (fun y hy => ?_) (insW_sorted A hx ha hs hi) h
      rcases List.mem_cons.mp ((insW_perm hi).mem_iff.mp hy) with e | e
      · rw [e]; exact hx
      · exact ha y e
    · cases h
/-- sorted lists of the same members are the same -/
theorem sorted_uniq {α : Type} {le : α → α → Bool} : ∀ {l m : List α}, l.Perm m → (l.Pairwise fun a b => le a b = true) → (m.Pairwise fun a b => le a b = true) → (∀ a ∈ l, ∀ b ∈ l, le a b = true → le b a = true → a = b) → l = m
  | [], m, p, _, _, _ => by rw [p.nil_eq]
  | a :: l, m, p, hl, hm, an => by
    cases m with
    | nil => exact absurd p.symm.nil_eq (by simp)
    | cons b m =>
      rw [List.pairwise_cons] at hl hm
      have ab : a = b := by
        have h1 : a ∈ b :: m := p.mem_iff.mp List.mem_cons_self
        have h2 : b ∈ a :: l := p.mem_iff.mpr List.mem_cons_self
        rcases List.mem_cons.mp h1 with e | e
        · exact e
        rcases List.mem_cons.mp h2 with e2 | e2
        · exact e2.symm
        exact an a List.mem_cons_self b h2 (hl.1 b e2) (hm.1 a e)
      subst ab
      rw [sorted_uniq (p.cons_inv) hl.2 hm.2 fun x hx y hy => an x (List.mem_cons_of_mem _ hx) y (List.mem_cons_of_mem _ hy)]
end
end Z

set_option Elab.async false
set_option linter.all false
set_option maxRecDepth 100000
set_option maxHeartbeats 1000000
namespace Z
open PySem PySem.Spec PyProof.Rows L2 PySem.W

/-! ### sorted(..) -/
def isTup1 : W → Bool
  | .tup (_ :: _) => true
  | _ => false
def isAtm : W → Bool
  | .int _ => true
  | .str _ => true
  | _ => false
/-- may be sorted -/
def srtb (L : LH) (ws : List W) : Bool := ws.all (plW deep) && (ws.all (fun x => ws.all fun y => alW deep x y && (eqW L deep x y).isSome) && (ws.all isTup1 || ws.all isAtm))
def sortW (L : LH) (ws : List W) : Option (List W) := cond (srtb L ws && Nat.ble ws.length 1000000) (isortW L [] ws) none
section
variable {K : PySem.W.Frag} {F : Fx} {e : En} {H : Hp} {ρ : List Addr} {L : LH}
mutual
theorem eqW_inj : ∀ (n : Nat) (x y : W), plW n x = true → plW n y = true → eqW L n x y = some true → x = y
  | n, .int i, y, px, py, h => by
    cases y with
    | int j => cases n <;> (simp [eqW] at h; rw [h])
    | _ => cases n <;> simp [plW] at py <;> simp [eqW] at h
  | n, .str i, y, px, py, h => by
    cases y with
    | str j => cases n <;> (
        simp only [eqW] at h
        obtain ⟨_, q⟩ := cond_some h
        rw [beq_nat q])
    | _ => cases n <;> simp [plW] at py <;> simp [eqW] at h
  | n + 1, .tup xs, y, px, py, h => by
    cases y with
    | tup ys =>
      simp only [plW, List.all_eq_true] at px py
      simp only [eqW] at h
      rw [eqL_inj n xs ys px py h]
    | _ => simp [plW] at py <;> simp [eqW] at h
  | 0, .tup xs, y, px, py, h => by simp [plW] at px
  | n, .non, y, px, py, h => by cases n <;> simp [plW] at px
  | n, .bl _, y, px, py, h => by cases n <;> simp [plW] at px
  | n, .ia _, y, px, py, h => by cases n <;> simp [plW] at px
  | n, .ref _, y, px, py, h => by cases n <;> simp [plW] at px
  | n, .fz _, y, px, py, h => by cases n <;> simp [plW] at px
theorem eqL_inj : ∀ (n : Nat) (xs ys : List W), (∀ x ∈ xs, plW n x = true) → (∀ y ∈ ys, plW n y = true) → eqL (eqW L n) xs ys = some true → xs = ys
  | n, [], ys, _, _, h => by cases ys <;> simp [eqL] at h; rfl
  | n, x :: xs, ys, px, py, h => by
    cases ys with
    | nil => simp [eqL] at h
    | cons y ys =>
      simp only [eqL] at h
      split at h
      · rename_i h1
        rw [eqW_inj n x y (px x List.mem_cons_self) (py y List.mem_cons_self) h1, eqL_inj n xs ys (fun z hz => px z (List.mem_cons_of_mem _ hz)) (fun z hz => py z (List.mem_cons_of_mem _ hz)) h]
      · cases h
      · cases h
end

theorem dlt_asym (x y : PyData) (h : dataLt x y = true) : dataLt y x = false := by
  cases q : dataLt y x with
  | false => rfl
  | true =>
    have := lex_trans (O := itemOrd) _ _ _ h q
    rw [lex_irrefl (O := itemOrd)] at this
    cases this
theorem dlt_ntrans (x y z : PyData) (h1 : dataLt y x = false) (h2 : dataLt z y = false) : dataLt z x = false := by
  cases q : dataLt z x with
  | false => rfl
  | true =>
    exfalso
    unfold dataLt at *
    cases q2 : PyProof.Rows.lexLt itemOrd (keyToks x) (keyToks y) with
    | true =>
      have := lex_trans (O := itemOrd) _ _ _ q q2
      rw [h2] at this; cases this
    | false =>
      have := lex_total (O := itemOrd) _ _ q2 h1
      rw [this] at q
      rw [h2] at q; cases q
/-- not less both ways: the same -/
theorem dlt_same {x y : PyData} (h : alike x y = true) (h1 : dataLt x y = false) (h2 : dataLt y x = false) : PyData.eqv x y = true := by
  cases q : PyData.eqv x y with
  | true => rfl
  | false =>
    exfalso
    have e := lex_total (O := itemOrd) (keyToks x) (keyToks y) h1 h2
    have z := (toks_eqv x y h).2 q [] [.inl 0]
    rw [e, lex_pre, lex_irrefl (O := itemOrd)] at z
    have : PyProof.Rows.lexLt itemOrd [] [Sum.inl 0] = true := rfl
    rw [this] at z; cases z
variable {ws ws' : List W} {vs : List V}
theorem le_asked (he : En.Ok F e) (R : RH K F e H ρ L) (hp : ws.all (plW deep) = true) (ha : ws.all (fun x => ws.all fun y => alW deep x y && (eqW L deep x y).isSome) = true) (r : RelWs K F e H ρ ws vs) :
    Asked L (fun a b => !dataLt (pyW F e L deep b) (pyW F e L deep a)) (fun x => x ∈ ws) := by
  rw [List.all_eq_true] at hp ha
  refine ⟨fun x y b hx hy h => ?_, fun x y => ?_, fun x y z h1 h2 => ?_⟩
  · obtain ⟨i, hi⟩ := List.mem_iff_getElem?.mp hx
    obtain ⟨j, hj⟩ := List.mem_iff_getElem?.mp hy
    obtain ⟨vx, _, rx⟩ := r.get hi
    obtain ⟨vy, _, ry⟩ := r.get hj
    have q := ha x hx
    rw [List.all_eq_true] at q
    have q2 := q y hy
    rw [Bool.and_eq_true] at q2
    show (!dataLt (pyW F e L deep x) (pyW F e L deep y)) = !b
    rw [ltW_ok he R deep x y b vx vy (hp x hx) (hp y hy) q2.1 rx ry h]
  · show (!dataLt _ _) = true ∨ (!dataLt _ _) = true
    cases q : dataLt (pyW F e L deep y) (pyW F e L deep x) with
    | false => exact .inl rfl
    | true => rw [dlt_asym _ _ q]; exact .inr rfl
  · have h1' : dataLt (pyW F e L deep y) (pyW F e L deep x) = false := by simpa using h1
    have h2' : dataLt (pyW F e L deep z) (pyW F e L deep y) = false := by simpa using h2
    show (!dataLt _ _) = true
    rw [dlt_ntrans _ _ _ h1' h2']
    rfl
theorem le_anti (he : En.Ok F e) (R : RH K F e H ρ L) (hp : ws.all (plW deep) = true) (ha : ws.all (fun x => ws.all fun y => alW deep x y && (eqW L deep x y).isSome) = true) (r : RelWs K F e H ρ ws vs) (x y : W) (hx : x ∈ ws) (hy : y ∈ ws)
    (h1 : dataLt (pyW F e L deep y) (pyW F e L deep x) = false) (h2 : dataLt (pyW F e L deep x) (pyW F e L deep y) = false) : x = y := by
  rw [List.all_eq_true] at hp ha
  obtain ⟨i, hi⟩ := List.mem_iff_getElem?.mp hx
  obtain ⟨j, hj⟩ := List.mem_iff_getElem?.mp hy
  obtain ⟨vx, _, rx⟩ := r.get hi
  obtain ⟨vy, _, ry⟩ := r.get hj
  have q := ha x hx
  rw [List.all_eq_true] at q
  have q2 := q y hy
  rw [Bool.and_eq_true] at q2
  obtain ⟨b, hb⟩ := Option.isSome_iff_exists.mp q2.2
  have ev := dlt_same (alW_ok (F := F) (e := e) (L := L) deep x y q2.1) h2 h1
  have eb := eqW_ok he R deep x y b vx vy (plW_dat deep x (hp x hx)) (plW_dat deep y (hp y hy)) rx ry hb
  rw [ev] at eb
  subst eb
  exact eqW_inj deep x y (hp x hx) (hp y hy) hb
end
end Z

set_option Elab.async false
set_option linter.all false
set_option maxRecDepth 100000
set_option maxHeartbeats 1000000
namespace Z
open PySem PySem.Spec PyProof.Rows L2 PySem.W

/-! ### sorted(list) -/
section
variable {K : PySem.W.Frag} {F : Fx} {e : En} {H : Hp} {ρ : List Addr} {L : LH} {ws ws' : List W} {ys : List V}
theorem zip_fst : ∀ {ws : List W} {ys : List V}, RelWs K F e H ρ ws ys → (ws.zip ys).map (·.1) = ws
  | [], ys, _ => by simp
  | w :: ws, ys, r => by
    obtain ⟨v, vr, rfl, r1, r2⟩ := r.uncons
    rw [List.zip_cons_cons, List.map_cons, zip_fst r2]
theorem zip_rel : ∀ {ws : List W} {ys : List V}, RelWs K F e H ρ ws ys → ∀ p ∈ ws.zip ys, RelW K F e H ρ p.1 p.2
  | [], ys, _ => by simp
  | w :: ws, ys, r => by
    obtain ⟨v, vr, rfl, r1, r2⟩ := r.uncons
    intro p hp
    rw [List.zip_cons_cons] at hp
    rcases List.mem_cons.mp hp with e1 | e1
    · rw [e1]; exact r1
    · exact zip_rel r2 p e1
theorem pairs_rel : ∀ {l : List (W × V)}, (∀ p ∈ l, RelW K F e H ρ p.1 p.2) → RelWs K F e H ρ (l.map (·.1)) (l.map (·.2))
  | [], _ => .nil
  | p :: l, h => .cons (h p List.mem_cons_self) (pairs_rel fun q hq => h q (List.mem_cons_of_mem _ hq))
theorem zip_each : ∀ {ws : List W} {ys : List V} {us : List Value}, RelWs K F e H ρ ws ys → Vals ys us → EachIs (fun u (p : W × V) => RelV p.2 u) us (ws.zip ys)
  | [], ys, us, r, v => by
    unfold RelWs at r
    subst r
    cases v
    exact .nil
  | w :: ws, ys, us, r, v => by
    obtain ⟨y, yr, rfl, r1, r2⟩ := r.uncons
    cases v with
    | cons h t =>
      rw [List.zip_cons_cons]
      exact .cons h (zip_each r2 t)
theorem each_vals : ∀ {l : List (W × V)} {us : List Value}, EachIs (fun u (p : W × V) => RelV p.2 u) us l → Vals (l.map (·.2)) us
  | _, _, .nil => .nil
  | _, _, .cons h t => .cons h (each_vals t)
abbrev encW (F : Fx) (e : En) (L : LH) : W × V → PyData := fun p => pyW F e L deep p.1
theorem sort_fst (he : En.Ok F e) (R : RH K F e H ρ L) (hp : ws.all (plW deep) = true) (ha : ws.all (fun x => ws.all fun y => alW deep x y && (eqW L deep x y).isSome) = true) (r : RelWs K F e H ρ ws ys) (hi : isortW L [] ws = some ws') :
    ((ws.zip ys).mergeSort (dataLe false (encW F e L))).map (·.1) = ws' := by
  have A := le_asked he R hp ha r
  have p1 : (((ws.zip ys).mergeSort (dataLe false (encW F e L))).map (·.1)).Perm ws := by
    have := (List.mergeSort_perm (ws.zip ys) (dataLe false (encW F e L))).map (·.1)
    rwa [zip_fst r] at this
  have p2 : ws'.Perm ws := by
    have := isortW_perm hi
    rwa [List.nil_append] at this
  refine sorted_uniq (le := fun a b => !dataLt (pyW F e L deep b) (pyW F e L deep a)) (p1.trans p2.symm) ?_ ?_ fun a ha' b hb h1 h2 => ?_
  · rw [List.pairwise_map]
    exact List.pairwise_mergeSort (le := dataLe false (encW F e L)) (fun a b c h1 h2 => A.tr a.1 b.1 c.1 h1 h2) (fun a b => Bool.or_eq_true_iff.mpr (A.tot a.1 b.1)) (ws.zip ys)
  · exact isortW_sorted A (fun y hy => hy) (fun y hy => by cases hy) List.Pairwise.nil hi
  · exact le_anti he R hp ha r a b (p1.mem_iff.mp ha') (p1.mem_iff.mp hb) (by simpa using h1) (by simpa using h2)
/-- what sorted(l) makes -/
def SortSem (X : Cx) (H : Hp) (p : Addr) (out : List V) : Prop := ∀ (pins : List (Addr × Obj)) (σ : St) (s : Shared) (E : Value → Shared → Prop) (Q' : Value → Shared → Prop), Inv X pins σ H s → (∀ l s', H l = none → Inv X pins σ (upd H l (.lst out)) s' → Q' (.ref l) s') →
  wpAny (model X.prog X.w) X.A (call (.builtin "sorted") [.ref p]) Q' E s
theorem srtb_parts (h : srtb L ws = true) : ws.all (plW deep) = true ∧ ws.all (fun x => ws.all fun y => alW deep x y && (eqW L deep x y).isSome) = true ∧ (ws.all isTup1 = true ∨ ws.all isAtm = true) := by
  unfold srtb at h
  rw [Bool.and_eq_true, Bool.and_eq_true, Bool.or_eq_true] at h
  exact ⟨h.1, h.2.1, h.2.2⟩
theorem srt_able (h : ws.all isTup1 = true ∨ ws.all isAtm = true) : Sortable ((ws.zip ys).map (encW F e L)) := by
  have mem : ∀ d ∈ (ws.zip ys).map (encW F e L), ∃ w ∈ ws, d = pyW F e L deep w := fun d hd => by
    obtain ⟨p, hp, rfl⟩ := List.mem_map.mp hd
    exact ⟨p.1, (List.of_mem_zip hp).1, rfl⟩
  rcases h with h | h
  · refine .inl fun d hd => ?_
    obtain ⟨w, hw, rfl⟩ := mem d hd
    have := List.all_eq_true.mp h w hw
    cases w with
    | tup xs => cases xs with
      | nil => simp [isTup1] at this
      | cons x xs => exact ⟨_, _, rfl⟩
    | _ => simp [isTup1] at this
  · refine .inr fun d hd => ?_
    obtain ⟨w, hw, rfl⟩ := mem d hd
    have := List.all_eq_true.mp h w hw
    cases w with
    | int i => exact ⟨fun z => by simp [pyW] at z, fun _ z => by simp [pyW] at z⟩
    | str i => exact ⟨fun z => by simp [pyW] at z, fun _ z => by simp [pyW] at z⟩
    | _ => simp [isAtm] at this
theorem srt_alike (h : ws.all (fun x => ws.all fun y => alW deep x y && (eqW L deep x y).isSome) = true) : AllAlike ((ws.zip ys).map (encW F e L)) := by
  intro d hd d' hd'
  obtain ⟨p, hp, rfl⟩ := List.mem_map.mp hd
  obtain ⟨q, hq, rfl⟩ := List.mem_map.mp hd'
  have z := List.all_eq_true.mp h p.1 (List.of_mem_zip hp).1
  have z2 := List.all_eq_true.mp z q.1 (List.of_mem_zip hq).1
  rw [Bool.and_eq_true] at z2
  exact alW_ok deep p.1 q.1 z2.1
theorem sort_sem {X : Cx} (hK : X.K = K) (hu : X.A.units + 64 < cLine) (he : En.Ok F e) (R : RH K F e H ρ L) (h : sortW L ws = some ws') {p : Addr} (hq : SqL X.K H p ys) (r : RelWs K F e H ρ ws ys) :
    ∃ out, RelWs K F e H ρ ws' out ∧ SortSem X H p out := by
  subst hK
  unfold sortW at h
  obtain ⟨hc, hi⟩ := cond_opt h
  rw [Bool.and_eq_true] at hc
  obtain ⟨hp, ha, hs⟩ := srtb_parts hc.1
  have hlen : ws.length ≤ sizeLine := line_ok (Nat.le_of_ble_eq_true hc.2)
  have zl : (ws.zip ys).length = ws.length := by rw [List.length_zip, r.length, Nat.min_self]
  refine ⟨((ws.zip ys).mergeSort (dataLe false (encW F e L))).map (·.2), ?_, ?_⟩
  · have q := pairs_rel (K := X.K) (F := F) (e := e) (H := H) (ρ := ρ) (l := (ws.zip ys).mergeSort (dataLe false (encW F e L))) fun p hp' => zip_rel r p ((List.mergeSort_perm _ _).mem_iff.mp hp')
    rw [sort_fst he R hp ha r hi] at q
    exact q
  · intro pins σ s E Q' I k
    obtain ⟨its, rv, pl, hz⟩ := I.list hq
    have dp : ∀ p ∈ ws.zip ys, (encW F e L p).depth ≤ deep ∧ ∀ v, RelW X.K F e H ρ p.1 v → Dp X.K H v (encW F e L p) := fun p hp' => by
      obtain ⟨d1, d2⟩ := dat_ok he R deep p.1 (plW_dat deep p.1 (List.all_eq_true.mp hp p.1 (List.of_mem_zip hp').1))
      exact ⟨d1, fun v hv => (d2 v hv).1⟩
    have ee := zip_each r rv
    refine sorted_data (enc := encW F e L) pl.isList ee ?_ (srt_alike ha) (srt_able hs) (by rw [zl]; exact hlen) (fun b hb => ?_) fun out ho eo => ?_
    · refine (each_mem ee).mono fun u q ⟨h1, h2⟩ => ?_
      exact Dp.reads I _ _ _ ((dp q h2).2 q.2 (zip_rel r q h2)) h1
    · have := (dp b hb).1
      have : (deep : Nat) = 16 := rfl
      omega
    · have vo := each_vals eo
      obtain ⟨ep, hat⟩ := sortedAll_at s.heap its out.toArray
      refine k _ _ (I.hok.fresh (Nat.le_succ _)) (I.laid (a := s.heap.objs.size + 1) (o := .lst _) (t' := s.toks) (fun b u q => sortedAll_old q) (Nat.le_succ _) ⟨?_, out, ep, vo, hat⟩)
      rw [List.length_map, (List.mergeSort_perm _ _).length_eq, zl]
      exact hlen
/-- sorted(l) -/
def fSorted : List W → LH → Option (W × LH) := fun xs L => match xs with
  | [.ref n] => match L.get n with
    | some (.lst ws) => match sortW L ws with
      | some ws' => fLst ws' L
      | none => none
    | _ => none
  | _ => none
abbrev rSortZ (X : Cx) : List V → Hp → VK → Prop := fun vs H Q => ∃ p out, vs = [.ref p] ∧ SortSem X H p out ∧ ∀ l, H l = none → Q (.ref l) (upd H l (.lst out))
theorem cr_sortedZ {X : Cx} : CallR X (.builtin "sorted") (rSortZ X) := by
  rintro pins s σ H xs us Q I rx ⟨p, out, rfl, sem, q⟩
  obtain ⟨u, rfl, ru⟩ := vals1' rx
  cases ru
  exact sem pins σ s _ _ I fun l s' hl I' => ⟨.ref l, _, I', rfl, q l hl⟩
theorem cz_sorted {X : Cx} (hu : X.A.units + 64 < cLine) : CallZ X.K F (rSortZ X) fSorted := by
  intro e ρ H L xs vs w L' Q he R rx h k
  unfold fSorted at h
  split at h
  · rename_i n
    split at h
    · rename_i ws g
      split at h
      · rename_i ws' hw
        obtain ⟨h2, h3, rfl, rfl⟩ := fLst_spec h
        obtain ⟨v, rfl, rv⟩ := rel1 rx
        unfold RelW at rv
        obtain ⟨a, rfl, ha⟩ := rv
        obtain ⟨a', us, p1, p2, p3⟩ := R.lst g
        rw [ha] at p1; cases p1
        obtain ⟨out, ro, sem⟩ := sort_sem (X := X) rfl hu he R hw (SqL.of p2) p3
        refine ⟨a, out, rfl, sem, fun l hl => ?_⟩
        obtain ⟨f2, r2, w2⟩ := new_lst R hl h3 ro
        exact k _ _ _ f2 r2 w2
      · cases h
    · cases h
  · cases h
end
end Z

set_option Elab.async false
set_option linter.all false
set_option maxRecDepth 100000
set_option maxHeartbeats 1000000
namespace Z
open PySem PySem.Spec PyProof.Rows L2 PySem.W

/-! ### max(ints, default=d) -/
def intsOf : List W → Option (List Int)
  | [] => some []
  | .int i :: r => match intsOf r with
    | some is => some (i :: is)
    | none => none
  | _ :: _ => none
def fMaxD : List W → List W → LH → Option (W × LH) := fun xs zs L => match xs with
  | [.ref n] => match zs with
    | [z] => match L.get n with
      | some (.lst ws) => match intsOf ws with
        | some [] => some (z, L)
        | some (i :: is) => cond (Nat.ble ws.length 1000000) (some (.int (is.foldl max i), L)) none
        | none => none
      | _ => none
    | _ => none
  | _ => none
theorem intsOf_rel {K : PySem.W.Frag} {F : Fx} {e : En} {H : Hp} {ρ : List Addr} : ∀ {ws : List W} {is : List Int} {vs : List V}, intsOf ws = some is → RelWs K F e H ρ ws vs → vs = is.map V.int
  | [], is, vs, h, r => by
    cases h
    unfold RelWs at r
    exact r
  | w :: ws, is, vs, h, r => by
    cases w with
    | int i =>
      simp only [intsOf] at h
      split at h
      · rename_i js hj
        cases h
        obtain ⟨v, vr, rfl, r1, r2⟩ := r.uncons
        cases r1
        rw [intsOf_rel hj r2]
        rfl
      · cases h
    | _ => simp [intsOf] at h
abbrev rMaxZ (K : PySem.W.Frag) : List V → List V → Hp → VK → Prop := fun vs zs H Q => ∃ p is z, vs = [.ref p] ∧ zs = [z] ∧ SqL K H p (is.map V.int) ∧ (is = [] → Q z H) ∧ ∀ i r, is = i :: r → Q (.int (r.foldl max i)) H
theorem reads_ints {h : Heap} : ∀ {is : List Int} {us : List Value}, Vals (is.map V.int) us → ∃ as, ReadsAll h us (is.map PyData.int) as
  | [], us, r => by rw [List.map_nil] at r; cases r; exact ⟨[], .nil⟩
  | i :: is, us, r => by
    rw [List.map_cons] at r
    cases r with
    | cons a b =>
      obtain ⟨t, rfl⟩ := a
      obtain ⟨as, q⟩ := reads_ints b
      exact ⟨_, .cons (.int i t) q⟩
theorem cr_maxZ {X : Cx} (hc : X.calm = true) (hu : X.A.units + 64 < cLine) : CallRK X (.builtin "max") [Str.ofString "default"] (rMaxZ X.K) := by
  rintro pins s σ H vs zs us ws Q I r rz ⟨p, is, z, rfl, rfl, hs, q0, q1⟩
  obtain ⟨u, rfl, ru⟩ := vals1' r
  cases ru
  obtain ⟨d, rfl, rd⟩ := vals1' rz
  obtain ⟨its, rv, pl, hz⟩ := I.list hs
  obtain ⟨as, ra⟩ := reads_ints (h := s.heap) rv
  show wpAny _ _ (call (.builtin "max") [.ref p] [(Str.ofString "default", d)]) _ _ s
  refine max_list_default (xs := is.map PyData.int) (as := as) (I.ok.hd hc) pl.isList (by simpa using ra) ⟨?_, ?_⟩ ?_ ?_ ?_
  · intro x hx y hy
    obtain ⟨i, _, rfl⟩ := List.mem_map.mp hx
    obtain ⟨j, _, rfl⟩ := List.mem_map.mp hy
    simp [alike]
  · intro x hx
    obtain ⟨i, _, rfl⟩ := List.mem_map.mp hx
    exact fun z => nomatch z
  · rw [depth_ints]; omega
  · intro he h' tk hk
    have : is = [] := by simpa using he
    exact ⟨z, H, I.kept hk, rd, q0 this⟩
  · intro y yr i v h' tk bs he hv hr hk
    cases is with
    | nil => cases he
    | cons j js =>
      rw [List.map_cons] at he
      cases he
      rw [maxD_ints] at hr
      cases hr
      exact ⟨.int _, H, I.kept hk, ⟨_, rfl⟩, q1 j js rfl⟩
/-- f(.., k = v) of a builtin -/
def mAppB (f : List W → List W → LH → Option (W × LH)) (r k : Ea) : Ex := fun sl L => match r sl L with
  | none => none
  | some (xs, L1) => match k sl L1 with
    | none => none
    | some (zs, L2) => f xs zs L2
def CallKZ (K : PySem.W.Frag) (F : Fx) (r : List V → List V → Hp → VK → Prop) (f : List W → List W → LH → Option (W × LH)) : Prop := ∀ (e : En) (ρ : List Addr) (H : Hp) (L : LH) (xs zs : List W) (vs us : List V) (w : W) (L' : LH) (Q : VK), En.Ok F e → RH K F e H ρ L →
  RelWs K F e H ρ xs vs → RelWs K F e H ρ zs us → f xs zs L = some (w, L') → (∀ ρ' H' v, Fm ρ ρ' H H' → RH K F e H' ρ' L' → RelW K F e H' ρ' w v → Q v H') → r vs us H Q
theorem cz_maxZ {K : PySem.W.Frag} {F : Fx} : CallKZ K F (rMaxZ K) fMaxD := by
  intro e ρ H L xs zs vs us w L' Q he R rx rz h k
  unfold fMaxD at h
  split at h
  · rename_i n
    split at h
    · rename_i z
      split at h
      · rename_i ws g
        obtain ⟨v, rfl, rv⟩ := rel1 rx
        obtain ⟨d, rfl, rd⟩ := rel1 rz
        unfold RelW at rv
        obtain ⟨a, rfl, ha⟩ := rv
        obtain ⟨a', ys, p1, p2, p3⟩ := R.lst g
        rw [ha] at p1; cases p1
        split at h
        · rename_i hi
          cases h
          have e1 := intsOf_rel hi p3
          subst e1
          exact ⟨a, [], d, rfl, rfl, SqL.of p2, fun _ => k ρ H _ .refl R rd, fun i r z => nomatch z⟩
        · rename_i i is hi
          obtain ⟨q, h⟩ := cond_some h
          cases h
          have e1 := intsOf_rel hi p3
          subst e1
          refine ⟨a, i :: is, d, rfl, rfl, SqL.of p2, (fun z => nomatch z), fun j r z => ?_⟩
          cases z
          exact k ρ H _ .refl R rfl
        · cases h
      · cases h
    · cases h
  · cases h
section
variable {X : Cx} {F : Fx} {r : List V → List V → Hp → VK → Prop} {f : List W → List W → LH → Option (W × LH)} {mr mk : Ea} {a : Expr} {es : List Expr} {kws : List Keyword} {x : Str} {p pos : Pos} {id : String} {ks : List Str}
theorem ze_callBK (hz : CallKZ X.K F r f) (hc : CallRK X (.builtin id) ks r) (hg : Gl X x) (hm : X.mg x = none) (hv : bootBuiltins x = some (.builtin id)) (ha : PA X (a :: es) (TAZ X.K F mr)) (hk : PK X kws (TAZ X.K F mk)) (hn : x ≠ "__name__" := by decide) (hdb : (x == ("__debug__" : Str)) = false := by decide)
    (he : backTo pos (starEach (a :: es) X.env) = (false, eval a X.env) :: backTo pos (starEach es X.env) := by rfl) (hpl : (backTo pos (starEach (a :: es) X.env)).any (·.1) = false := by rfl)
    (hall : (backToKw pos (keywordEach kws X.env)).all (·.1.isSome) = true := by rfl) (hnone : (backToKw pos (keywordEach kws X.env)).any (·.1.isNone) = false := by rfl) (hks : (backToKw pos (keywordEach kws X.env)).filterMap (·.1) = ks := by rfl) :
    PE X (.Call (.Name x p) (a :: es) kws pos) (TZ X.K F (mAppB f mr mk)) := by
  refine PE.imp (pe_callBK hc hg hm hv ha hk hn hdb he hpl hall hnone hks) ?_
  rintro σ H Q ⟨e, ρ, sl, L, w, L', he, hs, hh, hm, k⟩
  unfold mAppB at hm
  split at hm
  · cases hm
  rename_i xs L1 h1
  split at hm
  · cases hm
  rename_i zs L2 h2
  refine ⟨e, ρ, sl, L, _, _, he, hs, hh, h1, fun ρ1 H1 vs f1 r1 w1 => ?_⟩
  refine ⟨e, ρ1, sl, L1, _, _, he, f1.relSl hs, r1, h2, fun ρ2 H2 us f2 r2 w2 => ?_⟩
  exact hz e ρ2 H2 L2 xs zs vs us w L' Q he r2 (f2.rels w1) w2 hm fun ρ' H' v f3 r3 w3 => k ρ' H' v ((f1.trans f2).trans f3) r3 w3
end
end Z

set_option Elab.async false
set_option linter.all false
set_option maxRecDepth 100000
set_option maxHeartbeats 1000000
namespace Z
open PySem PySem.Spec PyProof.Rows L2 PySem.W

/-! ### list(d.values()), list(d) -/
def viewZ (p a : Addr) : HO := .ext fun h => h.IsValuesView p a
abbrev rValsV (X : Cx) : V → List V → Hp → VK → Prop := fun x vs H Q => ∃ a uo ks ys, x = .ref a ∧ vs = [] ∧ Rd H a uo ∧ Rows X a uo ks ys ∧ ∀ p, H p = none → Q (.ref p) (upd H p (viewZ p a))
theorem rd_raw {X : Cx} {pins : List (Addr × Obj)} {σ : St} {H : Hp} {s : Shared} {a : Addr} {u : HO} {ks vs : List V} (I : Inv X pins σ H s) (h : Rd H a u) (r : Rows X a u ks vs) : ∃ o, s.heap.get? a = some o ∧ RawRel o ks vs := by
  have x := h.ok I.hok
  obtain ⟨o, ho⟩ := r.2.2 _ _ x
  exact ⟨o, ho, r.2.1 _ _ _ ho x⟩
theorem mt_valsZ {X : Cx} : MtR X "dict.values" (rValsV X) := by
  rintro pins s σ H x xs v us Q I rx rxs ⟨a, uo, ks, ys, rfl, rfl, hr, rws, q⟩
  cases rx
  cases rxs
  obtain ⟨o, ho, es, ep, hx, hdt, _⟩ := rd_raw I hr rws
  refine call_meetsIn PySem.F.slot_dict_values ⟨o, ho, hx.1⟩ PySem.F.entry_dict_values (PySem.F.args_dict_values_1 _) (meets_dict_values_raw a rws.1) ⟨⟨es, ep, o, ho, hx, hdt⟩, ?_⟩
  refine ⟨.ref s.heap.objs.size, _, I.laid (a := s.heap.objs.size) (o := viewZ s.heap.objs.size a) (t' := s.toks) (fun b ob q => Heap.get?_push_of_some _ q) (Nat.le_refl _) ?_, rfl, q _ (I.hok.fresh (Nat.le_refl _))⟩
  refine ⟨⟨_, Heap.get?_push_size _ rfl, rfl, rfl⟩, ⟨_, Heap.get?_push_size _ rfl⟩, ?_⟩
  rintro h1 h2 ⟨o', e1, e2, e3⟩ kk
  exact ⟨o', kk _ e1, e2, e3⟩
abbrev rListV (X : Cx) : List V → Hp → VK → Prop := fun vs H Q => ∃ p a uo ks ys, vs = [.ref p] ∧ H p = some (viewZ p a) ∧ Rd H a uo ∧ Rows X a uo ks ys ∧ ys.length ≤ sizeLine ∧ ∀ l, H l = none → Q (.ref l) (upd H l (.lst ys))
theorem call_listV {X : Cx} (hc : X.calm = true) : CallR X (.type "list") (rListV X) := by
  rintro pins s σ H xs us Q I rx ⟨p, a, uo, ks, ys, rfl, hp, hr, rws, hl, q⟩
  obtain ⟨u, rfl, ru⟩ := vals1' rx
  cases ru
  obtain ⟨o, ho, es, ep, hx, hdt, hsz, hvl, hrow⟩ := rd_raw I hr rws
  obtain ⟨hv, _, _⟩ := I.hok p _ hp
  refine kdl_call (KdlSrc.rawValues (es := es) (ep := ep) (d := a)) (I.ok.hd hc) ⟨hv, o, ho, hx, hdt⟩ (by omega) fun h' tk acc' c' hk hat hacc => ?_
  refine ⟨.ref s.heap.objs.size, _, I.laid (a := s.heap.objs.size) (o := .lst ys) (t' := tk) hk (Nat.le_refl _) ⟨hl, acc'.toList, c', ?_, by simpa using hat⟩, rfl, q _ (I.hok.fresh (Nat.le_refl _))⟩
  obtain ⟨z1, z2⟩ := hacc
  have key : ∀ (n : Nat) (zs : List V) (us : List Value), zs.length = us.length → (∀ (i : Nat) (z : V) (u : Value), zs[i]? = some z → us[i]? = some u → RelV z u) → Vals zs us := by
    intro n zs
    induction zs with
    | nil => intro us hl' _; cases us with
      | nil => exact .nil
      | cons _ _ => simp at hl'
    | cons z zs ih => intro us hl' h; cases us with
      | nil => simp at hl'
      | cons u us => exact .cons (h 0 z u rfl rfl) (ih us (by simpa using hl') fun i z' u' a b => h (i + 1) z' u' (by simpa using a) (by simpa using b))
  refine key 0 ys acc'.toList (by have : acc'.toList.length = acc'.size := Array.length_toList; omega) fun i z u hz hu' => ?_
  have hi : i < ks.length := by have := (List.getElem?_eq_some_iff.mp hz).1; omega
  obtain ⟨en, e1, _, e3⟩ := hrow i ks[i] z (List.getElem?_eq_getElem hi) hz
  obtain ⟨hi2, e4⟩ := z2 i u (by rw [← Array.getElem?_toList]; exact hu')
  rw [e4]
  have := (Array.getElem?_eq_some_iff.mp e1).2
  rw [this]
  exact e3
/-- list(d.values()) -/
def mListVals (a : Ex) : Ex := fun sl L => match a sl L with
  | some (.ref n, L1) => match tabOf L1 n with
    | some kvs => fLst (kvs.map fun p => p.2) L1
    | none => none
  | _ => none
theorem ze_listVals {X : Cx} {F : Fx} {o : Expr} {ma : Ex} {apos cpos p pos : Pos} (hX : FxOk X F) (hc : X.calm = true) (hg : Gl X "list") (hm : X.mg "list" = none) (hv : bootBuiltins "list" = some (.type "list")) (ho : PE X o (TZ X.K F ma))
    (hbase : attributeBase o "values" X.env (eval o X.env) = eval o X.env := by rfl) (hline : (apos.endLine == cpos.line) = true := by rfl)
    (he : starEach [.Call (.Attribute o "values" apos) [] [] cpos] X.env = [(false, eval (.Call (.Attribute o "values" apos) [] [] cpos) X.env)] := by rfl) :
    PE X (.Call (.Name "list" p) [.Call (.Attribute o "values" apos) [] [] cpos] [] pos) (TZ X.K F (mListVals ma)) := by
  refine PE.imp (pe_callTy (call_listV hc) hg hm hv (pa_cons (pe_mG0 ty_dctZ PySem.F.plainAttrs_dict PySem.F.slot_dict_values PySem.F.type_dict_values mt_valsZ ho hbase hline) pa_nil he) (by decide) (by decide) he rfl) ?_
  rintro σ H Q ⟨e, ρ, sl, L, w, L', he, hs, hh, hm, k⟩
  unfold mListVals at hm
  split at hm
  · rename_i n L1 h1
    split at hm
    · rename_i kvs ht
      obtain ⟨h2, h3, rfl, rfl⟩ := fLst_spec hm
      refine ⟨e, ρ, sl, L, _, _, he, hs, hh, h1, fun ρ1 H1 v f1 r1 w1 => ?_⟩
      obtain ⟨a, uo, ha, hr, d⟩ := r1.tab ht
      have ty := tz_dct hX e ρ1 H1 L1 (.ref n) v r1 w1 (by simp [isD, ht])
      unfold RelW at w1
      obtain ⟨a', rfl, ha'⟩ := w1
      rw [ha] at ha'; cases ha'
      obtain ⟨ks, ys, rws, q1, q2⟩ := dct_rows hX d
      refine ⟨ty, a, uo, ks, ys, rfl, rfl, hr, rws, fun p hp => ?_⟩
      have hpa : a ≠ p := fun z => by
        subst z
        rcases hr with hr | ⟨o, hr⟩ <;> (rw [hr] at hp; cases hp)
      have fv : Fm ρ1 ρ1 H1 (upd H1 p (viewZ p a)) := fm_new hp
      have rv := r1.new (o := viewZ p a) hp
      show rListV X [.ref p] (upd H1 p (viewZ p a)) Q
      refine ⟨p, a, uo, ks, ys, rfl, upd_same, ?_, rws, ?_, fun l hl => ?_⟩
      · rcases hr with hr | ⟨o, hr⟩
        · exact .inl (by rw [upd_ne hpa]; exact hr)
        · exact .inr ⟨o, by rw [upd_ne hpa]; exact hr⟩
      · rw [q2.length]; exact h2
      · obtain ⟨f2, r2, w2⟩ := new_lst rv hl h3 (fv.rels q2)
        exact k _ _ _ ((f1.trans fv).trans f2) r2 w2
    · cases hm
  · cases hm
end Z

set_option Elab.async false
set_option linter.all false
set_option maxRecDepth 100000
/-! Z: classes without slots: an instance with its own dict, its names told in advance. -/
namespace Z
open PySem PySem.Spec PyProof.Rows L2

theorem lookup_at : ∀ {ps : List (Str × V)} {names : List Str} {k : Nat} {i : Nat} {p : Str × V}, names.Nodup → ps.map (·.1) = names.take k → ps[i]? = some p → ps.lookup p.1 = some p.2 ∧ names[i]? = some p.1
  | [], _, _, i, p, _, _, h => by simp at h
  | q :: ps, [], k, i, p, _, e, h => by simp at e
  | q :: ps, n :: names, 0, i, p, _, e, h => by simp at e
  | q :: ps, n :: names, k + 1, 0, p, nd, e, h => by
    have : q = p := by simpa using h
    subst this
    have e2 : q.1 = n := by simpa using (List.cons.inj (show q.1 :: ps.map (·.1) = n :: names.take k from e)).1
    obtain ⟨q1, q2⟩ := q
    refine ⟨?_, by simpa using e2.symm⟩
    simp [List.lookup]
  | q :: ps, n :: names, k + 1, i + 1, p, nd, e, h => by
    obtain ⟨e1, e2⟩ := List.cons.inj (show q.1 :: ps.map (·.1) = n :: names.take k from e)
    obtain ⟨nd1, nd2⟩ := List.nodup_cons.mp nd
    obtain ⟨i1, i2⟩ := lookup_at nd2 e2 (by simpa using h)
    obtain ⟨q1, q2⟩ := q
    refine ⟨?_, by simpa using i2⟩
    have hne : (p.1 == q1) = false := by
      rw [beq_eq_false_iff_ne]
      intro z
      have hm : p.1 ∈ names := List.mem_iff_getElem?.mpr ⟨i, i2⟩
      have e1' : q1 = n := e1
      rw [z, e1'] at hm
      exact nd1 hm
    simp only [List.lookup, hne]
    exact i1
theorem lookup_not : ∀ {ps : List (Str × V)} {f : Str}, f ∉ ps.map (·.1) → ps.lookup f = none
  | [], _, _ => rfl
  | (q1, q2) :: ps, f, h => by
    simp only [List.map_cons, List.mem_cons, not_or] at h
    have hne : (f == q1) = false := by
      rw [beq_eq_false_iff_ne]
      exact h.1
    simp only [List.lookup, hne]
    exact lookup_not h.2
theorem putF_new : ∀ {ps : List (Str × V)} {f : Str} {v : V}, f ∉ ps.map (·.1) → putF f v ps = ps ++ [(f, v)]
  | [], _, _, _ => rfl
  | (q1, q2) :: ps, f, v, h => by
    simp only [List.map_cons, List.mem_cons, not_or] at h
    rw [show putF f v ((q1, q2) :: ps) = (if q1 = f then (q1, v) :: ps else (q1, q2) :: putF f v ps) from rfl, if_neg (Ne.symm h.1), putF_new h.2]
    rfl
theorem putF_old : ∀ {ps : List (Str × V)} {f : Str} {v y : V} {i : Nat}, (ps.map (·.1)).Nodup → ps[i]? = some (f, y) → putF f v ps = ps.set i (f, v)
  | [], _, _, _, i, _, h => by simp at h
  | (q1, q2) :: ps, f, v, y, 0, nd, h => by
    have : (q1, q2) = (f, y) := by simpa using h
    cases this
    rw [show putF q1 v ((q1, q2) :: ps) = (if q1 = q1 then (q1, v) :: ps else (q1, q2) :: putF q1 v ps) from rfl, if_pos rfl]
    rfl
  | (q1, q2) :: ps, f, v, y, i + 1, nd, h => by
    obtain ⟨nd1, nd2⟩ := List.nodup_cons.mp (show (q1 :: ps.map (·.1)).Nodup from nd)
    have h2 : ps[i]? = some (f, y) := by simpa using h
    have hne : q1 ≠ f := fun z => nd1 (by rw [z]; exact List.mem_map.mpr ⟨_, List.mem_iff_getElem?.mpr ⟨i, h2⟩, rfl⟩)
    rw [show putF f v ((q1, q2) :: ps) = (if q1 = f then (q1, v) :: ps else (q1, q2) :: putF f v ps) from rfl, if_neg hne, putF_old nd2 h2]
    rfl

section
variable {K : PySem.W.Frag} {F : Fx} {e : En} {H : Hp} {ρ : List Addr} {L : LH} {n c i : Nat} {fs : List (Option W)} {a dx : Addr} {ps : List (Str × V)} {names : List Str} {w : W} {v : V} {f : Str}
theorem RH.insF (R : RH K F e H ρ L) (hF : F.fld c = some names) (h : L.get n = some (.ins c fs)) : ∃ a dx ps, ρ[n]? = some a ∧ H a = some (.ins (F.C c) dx ps) ∧ names.Nodup ∧ names.length < 1000 ∧ fs.length ≤ names.length ∧ ps.map (·.1) = names.take fs.length ∧
    ∀ (i : Nat) (w : W), fs[i]? = some (some w) → ∃ p, ps[i]? = some p ∧ RelW K F e H ρ w p.2 := by
  obtain ⟨a, h1, h2⟩ := R.at_ h
  simp only [RelO, hF] at h2
  obtain ⟨dx, ps, q1, q2, q3, q4, q5, q6⟩ := h2
  exact ⟨a, dx, ps, h1, q1, q2, q3, q4, q5, q6⟩
def putA (fs : List (Option W)) (i : Nat) (w : W) : List (Option W) := cond (Nat.blt i fs.length) (fs.set i (some w)) (fs ++ [some w])
/-- an attribute is stored -/
theorem put_fld (R : RH K F e H ρ L) (hF : F.fld c = some names) (h : L.get n = some (.ins c fs)) (hn : L.n < top) (ha : ρ[n]? = some a) (q1 : H a = some (.ins (F.C c) dx ps)) (nd : names.Nodup) (nl : names.length < 1000) (fl : fs.length ≤ names.length) (pk : ps.map (·.1) = names.take fs.length)
    (r : ∀ (i : Nat) (w : W), fs[i]? = some (some w) → ∃ p, ps[i]? = some p ∧ RelW K F e H ρ w p.2) (hi : names[i]? = some f) (hl : i ≤ fs.length) (hw : RelW K F e H ρ w v) :
    Fm ρ ρ H (upd H a (.ins (F.C c) dx (putF f v ps))) ∧ RH K F e (upd H a (.ins (F.C c) dx (putF f v ps))) ρ (L.set n (.ins c (putA fs i w))) := by
  have mu : Mut (H a) := by rw [q1]; trivial
  have fm : Fm ρ ρ H (upd H a (.ins (F.C c) dx (putF f v ps))) := fm_put R ha mu
  refine ⟨fm, R.put ha mu hn ?_⟩
  have hps : ps.length = fs.length := by
    have := congrArg List.length pk
    rw [List.length_map, List.length_take] at this
    omega
  have ndk : (ps.map (·.1)).Nodup := by rw [pk]; exact nd.sublist (List.take_sublist _ _)
  have hil : i < names.length := (List.getElem?_eq_some_iff.mp hi).1
  simp only [RelO, hF]
  unfold putA
  cases hb : Nat.blt i fs.length with
  | true =>
    have hlt : i < fs.length := Nat.le_of_ble_eq_true hb
    obtain ⟨y, hy⟩ : ∃ y, ps[i]? = some (f, y) := by
      have h1 : i < ps.length := by omega
      refine ⟨ps[i].2, ?_⟩
      have h2 : (ps.map (·.1))[i]? = some f := by rw [pk, List.getElem?_take_of_lt hlt]; exact hi
      rw [List.getElem?_map, List.getElem?_eq_getElem h1] at h2
      rw [List.getElem?_eq_getElem h1]
      have h3 : ps[i].1 = f := by simpa using h2
      rw [← h3]
    rw [putF_old ndk hy] at fm ⊢
    refine ⟨dx, _, upd_same, nd, nl, by simpa using fl, ?_, fun j u q => ?_⟩
    · simp only [cond, List.length_set]
      rw [← pk]
      apply List.ext_getElem?
      intro j
      rw [List.getElem?_map, List.getElem?_map]
      by_cases hj : j = i
      · subst hj
        rw [List.getElem?_set_self (by omega), hy]
        rfl
      · rw [List.getElem?_set_ne (Ne.symm hj)]
    · by_cases hj : j = i
      · subst hj
        simp only [cond] at q
        rw [List.getElem?_set_self hlt] at q
        cases q
        exact ⟨(f, v), List.getElem?_set_self (by omega), fm.rel hw⟩
      · simp only [cond] at q
        rw [List.getElem?_set_ne (Ne.symm hj)] at q
        obtain ⟨p, z1, z2⟩ := r j u q
        exact ⟨p, by rw [List.getElem?_set_ne (Ne.symm hj)]; exact z1, fm.rel z2⟩
  | false =>
    have hge : fs.length ≤ i := by
      rcases Nat.lt_or_ge i fs.length with z | z
      · have : Nat.blt i fs.length = true := Nat.ble_eq_true_of_le z
        rw [hb] at this; cases this
      · exact z
    have hie : i = fs.length := by omega
    subst hie
    have hnew : f ∉ ps.map (·.1) := by
      rw [pk]
      intro z
      obtain ⟨j, hj⟩ := List.mem_iff_getElem?.mp z
      have hjl : j < fs.length := by
        have := (List.getElem?_eq_some_iff.mp hj).1
        rw [List.length_take] at this
        omega
      rw [List.getElem?_take_of_lt hjl] at hj
      obtain ⟨k1, k2⟩ := List.getElem?_eq_some_iff.mp hj
      obtain ⟨k3, k4⟩ := List.getElem?_eq_some_iff.mp hi
      have := (List.getElem_inj nd).mp (k2.trans k4.symm)
      omega
    rw [putF_new hnew] at fm ⊢
    refine ⟨dx, _, upd_same, nd, nl, ?_, ?_, fun j u q => ?_⟩
    · simp only [cond, List.length_append, List.length_cons, List.length_nil]; omega
    · simp only [cond, List.length_append, List.length_cons, List.length_nil, List.map_append, List.map_cons, List.map_nil]
      rw [pk, List.take_add_one, hi]
      rfl
    · simp only [cond] at q
      by_cases hj : j < fs.length
      · rw [List.getElem?_append_left hj] at q
        obtain ⟨p, z1, z2⟩ := r j u q
        exact ⟨p, by rw [List.getElem?_append_left (by omega)]; exact z1, fm.rel z2⟩
      · rw [List.getElem?_append_right (by omega)] at q
        have hj0 : j - fs.length = 0 := by
          rcases Nat.eq_zero_or_pos (j - fs.length) with z | z
          · exact z
          · rw [List.getElem?_eq_none (by show 1 ≤ _; exact z)] at q; cases q
        rw [hj0] at q
        have : w = u := by simpa using q
        subst this
        refine ⟨(f, v), ?_, fm.rel hw⟩
        rw [List.getElem?_append_right (by omega), show j - ps.length = 0 by omega]
        rfl
end
/-- o.f = v of an own dict -/
def sFldM (c i : Nat) (a v : Ex) : Sm := fun sl L => match v sl L with
  | none => none
  | some (w, L1) => match a sl L1 with
    | some (.ref n, L2) => match L2.get n with
      | some (.ins c' fs) => cond (Nat.beq c' c && (Nat.ble i fs.length && Nat.blt L2.n top)) (some (.nx, sl, L2.set n (.ins c (putA fs i w)))) none
      | _ => none
    | _ => none
section
variable {X : Cx} {F : Fx} {ma mv : Ex} {mr : Ea} {a o v value : Expr} {es : List Expr} {f m x : Str} {pos pos' apos tpos pp : Pos} {c i k n nk : Nat} {p g C : Addr} {fd : FuncData} {ps : List Str} {mm : List W → LH → Option (W × LH)} {names : List Str}
theorem ze_fld (hF : F.fld c = some names) (hi : names[i]? = some f) (cl : Cls X.K (F.C c)) (na : NoAttr X.K (F.C c) f) (he : PE X a (TZ X.K F ma)) (hb : attributeBase a f X.env (eval a X.env) = eval a X.env := by rfl) : PE X (.Attribute a f pos) (TZ X.K F (mAttr c i ma)) := by
  refine PE.imp (pe_fld he hb) ?_
  rintro σ H Q ⟨e, ρ, sl, L, w, L', he, hs, hh, hm, kk⟩
  unfold mAttr at hm
  split at hm
  · rename_i n L1 h1
    split at hm
    · rename_i c' fs g1
      split at hm
      · rename_i w' hw
        obtain ⟨q, hm⟩ := cond_some hm
        cases hm
        have := beq_nat q
        subst this
        refine ⟨e, ρ, sl, L, _, _, he, hs, hh, h1, fun ρ1 H1 v f1 r1 w1 => ?_⟩
        unfold RelW at w1
        obtain ⟨b, rfl, hb⟩ := w1
        obtain ⟨b', dx, ps, q1, q2, q3, q4, q5, q6, q7⟩ := r1.insF hF g1
        rw [hb] at q1; cases q1
        obtain ⟨p, z1, z2⟩ := q7 i _ hw
        obtain ⟨z3, z4⟩ := lookup_at q3 q6 z1
        rw [hi] at z4
        cases z4
        exact ⟨b, _, dx, ps, p.2, rfl, q2, cl, na, z3, kk ρ1 H1 p.2 f1 r1 z2⟩
      · cases hm
    · cases hm
  · cases hm
theorem zs_fld (hF : F.fld c = some names) (hi : names[i]? = some f) (cl : Cls X.K (F.C c)) (na : NoAttr X.K (F.C c) f) (he : PE X o (TZ X.K F ma)) (hv : PE X value (TZ X.K F mv)) (hs : swapsWith value (some (.Attribute o f pos')) pos.line X.env = pure false := by rfl) :
    PS X (.Assign [.Attribute o f pos'] value pos) (SZ X.K F (sFldM c i ma mv)) := by
  refine PS.imp (ps_fld he hv hs) ?_
  rintro D σ H ⟨e, ρ, sl, L, oo, sl', L', he, hs, hh, hm, kk⟩
  unfold sFldM at hm
  split at hm
  · cases hm
  rename_i w L1 h1
  split at hm
  · rename_i n L2 h2
    split at hm
    · rename_i c' fs g1
      obtain ⟨q, hm⟩ := cond_some hm
      cases hm
      rw [Bool.and_eq_true, Bool.and_eq_true] at q
      obtain ⟨qa, qb, qc⟩ := q
      have := beq_nat qa
      subst this
      refine ⟨e, ρ, sl, L, _, _, he, hs, hh, h1, fun ρ1 H1 v f1 r1 w1 => ?_⟩
      refine ⟨e, ρ1, sl, L1, _, _, he, f1.relSl hs, r1, h2, fun ρ2 H2 v2 f2 r2 w2 => ?_⟩
      unfold RelW at w2
      obtain ⟨b, rfl, hb⟩ := w2
      obtain ⟨b', dx, ps, q1, q2, q3, q4, q5, q6, q7⟩ := r2.insF hF g1
      rw [hb] at q1; cases q1
      obtain ⟨f3, r3⟩ := put_fld (i := i) (f := f) r2 hF g1 (Nat.le_of_ble_eq_true qc) hb q2 q3 q4 q5 q6 q7 hi (Nat.le_of_ble_eq_true qb) (f2.rel w1)
      have hps : ps.length = fs.length := by
        have := congrArg List.length q6
        rw [List.length_map, List.length_take] at this
        omega
      refine ⟨b, _, dx, ps, rfl, q2, cl, na, by omega, ?_⟩
      have fA := (f1.trans f2).trans f3
      exact kk ρ2 _ σ fA r3 (fA.relSl hs)
    · cases hm
  · cases hm
theorem tz_methF {E : XK} {σ : St} {H : Hp} {Q : VK} (hF : F.fld c = some names) (hnm : m ∉ names) (h : TZ X.K F (mMeth c n mm ma mr) σ H Q) : tMeth (F.C c) m (spZ X.K F n mm) [] E (TZ X.K F ma) (TAZ X.K F mr) σ H Q := by
  obtain ⟨e, ρ, sl, L, w, L', he, hs, hh, hm, kk⟩ := h
  unfold mMeth at hm
  split at hm
  · rename_i k' L1 h1
    split at hm
    · rename_i c' fs g1
      split at hm
      · rename_i q
        have := beq_nat q
        subst this
        split at hm
        · rename_i xs L2 h2
          unfold fN at hm
          obtain ⟨q2, hm⟩ := cond_opt hm
          refine ⟨e, ρ, sl, L, _, _, he, hs, hh, h1, fun ρ1 H1 v f1 r1 w1 => ?_⟩
          have w1' := w1
          unfold RelW at w1'
          obtain ⟨b, rfl, hb⟩ := w1'
          obtain ⟨b', dx, ps, p1, p2, p3, p4, p5, p6, p7⟩ := r1.insF hF g1
          rw [hb] at p1; cases p1
          refine ⟨b, dx, ps, rfl, p2, lookup_not (by rw [p6]; exact fun z => hnm (List.mem_of_mem_take z)), ?_⟩
          refine ⟨e, ρ1, sl, L1, _, _, he, f1.relSl hs, r1, h2, fun ρ2 H2 vs2 f2 r2 w2 => ?_⟩
          show spZ X.K F n mm (V.ref b :: (vs2 ++ [])) H2 Q E
          rw [List.append_nil]
          exact ⟨e, ρ2, L2, _, w, L', he, r2, .cons (f2.rel w1) w2, beq_nat q2, hm, fun ρ3 H3 v3 f3 r3 w3 => kk ρ3 H3 v3 ((f1.trans f2).trans f3) r3 w3⟩
        · cases hm
      · cases hm
    · cases hm
  · cases hm
theorem ze_methF {pl : Sem Bool} (hF : F.fld c = some names) (hnm : m ∉ names) (he : PE X o (TZ X.K F ma)) (cl : Cls X.K (F.C c)) (hm : Meth X.K (F.C c) m g) (G : FnOk X.prog X.w X.K X.mg X.base CX0 k g fd ps (spZ X.K F n mm)) (hr : Room k X.A) (hb : Binds X.K fd ps []) (ha : PA X (a :: es) (TAZ X.K F mr))
    (hst : starEach (a :: es) X.env = (false, eval a X.env) :: starEach es X.env := by rfl) (hpl : (backTo pos (starEach es X.env)).any (·.1) = false := by rfl)
    (ht : eval (.Call (.Attribute o m apos) (a :: es) [] pos) X.env = (do
      let ov ← eval o X.env
      standAt apos.atName
      let (f, first) ← holding [ov] (getMethod ov m pl)
      callWith pos f first (backTo pos (starEach (a :: es) X.env)) (backToKw pos (keywordEach [] X.env))) := by rfl) :
    PE X (.Call (.Attribute o m apos) (a :: es) [] pos) (TZ X.K F (mMeth c n mm ma mr)) :=
  PE.imp (pe_meth (pl := pl) (E := fun _ _ _ => False) he cl hm G hr hb .nil pass0 ha hst hpl ht) fun σ H Q h => tz_methF hF hnm h
theorem ze_methF0 {pl : Sem Bool} (hF : F.fld c = some names) (hnm : m ∉ names) (he : PE X o (TZ X.K F ma)) (cl : Cls X.K (F.C c)) (hm : Meth X.K (F.C c) m g) (G : FnOk X.prog X.w X.K X.mg X.base CX0 k g fd ps (spZ X.K F n mm)) (hr : Room k X.A) (hb : Binds X.K fd ps [])
    (ht : eval (.Call (.Attribute o m apos) [] [] pos) X.env = (do
      let ov ← eval o X.env
      standAt apos.atName
      let (f, first) ← holding [ov] (getMethod ov m pl)
      callWith pos f first (backTo pos (starEach [] X.env)) (backToKw pos (keywordEach [] X.env))) := by rfl) :
    PE X (.Call (.Attribute o m apos) [] [] pos) (TZ X.K F (mMeth c n mm ma mNil)) := by
  refine PE.imp (pe_meth0 (pl := pl) (E := fun _ _ _ => False) he cl hm G hr hb .nil pass0 ht) fun σ H Q h => ?_
  obtain ⟨e, ρ, sl, L, w, L', he, hs, hh, hm, kk⟩ := tz_methF (E := fun _ _ _ => False) hF hnm h
  refine ⟨e, ρ, sl, L, w, L', he, hs, hh, hm, fun ρ1 H1 v f1 r1 w1 => ?_⟩
  obtain ⟨a, dx, vs, e1, q1, q2, q3⟩ := kk ρ1 H1 v f1 r1 w1
  refine ⟨a, dx, vs, e1, q1, q2, ?_⟩
  obtain ⟨e, ρ, sl, L, ws, L', he, hs, hh, hm, kk⟩ := q3
  cases hm
  exact kk ρ H1 [] .refl hh .nil
theorem tz_makeF {E : XK} {σ : St} {H : Hp} {Q : VK} (hF : F.fld c = some names) (nd : names.Nodup) (nl : names.length < 1000) (h : TZ X.K F (mMake c 0 n mm mr) σ H Q) : tMake (F.C c) (spZ X.K F n mm) [] E (TAZ X.K F mr) σ H Q := by
  obtain ⟨e, ρ, sl, L, w, L', he, hs, hh, hm, kk⟩ := h
  unfold mMake at hm
  split at hm
  · cases hm
  rename_i xs L1 h1
  split at hm
  · rename_i L2 h2
    obtain ⟨q, hm⟩ := cond_some hm
    cases hm
    unfold fN at h2
    obtain ⟨q2, h2⟩ := cond_opt h2
    refine ⟨e, ρ, sl, L, _, _, he, hs, hh, h1, fun ρ1 H1 vs f1 r1 w1 x dx hx hdx hne => ?_⟩
    have r2 := r1.new (o := .own x) hdx
    have f2 : Fm ρ1 ρ1 H1 (upd H1 dx (.own x)) := fm_new hdx
    have hx2 : (upd H1 dx (.own x)) x = none := by rw [upd_ne (Ne.symm hne)]; exact hx
    have f3 := fm_add (h' := .ins (F.C c) dx []) r2 hx2
    have hn : L1.n < top := Nat.le_of_ble_eq_true q
    have r3 : RH X.K F e (upd (upd H1 dx (.own x)) x (.ins (F.C c) dx [])) (ρ1 ++ [x]) (L1.add (.ins c (List.replicate 0 none))) := by
      refine r2.add hx2 hn ?_
      simp only [RelO, hF]
      exact ⟨dx, [], upd_same, nd, nl, Nat.zero_le _, rfl, fun i w q => by simp at q⟩
    have fA := (f1.trans f2).trans f3
    have hself : (ρ1 ++ [x])[L1.n]? = some x := by rw [← r1.len]; simp
    rw [List.append_nil]
    refine ⟨e, ρ1 ++ [x], _, .ref L1.n :: xs, .non, L', he, r3, .cons (by unfold RelW; exact ⟨x, rfl, hself⟩) ((f2.trans f3).rels w1), beq_nat q2, h2, fun ρ4 H4 v f4 r4 w4 => ⟨w4, ?_⟩⟩
    refine kk ρ4 H4 (.ref x) (fA.trans f4) r4 ?_
    unfold RelW
    exact ⟨x, rfl, f4.pre _ _ hself⟩
  · cases hm
theorem ze_makeF {g : Addr} (hF : F.fld c = some names) (nd : names.Nodup) (nl : names.length < 1000) (M : Mk X.K (F.C c) g) (G : FnOk X.prog X.w X.K X.mg X.base CX0 k g fd ps (spZ X.K F n mm)) (hr : Room (k + 1) X.A) (hg : Gl X x) (hm : X.mg x = some (.ref (F.C c))) (hb : Binds X.K fd ps []) (ha : PA X (a :: es) (TAZ X.K F mr))
    (hdb : (x == ("__debug__" : Str)) = false := by decide) (he : starEach (a :: es) X.env = (false, eval a X.env) :: starEach es X.env := by rfl) (hpl : (backTo pos (starEach es X.env)).any (·.1) = false := by rfl) :
    PE X (.Call (.Name x pp) (a :: es) [] pos) (TZ X.K F (mMake c 0 n mm mr)) :=
  PE.imp (pe_make (E := fun _ _ _ => False) M G hr hg hm hb .nil pass0 ha hdb he hpl) fun σ H Q h => tz_makeF hF nd nl h
end
end Z

set_option Elab.async false
set_option linter.all false
set_option maxRecDepth 100000
/-! Z: stars, x += e, attributes as targets, the module's tuples, slices by -1 and into a list. -/
namespace Z
open PySem PySem.Spec PyProof.Rows L2

/-! ### *e among items -/
def seqOf (L : LH) : W → Option (List W)
  | .tup xs => some xs
  | .ref n => match L.get n with
    | some (.lst xs) => some xs
    | _ => none
  | _ => none
def mStar (a : Ex) (r : Ea) : Ea := fun sl L => match a sl L with
  | none => none
  | some (x, L1) => match seqOf L1 x with
    | none => none
    | some xs => match r sl L1 with
      | none => none
      | some (ys, L2) => some (xs ++ ys, L2)
section
variable {K : PySem.W.Frag} {F : Fx} {e : En} {H : Hp} {ρ : List Addr} {L : LH}
theorem seqOf_ok (R : RH K F e H ρ L) {x : W} {xs : List W} {v : V} (h : seqOf L x = some xs) (r : RelW K F e H ρ x v) : ∃ p vs, v = .ref p ∧ (SqT K H p vs ∨ SqL K H p vs) ∧ RelWs K F e H ρ xs vs := by
  cases x with
  | tup ys =>
    cases h
    unfold RelW at r
    obtain ⟨a, vs, rfl, s, r⟩ := r
    exact ⟨a, vs, rfl, .inl s, r⟩
  | ref n =>
    simp only [seqOf] at h
    split at h
    · rename_i ys g
      cases h
      unfold RelW at r
      obtain ⟨a, rfl, ha⟩ := r
      obtain ⟨a', vs, q1, q2, q3⟩ := R.lst g
      rw [ha] at q1; cases q1
      exact ⟨a, vs, rfl, .inr (SqL.of q2), q3⟩
    · cases h
  | non => cases h
  | bl _ => cases h
  | int _ => cases h
  | ia _ => cases h
  | str _ => cases h
  | fz _ => cases h
end
section
variable {X : Cx} {F : Fx} {ma mb : Ex} {a b o : Expr} {es : List Expr} {mr : Ea} {p pos apos : Pos} {c n k : Nat} {g : Addr} {m : Str} {fd : FuncData} {ps : List Str} {mm : List W → LH → Option (W × LH)} {names : List Str}
theorem za_star (ha : PE X a (TZ X.K F ma)) (hr : PA X es (TAZ X.K F mr)) (hs : starEach (.Starred a p :: es) X.env = (true, eval a X.env) :: starEach es X.env := by rfl) : PA X (.Starred a p :: es) (TAZ X.K F (mStar ma mr)) := by
  refine PA.imp (StX.pa_star ha hr hs) ?_
  rintro σ H Q ⟨e, ρ, sl, L, w, L', he, hs, hh, hm, k⟩
  unfold mStar at hm
  split at hm
  · cases hm
  rename_i x L1 h1
  split at hm
  · cases hm
  rename_i xs hx
  split at hm
  · cases hm
  rename_i ys L2 h2
  cases hm
  refine ⟨e, ρ, sl, L, x, L1, he, hs, hh, h1, fun ρ1 H1 vx f1 r1 w1 => ?_⟩
  obtain ⟨p, vs, e1, s1, r2⟩ := seqOf_ok r1 hx w1
  refine ⟨p, vs, e1, s1, ?_⟩
  refine ⟨e, ρ1, sl, L1, ys, _, he, f1.relSl hs, r1, h2, fun ρ2 H2 vy f2 r3 w2 => ?_⟩
  exact k ρ2 H2 _ (f1.trans f2) r3 (.append (f2.rels r2) w2)
/-- o.m( *e ), o of an own dict -/
theorem starcall1_of {M : Model} {A : Around} {E : Value → Shared → Prop} {s : Shared} {env : Env} {o e1 : Expr} {m : Str} {p apos pos : Pos} {Q : Value → Shared → Prop} (hbase : attributeBase o m env (eval o env) = eval o env)
    (hst : starEach [.Starred e1 p] env = [(true, eval e1 env)])
    (h : wpAny M A (eval o env) (fun ov s₁ => wpAny M A (getAttr ov m true) (fun f s₂ => wpAny M A (callWith pos f [] (backTo pos [(true, eval e1 env)]) []) Q E s₂) E s₁) E s) :
    wpAny M A (eval (.Call (.Attribute o m apos) [.Starred e1 p] [] pos) env) Q E s := by
  have hke : backToKw pos (keywordEach [] env) = [] := rfl
  have hform : methodCallForm ([Expr.Starred e1 p].length + ([] : List Keyword).length) (backTo pos [(true, eval e1 env)]) [] = false := rfl
  have hpos : methodCallPos false o env apos pos = pure pos := rfl
  have hcal : ∀ ov, calleeOf false o env ov m = (getAttr ov m true >>= fun v => pure (v, [])) := fun _ => rfl
  rw [arm_eval_Call, hbase, hst, hke]
  refine wpAny_bind (wpAny_mono h (fun ov s₁ h₁ => ?_) fun _ _ x => x)
  refine wpAny_bind (wpAny_standAt ?_)
  unfold methodCall
  rw [hform, hpos, hcal]
  refine wpAny_bind (wpAny_holding (wpAny_bind (wpAny_mono h₁ (fun f s₂ h₂ => wpAny_pure ?_) fun _ _ x => x)))
  exact wpAny_bind (wpAny_pure h₂)
theorem pe_methSF {CX : CXT} {sp : Sp} {E : XK} {C : Addr} {ta te : TE} (he : PE X o ta) (c : Cls X.K C) (b : BMeth X.K C m g) (G : FnOk X.prog X.w X.K X.mg X.base CX k g fd ps sp) (hr : Room k X.A) (hb : Binds X.K fd ps []) (hx : Passes CX X E) (ha : PE X a te)
    (hbase : attributeBase o m X.env (eval o X.env) = eval o X.env := by rfl)
    (hst : starEach [.Starred a p] X.env = [(true, eval a X.env)] := by rfl) :
    PE X (.Call (.Attribute o m apos) [.Starred a p] [] pos) (fun σ H Q => ta σ H fun x H1 => ∃ b dx fs, x = .ref b ∧ H1 b = some (.ins C dx fs) ∧ fs.lookup m = none ∧ ∀ q, H1 q = none →
      te σ (upd H1 q (.met g b)) fun y H2 => ∃ r xs, y = V.ref r ∧ (SqT X.K H2 r xs ∨ SqL X.K H2 r xs) ∧ H2 q = some (.met g b) ∧ sp (x :: xs) H2 Q E) := by
  refine ⟨fun pins s σ H Q I h => ?_⟩
  refine starcall1_of hbase hst (thn (he.run pins s σ H _ I h) fun u s1 ⟨x, H1, I1, rx, a', dx, fs, ex, ea, l, q⟩ => ?_)
  subst ex
  obtain rfl : u = Value.ref a' := rx
  refine getbound_ok I1 ea c b l fun q1 s2 hq1 I2 => ?_
  refine PySem.W.ks_call (P := PySem.W.MethP X.K q1 g (.ref a')) rfl (PySem.W.keeps_M b.fi) (PySem.W.ks_lone (thn (ha.run pins s2 σ _ _ I2 (q q1 hq1)) fun v2 s4 ⟨y2, H3, I4, ry2, t, vs, ey, ht, hm, hsp⟩ => ?_))
  subst ey
  obtain rfl : v2 = Value.ref t := ry2
  refine StX.star_any I4 ht fun us s5 I5 rv => ?_
  exact ⟨met_P I5 hm, wpAny_call (PySem.W.method_call (met_P I5 hm).1 (run_fnR (us := Value.ref a' :: us) (vs := V.ref a' :: vs) (G.raw hb .nil) hr hx I5 (.cons rfl rv) (by rw [List.append_nil]; exact hsp)))⟩
def mMethS (c n : Nat) (m : List W → LH → Option (W × LH)) (a b : Ex) : Ex := mMeth c n m a (mStar b mNil)
theorem ze_methSF (hF : F.fld c = some names) (hnm : m ∉ names) (he : PE X o (TZ X.K F ma)) (cl : Cls X.K (F.C c)) (bm : BMeth X.K (F.C c) m g) (G : FnOk X.prog X.w X.K X.mg X.base CX0 k g fd ps (spZ X.K F n mm)) (hr : Room k X.A) (hb : Binds X.K fd ps []) (ha : PE X a (TZ X.K F mb))
    (hbase : attributeBase o m X.env (eval o X.env) = eval o X.env := by rfl)
    (hst : starEach [.Starred a p] X.env = [(true, eval a X.env)] := by rfl) :
    PE X (.Call (.Attribute o m apos) [.Starred a p] [] pos) (TZ X.K F (mMethS c n mm ma mb)) := by
  refine PE.imp (pe_methSF (E := fun _ _ _ => False) he cl bm G hr hb pass0 ha hbase hst) fun σ H Q h => ?_
  obtain ⟨e, ρ, sl, L, w, L', he, hs, hh, hq, kk⟩ := h
  unfold mMethS mMeth at hq
  split at hq
  · rename_i k' L1 h1
    split at hq
    · rename_i c' fs g1
      split at hq
      · rename_i q
        have := beq_nat q
        subst this
        split at hq
        · rename_i xs L2 h2
          unfold fN at hq
          obtain ⟨q2, hq⟩ := cond_opt hq
          unfold mStar at h2
          split at h2
          · cases h2
          rename_i y L3 h3
          split at h2
          · cases h2
          rename_i ys hy
          cases h2
          refine ⟨e, ρ, sl, L, _, _, he, hs, hh, h1, fun ρ1 H1 v f1 r1 w1 => ?_⟩
          have w1' := w1
          unfold RelW at w1'
          obtain ⟨b, rfl, hb⟩ := w1'
          obtain ⟨b', dx, ps, p1, p2, p3, p4, p5, p6, p7⟩ := r1.insF hF g1
          rw [hb] at p1; cases p1
          refine ⟨b, dx, ps, rfl, p2, lookup_not (by rw [p6]; exact fun z => hnm (List.mem_of_mem_take z)), fun z hz => ?_⟩
          have fz : Fm ρ1 ρ1 H1 (upd H1 z (.met g b)) := fm_new hz
          have rz := r1.new (o := .met g b) hz
          have nz : z ∉ ρ1 := fun y => by obtain ⟨_, q, _⟩ := r1.mut y; rw [hz] at q; cases q
          refine ⟨e, ρ1, sl, L1, _, _, he, (f1.trans fz).relSl hs, rz, h3, fun ρ2 H2 vs2 f2 r2 w2 => ?_⟩
          obtain ⟨q, vs, e1, s1, r3⟩ := seqOf_ok r2 hy w2
          refine ⟨q, vs, e1, s1, f2.keep z _ upd_same nz, ?_⟩
          rw [List.append_nil] at hq q2
          exact ⟨e, ρ2, _, _, w, L', he, r2, .cons ((fz.trans f2).rel w1) r3, beq_nat q2, hq, fun ρ3 H3 v3 f3 r3 w3 => kk ρ3 H3 v3 (((f1.trans fz).trans f2).trans f3) r3 w3⟩
        · cases hq
      · cases hq
    · cases hq
  · cases hq
end

/-! ### x op= e -/
def sAugN (i : Nat) (f : W → W → LH → Option (W × LH)) (a : Ex) : Sm := fun sl L => match sl[i]? with
  | some (some x) => match a sl L with
    | none => none
    | some (y, L1) => match f x y L1 with
      | none => none
      | some (z, L2) => some (.nx, sl.set i (some z), L2)
  | _ => none
section
variable {X : Cx} {F : Fx} {ma mb mv : Ex} {a b o : Expr} {pos pos' apos tpos : Pos} {i c : Nat} {x f : Str} {p : Addr} {T : List Nat} {names : List Str}
theorem zs_aug {op : Operator} {rd : R2} {ff : W → W → LH → Option (W × LH)} (hN : X.N.Nodup) (hi : X.N[i]? = some x) (hx : Loc X.env.scope x) (he : PE X a (TZ X.K F ma)) (hop : InOp X op rd) (hz : OpZ X.K F rd ff) (hf : X.fn x = true ∨ X.env.scope.names.lookup x = some .local := by first | exact .inl rfl | exact .inr rfl | assumption) :
    PS X (.AugAssign (.Name x pos') op a pos) (SZ X.K F (sAugN i ff ma)) := by
  refine PS.imp (ps_aug (ti := rd) hN hi hx he (fun pins s σ H x y v u Q => hop pins s σ H x y v u Q) hf) ?_
  rintro D σ H ⟨e, ρ, sl, L, oo, sl', L', he, hs, hh, hm, kk⟩
  unfold sAugN at hm
  split at hm
  · rename_i x hx
    split at hm
    · cases hm
    rename_i y L1 h1
    split at hm
    · cases hm
    rename_i z L2 h2
    cases hm
    obtain ⟨v, q1, q2⟩ := hs.at_ i _ hx
    refine ⟨v, q1, ?_⟩
    refine ⟨e, ρ, sl, L, _, _, he, hs, hh, h1, fun ρ1 H1 v1 f1 r1 w1 => ?_⟩
    refine hz e ρ1 H1 L1 x y v v1 z _ _ he r1 (f1.rel q2) w1 h2 fun ρ2 H2 v2 f2 r2 w2 => ?_
    have fA := f1.trans f2
    exact kk ρ2 H2 _ fA r2 ((fA.relSl hs).set i w2)
  · cases hm

/-! ### attributes as targets -/
def gAttr (c i : Nat) (a : Ex) : Eg := fun w sl L => match a sl L with
  | some (.ref n, L2) => match L2.get n with
    | some (.ins c' fs) => cond (Nat.beq c' c && Nat.blt L2.n top) (some (sl, L2.set n (.ins c (fs.set i (some w))))) none
    | _ => none
  | _ => none
theorem pg_slZ {C : Addr} {ta : TE} (ha : PE X o ta) (sc : SlX.SCls X.K C) (k : SlX.Slot1 X.K C f p i) :
    PG X (.Attribute o f pos) (fun v σ H Q => ta σ H fun x H1 => ∃ a dx vs, x = .ref a ∧ SlX.Slt H1 a C dx vs ∧ Q σ (SlX.slH H1 a C dx (SlX.putS i v vs))) := by
  refine ⟨fun pins s σ H v u Q I r h => ?_⟩
  rw [arm_assign_Attribute]
  refine wpAny_bind (wpAny_holding (thn (ha.run pins s σ H _ I h) fun ov s1 ⟨x, H1, I1, rx, a, dx, vs, ex, hsl, q⟩ => ?_))
  subst ex
  obtain rfl : ov = Value.ref a := rx
  refine wpAny_bind (wpAny_standAt (wpAny_bind (wpAny_holding (SlX.setslot_ok I1 hsl sc k r fun s3 I3 => ?_))))
  exact wpAny_release ⟨σ, _, I3, q⟩
theorem zg_attr (hF : F.fld c = none) (sc : SlX.SCls X.K (F.C c)) (k : SlX.Slot1 X.K (F.C c) f p i) (ha : PE X o (TZ X.K F ma)) : PG X (.Attribute o f pos) (GZ X.K F T (gAttr c i ma)) := by
  refine PG.imp (pg_slZ ha sc k) ?_
  rintro v σ H Q ⟨e, ρ, sl, L, w, sl', L', he, hs, hh, hw, hm, kk⟩
  unfold gAttr at hm
  split at hm
  · rename_i n L2 h2
    split at hm
    · rename_i c' fs g1
      obtain ⟨q, hm⟩ := cond_some hm
      cases hm
      rw [Bool.and_eq_true] at q
      have := beq_nat q.1
      subst this
      refine ⟨e, ρ, sl, L, _, _, he, hs, hh, h2, fun ρ2 H2 v2 f2 r2 w2 => ?_⟩
      unfold RelW at w2
      obtain ⟨b, rfl, hb⟩ := w2
      obtain ⟨b', dx, vs, q1, q2, q3, q4, q5⟩ := r2.ins hF g1
      rw [hb] at q1; cases q1
      obtain ⟨f3, r3⟩ := put_slot (i := i) r2 hF g1 (Nat.le_of_ble_eq_true q.2) hb q3 q4 q5 (f2.rel hw)
      refine ⟨b, dx, vs, rfl, q2, ?_⟩
      have fA := f2.trans f3
      exact kk ρ2 _ σ fA r3 (fA.relSl hs) rfl
    · cases hm
  · cases hm

/-! ### a tuple of the module -/
theorem ze_gtup {t : Addr} {ws : List W} {vs : List V} (hg : Gl X x) (hm : X.mg x = some (.ref t)) (hs : ∀ H, SqT X.K H t vs) (hr : ∀ (e : En) (H : Hp) (ρ : List Addr), En.Ok F e → RelWs X.K F e H ρ ws vs) (hd : (x == ("__debug__" : Str)) = false := by decide) :
    PE X (.Name x pos) (TZ X.K F (vC (.tup ws))) := by
  refine PE.imp (pe_glob (v := .ref t) hg hm rfl hd) ?_
  rintro σ H Q ⟨e, ρ, sl, L, w, L', he, hs', hh, hm, k⟩
  cases hm
  refine k ρ H _ .refl hh ?_
  unfold RelW
  exact ⟨t, vs, rfl, hs H, hr e H ρ he⟩
end
end Z

set_option Elab.async false
set_option linter.all false
set_option maxRecDepth 100000
/-! Z: xs[::-1], xs[i:j] = ys. -/
namespace Z
open PySem PySem.Spec PyProof.Rows L2

theorem RelWs.reverse {K : PySem.W.Frag} {F : Fx} {e : En} {H : Hp} {ρ : List Addr} : ∀ {ws : List W} {vs : List V}, RelWs K F e H ρ ws vs → RelWs K F e H ρ ws.reverse vs.reverse
  | [], vs, h => by unfold RelWs at h; rw [h]; exact .nil
  | w :: ws, vs, h => by
    obtain ⟨v, vr, e1, r1, r2⟩ := h.uncons
    rw [e1, List.reverse_cons, List.reverse_cons]
    exact (RelWs.reverse r2).append (.cons r1 .nil)
def mRev (a : Ex) : Ex := fun sl L => match a sl L with
  | some (.ref n, L1) => match L1.get n with
    | some (.lst xs) => fLst xs.reverse L1
    | _ => none
  | _ => none
def gSlice (a lo hi : Ex) : Eg := fun w sl L => match a sl L with
  | some (.ref n, L1) => match lo sl L1 with
    | some (.int i, L2) => match hi sl L2 with
      | some (.int j, L3) => match w with
        | .ref m => match L3.get n, L3.get m with
          | some (.lst xs), some (.lst ys) => cond (!Nat.beq n m && (decide (0 ≤ i) && (decide (i ≤ j) && (decide (j ≤ xs.length) && (Nat.ble (xs.length + ys.length) 1000000 && Nat.blt L3.n top)))))
              (some (sl, L3.set n (.lst (xs.take i.toNat ++ ys ++ xs.drop j.toNat)))) none
          | _, _ => none
        | _ => none
      | _ => none
    | _ => none
  | _ => none
section
variable {X : Cx} {F : Fx} {ma ml mh : Ex} {a lo hi : Expr} {pos p1 p2 p3 : Pos} {k : Nat} {T : List Nat}
theorem ze_rev (ha : PE X a (TZ X.K F ma)) : PE X (.Subscript a (.Slice none none (some (.UnaryOp .USub (.Constant (.int 1) k p1) p2)) p3) pos) (TZ X.K F (mRev ma)) := by
  refine PE.imp (pe_revL ha) ?_
  rintro σ H Q ⟨e, ρ, sl, L, w, L', he, hs, hh, hm, kk⟩
  unfold mRev at hm
  split at hm
  · rename_i n L1 h1
    split at hm
    · rename_i xs g
      obtain ⟨h2, h3, rfl, rfl⟩ := fLst_spec hm
      refine ⟨e, ρ, sl, L, _, _, he, hs, hh, h1, fun ρ1 H1 v f1 r1 w1 => ?_⟩
      unfold RelW at w1
      obtain ⟨b, rfl, hb⟩ := w1
      obtain ⟨b', vs, q1, q2, q3⟩ := r1.lst g
      rw [hb] at q1; cases q1
      refine ⟨b, vs, rfl, SqL.of q2, fun p hp => ?_⟩
      obtain ⟨f2, r2, w2⟩ := new_lst r1 hp h3 q3.reverse
      exact kk _ _ _ (f1.trans f2) r2 w2
    · cases hm
  · cases hm
theorem pg_setSl {ta tl th : TE} (ha : PE X a ta) (hl : PE X lo tl) (hh : PE X hi th) :
    PG X (.Subscript a (.Slice (some lo) (some hi) none p2) pos) (fun v σ H Q => ta σ H fun x H1 => tl σ H1 fun i H2 => th σ H2 fun j H3 => ∃ (l b : Addr) (xs ys : List V) (i' j' : Int), x = .ref l ∧ v = .ref b ∧ i = .int i' ∧ j = .int j' ∧ l ≠ b ∧ H3 l = some (.lst xs) ∧ H3 b = some (.lst ys) ∧
      0 ≤ i' ∧ i' ≤ j' ∧ j' ≤ xs.length ∧ xs.length + ys.length ≤ sizeLine ∧ Q σ (upd H3 l (.lst (xs.take i'.toNat ++ ys ++ xs.drop j'.toNat)))) := by
  refine ⟨fun pins s σ H v u Q I r h => ?_⟩
  rw [arm_assign_Subscript]
  refine wpAny_bind (wpAny_holding (thn (ha.run pins s σ H _ I h) fun ov s1 ⟨x, H1, I1, rx, q1⟩ => ?_))
  refine wpAny_bind (wpAny_holding (wpAny_Slice (thn (hl.run pins s1 σ H1 _ I1 q1) fun lv s2 ⟨i, H2, I2, ri, q2⟩ => (thn (hh.run pins s2 σ H2 _ I2 q2) fun hv s3 ⟨j, H3, I3, rj, q3⟩ => ?_))))
  obtain ⟨l, b, xs, ys, i', j', rfl, rfl, rfl, rfl, hne, g1, g2, b1, b2, b3, b4, q⟩ := q3
  rw [evalPart_none]
  refine wpAny_pure ?_
  cases rx
  cases r
  have I4 : Inv X pins σ H3 { s3 with heap := s3.heap.push { cls := .type "slice", data := .fields #[lv, hv, .none] } } := I3.kept (t' := s3.toks) fun b ob q => Heap.get?_push_of_some _ q
  refine wpAny_bind (wpAny_standAt (wpAny_bind (wpAny_holding (set_slice I4 g1 g2 hne (Heap.IsSliceOf.new ..) ri rj b1 b2 b3 b4 fun s5 I5 => ?_))))
  exact wpAny_release ⟨σ, _, I5, q⟩
theorem zg_slice (ha : PE X a (TZ X.K F ma)) (hl : PE X lo (TZ X.K F ml)) (hh : PE X hi (TZ X.K F mh)) : PG X (.Subscript a (.Slice (some lo) (some hi) none p2) pos) (GZ X.K F T (gSlice ma ml mh)) := by
  refine PG.imp (pg_setSl ha hl hh) ?_
  rintro v σ H Q ⟨e, ρ, sl, L, w, sl', L', he, hs, hh, hw, hm, kk⟩
  unfold gSlice at hm
  split at hm
  · rename_i n L1 h1
    split at hm
    · rename_i i L2 h2
      split at hm
      · rename_i j L3 h3
        split at hm
        · rename_i m
          split at hm
          · rename_i xs ys g1 g2
            obtain ⟨q, hm⟩ := cond_some hm
            cases hm
            simp only [Bool.and_eq_true, Bool.not_eq_true', decide_eq_true_eq] at q
            obtain ⟨c1, c2, c3, c4, c5, c6⟩ := q
            refine ⟨e, ρ, sl, L, _, _, he, hs, hh, h1, fun ρ1 H1 v1 f1 r1 w1 => ?_⟩
            refine ⟨e, ρ1, sl, L1, _, _, he, f1.relSl hs, r1, h2, fun ρ2 H2 v2 f2 r2 w2 => ?_⟩
            refine ⟨e, ρ2, sl, L2, _, _, he, (f1.trans f2).relSl hs, r2, h3, fun ρ3 H3 v3 f3 r3 w3 => ?_⟩
            have w1' := (f2.trans f3).rel w1
            have hw' := ((f1.trans f2).trans f3).rel hw
            unfold RelW at w1' hw'
            obtain ⟨a, rfl, ha⟩ := w1'
            obtain ⟨b, rfl, hb⟩ := hw'
            cases w2
            cases w3
            obtain ⟨a', us, p1, p2, p3⟩ := r3.lst g1
            rw [ha] at p1; cases p1
            obtain ⟨b', vs, q1, q2, q3⟩ := r3.lst g2
            rw [hb] at q1; cases q1
            have hne : a ≠ b := fun z => by
              subst z
              have := nd_ix r3.nd ha hb
              subst this
              rw [Nat.beq_refl] at c1
              cases c1
            have mu : Mut (H3 a) := by rw [p2]; trivial
            have hn : L3.n < top := Nat.le_of_ble_eq_true c6
            have f4 : Fm ρ3 ρ3 H3 (upd H3 a (.lst (us.take i.toNat ++ vs ++ us.drop j.toNat))) := fm_put r3 ha mu
            have r4 := r3.put (h' := .lst (us.take i.toNat ++ vs ++ us.drop j.toNat)) (o := .lst (xs.take i.toNat ++ ys ++ xs.drop j.toNat)) ha mu hn ⟨_, upd_same, f4.rels (((p3.take i.toNat).append q3).append (p3.drop j.toNat))⟩
            have fA := ((f1.trans f2).trans f3).trans f4
            exact ⟨a, b, us, vs, i, j, rfl, rfl, rfl, rfl, hne, p2, q2, c2, c3, by rw [p3.length]; exact c4, by rw [p3.length, q3.length]; exact line_ok (Nat.le_of_ble_eq_true c5), kk ρ3 _ σ fA r4 (fA.relSl hs) rfl⟩
          · cases hm
        · cases hm
      · cases hm
    · cases hm
  · cases hm
end
end Z

set_option Elab.async false
set_option linter.all false
set_option maxRecDepth 100000
set_option maxHeartbeats 1000000
/-! Z: sorted(d), list(d), list(d.items()), sorted(d.items()). -/
namespace Z
open PySem PySem.Spec PyProof.Rows L2 PySem.W

mutual
theorem reads_at {h : Heap} : ∀ {v : Value} {d : PyData} {as : List Addr}, Reads h v d as → ∀ a ∈ as, ∃ o, h.get? a = some o
  | _, _, _, .none, a, q => by cases q
  | _, _, _, .bool _, a, q => by cases q
  | _, _, _, .int _ _, a, q => by cases q
  | _, _, _, .str _ _, a, q => by cases q
  | _, _, _, .list e _ _ r, a, q => by
    rcases List.mem_cons.mp q with z | z
    · exact ⟨_, z ▸ e⟩
    · exact readsAll_at r a z
  | _, _, _, .tuple e _ _ r, a, q => readsAll_at r a q
  | _, _, _, .dict e _ _ r r', a, q => by
    rcases List.mem_append.mp q with z | z
    · rcases List.mem_cons.mp z with z | z
      · exact ⟨_, z ▸ e⟩
      · exact readsAll_at r a z
    · exact readsAll_at r' a z
theorem readsAll_at {h : Heap} : ∀ {vs : List Value} {ds : List PyData} {as : List Addr}, ReadsAll h vs ds as → ∀ a ∈ as, ∃ o, h.get? a = some o
  | _, _, _, .nil, a, q => by cases q
  | _, _, _, .cons r r', a, q => by
    rcases List.mem_append.mp q with z | z
    · exact reads_at r a z
    · exact readsAll_at r' a z
end
theorem vals_ix : ∀ {zs : List V} {us : List Value}, zs.length = us.length → (∀ (i : Nat) (z : V) (u : Value), zs[i]? = some z → us[i]? = some u → RelV z u) → Vals zs us
  | [], [], _, _ => .nil
  | [], _ :: _, h, _ => by simp at h
  | _ :: _, [], h, _ => by simp at h
  | z :: zs, u :: us, h, k => .cons (k 0 z u rfl rfl) (vals_ix (by simpa using h) fun i z' u' a b => k (i + 1) z' u' (by simpa using a) (by simpa using b))
theorem acc_vals {es : Array DictEntry} {acc : Array Value} {ks : List V} (hacc : ItemsOf (fun i v => ∃ hi : i < es.size, v = es[i].key) acc es.size) (hsz : es.size = ks.length) (h : ∀ (i : Nat) (z : V), ks[i]? = some z → ∃ en, es[i]? = some en ∧ RelV z en.key) : Vals ks acc.toList := by
  obtain ⟨z1, z2⟩ := hacc
  refine vals_ix (by have : acc.toList.length = acc.size := Array.length_toList; omega) fun i z u hz hu => ?_
  obtain ⟨en, e1, e2⟩ := h i z hz
  obtain ⟨hi2, e4⟩ := z2 i u (by rw [← Array.getElem?_toList]; exact hu)
  rw [e4]
  have := (Array.getElem?_eq_some_iff.mp e1).2
  rw [this]
  exact e2
section
variable {K : PySem.W.Frag} {F : Fx} {e : En} {H : Hp} {ρ : List Addr} {L : LH} {ws ws' : List W} {ys : List V}
theorem sort_tail {X : Cx} (hK : X.K = K) (hu : X.A.units + 64 < cLine) (he : En.Ok F e) (R : RH K F e H ρ L) (h : sortW L ws = some ws') (r : RelWs K F e H ρ ws ys) :
    ∃ out, RelWs K F e H ρ ws' out ∧ ∀ (pins : List (Addr × Obj)) (σ : St) (s : Shared) (us : List Value) (E : Value → Shared → Prop) (α : Type) (Q' : α → Shared → Prop) (g : Value → Sem α), Inv X pins σ H s → Vals ys us →
      (∀ l s', H l = none → Inv X pins σ (upd H l (.lst out)) s' → wpAny (model X.prog X.w) X.A.in1 (g (.ref l)) Q' E s') →
      wpAny (model X.prog X.w) X.A.in1 (newList us >>= fun l => holding [l] (call (.builtin "list.sort") [l]) >>= fun _ => g l) Q' E s := by
  subst hK
  unfold sortW at h
  obtain ⟨hc, hi⟩ := cond_opt h
  rw [Bool.and_eq_true] at hc
  obtain ⟨hp, ha, hs⟩ := srtb_parts hc.1
  have hlen : ws.length ≤ sizeLine := line_ok (Nat.le_of_ble_eq_true hc.2)
  have zl : (ws.zip ys).length = ws.length := by rw [List.length_zip, r.length, Nat.min_self]
  refine ⟨((ws.zip ys).mergeSort (dataLe false (encW F e L))).map (·.2), ?_, ?_⟩
  · have q := pairs_rel (K := X.K) (F := F) (e := e) (H := H) (ρ := ρ) (l := (ws.zip ys).mergeSort (dataLe false (encW F e L))) fun p hp' => zip_rel r p ((List.mergeSort_perm _ _).mem_iff.mp hp')
    rw [sort_fst he R hp ha r hi] at q
    exact q
  · intro pins σ s us E α Q' g I rv k
    have dp : ∀ p ∈ ws.zip ys, (encW F e L p).depth ≤ deep ∧ ∀ v, RelW X.K F e H ρ p.1 v → Dp X.K H v (encW F e L p) := fun p hp' => by
      obtain ⟨d1, d2⟩ := dat_ok he R deep p.1 (plW_dat deep p.1 (List.all_eq_true.mp hp p.1 (List.of_mem_zip hp').1))
      exact ⟨d1, fun v hv => (d2 v hv).1⟩
    have ee := zip_each r rv
    have hul : us.length = ws.length := by rw [← rv.length, r.length]
    refine wpAny_bind (wpAny_newList ?_ (by rw [hul]; exact hlen))
    have hoL : (s.heap.push (seqObj "list" us.toArray 0)).get? s.heap.objs.size = some (seqObj "list" us.toArray 0) := Heap.get?_push_size _ rfl
    refine wpAny_bind (wpAny_holding (list_sort_data (enc := encW F e L) (s := { s with heap := s.heap.push (seqObj "list" us.toArray 0) }) hoL ee ?_ (srt_alike ha) (srt_able hs) (by rw [zl]; exact hlen) (fun b hb => ?_) fun out ho eo => ?_))
    · refine (each_mem ee).mono fun u q ⟨h1, h2⟩ => ?_
      obtain ⟨as, ra⟩ := Dp.reads I _ _ _ ((dp q h2).2 q.2 (zip_rel r q h2)) h1
      refine ⟨as, PyProof.Rows.Reads.keeps (fun b o z => Heap.get?_push_of_some _ z) ra, fun z => ?_⟩
      obtain ⟨o, ho⟩ := reads_at ra _ z
      exact absurd (Heap.lt_size ho) (Nat.lt_irrefl _)
    · have := (dp b hb).1
      have : (deep : Nat) = 16 := rfl
      show X.A.units + 1 + 1 + _ < cLine
      omega
    · have vo := each_vals eo
      obtain ⟨e', he'⟩ := PyProof.Rows.sortedHeap_at (vs := us) (out := out.toArray) hoL
      refine (k _ _ (I.hok.fresh (Nat.le_refl _)) (I.laid (a := s.heap.objs.size) (o := .lst _) (t' := s.toks) (fun b u q => ?_) (Nat.le_refl _) ⟨?_, out, e', vo, he'⟩))
      · have hb : b < s.heap.objs.size := Heap.lt_size q
        rw [PyProof.Rows.sortedHeap_old (Nat.ne_of_lt hb) (by rw [size_push']; exact Nat.lt_succ_of_lt hb)]
        exact Heap.get?_push_of_some _ q
      · rw [List.length_map, (List.mergeSort_perm _ _).length_eq, zl]
        exact hlen
/-- what sorted(v) makes of what can be gathered -/
def GatherZ (X : Cx) (H : Hp) (v : V) (H2 : Hp) (ys : List V) : Prop := ∀ (pins : List (Addr × Obj)) (σ : St) (s : Shared) (u : Value) (E : Value → Shared → Prop) (R : List Value → Shared → Prop), Inv X pins σ H s → RelV v u →
  (∀ us s', Inv X pins σ H2 s' → Vals ys us → R us s') → wpAny (model X.prog X.w) X.A.in1 (collect u) R E s
theorem sorted_gather {X : Cx} {H H2 : Hp} {v : V} {ys out : List V} (g : GatherZ X H v H2 ys)
    (so : ∀ (pins : List (Addr × Obj)) (σ : St) (s : Shared) (us : List Value) (E : Value → Shared → Prop) (α : Type) (Q' : α → Shared → Prop) (g : Value → Sem α), Inv X pins σ H2 s → Vals ys us →
      (∀ l s', H2 l = none → Inv X pins σ (upd H2 l (.lst out)) s' → wpAny (model X.prog X.w) X.A.in1 (g (.ref l)) Q' E s') →
      wpAny (model X.prog X.w) X.A.in1 (newList us >>= fun l => holding [l] (call (.builtin "list.sort") [l]) >>= fun _ => g l) Q' E s) :
    ∀ (pins : List (Addr × Obj)) (σ : St) (s : Shared) (u : Value) (E : Value → Shared → Prop) (Q' : Value → Shared → Prop), Inv X pins σ H s → RelV v u → (∀ l s', H2 l = none → Inv X pins σ (upd H2 l (.lst out)) s' → Q' (.ref l) s') →
      wpAny (model X.prog X.w) X.A (call (.builtin "sorted") [u]) Q' E s := by
  intro pins σ s u E Q' I ru k
  refine Calls.call_function_entry PyProof.Rows.kind_sorted PyProof.Rows.plain_sorted PyProof.Rows.entry_sorted (PyProof.Rows.args_sorted1 _) ?_
  unfold Builtin.«sorted»
  refine wpAny_bind (m := checkCount "sorted" 1 1 _) (wpAny_pure ?_)
  refine wpAny_bind (g pins σ s u _ _ I ru fun us s' I' rv => ?_)
  refine so pins σ s' us _ _ _ (fun l => ret l) I' rv fun l s2 hl I2 => ?_
  exact wpAny_pure ⟨_, rfl, k l s2 hl I2⟩
/-- a dict's keys, gathered -/
theorem gather_dct {X : Cx} (hc : X.calm = true) {H : Hp} {a : Addr} {uo : HO} {ks ys : List V} (hr : Rd H a uo) (rws : Rows X a uo ks ys) (hl : ks.length ≤ sizeLine) : GatherZ X H (.ref a) H ks := by
  intro pins σ s u E R I ru k
  cases ru
  obtain ⟨o, ho, es, ep, hx, hdt, hsz, hvl, hrow⟩ := rd_raw I hr rws
  refine kdu_collect (A := X.A.in1) (KdlSrc.rawDict (es := es) (ep := ep) (d := a) rws.1) (I.ok.hd hc) ⟨o, ho, hx, hdt⟩ (by omega) fun h' tk acc hk hacc => ?_
  exact k _ _ (I.kept hk) (acc_vals hacc hsz fun i z hi => by
    obtain ⟨en, e1, e2, _⟩ := hrow i z (ys[i]'(by have := (List.getElem?_eq_some_iff.mp hi).1; omega)) hi (List.getElem?_eq_getElem _)
    exact ⟨en, e1, e2⟩)
/-- list(d) -/
abbrev rListD (X : Cx) : List V → Hp → VK → Prop := fun vs H Q => ∃ a uo ks ys, vs = [.ref a] ∧ Rd H a uo ∧ Rows X a uo ks ys ∧ ks.length ≤ sizeLine ∧ ∀ l, H l = none → Q (.ref l) (upd H l (.lst ks))
theorem call_listDZ {X : Cx} (hc : X.calm = true) : CallR X (.type "list") (rListD X) := by
  rintro pins s σ H xs us Q I rx ⟨a, uo, ks, ys, rfl, hr, rws, hl, q⟩
  obtain ⟨u, rfl, ru⟩ := vals1' rx
  cases ru
  obtain ⟨o, ho, es, ep, hx, hdt, hsz, hvl, hrow⟩ := rd_raw I hr rws
  refine kdl_call (KdlSrc.rawDict (es := es) (ep := ep) (d := a) rws.1) (I.ok.hd hc) ⟨o, ho, hx, hdt⟩ (by omega) fun h' tk acc' c' hk hat hacc => ?_
  refine ⟨.ref s.heap.objs.size, _, I.laid (a := s.heap.objs.size) (o := .lst ks) (t' := tk) hk (Nat.le_refl _) ⟨hl, acc'.toList, c', ?_, by simpa using hat⟩, rfl, q _ (I.hok.fresh (Nat.le_refl _))⟩
  exact acc_vals hacc hsz fun i z hi => by
    obtain ⟨en, e1, e2, _⟩ := hrow i z (ys[i]'(by have := (List.getElem?_eq_some_iff.mp hi).1; omega)) hi (List.getElem?_eq_getElem _)
    exact ⟨en, e1, e2⟩
def fListD : List W → LH → Option (W × LH) := fun xs L => match xs with
  | [.ref n] => match tabOf L n with
    | some kvs => fLst (kvs.map fun p => p.1) L
    | none => none
  | _ => none
theorem cz_listD {X : Cx} {F : Fx} (hX : FxOk X F) : CallZ X.K F (rListD X) fListD := by
  intro e ρ H L xs vs w L' Q he R rx h k
  unfold fListD at h
  split at h
  · rename_i n
    split at h
    · rename_i kvs ht
      obtain ⟨h2, h3, rfl, rfl⟩ := fLst_spec h
      obtain ⟨v, rfl, rv⟩ := rel1 rx
      unfold RelW at rv
      obtain ⟨a, rfl, ha⟩ := rv
      obtain ⟨a', uo, p1, hr, d⟩ := R.tab ht
      rw [ha] at p1; cases p1
      obtain ⟨ks, ys, rws, q1, q2⟩ := dct_rows hX d
      refine ⟨a, uo, ks, ys, rfl, hr, rws, by rw [q1.length]; exact h2, fun l hl => ?_⟩
      obtain ⟨f2, r2, w2⟩ := new_lst R hl h3 q1
      exact k _ _ _ f2 r2 w2
    · cases h
  · cases h
/-- sorted(d) -/
abbrev rSortG (X : Cx) : List V → Hp → VK → Prop := fun vs H Q => ∃ v out H2, vs = [v] ∧ (∀ (pins : List (Addr × Obj)) (σ : St) (s : Shared) (u : Value) (E : Value → Shared → Prop) (Q' : Value → Shared → Prop), Inv X pins σ H s → RelV v u → (∀ l s', H2 l = none → Inv X pins σ (upd H2 l (.lst out)) s' → Q' (.ref l) s') →
      wpAny (model X.prog X.w) X.A (call (.builtin "sorted") [u]) Q' E s) ∧ ∀ l, H2 l = none → Q (.ref l) (upd H2 l (.lst out))
theorem cr_sortedG {X : Cx} : CallR X (.builtin "sorted") (rSortG X) := by
  rintro pins s σ H xs us Q I rx ⟨v, out, H2, rfl, sem, q⟩
  obtain ⟨u, rfl, ru⟩ := vals1' rx
  exact sem pins σ s u _ _ I ru fun l s' hl I' => ⟨.ref l, _, I', rfl, q l hl⟩
def fSortedD : List W → LH → Option (W × LH) := fun xs L => match xs with
  | [.ref n] => match tabOf L n with
    | some kvs => match sortW L (kvs.map fun p => p.1) with
      | some ws' => fLst ws' L
      | none => none
    | none => none
  | _ => none
theorem cz_sortedD {X : Cx} {F : Fx} (hX : FxOk X F) (hc : X.calm = true) (hu : X.A.units + 64 < cLine) : CallZ X.K F (rSortG X) fSortedD := by
  intro e ρ H L xs vs w L' Q he R rx h k
  unfold fSortedD at h
  split at h
  · rename_i n
    split at h
    · rename_i kvs ht
      split at h
      · rename_i ws' hw
        obtain ⟨h2, h3, rfl, rfl⟩ := fLst_spec h
        obtain ⟨v, rfl, rv⟩ := rel1 rx
        unfold RelW at rv
        obtain ⟨a, rfl, ha⟩ := rv
        obtain ⟨a', uo, p1, hr, d⟩ := R.tab ht
        rw [ha] at p1; cases p1
        obtain ⟨ks, ys, rws, q1, q2⟩ := dct_rows hX d
        obtain ⟨out, ro, so⟩ := sort_tail (X := X) rfl hu he R hw q1
        have hl : ks.length ≤ sizeLine := by rw [q1.length, List.length_map]; exact line_ok d.2.1
        refine ⟨.ref a, out, H, rfl, sorted_gather (gather_dct hc hr rws hl) so, fun l hl => ?_⟩
        obtain ⟨f2, r2, w2⟩ := new_lst R hl h3 ro
        exact k _ _ _ f2 r2 w2
      · cases h
    · cases h
  · cases h
/-- either -/
def fOr1 (f g : List W → LH → Option (W × LH)) : List W → LH → Option (W × LH) := fun xs L => match f xs L with
  | none => g xs L
  | r => r
theorem cz_or {K : PySem.W.Frag} {F : Fx} {r r' : List V → Hp → VK → Prop} {f g : List W → LH → Option (W × LH)} (h : CallZ K F r f) (h' : CallZ K F r' g) : CallZ K F (fun vs H Q => r vs H Q ∨ r' vs H Q) (fOr1 f g) := by
  intro e ρ H L xs vs w L' Q he R rx hf k
  unfold fOr1 at hf
  cases q : f xs L with
  | none => rw [q] at hf; exact .inr (h' e ρ H L xs vs w L' Q he R rx hf k)
  | some z => rw [q] at hf; exact .inl (h e ρ H L xs vs w L' Q he R rx (by rw [q]; exact hf) k)
end
end Z

set_option Elab.async false
set_option linter.all false
set_option maxRecDepth 100000
set_option maxHeartbeats 1000000
/-! Z: list(d.items()), sorted(d.items()). -/
namespace Z
open PySem PySem.Spec PyProof.Rows L2 PySem.W

def putP : Hp → List Addr → List (V × V) → Hp
  | H, a :: as, p :: ps => putP (upd H a (.tup [p.1, p.2])) as ps
  | H, _, _ => H
theorem putP_off {b : Addr} : ∀ (as : List Addr) (ps : List (V × V)) (H : Hp), b ∉ as → putP H as ps b = H b
  | [], _, _, _ => rfl
  | _ :: _, [], _, _ => rfl
  | a :: as, p :: ps, H, h => by
    show putP (upd H a (.tup [p.1, p.2])) as ps b = H b
    rw [putP_off as ps _ (fun z => h (List.mem_cons_of_mem _ z)), upd_ne (fun z => h (by rw [z]; exact List.mem_cons_self))]
theorem putP_at : ∀ (as : List Addr) (ps : List (V × V)) (H : Hp), as.length = ps.length → as.Nodup → Paired (fun (t : Addr) (p : V × V) => putP H as ps t = some (.tup [p.1, p.2])) as ps
  | [], [], _, _, _ => .nil
  | [], _ :: _, _, h, _ => by cases h
  | _ :: _, [], _, h, _ => by cases h
  | a :: as, p :: ps, H, h, hn => by
    have hn' := List.nodup_cons.mp hn
    have ih := putP_at as ps (upd H a (.tup [p.1, p.2])) (Nat.succ.inj h) hn'.2
    refine .cons ?_ ih
    show putP (upd H a (.tup [p.1, p.2])) as ps a = some (.tup [p.1, p.2])
    rw [putP_off as ps _ hn'.1, upd_same]
section
variable {K : PySem.W.Frag} {F : Fx} {e : En} {L : LH} {ρ : List Addr}
/-- new tuples of pairs, told in the relation -/
theorem putP_rel : ∀ (as : List Addr) (ps : List (V × V)) (ws : List (W × W)) (H : Hp), as.length = ps.length → as.Nodup → (∀ t ∈ as, H t = none) → RH K F e H ρ L → RelWs K F e H ρ (ws.map (·.1)) (ps.map (·.1)) → RelWs K F e H ρ (ws.map (·.2)) (ps.map (·.2)) →
    Fm ρ ρ H (putP H as ps) ∧ RH K F e (putP H as ps) ρ L ∧ RelWs K F e (putP H as ps) ρ (ws.map fun p => .tup [p.1, p.2]) (as.map V.ref)
  | [], [], ws, H, _, _, _, R, r1, r2 => by
    cases ws with
    | nil => exact ⟨.refl, R, .nil⟩
    | cons _ _ => have := r1.length; simp at this
  | [], _ :: _, _, _, h, _, _, _, _, _ => by cases h
  | _ :: _, [], _, _, h, _, _, _, _, _ => by cases h
  | a :: as, p :: ps, ws, H, h, hn, hnew, R, r1, r2 => by
    cases ws with
    | nil => have := r1.length; simp at this
    | cons w ws =>
      have hn' := List.nodup_cons.mp hn
      have ha : H a = none := hnew a List.mem_cons_self
      obtain ⟨v1, vr1, e1, a1, b1⟩ := RelWs.uncons r1
      obtain ⟨v2, vr2, e2, a2, b2⟩ := RelWs.uncons r2
      cases e1
      cases e2
      obtain ⟨f, R1, w1⟩ := new_tup (xs := [p.1, p.2]) (ws := [w.1, w.2]) R ha (.cons a1 (.cons a2 .nil))
      obtain ⟨f2, R2, w2⟩ := putP_rel as ps ws (upd H a (.tup [p.1, p.2])) (Nat.succ.inj h) hn'.2 (fun t ht => by rw [upd_ne (fun z => hn'.1 (by rw [← z]; exact ht))]; exact hnew t (List.mem_cons_of_mem _ ht)) R1 (f.rels b1) (f.rels b2)
      exact ⟨f.trans f2, R2, .cons (f2.rel w1) w2⟩
end
section
variable {X : Cx}
/-- the heap with new tuples -/
theorem inv_tups {pins : List (Addr × Obj)} {σ : L2.St} {H : Hp} {s : Shared} {h' : Heap} {tk : Nat} {ps : List (V × V)} {as : List Addr} (I : Inv X pins σ H s) (hk : ∀ b o, s.heap.get? b = some o → h'.get? b = some o)
    (hl : as.length = ps.length) (rise : as.Pairwise (· < ·)) (above : ∀ t ∈ as, s.heap.objs.size ≤ t)
    (hat : ∀ (j : Nat) (a : Addr) (p : V × V), as[j]? = some a → ps[j]? = some p → ∃ u v : Value, RelV p.1 u ∧ RelV p.2 v ∧ h'.get? a = some { cls := .type "tuple", data := .seq #[u, v] }) :
    (∀ t ∈ as, H t = none) ∧ as.Nodup ∧ Inv X pins σ (putP H as ps) { s with heap := h', toks := tk } := by
  have nd : as.Nodup := List.Pairwise.imp (fun {a b} (h : a < b) => Nat.ne_of_lt h) rise
  have new : ∀ t ∈ as, H t = none := fun t ht => I.hok.fresh (above t ht)
  refine ⟨new, nd, ?_⟩
  have atP := putP_at as ps H hl nd
  have off : ∀ b, b ∉ as → putP H as ps b = H b := fun b h1 => putP_off as ps H h1
  have low : ∀ b o, s.heap.get? b = some o → b ∉ as := fun b o e z => absurd (Heap.lt_size e) (Nat.not_lt.mpr (above b z))
  have kp : ∀ b u, H b = some u → (putP H as ps) b = some u := fun b u e => by
    rw [off b (fun z => by rw [new b z] at e; cases e)]
    exact e
  refine I.call' (ch := []) rfl ⟨fun b o q _ _ _ => hk b o q, fun b o q _ _ _ => ⟨o.slots, hk b o q⟩, fun b o q n _ => ?_, fun b o q _ => ⟨o, hk b o q⟩, fun b xs q => kp b _ q, fun b o u q => kp b _ q, fun b ps q => ⟨#[], by rw [kp b _ q]; simp⟩⟩ (fun b u q => ?_) I.bare fun b z => by simp at z
  · rw [off b (low b o q)]
    exact n
  · by_cases hb : b ∈ as
    · obtain ⟨j, pk, e1, e2, e3⟩ := LiI.paired_ix atP hb
      rw [e3] at q
      cases q
      obtain ⟨x, y, f1, f2, f3⟩ := hat j b pk e1 e2
      exact ⟨by show 2 ≤ sizeLine; decide, [x, y], .cons f1 (.cons f2 .nil), ⟨_, f3, rfl, _, rfl⟩⟩
    · rw [off b hb] at q
      exact (I.hok b u q).stay (fun d v _ y => hk d v y) (fun d y => kp d _ y) fun d xs y => kp d _ y
/-- .. and a new list beside them -/
theorem inv_tupsL {pins : List (Addr × Obj)} {σ : L2.St} {H : Hp} {s : Shared} {h' : Heap} {tk c : Nat} {ps : List (V × V)} {as : List Addr} {xs : List V} {its : List Value} (I : Inv X pins σ H s) (hk : ∀ b o, s.heap.get? b = some o → h'.get? b = some o)
    (hl : as.length = ps.length) (rise : as.Pairwise (· < ·)) (above : ∀ t ∈ as, s.heap.objs.size ≤ t)
    (hat : ∀ (j : Nat) (a : Addr) (p : V × V), as[j]? = some a → ps[j]? = some p → ∃ u v : Value, RelV p.1 u ∧ RelV p.2 v ∧ h'.get? a = some { cls := .type "tuple", data := .seq #[u, v] })
    (hxl : xs.length ≤ sizeLine) (hSn : s.heap.objs.size ∉ as) (hv : Vals xs its) (hS : h'.get? s.heap.objs.size = some { cls := .type "list", data := .seq its.toArray c }) :
    Inv X pins σ (upd (putP H as ps) s.heap.objs.size (.lst xs)) { s with heap := h', toks := tk } := by
  have nd : as.Nodup := List.Pairwise.imp (fun {a b} (h : a < b) => Nat.ne_of_lt h) rise
  have new : ∀ t ∈ as, H t = none := fun t ht => I.hok.fresh (above t ht)
  have newS : H s.heap.objs.size = none := I.hok.fresh (Nat.le_refl _)
  have atP := putP_at as ps H hl nd
  have off : ∀ b, b ∉ as → b ≠ s.heap.objs.size → upd (putP H as ps) s.heap.objs.size (.lst xs) b = H b := fun b h1 h2 => by rw [upd_ne h2, putP_off as ps H h1]
  have low : ∀ b o, s.heap.get? b = some o → b ∉ as ∧ b ≠ s.heap.objs.size := fun b o e => ⟨fun z => absurd (Heap.lt_size e) (Nat.not_lt.mpr (above b z)), Nat.ne_of_lt (Heap.lt_size e)⟩
  have kp : ∀ b u, H b = some u → upd (putP H as ps) s.heap.objs.size (.lst xs) b = some u := fun b u e => by
    rw [off b (fun z => by rw [new b z] at e; cases e) (fun z => by rw [z, newS] at e; cases e)]
    exact e
  refine I.call' (ch := []) rfl ⟨fun b o q _ _ _ => hk b o q, fun b o q _ _ _ => ⟨o.slots, hk b o q⟩, fun b o q n _ => ?_, fun b o q _ => ⟨o, hk b o q⟩, fun b xs q => kp b _ q, fun b o u q => kp b _ q, fun b ps q => ⟨#[], by rw [kp b _ q]; simp⟩⟩ (fun b u q => ?_) I.bare fun b z => by simp at z
  · obtain ⟨z1, z2⟩ := low b o q
    rw [off b z1 z2]
    exact n
  · by_cases hb2 : b = s.heap.objs.size
    · subst hb2
      rw [upd_same] at q
      cases q
      exact ⟨hxl, its, c, hv, hS⟩
    · by_cases hb : b ∈ as
      · obtain ⟨j, pk, e1, e2, e3⟩ := LiI.paired_ix atP hb
        rw [upd_ne hb2, e3] at q
        cases q
        obtain ⟨x, y, f1, f2, f3⟩ := hat j b pk e1 e2
        exact ⟨by show 2 ≤ sizeLine; decide, [x, y], .cons f1 (.cons f2 .nil), ⟨_, f3, rfl, _, rfl⟩⟩
      · rw [off b hb hb2] at q
        exact (I.hok b u q).stay (fun d v _ y => hk d v y) (fun d y => kp d _ y) fun d xs y => kp d _ y
/-- the pairs of a dict, gathered: new tuples -/
def viewI (p a : Addr) : HO := .ext fun h => h.IsItemsView p a
abbrev rItemsV (X : Cx) : V → List V → Hp → VK → Prop := fun x vs H Q => ∃ a uo ks ys, x = .ref a ∧ vs = [] ∧ Rd H a uo ∧ Rows X a uo ks ys ∧ ∀ p, H p = none → Q (.ref p) (upd H p (viewI p a))
theorem mt_itemsZ {X : Cx} : MtR X "dict.items" (rItemsV X) := by
  rintro pins s σ H x xs v us Q I rx rxs ⟨a, uo, ks, ys, rfl, rfl, hr, rws, q⟩
  cases rx
  cases rxs
  obtain ⟨o, ho, es, ep, hx, hdt, _⟩ := rd_raw I hr rws
  refine call_meetsIn PySem.F.slot_dict_items ⟨o, ho, hx.1⟩ PySem.F.entry_dict_items (PySem.F.args_dict_items_1 _) (meets_dict_items_raw a rws.1) ⟨⟨es, ep, o, ho, hx, hdt⟩, ?_⟩
  refine ⟨.ref s.heap.objs.size, _, I.laid (a := s.heap.objs.size) (o := viewI s.heap.objs.size a) (t' := s.toks) (fun b ob q => Heap.get?_push_of_some _ q) (Nat.le_refl _) ?_, rfl, q _ (I.hok.fresh (Nat.le_refl _))⟩
  refine ⟨⟨_, Heap.get?_push_size _ rfl, rfl, rfl⟩, ⟨_, Heap.get?_push_size _ rfl⟩, ?_⟩
  rintro h1 h2 ⟨o', e1, e2, e3⟩ kk
  exact ⟨o', kk _ e1, e2, e3⟩
theorem dil_pairs {es : Array DictEntry} {lo : Addr} {h : Heap} {as : List Addr} {ks ys : List V} (g : DilG es lo h as) (hvl : ys.length = ks.length) (hrow : ∀ (i : Nat) (k v : V), ks[i]? = some k → ys[i]? = some v → ∃ en, es[i]? = some en ∧ RelV k en.key ∧ RelV v en.val) :
    ∀ (j : Nat) (a : Addr) (p : V × V), as[j]? = some a → (ks.zip ys)[j]? = some p → ∃ u v : Value, RelV p.1 u ∧ RelV p.2 v ∧ h.get? a = some { cls := .type "tuple", data := .seq #[u, v] } := by
  intro j a p ha hp
  obtain ⟨hj, e1⟩ := g.pairs j a ha
  obtain ⟨z1, z2⟩ := List.getElem?_zip_eq_some.mp hp
  obtain ⟨en, e2, e3, e4⟩ := hrow j p.1 p.2 z1 z2
  have := (Array.getElem?_eq_some_iff.mp e2).2
  exact ⟨_, _, e3, e4, by rw [← this]; exact e1⟩
abbrev rListI (X : Cx) : List V → Hp → VK → Prop := fun vs H Q => ∃ p a uo ks ys, vs = [.ref p] ∧ H p = some (viewI p a) ∧ Rd H a uo ∧ Rows X a uo ks ys ∧ ys.length ≤ sizeLine ∧ ∀ (as : List Addr) l, as.length = (ks.zip ys).length → as.Nodup → (∀ t ∈ as, H t = none) → l ∉ as → H l = none → Q (.ref l) (upd (putP H as (ks.zip ys)) l (.lst (as.map V.ref)))
theorem call_listI {X : Cx} (hc : X.calm = true) : CallR X (.type "list") (rListI X) := by
  rintro pins s σ H xs us Q I rx ⟨p, a, uo, ks, ys, rfl, hp, hr, rws, hl, q⟩
  obtain ⟨u, rfl, ru⟩ := vals1' rx
  cases ru
  obtain ⟨o, ho, es, ep, hx, hdt, hsz, hvl, hrow⟩ := rd_raw I hr rws
  obtain ⟨hv, _, _⟩ := I.hok p _ hp
  refine dil_call (es := es) (ep := ep) (I.ok.hd hc) hv ⟨o, ho, hx, hdt⟩ (by omega) fun h' tk acc c as hk hS hal hG hacc => ?_
  have hzl : as.length = (ks.zip ys).length := by rw [List.length_zip]; omega
  obtain ⟨z1, z2, _⟩ := inv_tups (tk := tk) I hk hzl hG.rise (fun t ht => Nat.le_of_lt (hG.above t ht)) (dil_pairs hG hvl hrow)
  have hSn : s.heap.objs.size ∉ as := fun z => Nat.lt_irrefl _ (hG.above _ z)
  have newS : H s.heap.objs.size = none := I.hok.fresh (Nat.le_refl _)
  refine ⟨.ref s.heap.objs.size, _, ?_, rfl, q as s.heap.objs.size hzl z2 z1 hSn newS⟩
  exact inv_tupsL (tk := tk) I hk hzl hG.rise (fun t ht => Nat.le_of_lt (hG.above t ht)) (dil_pairs hG hvl hrow) (by rw [List.length_map]; omega) hSn (xs := as.map V.ref) (its := acc.toList) (c := c) (by rw [hacc]; exact LiI.vals_refs as) (by rw [Array.toArray_toList]; exact hS)
/-- the pairs, gathered for sorted -/
theorem gather_items {X : Cx} (hc : X.calm = true) {H : Hp} {a p : Addr} {uo : HO} {ks ys : List V} (hp : H p = some (viewI p a)) (hr : Rd H a uo) (rws : Rows X a uo ks ys) (hl : ks.length ≤ sizeLine)
    (pins : List (Addr × Obj)) (σ : St) (s : Shared) (u : Value) (E : Value → Shared → Prop) (R : List Value → Shared → Prop) (I : Inv X pins σ H s) (ru : RelV (.ref p) u)
    (k : ∀ as us s', as.length = (ks.zip ys).length → as.Nodup → (∀ t ∈ as, H t = none) → Inv X pins σ (putP H as (ks.zip ys)) s' → Vals (as.map V.ref) us → R us s') : wpAny (model X.prog X.w) X.A.in1 (collect u) R E s := by
  cases ru
  obtain ⟨o, ho, es, ep, hx, hdt, hsz, hvl, hrow⟩ := rd_raw I hr rws
  obtain ⟨hv, _, _⟩ := I.hok p _ hp
  refine dil_collect (A := X.A.in1) (es := es) (ep := ep) (I.ok.hd hc) hv ⟨o, ho, hx, hdt⟩ (by omega) fun h' tk as hk hal hG => ?_
  have hzl : as.length = (ks.zip ys).length := by rw [List.length_zip]; omega
  obtain ⟨z1, z2, I2⟩ := inv_tups (tk := tk) I hk hzl hG.rise (fun t ht => Nat.le_of_lt (hG.above t ht)) (dil_pairs hG hvl hrow)
  exact k as _ _ hzl z2 z1 I2 (LiI.vals_refs as)
/-- list(d.items()) -/
def mListItems (a : Ex) : Ex := fun sl L => match a sl L with
  | some (.ref n, L1) => match tabOf L1 n with
    | some kvs => fLst (kvs.map fun p => .tup [p.1, p.2]) L1
    | none => none
  | _ => none
def mSortItems (a : Ex) : Ex := fun sl L => match a sl L with
  | some (.ref n, L1) => match tabOf L1 n with
    | some kvs => match sortW L1 (kvs.map fun p => .tup [p.1, p.2]) with
      | some ws => fLst ws L1
      | none => none
    | none => none
  | _ => none
theorem view_apart {H : Hp} {a p : Addr} {uo : HO} (hp : H p = none) (hr : Rd H a uo) : Rd (upd H p (viewI p a)) a uo := by
  have hpa : a ≠ p := fun z => by
    subst z
    rcases hr with hr | ⟨o, hr⟩ <;> (rw [hr] at hp; cases hp)
  rcases hr with hr | ⟨o, hr⟩
  · exact .inl (by rw [upd_ne hpa]; exact hr)
  · exact .inr ⟨o, by rw [upd_ne hpa]; exact hr⟩
theorem zip_map_fst {α β : Type} : ∀ {xs : List α} {ys : List β}, ys.length = xs.length → (xs.zip ys).map (·.1) = xs ∧ (xs.zip ys).map (·.2) = ys
  | [], [], _ => ⟨rfl, rfl⟩
  | [], _ :: _, h => by simp at h
  | _ :: _, [], h => by simp at h
  | x :: xs, y :: ys, h => by
    obtain ⟨a, b⟩ := zip_map_fst (xs := xs) (ys := ys) (by simpa using h)
    exact ⟨by rw [List.zip_cons_cons, List.map_cons, a], by rw [List.zip_cons_cons, List.map_cons, b]⟩
theorem ze_listItems {X : Cx} {F : Fx} {o : Expr} {ma : Ex} {apos cpos p pos : Pos} (hX : FxOk X F) (hc : X.calm = true) (hg : Gl X "list") (hm : X.mg "list" = none) (hv : bootBuiltins "list" = some (.type "list")) (ho : PE X o (TZ X.K F ma))
    (hbase : attributeBase o "items" X.env (eval o X.env) = eval o X.env := by rfl) (hline : (apos.endLine == cpos.line) = true := by rfl)
    (he : starEach [.Call (.Attribute o "items" apos) [] [] cpos] X.env = [(false, eval (.Call (.Attribute o "items" apos) [] [] cpos) X.env)] := by rfl) :
    PE X (.Call (.Name "list" p) [.Call (.Attribute o "items" apos) [] [] cpos] [] pos) (TZ X.K F (mListItems ma)) := by
  refine PE.imp (pe_callTy (call_listI hc) hg hm hv (pa_cons (pe_mG0 ty_dctZ PySem.F.plainAttrs_dict PySem.F.slot_dict_items PySem.F.type_dict_items mt_itemsZ ho hbase hline) pa_nil he) (by decide) (by decide) he rfl) ?_
  rintro σ H Q ⟨e, ρ, sl, L, w, L', he, hs, hh, hm, k⟩
  unfold mListItems at hm
  split at hm
  · rename_i n L1 h1
    split at hm
    · rename_i kvs ht
      obtain ⟨h2, h3, rfl, rfl⟩ := fLst_spec hm
      refine ⟨e, ρ, sl, L, _, _, he, hs, hh, h1, fun ρ1 H1 v f1 r1 w1 => ?_⟩
      obtain ⟨a, uo, ha, hr, d⟩ := r1.tab ht
      have ty := tz_dct hX e ρ1 H1 L1 (.ref n) v r1 w1 (by simp [isD, ht])
      unfold RelW at w1
      obtain ⟨a', rfl, ha'⟩ := w1
      rw [ha] at ha'; cases ha'
      obtain ⟨ks, ys, rws, q1, q2⟩ := dct_rows hX d
      refine ⟨ty, a, uo, ks, ys, rfl, rfl, hr, rws, fun p hp => ?_⟩
      have fv : Fm ρ1 ρ1 H1 (upd H1 p (viewI p a)) := fm_new hp
      have rv := r1.new (o := viewI p a) hp
      show rListI X [.ref p] (upd H1 p (viewI p a)) Q
      have ekl : ys.length = ks.length := by rw [q1.length, q2.length, List.length_map, List.length_map]
      obtain ⟨zf, zs⟩ := zip_map_fst ekl
      refine ⟨p, a, uo, ks, ys, rfl, upd_same, view_apart hp hr, rws, ?_, fun as l hal nd hnew hln hl => ?_⟩
      · rw [q2.length, List.length_map]; rw [List.length_map] at h2; exact h2
      · obtain ⟨f2, r2, w2⟩ := putP_rel as (ks.zip ys) kvs _ hal nd hnew rv (by rw [zf]; exact fv.rels q1) (by rw [zs]; exact fv.rels q2)
        have hl2 : (putP (upd H1 p (viewI p a)) as (ks.zip ys)) l = none := by rw [putP_off _ _ _ hln]; exact hl
        obtain ⟨f3, r3, w3⟩ := new_lst r2 hl2 h3 w2
        exact k _ _ _ (((f1.trans fv).trans f2).trans f3) r3 w3
    · cases hm
  · cases hm
abbrev SortT (X : Cx) (H2 : Hp) (ys out : List V) : Prop := ∀ (pins : List (Addr × Obj)) (σ : St) (s : Shared) (us : List Value) (E : Value → Shared → Prop) (α : Type) (Q' : α → Shared → Prop) (g : Value → Sem α), Inv X pins σ H2 s → Vals ys us →
      (∀ l s', H2 l = none → Inv X pins σ (upd H2 l (.lst out)) s' → wpAny (model X.prog X.w) X.A.in1 (g (.ref l)) Q' E s') →
      wpAny (model X.prog X.w) X.A.in1 (newList us >>= fun l => holding [l] (call (.builtin "list.sort") [l]) >>= fun _ => g l) Q' E s
abbrev rSortI (X : Cx) : List V → Hp → VK → Prop := fun vs H Q => ∃ p a uo ks ys, vs = [.ref p] ∧ H p = some (viewI p a) ∧ Rd H a uo ∧ Rows X a uo ks ys ∧ ks.length ≤ sizeLine ∧
  ∀ as : List Addr, as.length = (ks.zip ys).length → as.Nodup → (∀ t ∈ as, H t = none) → ∃ out, SortT X (putP H as (ks.zip ys)) (as.map V.ref) out ∧ ∀ l, putP H as (ks.zip ys) l = none → Q (.ref l) (upd (putP H as (ks.zip ys)) l (.lst out))
theorem cr_sortedI' {X : Cx} (hc : X.calm = true) : CallR X (.builtin "sorted") (rSortI X) := by
  rintro pins s σ H xs us Q I rx ⟨p, a, uo, ks, ys, rfl, hp, hr, rws, hl, q⟩
  obtain ⟨u, rfl, ru⟩ := vals1' rx
  refine Calls.call_function_entry PyProof.Rows.kind_sorted PyProof.Rows.plain_sorted PyProof.Rows.entry_sorted (PyProof.Rows.args_sorted1 _) ?_
  unfold Builtin.«sorted»
  refine wpAny_bind (m := checkCount "sorted" 1 1 _) (wpAny_pure ?_)
  refine wpAny_bind (gather_items hc hp hr rws hl pins σ s u _ _ I ru fun as us s' hal nd hnew I' rv => ?_)
  obtain ⟨out, so, q2⟩ := q as hal nd hnew
  refine so pins σ s' us _ _ _ (fun l => ret l) I' rv fun l s2 hl I2 => ?_
  exact wpAny_pure ⟨_, rfl, .ref l, _, I2, rfl, q2 l hl⟩
theorem ze_sortItems {X : Cx} {F : Fx} {o : Expr} {ma : Ex} {apos cpos p pos : Pos} (hX : FxOk X F) (hc : X.calm = true) (hu : X.A.units + 64 < cLine) (hg : Gl X "sorted") (hm : X.mg "sorted" = none) (hv : bootBuiltins "sorted" = some (.builtin "sorted")) (ho : PE X o (TZ X.K F ma))
    (hbase : attributeBase o "items" X.env (eval o X.env) = eval o X.env := by rfl) (hline : (apos.endLine == cpos.line) = true := by rfl)
    (he : starEach [.Call (.Attribute o "items" apos) [] [] cpos] X.env = [(false, eval (.Call (.Attribute o "items" apos) [] [] cpos) X.env)] := by rfl) :
    PE X (.Call (.Name "sorted" p) [.Call (.Attribute o "items" apos) [] [] cpos] [] pos) (TZ X.K F (mSortItems ma)) := by
  refine PE.imp (pe_callB (cr_sortedI' hc) hg hm hv (pa_cons (pe_mG0 ty_dctZ PySem.F.plainAttrs_dict PySem.F.slot_dict_items PySem.F.type_dict_items mt_itemsZ ho hbase hline) pa_nil he) (by decide) (by decide) he rfl) ?_
  rintro σ H Q ⟨e, ρ, sl, L, w, L', he, hs, hh, hm, k⟩
  unfold mSortItems at hm
  split at hm
  · rename_i n L1 h1
    split at hm
    · rename_i kvs ht
      split at hm
      · rename_i ws hw
        obtain ⟨h2, h3, rfl, rfl⟩ := fLst_spec hm
        refine ⟨e, ρ, sl, L, _, _, he, hs, hh, h1, fun ρ1 H1 v f1 r1 w1 => ?_⟩
        obtain ⟨a, uo, ha, hr, d⟩ := r1.tab ht
        have ty := tz_dct hX e ρ1 H1 L1 (.ref n) v r1 w1 (by simp [isD, ht])
        unfold RelW at w1
        obtain ⟨a', rfl, ha'⟩ := w1
        rw [ha] at ha'; cases ha'
        obtain ⟨ks, ys, rws, q1, q2⟩ := dct_rows hX d
        refine ⟨ty, a, uo, ks, ys, rfl, rfl, hr, rws, fun p hp => ?_⟩
        have fv : Fm ρ1 ρ1 H1 (upd H1 p (viewI p a)) := fm_new hp
        have rv := r1.new (o := viewI p a) hp
        show rSortI X [.ref p] (upd H1 p (viewI p a)) Q
        have ekl : ys.length = ks.length := by rw [q1.length, q2.length, List.length_map, List.length_map]
        obtain ⟨zf, zs⟩ := zip_map_fst ekl
        refine ⟨p, a, uo, ks, ys, rfl, upd_same, view_apart hp hr, rws, ?_, fun as hal nd hnew => ?_⟩
        · rw [q1.length, List.length_map]; exact line_ok d.2.1
        · obtain ⟨f2, r2, w2⟩ := putP_rel as (ks.zip ys) kvs _ hal nd hnew rv (by rw [zf]; exact fv.rels q1) (by rw [zs]; exact fv.rels q2)
          obtain ⟨out, ro, so⟩ := sort_tail (X := X) rfl hu he r2 hw w2
          refine ⟨out, so, fun l hl => ?_⟩
          obtain ⟨f3, r3, w3⟩ := new_lst r2 hl h3 ro
          exact k _ _ _ (((f1.trans fv).trans f2).trans f3) r3 w3
      · cases hm
    · cases hm
  · cases hm
end
end Z

set_option Elab.async false
set_option linter.all false
set_option maxRecDepth 100000
set_option maxHeartbeats 1000000
/-! Z: d.pop(k, x), del d[k]. -/
namespace Z
open PySem PySem.Spec PyProof.Rows L2 PySem.W
section
variable {X : Cx} {F : Fx}
def fDPop2 : W → List W → LH → Option (W × LH) := fun x ys L => match x with
  | .ref n => match ys with
    | [k, z] => match L.get n with
      | some (.dct kvs) => match dGet k kvs with
        | some (some w) => match dDrop k kvs with
          | some kvs' => cond (sameK k kvs && Nat.blt L.n top) (some (w, L.set n (.dct kvs'))) none
          | none => none
        | some none => cond (sameK k kvs) (some (z, L)) none
        | none => none
      | _ => none
    | _ => none
  | _ => none
abbrev rDPop2Z (X : Cx) : V → List V → Hp → VK → Prop := fun x vs H Q => ∃ a y z, x = .ref a ∧ vs = [y, z] ∧ ((∃ v uo', Drops X H a y v uo' ∧ Q v (upd H a uo')) ∨ ((∃ uo ks ys, Rd H a uo ∧ Rows X a uo ks ys ∧ ks.length ≤ sizeLine) ∧ Asks X H x y none ∧ Q z H))
theorem keyPart_of {l : L2.Key} {u : Value} (h : keyIs l u = true) : (keyPart u).isSome = true := by
  rcases keyIs_shape h with ⟨i, t, _, rfl⟩ | ⟨z, t, _, rfl⟩ <;> rfl
theorem mt_dpop2Z (hu : X.A.units + 64 < cLine) : MtR X "dict.pop" (rDPop2Z X) := by
  rintro pins s σ H x xs v us Q I rx rxs ⟨a, y, z, rfl, rfl, h⟩
  cases rx
  obtain ⟨u, w, rfl, ru, rw'⟩ := vals2' rxs
  rcases h with ⟨v, uo', dr, q⟩ | ⟨⟨uo, ks, ys, hr, rws, hkl⟩, ⟨a', e, ask⟩, q⟩
  · rcases dr pins σ s u I ru with ⟨l, vs, r, lu, dd, hz, rv, hv, hp, kk⟩ | ⟨nk, b, xs, p, rfl, hk, dd, hz, hp, rv, hd, kk⟩
    · exact call_meetsIn PySem.F.slot_dict_pop dd.typeIs PySem.F.entry_dict_pop (PySem.F.args_dict_pop_3 _ _ _) (meets_dict_pop_there (mixKind X.prog X.w) a lu [w] (.inr ⟨w, rfl⟩) hp)
        ⟨vs, r, dd, hz, hv, fun h' dd' hs => ⟨v, _, kk h' dd' hs pins σ _ I, rv, q⟩⟩
    · exact call_pop_heap (hsz := hz) (.inr ⟨w, rfl⟩) (PySem.F.args_dict_pop_3 _ _ _) (nkRoom hu) hk hd dd hp fun h' dd' hs => ⟨v, _, kk h' dd' hs pins σ _ I, rv, q⟩
  · cases e
    obtain ⟨o, ho, es, ep, hx, hdt, hsz, _, _⟩ := rd_raw I hr rws
    obtain ⟨hd, ⟨l, vs, lu, dd, r⟩ | ⟨nk, b, xs, rfl, hk, dd, r⟩⟩ := ask pins σ s u I ru
    · refine call_meetsIn PySem.F.slot_dict_pop dd.typeIs PySem.F.entry_dict_pop (PySem.F.args_dict_pop_3 _ _ _) (meets_dict_pop_default (mixKind X.prog X.w) a lu hd (keyPart_of lu) w) ⟨vs, dd, ?_, ⟨_, H, I.tok _, rw', q⟩⟩
      cases e : valueAt vs l with
      | none => rfl
      | some _ => rw [e] at r; exact absurd r id
    · refine call_pop_default_heap (hsz := by obtain ⟨o2, es2, ep2, g1, g2, g3, g4, _⟩ := dd; rw [ho] at g1; cases g1; rw [hdt] at g3; cases g3; have := congrArg List.length g4; simp at this; omega) (nkRoom hu) hk hd dd ?_ fun tk => ⟨_, H, I.tok _, rw', q⟩
      cases e : atKey xs nk with
      | none => rfl
      | some _ => rw [e] at r; exact absurd r id
theorem mz_dpop2 (hX : FxOk X F) : MtZ X.K F (rDPop2Z X) fDPop2 := by
  intro e ρ H L x ys vx vs w L' Q he R rx ry h k
  unfold fDPop2 at h
  split at h
  · rename_i n
    split at h
    · rename_i y z
      obtain ⟨v, v2, rfl, rv, rv2⟩ := rel2 ry
      split at h
      · rename_i kvs g
        have rx0 := rx
        unfold RelW at rx
        obtain ⟨a, rfl, ha⟩ := rx
        obtain ⟨a', uo, p1, p2, p3⟩ := R.dct g
        rw [ha] at p1; cases p1
        refine ⟨a, v, v2, rfl, rfl, ?_⟩
        split at h
        · rename_i w' hg
          split at h
          · rename_i kvs' hp
            obtain ⟨q, h⟩ := cond_some h
            cases h
            rw [Bool.and_eq_true] at q
            obtain ⟨uo', z, d', rz, op⟩ := dct_drop hX he p3 p2 rv q.1 hg hp
            obtain ⟨f3, r3⟩ := put_dct R ha (Nat.le_of_ble_eq_true q.2) p2 p3 d'
            refine .inl ⟨z, uo', fun pins σ s u I ru => ?_, k ρ _ z f3 r3 (f3.rel rz)⟩
            rcases op pins σ s u I ru with h | ⟨nk, b, xs, p, h1, h2, h3, h4, h5, h6, h7⟩
            · exact .inl h
            · exact .inr ⟨nk, b, xs, p, h1, h2, h3, h4, h5, h6, p3.1, h7⟩
          · cases h
        · rename_i hg
          obtain ⟨q, h⟩ := cond_some h
          cases h
          have hask : dAsk (.ref n) y L = some none := by
            simp only [dAsk, tabOf, g, q, cond, hg]
          obtain ⟨vo, h1, hq⟩ := dAsk_ok hX he R rx0 rv hask
          have : vo = none := h1
          subst this
          obtain ⟨ks, ys, rws, q1, q2⟩ := dct_rows hX p3
          exact .inr ⟨⟨uo, ks, ys, .of p2, rws, by rw [q1.length, List.length_map]; exact line_ok p3.2.1⟩, hq, k ρ H _ .refl R rv2⟩
        · cases h
      · cases h
    · cases h
  · cases h

/-! ### del d[k] -/
def sDel (a b : Ex) : Sm := fun sl L => match a sl L with
  | some (.ref n, L1) => match b sl L1 with
    | some (k, L2) => match L2.get n with
      | some (.dct kvs) => match dGet k kvs with
        | some (some _) => match dDrop k kvs with
          | some kvs' => cond (sameK k kvs && Nat.blt L2.n top) (some (.nx, sl, L2.set n (.dct kvs'))) none
          | none => none
        | _ => none
      | _ => none
    | none => none
  | _ => none
theorem ps_delZ {o i : Expr} {ta tb : TE} {tpos pos : Pos} (hu : X.A.units + 64 < cLine) (ho : PE X o ta) (hi : PE X i tb) :
    PS X (.Delete [.Subscript o i tpos] pos) (fun D σ H => ta σ H fun x H1 => tb σ H1 fun y H2 => ∃ a v uo', x = .ref a ∧ Drops X H2 a y v uo' ∧ D.nx σ (upd H2 a uo')) := by
  refine ⟨fun pins s σ H D I h => ?_⟩
  refine wpAny_Delete (wpAny_deleteEach_cons (wpAny_delete_Subscript (thn (ho.run pins s σ H _ I h) fun u s1 ⟨x, H1, I1, rx, q1⟩ => thn (hi.run pins s1 σ H1 _ I1 q1) fun iv s2 ⟨y, H2, I2, ry, a, v, uo', ex, dr, q2⟩ => ?_)))
  subst ex
  obtain rfl : u = Value.ref a := rx
  rcases dr pins σ s2 iv I2 ry with ⟨l, vs, r, lu, dd, hz, rv, hv, hp, kk⟩ | ⟨nk, b, xs, p, rfl, hk, dd, hz, hp, rv, hd, kk⟩
  · exact wpAny_delItem_slot dd.typeIs (by decide) PySem.F.slot_dict_delitem
      (call_meetsIn PySem.F.slot_dict_delitem dd.typeIs PySem.F.entry_dict_delitem (PySem.F.args_dict_delitem_2 _ _) (meets_dict_delitem_pairs (mixKind X.prog X.w) a lu) ⟨vs, dd, hz, by rw [hv]; rfl, fun h' dd' hs => wpAny_deleteEach_nil ⟨σ, _, kk h' dd' hs pins σ _ I2, q2⟩⟩)
  · exact wpAny_delItem_heap (hsz := hz) (nkRoom hu) hk hd dd hp fun h' dd' hs => wpAny_deleteEach_nil ⟨σ, _, kk h' dd' hs pins σ _ I2, q2⟩
theorem zs_del {o i : Expr} {ma mb : Ex} {tpos pos : Pos} (hX : FxOk X F) (hu : X.A.units + 64 < cLine) (ha : PE X o (TZ X.K F ma)) (hb : PE X i (TZ X.K F mb)) : PS X (.Delete [.Subscript o i tpos] pos) (SZ X.K F (sDel ma mb)) := by
  refine PS.imp (ps_delZ hu ha hb) ?_
  rintro D σ H ⟨e, ρ, sl, L, oo, sl', L', he, hs, hh, hm, kk⟩
  unfold sDel at hm
  split at hm
  · rename_i n L1 h1
    split at hm
    · rename_i y L2 h2
      split at hm
      · rename_i kvs g
        split at hm
        · rename_i w' hg
          split at hm
          · rename_i kvs' hp
            obtain ⟨q, hm⟩ := cond_some hm
            cases hm
            rw [Bool.and_eq_true] at q
            refine ⟨e, ρ, sl, L, _, _, he, hs, hh, h1, fun ρ1 H1 v1 f1 r1 w1 => ?_⟩
            refine ⟨e, ρ1, sl, L1, _, _, he, f1.relSl hs, r1, h2, fun ρ2 H2 v2 f2 r2 w2 => ?_⟩
            have w1' := f2.rel w1
            unfold RelW at w1'
            obtain ⟨a, rfl, ha⟩ := w1'
            obtain ⟨a', uo, p1, p2, p3⟩ := r2.dct g
            rw [ha] at p1; cases p1
            obtain ⟨uo', z, d', rz, op⟩ := dct_drop hX he p3 p2 w2 q.1 hg hp
            obtain ⟨f3, r3⟩ := put_dct r2 ha (Nat.le_of_ble_eq_true q.2) p2 p3 d'
            have fA := (f1.trans f2).trans f3
            refine ⟨a, z, uo', rfl, fun pins σ s u I ru => ?_, kk ρ2 _ σ fA r3 (fA.relSl hs)⟩
            rcases op pins σ s u I ru with h | ⟨nk, b, xs, p, h1, h2, h3, h4, h5, h6, h7⟩
            · exact .inl h
            · exact .inr ⟨nk, b, xs, p, h1, h2, h3, h4, h5, h6, p3.1, h7⟩
          · cases hm
        · cases hm
      · cases hm
    · cases hm
  · cases hm

/-! ### dict(d), keys by value -/
abbrev rDictC (X : Cx) (F : Fx) : List V → Hp → VK → Prop := fun vs H Q => ∃ a uo us, vs = [.ref a] ∧ Rd H a uo ∧ (uo = LfO F.P F.w a us ∨ (us = [] ∧ uo = TpO F.P F.w a [])) ∧ (a == sysModules) = false ∧ us.length ≤ sizeLine ∧ ∀ l, H l = none → (l == sysModules) = false → Q (.ref l) (upd H l (LfO X.prog X.w l us))
theorem call_dictC {X : Cx} {F : Fx} (hX : FxOk X F) : CallR X (.type "dict") (rDictC X F) := by
  rintro pins s σ H xs vs Q I rx ⟨a, uo, us, rfl, hr, huo, hs0, hl, q⟩
  obtain ⟨u, rfl, ru⟩ := vals1' rx
  cases ru
  obtain ⟨ws, kv, dd⟩ := lf_sem hX I hr huo
  have wl : ws.length = us.length := by have := kv.length; omega
  refine kt_call_dict hs0 dd (by rw [wl]; exact hl) fun h' d' hs => ?_
  have hm : (s.heap.objs.size == sysModules) = false := beq_eq_false_iff_ne.mpr (Nat.ne_of_gt I.big)
  refine ⟨.ref s.heap.objs.size, _, I.laid (o := LfO X.prog X.w s.heap.objs.size us) (t' := s.toks) (fun b u e => (hs.2 b (Nat.ne_of_lt (Heap.lt_size e))).trans (Heap.get?_push_of_some _ e)) (Nat.le_refl _) ?_, rfl, q _ (I.hok.fresh (Nat.le_refl _)) hm⟩
  refine ⟨⟨ws, kv, d'⟩, let ⟨o, _, _, ho, _⟩ := d'; ⟨o, ho⟩, ?_⟩
  rintro h1 h2 ⟨vs2, y1, o2, es2, ep2, y2, y3⟩ kk
  exact ⟨vs2, y1, o2, es2, ep2, kk _ y2, y3⟩
/-- only dicts whose keys are ints and texts (or none at all) -/
def lfTab (kvs : List (W × W)) : Bool := kvs.all fun p => isLf p.1
def fDictC : List W → LH → Option (W × LH) := fun xs L => match xs with
  | [.ref n] => match tabOf L n with
    | some kvs => cond (lfTab kvs && Nat.blt L.n top) (some (.ref L.n, L.add (.dct kvs))) none
    | none => none
  | _ => none
theorem cz_dictC {X : Cx} {F : Fx} (hX : FxOk X F) : CallZ X.K F (rDictC X F) fDictC := by
  intro e ρ H L xs vs w L' Q he R rx h k
  unfold fDictC at h
  split at h
  · rename_i n
    split at h
    · rename_i kvs ht
      obtain ⟨q, h⟩ := cond_some h
      cases h
      rw [Bool.and_eq_true] at q
      obtain ⟨c1, c3⟩ := q
      obtain ⟨v, rfl, rv⟩ := rel1 rx
      unfold RelW at rv
      obtain ⟨a, rfl, ha⟩ := rv
      obtain ⟨a', uo, p1, hr, d⟩ := R.tab ht
      rw [ha] at p1; cases p1
      obtain ⟨d1, d2, ⟨us, rfl, r, nd⟩ | ⟨us, rfl, r, nd⟩⟩ := d
      · have ul : us.length = kvs.length := (Paired.length r).symm
        refine ⟨a, _, us, rfl, hr, .inl rfl, d1, by rw [ul]; exact line_ok d2, fun l hl hls => ?_⟩
        have f := fm_add (h' := LfO X.prog X.w l us) R hl
        refine k _ _ _ f (R.add hl (Nat.le_of_ble_eq_true c3) ⟨_, upd_same, hls, d2, .inl ⟨us, by rw [hX.P, hX.w], ?_, nd⟩⟩) ?_
        · exact Paired.mapP r fun p q ⟨a1, a2, ⟨kk, a3⟩, a4⟩ => ⟨a1, a2, ⟨kk, f.rel a3⟩, f.rel a4⟩
        · unfold RelW
          exact ⟨l, rfl, by rw [← R.len]; simp⟩
      · cases r with
        | nil =>
          refine ⟨a, _, [], rfl, hr, .inr ⟨rfl, rfl⟩, d1, Nat.zero_le _, fun l hl hls => ?_⟩
          have f := fm_add (h' := LfO X.prog X.w l []) R hl
          refine k _ _ _ f (R.add hl (Nat.le_of_ble_eq_true c3) ⟨_, upd_same, hls, d2, .inl ⟨[], by rw [hX.P, hX.w], .nil, .nil⟩⟩) ?_
          unfold RelW
          exact ⟨l, rfl, by rw [← R.len]; simp⟩
        | @cons p q _ _ z _ =>
          have h1 := List.all_eq_true.mp c1 p List.mem_cons_self
          have h2 := z.1
          obtain ⟨p1, p2⟩ := p
          cases p1 with
          | tup _ => cases h1
          | non => cases h2
          | bl _ => cases h2
          | int _ => cases h2
          | ia _ => cases h2
          | str _ => cases h2
          | ref _ => cases h2
          | fz _ => cases h2
    · cases h
  · cases h
end
end Z

set_option Elab.async false
set_option linter.all false
set_option maxRecDepth 100000
set_option maxHeartbeats 1000000
/-! Z: {k: v, ..}. -/
namespace Z
open PySem PySem.Spec PyProof.Rows L2 PySem.W

def PutsAll (X : Cx) (p : Addr) : List (V × V) → Hp → (Hp → Prop) → Prop
  | [], H, Q => Q H
  | (y, z) :: r, H, Q => ∃ uo', Puts X H p y z uo' ∧ PutsAll X p r (upd H p uo') Q
theorem run_puts {X : Cx} (hu : X.A.units + 64 < cLine) {pins : List (Addr × Obj)} {σ : St} {p : Addr} {E : Value → Shared → Prop} {Q : PUnit → Shared → Prop} : ∀ (ps : List (V × V)) (ws : List (Value × Value)) (H : Hp) (s : Shared), VV ps ws → Inv X pins σ H s → PutsAll X p ps H (fun H' => ∀ s', Inv X pins σ H' s' → Q PUnit.unit s') →
    wpAny (model X.prog X.w) X.A (forIn ws PUnit.unit fun (x : Value × Value) (_ : PUnit) => (do dictSet p x.1 x.2; pure (ForInStep.yield PUnit.unit) : Sem (ForInStep PUnit))) Q E s
  | [], ws, H, s, r, I, h => by
    cases r
    rw [List.forIn_nil]
    exact wpAny_pure (h s I)
  | (y, z) :: ps, ws, H, s, r, I, h => by
    cases r with
    | @cons _ w _ ws r1 r2 =>
      obtain ⟨uo', hp, h⟩ := h
      rw [List.forIn_cons]
      refine wpAny_bind (wpAny_bind (puts_dictSet hu I hp r1.1 r1.2 fun s' I' => wpAny_pure ?_))
      exact run_puts hu ps ws _ s' r2 I' h
section
variable {X : Cx} {F : Fx}
theorem pe_dispZ {pos : Pos} {keys : List (Option Expr)} {values : List Expr} {trs : List (TE × TE)} (hu : X.A.units + 64 < cLine) (h : PPs X pos keys values trs) (hall : keys.all (·.isSome) = true) (hl : keys.length = values.length) (h0 : keys ≠ [])
    (h15 : keys.length ≤ 15) : PE X (.Dict keys values pos) (fun σ H Q => ∀ p, H p = none → (p == sysModules) = false → tPairs trs σ (upd H p (LfO X.prog X.w p [])) fun ps H2 => PutsAll X p ps H2 fun H3 => Q (.ref p) H3) := by
  refine ⟨fun pins s σ H Q I q => ?_⟩
  have hn := I.hok.fresh (Nat.le_refl s.heap.objs.size)
  have I1 := I.laid (a := s.heap.objs.size) (o := LfO X.prog X.w s.heap.objs.size []) (t' := s.toks) (fun _ _ q => Heap.get?_push_of_some _ q) (Nat.le_refl _) (lf_new s.heap)
  have hm : (s.heap.objs.size == sysModules) = false := beq_eq_false_iff_ne.mpr (Ne.symm (Nat.ne_of_lt I.big))
  have hpl := pairTrees_length keys values X.env pos hall hl
  rw [arm_eval_Dict, zip_pairTrees keys values X.env pos hall hl, dictDisplay_pairs (pairTrees keys values X.env pos) (fun e => h0 (List.length_eq_zero_iff.mp (by rw [← hpl, e]; rfl))) (by omega)]
  refine wpAny_bind (wpAny_standAt (wpAny_bind ?_))
  unfold subDict
  refine wpAny_bind (wpAny_alloc ?_)
  refine wpAny_bind (wpAny_holding ?_)
  rw [if_pos (by omega)]
  refine wpAny_bind (thn (h.run pins _ σ _ _ I1 (q _ hn hm)) fun ws s2 ⟨ps, H2, I2, rel, q2⟩ => ?_)
  refine wpAny_holding ?_
  refine wpAny_bind (run_puts hu ps ws H2 s2 rel I2 ?_)
  have key : ∀ (ps : List (V × V)) (H2 : Hp) (P1 P2 : Hp → Prop), (∀ H, P1 H → P2 H) → PutsAll X s.heap.objs.size ps H2 P1 → PutsAll X s.heap.objs.size ps H2 P2 := by
    intro ps
    induction ps with
    | nil => intro H2 P1 P2 i h; exact i _ h
    | cons y ps ih => intro H2 P1 P2 i h; obtain ⟨uo', h1, h2⟩ := h; exact ⟨uo', h1, ih _ _ _ i h2⟩
  exact key ps H2 _ _ (fun H3 q3 s' I' => wpAny_pure (wpAny_pure (wpAny_pure ⟨.ref s.heap.objs.size, H3, I', rfl, q3⟩))) q2
def mPairs : List (Ex × Ex) → Sl → LH → Option (List (W × W) × LH)
  | [], _, L => some ([], L)
  | (a, b) :: r, sl, L => match a sl L with
    | none => none
    | some (x, L1) => match b sl L1 with
      | none => none
      | some (y, L2) => match mPairs r sl L2 with
        | none => none
        | some (ps, L3) => some ((x, y) :: ps, L3)
def putAll (n : Nat) : List (W × W) → LH → Option LH
  | [], L => some L
  | (k, w) :: r, L => match L.get n with
    | some (.dct kvs) => match dPut k w kvs with
      | some kvs' => cond (sameK k kvs && (Nat.blt kvs.length 1000000 && Nat.blt L.n top)) (putAll n r (L.set n (.dct kvs'))) none
      | none => none
    | _ => none
def mDisp (l : List (Ex × Ex)) : Ex := fun sl L => cond (Nat.blt L.n top) (match mPairs l sl (L.add (.dct [])) with
  | none => none
  | some (ps, L1) => match putAll L.n ps L1 with
    | some L2 => some (.ref L.n, L2)
    | none => none) none
abbrev trsZ (K : PySem.W.Frag) (F : Fx) (l : List (Ex × Ex)) : List (TE × TE) := l.map fun p => (TZ K F p.1, TZ K F p.2)
def RelPs (K : PySem.W.Frag) (F : Fx) (e : En) (H : Hp) (ρ : List Addr) (ps : List (W × W)) (vs : List (V × V)) : Prop := Paired (fun (p : W × W) (q : V × V) => RelW K F e H ρ p.1 q.1 ∧ RelW K F e H ρ p.2 q.2) ps vs
theorem tz_pairs {K : PySem.W.Frag} : ∀ {l : List (Ex × Ex)} {σ : St} {H : Hp} {Q : List (V × V) → Hp → Prop} {e : En} {ρ : List Addr} {sl : Sl} {L L' : LH} {ps : List (W × W)}, En.Ok F e → RelSl K F e H ρ sl σ → RH K F e H ρ L → mPairs l sl L = some (ps, L') →
    (∀ ρ' H' vs, Fm ρ ρ' H H' → RH K F e H' ρ' L' → RelPs K F e H' ρ' ps vs → Q vs H') → tPairs (trsZ K F l) σ H Q
  | [], σ, H, Q, e, ρ, sl, L, L', ps, he, hs, hh, hm, k => by
    cases hm
    exact k ρ H [] .refl hh .nil
  | (a, b) :: r, σ, H, Q, e, ρ, sl, L, L', ps, he, hs, hh, hm, k => by
    unfold mPairs at hm
    split at hm
    · cases hm
    rename_i x L1 h1
    split at hm
    · cases hm
    rename_i y L2 h2
    split at hm
    · cases hm
    rename_i qs L3 h3
    cases hm
    refine ⟨e, ρ, sl, L, _, _, he, hs, hh, h1, fun ρ1 H1 v1 f1 r1 w1 => ?_⟩
    refine ⟨e, ρ1, sl, L1, _, _, he, f1.relSl hs, r1, h2, fun ρ2 H2 v2 f2 r2 w2 => ?_⟩
    refine tz_pairs he ((f1.trans f2).relSl hs) r2 h3 fun ρ3 H3 vs f3 r3 w3 => ?_
    exact k ρ3 H3 _ ((f1.trans f2).trans f3) r3 (.cons ⟨(f2.trans f3).rel w1, f3.rel w2⟩ w3)
theorem put_all (hX : FxOk X F) {e : En} (he : En.Ok F e) {n : Nat} {p : Addr} {ρ : List Addr} : ∀ (ps : List (W × W)) (vs : List (V × V)) (H : Hp) (L L' : LH) (Q : Hp → Prop), RH X.K F e H ρ L → ρ[n]? = some p → RelPs X.K F e H ρ ps vs → putAll n ps L = some L' →
    (∀ H', Fm ρ ρ H H' → RH X.K F e H' ρ L' → Q H') → PutsAll X p vs H Q
  | [], vs, H, L, L', Q, R, hp, r, h, k => by
    cases r
    cases h
    exact k H .refl R
  | (y, z) :: ps, vs, H, L, L', Q, R, hp, r, h, k => by
    cases r with
    | @cons _ v _ vs r1 r2 =>
      unfold putAll at h
      split at h
      · rename_i kvs g
        split at h
        · rename_i kvs' hput
          obtain ⟨q, h⟩ := cond_opt h
          rw [Bool.and_eq_true, Bool.and_eq_true] at q
          obtain ⟨q1, q2, q3⟩ := q
          obtain ⟨a', uo, p1, p2, p3⟩ := R.dct g
          rw [hp] at p1; cases p1
          obtain ⟨uo', d', op⟩ := dct_put hX he p3 p2 r1.1 r1.2 q1 hput (Nat.le_of_ble_eq_true q2)
          obtain ⟨f3, r3⟩ := put_dct R hp (Nat.le_of_ble_eq_true q3) p2 p3 d'
          refine ⟨uo', op, put_all hX he ps vs _ _ _ Q r3 hp (Paired.mapP r2 fun a b ⟨a1, a2⟩ => ⟨f3.rel a1, f3.rel a2⟩) h fun H' f r' => k H' (f3.trans f) r'⟩
        · cases h
      · cases h
theorem ze_disp {pos : Pos} {keys : List (Option Expr)} {values : List Expr} {l : List (Ex × Ex)} (hX : FxOk X F) (hu : X.A.units + 64 < cLine) (h : PPs X pos keys values (trsZ X.K F l)) (hall : keys.all (·.isSome) = true := by rfl) (hl : keys.length = values.length := by rfl) (h0 : keys ≠ [] := by intro z; cases z)
    (h15 : keys.length ≤ 15 := by decide) : PE X (.Dict keys values pos) (TZ X.K F (mDisp l)) := by
  refine PE.imp (pe_dispZ hu h hall hl h0 h15) ?_
  rintro σ H Q ⟨e, ρ, sl, L, w, L', he, hs, hh, hm, k⟩ p hp hps
  unfold mDisp at hm
  obtain ⟨g2, hm⟩ := cond_opt hm
  have f := fm_add (h' := LfO X.prog X.w p []) hh hp
  have R1 := hh.add (h' := LfO X.prog X.w p []) (o := .dct []) hp (Nat.le_of_ble_eq_true g2) ⟨_, upd_same, hps, Nat.zero_le _, .inl ⟨[], by rw [hX.P, hX.w], .nil, .nil⟩⟩
  split at hm
  · cases hm
  rename_i ps L1 h1
  split at hm
  · rename_i L2 h2
    cases hm
    refine tz_pairs he (f.relSl hs) R1 h1 fun ρ1 H1 vs f1 r1 w1 => ?_
    have hself : ρ1[L.n]? = some p := f1.pre _ _ (by rw [← hh.len]; simp)
    refine put_all hX he ps vs H1 L1 _ _ r1 hself w1 h2 fun H2 f2 r2 => ?_
    refine k ρ1 H2 _ ((f.trans f1).trans f2) r2 ?_
    unfold RelW
    exact ⟨p, rfl, hself⟩
  · cases hm
end
end Z

set_option Elab.async false
set_option linter.all false
set_option maxRecDepth 100000
set_option maxHeartbeats 1000000
/-! Z: comprehensions with two for. -/
namespace Z
open PySem PySem.Spec PyProof.Rows L2 PySem.W

def lc2In (n : Nat) (src : Src) (g : Eg) (t : Et) (m : Ex) (slw : Sl) : Nat → Nat → LH → Option LH
  | 0, _, _ => none
  | f + 1, j, L => match src.item L j with
    | none => none
    | some none => some L
    | some (some w) => match g w slw L with
      | none => none
      | some (sl1, L1) => match t sl1 L1 with
        | none => none
        | some (false, L2) => lc2In n src g t m slw f (j + 1) L2
        | some (true, L2) => match m sl1 L2 with
          | none => none
          | some (y, L3) => match L3.get n with
            | some (.lst xs) => cond (Nat.blt xs.length 1000000 && Nat.blt L3.n top) (lc2In n src g t m slw f (j + 1) (L3.set n (.lst (xs ++ [y])))) none
            | _ => none
def lc2Out (n : Nat) (src : Src) (g : Eg) (t : Et) (mi : Ei) (T1 : List Nat) (g1 : Eg) (t1 : Et) (m : Ex) (slw : Sl) : Nat → Nat → LH → Option LH
  | 0, _, _ => none
  | f + 1, i, L => match src.item L i with
    | none => none
    | some none => some L
    | some (some w) => match g w slw L with
      | none => none
      | some (sl1, L1) => match t sl1 L1 with
        | none => none
        | some (false, L2) => lc2Out n src g t mi T1 g1 t1 m slw f (i + 1) L2
        | some (true, L2) => match mi sl1 L2 with
          | none => none
          | some (src1, L3) => match lc2In n src1 g1 t1 m (wipeSl sl1 T1) lid 0 L3 with
            | none => none
            | some L4 => lc2Out n src g t mi T1 g1 t1 m slw f (i + 1) L4
def vLc2 (mi : Ei) (T : List Nat) (g : Eg) (t : Et) (mi1 : Ei) (T1 : List Nat) (g1 : Eg) (t1 : Et) (m : Ex) : Ex := fun sl L => match mi sl L with
  | none => none
  | some (src, L1) => cond (Nat.blt L1.n top) (match lc2Out L1.n src g t mi1 T1 g1 t1 m (wipeSl sl T) lid 0 (L1.add (.lst [])) with
    | some L2 => some (.ref L1.n, L2)
    | none => none) none
theorem tz_lc2 {K : PySem.W.Frag} {F : Fx} {T T1 : List Nat} {mi mi1 : Ei} {g g1 : Eg} {t t1 : Et} {m : Ex} {σ : St} {H : Hp} {Q : VK} (h : TZ K F (vLc2 mi T g t mi1 T1 g1 t1 m) σ H Q) :
    tLc2 (IZ K F mi) (GZ K F T g) (TTZ K F t) (IZ K F mi1) (GZ K F T1 g1) (TTZ K F t1) (TZ K F m) T T1 σ H Q := by
  obtain ⟨e, ρ, sl, L, w, L', he, hs, hh, hm, k⟩ := h
  unfold vLc2 at hm
  split at hm
  · cases hm
  rename_i src L1 h1
  obtain ⟨g2, hm⟩ := cond_opt hm
  split at hm
  · rename_i Le h2
    cases hm
    refine ⟨e, ρ, sl, L, _, _, he, hs, hh, h1, fun ρ1 H1 J f1 r1 ok D hD => ?_⟩
    have fD := fm_add (h' := .lst []) r1 hD
    have rD := r1.add (h' := .lst []) (o := .lst []) hD (Nat.le_of_ble_eq_true g2) ⟨[], upd_same, .nil⟩
    have selfD : (ρ1 ++ [D])[L1.n]? = some D := by rw [← r1.len]; simp
    have sw := (f1.relSl hs).wipe T
    refine ⟨fun i n H2 => ∃ ρ2 L2, Fm ρ1 ρ2 H1 H2 ∧ RH K F e H2 ρ2 L2 ∧ ρ2[L1.n]? = some D ∧ lc2Out L1.n src g t mi1 T1 g1 t1 m (wipeSl sl T) n i L2 = some L',
      ⟨lid, ρ1 ++ [D], _, fD, rD, selfD, h2⟩, ?_⟩
    rintro i n H2 ⟨ρ2, L2, f2, r2, sD2, hr⟩
    cases n with
    | zero => cases hr
    | succ n =>
      unfold lc2Out at hr
      split at hr
      · cases hr
      · rename_i hx
        cases hr
        refine .inl ⟨ok.stop ρ2 H2 _ i f2 r2 hx, ?_⟩
        refine k ρ2 H2 (.ref D) (f1.trans f2) r2 ?_
        unfold RelW
        exact ⟨D, rfl, sD2⟩
      rename_i w hx
      obtain ⟨j1, j2⟩ := ok.go ρ2 H2 L2 i w f2 r2 hx
      refine .inr ⟨j1, fun H' => ∃ ρ2 L2, Fm ρ1 ρ2 H1 H' ∧ RH K F e H' ρ2 L2 ∧ ρ2[L1.n]? = some D ∧ lc2Out L1.n src g t mi1 T1 g1 t1 m (wipeSl sl T) n (i + 1) L2 = some L',
        fun H' q => ⟨n, by omega, q⟩, fun x H3 hy => ?_⟩
      obtain ⟨f3, r3, w3⟩ := j2 x H3 hy
      split at hr
      · cases hr
      rename_i sl4 L4 hg4
      refine ⟨e, ρ2, wipeSl sl T, L2, w, _, _, he, (f2.trans f3).relSl sw, r3, w3, hg4, fun ρ4 H4 σ4 f4 r4 s4 e4 => ⟨e4.trans (wipe_wipe σ T), ?_⟩⟩
      split at hr
      · cases hr
      · rename_i L5 ht
        refine ⟨e, ρ4, sl4, L4, _, _, he, s4, r4, ht, fun ρ5 H5 f5 r5 => ?_⟩
        refine iteF ?_
        have fA := ((f3.trans f4).trans f5)
        exact ⟨ρ5, L5, f2.trans fA, r5, fA.pre _ _ sD2, hr⟩
      · rename_i L5 ht
        refine ⟨e, ρ4, sl4, L4, _, _, he, s4, r4, ht, fun ρ5 H5 f5 r5 => ?_⟩
        refine iteT ?_
        split at hr
        · cases hr
        rename_i src1 L6 h6
        split at hr
        · cases hr
        rename_i L7 h7
        refine ⟨e, ρ5, sl4, L5, _, _, he, f5.relSl s4, r5, h6, fun ρ6 H6 J1 f6 r6 ok1 => ?_⟩
        have fB := ((f2.trans f3).trans f4).trans (f5.trans f6)
        have sD6 : ρ6[L1.n]? = some D := ((f3.trans f4).trans (f5.trans f6)).pre _ _ sD2
        have sw1 := ((f5.trans f6).relSl s4).wipe T1
        refine ⟨fun j c H8 => ∃ ρ8 L8, Fm ρ6 ρ8 H6 H8 ∧ RH K F e H8 ρ8 L8 ∧ lc2In L1.n src1 g1 t1 m (wipeSl sl4 T1) c j L8 = some L7, ⟨lid, ρ6, L6, .refl, r6, h7⟩, ?_⟩
        rintro j c H8 ⟨ρ8, L8, f8, r8, hq⟩
        cases c with
        | zero => cases hq
        | succ c =>
          unfold lc2In at hq
          split at hq
          · cases hq
          · rename_i hx8
            cases hq
            exact .inl ⟨ok1.stop ρ8 H8 _ j f8 r8 hx8, ρ8, _, fB.trans f8, r8, f8.pre _ _ sD6, hr⟩
          rename_i w8 hx8
          obtain ⟨k1, k2⟩ := ok1.go ρ8 H8 L8 j w8 f8 r8 hx8
          refine .inr ⟨k1, fun H' => ∃ ρ8 L8, Fm ρ6 ρ8 H6 H' ∧ RH K F e H' ρ8 L8 ∧ lc2In L1.n src1 g1 t1 m (wipeSl sl4 T1) c (j + 1) L8 = some L7, fun H' q => ⟨c, by omega, q⟩, fun x9 H9 hy9 => ?_⟩
          obtain ⟨f9, r9, w9⟩ := k2 x9 H9 hy9
          split at hq
          · cases hq
          rename_i slA LA hgA
          refine ⟨e, ρ8, wipeSl sl4 T1, L8, w8, _, _, he, (f8.trans f9).relSl sw1, r9, w9, hgA, fun ρA HA σA fA rA sA eA => ⟨eA.trans (wipe_wipe σ4 T1), ?_⟩⟩
          split at hq
          · cases hq
          · rename_i LB htB
            refine ⟨e, ρA, slA, LA, _, _, he, sA, rA, htB, fun ρB HB fB' rB => ?_⟩
            refine iteF ?_
            exact ⟨ρB, LB, f8.trans ((f9.trans fA).trans fB'), rB, hq⟩
          · rename_i LB htB
            refine ⟨e, ρA, slA, LA, _, _, he, sA, rA, htB, fun ρB HB fB' rB => ?_⟩
            refine iteT ?_
            split at hq
            · cases hq
            rename_i y LC hyC
            split at hq
            · rename_i xs gC
              obtain ⟨q, hq⟩ := cond_opt hq
              rw [Bool.and_eq_true] at q
              refine ⟨e, ρB, slA, LB, _, _, he, fB'.relSl sA, rB, hyC, fun ρC HC vC fC rC wC => ?_⟩
              have fT := (f8.trans ((f9.trans fA).trans fB')).trans fC
              have sDC : ρC[L1.n]? = some D := fT.pre _ _ sD6
              obtain ⟨a', accV, p1, p2, p3⟩ := rC.lst gC
              rw [sDC] at p1; cases p1
              have mu : Mut (HC D) := by rw [p2]; trivial
              have fP : Fm ρC ρC HC (upd HC D (.lst (accV ++ [vC]))) := fm_put rC sDC mu
              have hl : accV.length ≤ 999999 := by rw [p3.length]; have := Nat.le_of_ble_eq_true q.1; omega
              refine ⟨accV, p2, by rw [sizeLine_eq]; omega, ρC, _, fT.trans fP, rC.put (h' := .lst (accV ++ [vC])) (o := .lst (xs ++ [y])) sDC mu (Nat.le_of_ble_eq_true q.2) ⟨_, upd_same, fP.rels (p3.append (.cons wC .nil))⟩, hq⟩
            · cases hq
  · cases hm
section
variable {X : Cx} {F : Fx} {T T1 : List Nat} {mi mi1 : Ei} {g g1 : Eg} {t t1 : Et} {m : Ex} {elt tg iter tg1 iter1 : Expr} {ifs ifs1 : List Expr} {scope : Scope} {own : List (Str × Nat)} {pos spos py : Pos}
theorem ze_lc2 (hc : X.calm = true) (hN : X.N.Nodup) (hi : PI X tg iter (IZ X.K F mi)) (ok : BlkOk X.N X.env.scope scope own) (hT : own.map (·.2) = T) (hv : ∀ i ∈ T1, i ∈ T)
    (hg : ∀ (s : Shared) (H : Hp) (C : Addr) (cl : List (Str × Addr)) (fp : List Addr), PG (X.blk s H scope (compEnvC scope cl C X.env) fp) tg (GZ X.K F T g)) (ht : ∀ (s : Shared) (H : Hp) (C : Addr) (cl : List (Str × Addr)) (fp : List Addr), PTs (X.blk s H scope (compEnvC scope cl C X.env) fp) ifs (TTZ X.K F t))
    (hi1 : ∀ (s : Shared) (H : Hp) (C : Addr) (cl : List (Str × Addr)) (fp : List Addr), PI (X.blk s H scope (compEnvC scope cl C X.env) fp) tg1 iter1 (IZ X.K F mi1))
    (hg1 : ∀ (s : Shared) (H : Hp) (C : Addr) (cl : List (Str × Addr)) (fp : List Addr), PG (X.blk s H scope (compEnvC scope cl C X.env) fp) tg1 (GZ X.K F T1 g1)) (ht1 : ∀ (s : Shared) (H : Hp) (C : Addr) (cl : List (Str × Addr)) (fp : List Addr), PTs (X.blk s H scope (compEnvC scope cl C X.env) fp) ifs1 (TTZ X.K F t1))
    (hm : ∀ (s : Shared) (H : Hp) (C : Addr) (cl : List (Str × Addr)) (fp : List Addr), PE (X.blk s H scope (compEnvC scope cl C X.env) fp) elt (TZ X.K F m)) (hs : ∀ x, foldedSetIterable iter X.env x = pure x := by intro _; rfl) (hs1 : ∀ env x, foldedSetIterable iter1 env x = pure x := by intro _ _; rfl) :
    PE X (.ListComp elt [⟨tg, iter, ifs, 0⟩, ⟨tg1, iter1, ifs1, 0⟩] scope pos) (TZ X.K F (vLc2 mi T g t mi1 T1 g1 t1 m)) := by
  subst hT
  exact PE.imp (pe_lc2 hc hN hi ok hv hg ht hi1 hg1 ht1 hm hs hs1) fun σ H Q h => tz_lc2 h
theorem zs_setLc2 {i : Nat} {y : Str} (hc : X.calm = true) (hN : X.N.Nodup) (hy : X.N[i]? = some y) (hyl : X.env.scope.names.lookup y = some .local)
    (hsw : swapsWith (.ListComp elt [⟨tg, iter, ifs, 0⟩, ⟨tg1, iter1, ifs1, 0⟩] scope pos) (some (.Name y py)) spos.line X.env = pure true) (hi : PI X tg iter (IZ X.K F mi)) (ok : BlkOk X.N X.env.scope scope own) (hT : own.map (·.2) = T) (hv : ∀ i ∈ T1, i ∈ T)
    (hg : ∀ (s : Shared) (H : Hp) (C : Addr) (cl : List (Str × Addr)) (fp : List Addr), PG (X.blk s H scope (compEnvC scope cl C X.env) fp) tg (GZ X.K F T g)) (ht : ∀ (s : Shared) (H : Hp) (C : Addr) (cl : List (Str × Addr)) (fp : List Addr), PTs (X.blk s H scope (compEnvC scope cl C X.env) fp) ifs (TTZ X.K F t))
    (hi1 : ∀ (s : Shared) (H : Hp) (C : Addr) (cl : List (Str × Addr)) (fp : List Addr), PI (X.blk s H scope (compEnvC scope cl C X.env) fp) tg1 iter1 (IZ X.K F mi1))
    (hg1 : ∀ (s : Shared) (H : Hp) (C : Addr) (cl : List (Str × Addr)) (fp : List Addr), PG (X.blk s H scope (compEnvC scope cl C X.env) fp) tg1 (GZ X.K F T1 g1)) (ht1 : ∀ (s : Shared) (H : Hp) (C : Addr) (cl : List (Str × Addr)) (fp : List Addr), PTs (X.blk s H scope (compEnvC scope cl C X.env) fp) ifs1 (TTZ X.K F t1))
    (hm : ∀ (s : Shared) (H : Hp) (C : Addr) (cl : List (Str × Addr)) (fp : List Addr), PE (X.blk s H scope (compEnvC scope cl C X.env) fp) elt (TZ X.K F m)) (hs : ∀ x, foldedSetIterable iter X.env x = pure x := by intro _; rfl) (hs1 : ∀ env x, foldedSetIterable iter1 env x = pure x := by intro _ _; rfl) :
    PS X (.Assign [.Name y py] (.ListComp elt [⟨tg, iter, ifs, 0⟩, ⟨tg1, iter1, ifs1, 0⟩] scope pos) spos) (SZ X.K F (sSet i (vLc2 mi T g t mi1 T1 g1 t1 m))) := by
  subst hT
  refine PS.imp (ps_setLc2 hc hN hy hyl hsw hi ok hv hg ht hi1 hg1 ht1 hm hs hs1) ?_
  rintro D σ H ⟨e, ρ, sl, L, o, sl', L', he, hs, hh, hm, k⟩
  unfold sSet at hm
  split at hm
  · rename_i w L1 h1
    cases hm
    exact tz_lc2 ⟨e, ρ, sl, L, _, _, he, hs, hh, h1, fun ρ1 H1 v f1 r1 w1 => k ρ1 H1 _ f1 r1 ((f1.relSl hs).set i w1)⟩
  · cases hm
end
end Z

set_option Elab.async false
set_option linter.all false
set_option maxRecDepth 100000
set_option maxHeartbeats 1000000
/-! Z: dict == dict, None != dict. -/
namespace Z
open PySem PySem.Spec PyProof.Rows L2 PySem.W SeqAt

section
variable {prog : Program} {w : World} {A : Around} {E : Value → Shared → Prop} {s : Shared} {a : Addr}
theorem sub_non_dict : isSubtype (.type "NoneType") (.type "dict") = pure false := by rw [isSubtype_type]; kernel_rfl
theorem sub_dict_non : isSubtype (.type "dict") (.type "NoneType") = pure false := by rw [isSubtype_type]; kernel_rfl
theorem dict_ne_none (hT : s.TypeIs (.ref a) "dict") {Q : Value → Shared → Prop} (h : Q .notImplemented s) : wpAny (model prog w) A (call (.builtin "dict.__ne__") [.ref a, .none]) Q E s := by
  refine wpAny_call_entry PySem.F.slot_dict_ne_refl hT PySem.F.entry_dict_ne ?_ (PySem.F.args_dict_ne_2 _ _)
  show wpAny _ _ (Builtin.Dict.dictSlotArgs "__ne__" ⟨[.ref a, .none], []⟩ >>= _) _ _ s
  refine wpAny_bind ?_
  unfold Builtin.Dict.dictSlotArgs
  refine wpAny_bind (wpAny_notOrdered_dict hT ?_)
  show wpAny _ _ (pure (Value.ref a, Value.none)) _ _ s
  refine wpAny_pure ?_
  refine wpAny_bind (wpAny_isInstance (T := "NoneType") (b := false) (show s.TypeIs .none "NoneType" from rfl) sub_non_dict ?_)
  simp only [Bool.not_false, if_true]
  exact wpAny_bind (wpAny_rule (wpAny_pure ⟨_, rfl, h⟩))
theorem dict_eq_none (hT : s.TypeIs (.ref a) "dict") {Q : Value → Shared → Prop} (h : Q .notImplemented s) : wpAny (model prog w) A (call (.builtin "dict.__eq__") [.ref a, .none]) Q E s := by
  refine wpAny_call_entry PySem.F.slot_dict_eq_refl hT PySem.F.entry_dict_eq ?_ (PySem.F.args_dict_eq_2 _ _)
  show wpAny _ _ (Builtin.Dict.dictSlotArgs "__eq__" ⟨[.ref a, .none], []⟩ >>= _) _ _ s
  refine wpAny_bind ?_
  unfold Builtin.Dict.dictSlotArgs
  refine wpAny_bind (wpAny_notOrdered_dict hT ?_)
  show wpAny _ _ (pure (Value.ref a, Value.none)) _ _ s
  refine wpAny_pure ?_
  refine wpAny_bind (wpAny_isInstance (T := "NoneType") (b := false) (show s.TypeIs .none "NoneType" from rfl) sub_non_dict ?_)
  simp only [Bool.not_false, if_true]
  exact wpAny_bind (wpAny_rule (wpAny_pure ⟨_, rfl, h⟩))
theorem none_ne_dict (hT : s.TypeIs (.ref a) "dict") (hu : A.units < cLine) {Q : Value → Shared → Prop} (h : Q (.bool true) s) : wpAny (model prog w) A (compareOp .NotEq .none (.ref a)) Q E s :=
  rc_ne_decline_or (k := false) rfl hT (by decide) sub_dict_non F.slot_NoneType_ne F.slot_dict_ne_refl
    (fun _ hq => call_gives F.slot_NoneType_ne rfl F.entry_NoneType_ne (F.args_NoneType_ne_2 _ _) (NoneType___ne___none_ref_0 a) hq)
    (fun _ hq => dict_ne_none hT hq)
    (fun _ hq => wpAny_of_eq (rfl : isSame .none (.ref a) = pure false) hq) (.inr hu) h
theorem none_eq_dict (hT : s.TypeIs (.ref a) "dict") (hu : A.units < cLine) {Q : Value → Shared → Prop} (h : Q (.bool false) s) : wpAny (model prog w) A (compareOp .Eq .none (.ref a)) Q E s :=
  rc_eq_decline_or (k := false) rfl hT (by decide) sub_dict_non F.slot_NoneType_eq F.slot_dict_eq_refl
    (fun _ hq => call_gives F.slot_NoneType_eq rfl F.entry_NoneType_eq (F.args_NoneType_eq_2 _ _) (NoneType___eq___none_ref_0 a) hq)
    (fun _ hq => dict_eq_none hT hq)
    (fun _ hq => wpAny_of_eq (rfl : isSame .none (.ref a) = pure false) hq) (.inr hu) h
end
/-! ### d == e, keys by value -/
def dEqW (L : LH) (kb : List (W × W)) : List (W × W) → Option Bool
  | [] => some true
  | (k, w) :: r => match dGet k kb with
    | none => none
    | some none => some false
    | some (some w') => cond (isDat L deep w && isDat L deep w') (match eqW L deep w w' with
      | some e => match dEqW L kb r with
        | some b => some (e && b)
        | none => none
      | none => none) none
def dEq (L : LH) (ka kb : List (W × W)) : Option Bool := cond (lfTab ka && lfTab kb) (cond (Nat.beq ka.length kb.length) (dEqW L kb ka) (some false)) none
def fDctEq (neg : Bool) : W → W → LH → Option (W × LH) := fun x y L => match y with
  | .ref n => match tabOf L n with
    | some kb => match x with
      | .non => some (.bl neg, L)
      | .ref m => match tabOf L m with
        | some ka => cond (Nat.beq m n) none (match dEq L ka kb with
          | some b => some (.bl (b != neg), L)
          | none => none)
        | none => none
      | _ => none
    | none => none
  | _ => none
def EqSem (X : Cx) (H : Hp) (a b : Addr) (r : Bool) : Prop := ∀ (pins : List (Addr × Obj)) (σ : St) (s : Shared), Inv X pins σ H s →
  ∃ (ka kb : List (L2.Key × Value)) (r' : Bool), (a == sysModules) = false ∧ (b == sysModules) = false ∧ s.heap.DictOf (mixKind X.prog X.w) a ka ∧ s.heap.DictOf (mixKind X.prog X.w) b kb ∧ (ka.length == kb.length && r') = r ∧ (ka.length = kb.length → KeqHits X.A.in1 s kb ka r')
abbrev rDctEq (X : Cx) (neg : Bool) : R2 := fun x y H Q => (∃ b uo ks ys, x = .non ∧ y = .ref b ∧ Rd H b uo ∧ Rows X b uo ks ys ∧ Q (.bl neg) H) ∨ ∃ a b r, x = .ref a ∧ y = .ref b ∧ EqSem X H a b r ∧ Q (.bl (r != neg)) H
theorem op_dctEq {X : Cx} (hu : X.A.units + 66 < cLine) : OpR X (compareOp .Eq) (rDctEq X false) := by
  intro pins s σ H x y v u Q I rx ry h
  rcases h with ⟨b, uo, ks, ys, rfl, rfl, hr, rws, q⟩ | ⟨a, b, r, rfl, rfl, sem, q⟩
  · cases rx
    cases ry
    obtain ⟨o, ho, es, ep, hx, _⟩ := rd_raw I hr rws
    exact none_eq_dict ⟨o, ho, hx.1⟩ (by omega) ⟨.bl false, H, I, rfl, q⟩
  · cases rx
    cases ry
    obtain ⟨ka, kb, r', h1, h2, da, db, e, hits⟩ := sem pins σ s I
    subst e
    refine keq_eq h1 h2 da db (by omega) hits ⟨.bl (ka.length == kb.length && r'), H, I, rfl, ?_⟩
    simpa using q
theorem op_dctNe {X : Cx} (hu : X.A.units + 66 < cLine) : OpR X (compareOp .NotEq) (rDctEq X true) := by
  intro pins s σ H x y v u Q I rx ry h
  rcases h with ⟨b, uo, ks, ys, rfl, rfl, hr, rws, q⟩ | ⟨a, b, r, rfl, rfl, sem, q⟩
  · cases rx
    cases ry
    obtain ⟨o, ho, es, ep, hx, _⟩ := rd_raw I hr rws
    exact none_ne_dict ⟨o, ho, hx.1⟩ (by omega) ⟨.bl true, H, I, rfl, q⟩
  · cases rx
    cases ry
    obtain ⟨ka, kb, r', h1, h2, da, db, e, hits⟩ := sem pins σ s I
    subst e
    refine keq_ne h1 h2 da db (by omega) hits ⟨.bl (!(ka.length == kb.length && r')), H, I, rfl, ?_⟩
    simpa using q
section
variable {X : Cx} {F : Fx} {e : En} {H : Hp} {ρ : List Addr} {L : LH}
theorem lf_shape {kvs : List (W × W)} {a : Addr} {uo : HO} (hX : FxOk X F) (d : DctR X.K F e H ρ kvs a uo) (h : lfTab kvs = true) : ∃ us, Paired (LfP X.K F e H ρ) kvs us ∧ (uo = LfO F.P F.w a us ∨ (us = [] ∧ uo = TpO F.P F.w a [])) := by
  obtain ⟨_, _, ⟨us, rfl, r, nd⟩ | ⟨us, rfl, r, nd⟩⟩ := d
  · exact ⟨us, r, .inl rfl⟩
  · cases r with
    | nil => exact ⟨[], .nil, .inr ⟨rfl, rfl⟩⟩
    | @cons p q _ _ z _ =>
      have h1 := List.all_eq_true.mp h p List.mem_cons_self
      have h2 := z.1
      obtain ⟨p1, p2⟩ := p
      cases p1 <;> first | (cases h2; done) | (cases h1; done)
theorem dat_eqAt {pins : List (Addr × Obj)} {σ : St} {s : Shared} (he : En.Ok F e) (R : RH X.K F e H ρ L) (hu : X.A.units + 66 < cLine) (I : Inv X pins σ H s) {x y : W} {vx vy : V} {u v : Value} {b : Bool} (dx : isDat L deep x = true) (dy : isDat L deep y = true) (rx : RelW X.K F e H ρ x vx) (ry : RelW X.K F e H ρ y vy)
    (ru : RelV vx u) (rv : RelV vy v) (h : eqW L deep x y = some b) : SeqAt.EqAt X.A.in1 s u v b := by
  obtain ⟨d1, p1⟩ := dat_ok he R deep x dx
  obtain ⟨d2, p2⟩ := dat_ok he R deep y dy
  obtain ⟨q1, l1⟩ := p1 vx rx
  obtain ⟨q2, l2⟩ := p2 vy ry
  obtain ⟨as, r1⟩ := Dp.reads I _ _ _ q1 ru
  obtain ⟨bs, r2⟩ := Dp.reads I _ _ _ q2 rv
  have := keq_at (A := X.A) r1 r2 (by unfold SeqAt.shaped; rw [l1, decide_eq_true (by have : (deep : Nat) = 16 := rfl; omega)]; rfl) (by unfold SeqAt.shaped; rw [l2, decide_eq_true (by have : (deep : Nat) = 16 := rfl; omega)]; rfl) (by show X.A.units + 1 + 64 < cLine; omega)
  rw [eqW_ok he R deep x y b vx vy dx dy rx ry h] at this
  exact this
theorem hits_ok {pins : List (Addr × Obj)} {σ : St} {s : Shared} (he : En.Ok F e) (R : RH X.K F e H ρ L) (hu : X.A.units + 66 < cLine) (I : Inv X pins σ H s) {kb : List (W × W)} {ub : List (L2.Key × V)} {vb : List (L2.Key × Value)} (rb : Paired (LfP X.K F e H ρ) kb ub) (kvb : KV ub vb) :
    ∀ {ka : List (W × W)} {ua : List (L2.Key × V)} {va : List (L2.Key × Value)} {r : Bool}, Paired (LfP X.K F e H ρ) ka ua → KV ua va → dEqW L kb ka = some r → KeqHits X.A.in1 s vb va r
  | [], _, _, r, .nil, kv, h => by
    cases kv
    cases h
    exact .nil
  | (k, w) :: ka, q :: ua, va, r, .cons z t, kv, h => by
    cases kv with
    | @cons _ v _ va k1 k2 =>
      obtain ⟨s1, s2, ⟨kx, s3⟩, s4⟩ := z
      obtain ⟨l, vv⟩ := q
      obtain ⟨l', vw⟩ := v
      obtain ⟨e1, e2⟩ := k1
      simp only at s1 s2 s3 s4 e1 e2
      subst e1
      subst s2
      unfold dEqW at h
      split at h
      · cases h
      · rename_i hg
        cases h
        have g := get_rel (keyDec_lf he s1 s3) rb hg
        have kk := kvb.val (lfW F e k)
        have : valV ub (lfW F e k) = none := g
        rw [this] at kk
        refine .miss ?_
        cases q : valueAt vb (lfW F e k) with
        | none => rfl
        | some _ => rw [q] at kk; exact absurd kk id
      · rename_i w' hg
        obtain ⟨hd, h⟩ := cond_opt h
        rw [Bool.and_eq_true] at hd
        split at h
        · rename_i ee hee
          split at h
          · rename_i b hb
            cases h
            obtain ⟨p, q, g1, g2, g3, g4⟩ := get_rel (keyDec_lf he s1 s3) rb hg
            subst g2
            have g4' : valV ub (lfW F e k) = some q.2 := g4
            obtain ⟨y, hy, ry⟩ := RelO.some_of (v := q.2) (o := valueAt vb (lfW F e k)) (by rw [← g4']; exact kvb.val (lfW F e k))
            exact .hit hy (dat_eqAt he R hu I hd.1 hd.2 s4 g1.2.2.2 e2 ry hee) (hits_ok he R hu I rb kvb t k2 hb)
          · cases h
        · cases h
theorem oz_dctEq {neg : Bool} (hX : FxOk X F) (hu : X.A.units + 66 < cLine) : OpZ X.K F (rDctEq X neg) (fDctEq neg) := by
  intro e ρ H L x y vx vy w L' Q he R rx ry h k
  unfold fDctEq at h
  split at h
  · rename_i n
    split at h
    · rename_i kb htb
      obtain ⟨b, uob, hb, hrb, db⟩ := R.tab htb
      unfold RelW at ry
      obtain ⟨b', rfl, hb'⟩ := ry
      rw [hb] at hb'; cases hb'
      split at h
      · cases h
        cases rx
        obtain ⟨ks, ys, rws, _, _⟩ := dct_rows hX db
        exact .inl ⟨b, uob, ks, ys, rfl, rfl, hrb, rws, k ρ H _ .refl R rfl⟩
      · rename_i m
        split at h
        · rename_i ka hta
          obtain ⟨a, uoa, ha, hra, da⟩ := R.tab hta
          unfold RelW at rx
          obtain ⟨a', rfl, ha'⟩ := rx
          rw [ha] at ha'; cases ha'
          have h2 : (match dEq L ka kb with
            | some b => some (W.bl (b != neg), L)
            | none => none) = some (w, L') := by
            cases hmn : Nat.beq m n with
            | true => rw [hmn] at h; cases h
            | false => rw [hmn] at h; exact h
          split at h2
          · rename_i r hr
            cases h2
            refine .inr ⟨a, b, r, rfl, rfl, fun pins σ s I => ?_, k ρ H _ .refl R rfl⟩
            unfold dEq at hr
            obtain ⟨hl, hr⟩ := cond_opt hr
            rw [Bool.and_eq_true] at hl
            obtain ⟨ua, ra, hua⟩ := lf_shape hX da hl.1
            obtain ⟨ub, rb, hub⟩ := lf_shape hX db hl.2
            obtain ⟨va, kva, dda⟩ := lf_sem hX I hra hua
            obtain ⟨vb, kvb, ddb⟩ := lf_sem hX I hrb hub
            have l1 : va.length = ka.length := by have := kva.length; have := Paired.length ra; omega
            have l2 : vb.length = kb.length := by have := kvb.length; have := Paired.length rb; omega
            cases hq : Nat.beq ka.length kb.length with
            | false =>
              rw [hq] at hr
              cases hr
              have hne : ka.length ≠ kb.length := fun z => by rw [z, Nat.beq_refl] at hq; cases hq
              refine ⟨va, vb, false, da.1, db.1, dda, ddb, by simp, fun z => absurd z (by omega)⟩
            | true =>
              rw [hq] at hr
              have heq := Nat.eq_of_beq_eq_true hq
              refine ⟨va, vb, r, da.1, db.1, dda, ddb, ?_, fun _ => hits_ok he R hu I rb kvb ra kva hr⟩
              have : (va.length == vb.length) = true := by rw [beq_iff_eq]; omega
              rw [this, Bool.true_and]
          · cases h2
        · cases h
      · cases h
    · cases h
  · cases h
end
/-- ==, != of all things -/
def fEq2 : W → W → LH → Option (W × LH) := fun x y L => match fEq x y L with
  | none => fDctEq false x y L
  | q => q
def fNe2 : W → W → LH → Option (W × LH) := fun x y L => match fNe x y L with
  | none => fDctEq true x y L
  | q => q
section
variable {X : Cx} {F : Fx}
theorem op_eq2 (hu : X.A.units + 66 < cLine) : OpR X (compareOp .Eq) (fun x y H Q => rEqD X.K x y H Q ∨ rDctEq X false x y H Q) := L2.OpR.or (op_eqD (by omega)) (op_dctEq hu)
theorem op_ne2 (hu : X.A.units + 66 < cLine) : OpR X (compareOp .NotEq) (fun x y H Q => rNeD X.K x y H Q ∨ rDctEq X true x y H Q) := L2.OpR.or (op_neD (by omega)) (op_dctNe hu)
theorem oz_eq2 (hX : FxOk X F) (hu : X.A.units + 66 < cLine) : OpZ X.K F (fun x y H Q => rEqD X.K x y H Q ∨ rDctEq X false x y H Q) fEq2 := oz_or2 oz_eq (oz_dctEq hX hu)
theorem oz_ne2 (hX : FxOk X F) (hu : X.A.units + 66 < cLine) : OpZ X.K F (fun x y H Q => rNeD X.K x y H Q ∨ rDctEq X true x y H Q) fNe2 := oz_or2 oz_ne (oz_dctEq hX hu)
end
end Z

set_option Elab.async false
set_option linter.all false
set_option maxRecDepth 100000
set_option maxHeartbeats 1000000
/-! Z: names; a dict of the module asked. -/
namespace L2
open PySem PySem.Spec PyProof.Rows
theorem Room.u65 {k : Nat} {A : Around} (r : Room k A) : A.units + 65 < cLine := by have := r.un; omega
theorem Room.u66 {k : Nat} {A : Around} (r : Room k A) : A.units + 66 < cLine := by have := r.un; omega
end L2
namespace Z
open PySem PySem.Spec PyProof.Rows L2 PySem.W

def letters : Str := "abcdefghijklmnopqrstuvwxyz"
theorem letters_list : letters.cps.toList = (List.range 26).map (· + 97) := by decide +kernel
theorem isNm_of {x : Str} (h : isNm x = true) : 1 ≤ x.length ∧ x.length ≤ 8 ∧ ∀ c ∈ x.cps.toList, c ∈ letters.cps.toList := by
  unfold isNm at h
  rw [Bool.and_eq_true, Bool.and_eq_true] at h
  obtain ⟨h1, h2, h3⟩ := h
  refine ⟨Nat.le_of_ble_eq_true h1, Nat.le_of_ble_eq_true h2, fun c hc => ?_⟩
  have := List.all_eq_true.mp h3 c hc
  rw [Bool.and_eq_true] at this
  have q1 := Nat.le_of_ble_eq_true this.1
  have q2 := Nat.le_of_ble_eq_true this.2
  rw [letters_list, List.mem_map]
  exact ⟨c - 97, List.mem_range.mpr (by omega), by omega⟩
/-- 1 <= len(x) <= 8 of a drawn name -/
def vNmLen (a : Ex) : Ex := fun sl L => match a sl L with
  | some (.str k, L1) => cond (Nat.ble 1000 k) (some (.bl true, L1)) none
  | _ => none
section
variable {X : Cx} {F : Fx} {ma : Ex} {a : Expr} {x : Str} {p p0 p1 p2 pos : Pos} {j : Nat}
theorem tz_nmLen {σ : St} {H : Hp} {Q : VK} (h : TZ X.K F (vNmLen ma) σ H Q) : tChain (rI0 fun i j => .bl (decide (i ≤ j))) (rI0 fun i j => .bl (decide (i ≤ j))) (tC (.int 1)) (tCB (fun xs H Q => ∃ z, xs = [.str z] ∧ z.length ≤ sizeLine ∧ Q (.int z.length) H) (tCons (TZ X.K F ma) tNil)) (tC (.int 8)) σ H Q := by
  obtain ⟨e, ρ, sl, L, w, L', he, hs, hh, hm, k⟩ := h
  unfold vNmLen at hm
  split at hm
  · rename_i n L1 h1
    obtain ⟨q, hm⟩ := cond_some hm
    cases hm
    refine ⟨e, ρ, sl, L, _, _, he, hs, hh, h1, fun ρ1 H1 v f1 r1 w1 => ?_⟩
    obtain ⟨z, hz, rfl⟩ := w1
    have hq := Nat.le_of_ble_eq_true q
    unfold sOf at hz
    rw [if_neg (by omega)] at hz
    have hm := he.nm z (List.mem_of_getElem? hz)
    obtain ⟨b1, b2, _⟩ := isNm_of hm
    refine ⟨z, rfl, by rw [sizeLine_eq]; omega, 1, (z.length : Int), rfl, rfl, _, rfl, ?_⟩
    rw [if_pos (by rw [decide_eq_true_eq]; omega)]
    refine ⟨(z.length : Int), 8, rfl, rfl, ?_⟩
    show Q (.bl (decide ((z.length : Int) ≤ 8))) H1
    rw [decide_eq_true (by omega)]
    exact k ρ1 H1 _ f1 r1 rfl
  · cases hm
theorem ze_nmLen (hg : Gl X "len") (hm : X.mg "len" = none) (hx : Gl X x) (hc : ∃ t, X.mg x = some (.int 8 t)) (ha : PE X a (TZ X.K F ma)) (hd : (x == ("__debug__" : Str)) = false := by decide)
    (he : starEach [a] X.env = [(false, eval a X.env)] := by rfl)
    (hl : lastMarks [.LtE, .LtE] [.Call (.Name "len" p) [a] [] p1, .Name x p2] = false := by with_unfolding_all rfl) :
    PE X (.Compare (.Constant (.int 1) j p0) [.LtE, .LtE] [.Call (.Name "len" p) [a] [] p1, .Name x p2] pos) (TZ X.K F (vNmLen ma)) := by
  obtain ⟨t, hc⟩ := hc
  exact PE.imp (pe_chain op_le op_le pe_int (pe_callB call_len_str hg hm PySem.boot_len (pa_cons ha pa_nil he) (by decide) (by decide) he rfl) (pe_glob (v := .int 8) hx hc ⟨t, rfl⟩ hd) hl) fun _ _ _ h => tz_nmLen h
theorem zt_nmLen (hg : Gl X "len") (hm : X.mg "len" = none) (hx : Gl X x) (hc : ∃ t, X.mg x = some (.int 8 t)) (ha : PE X a (TZ X.K F ma)) (hd : (x == ("__debug__" : Str)) = false := by decide)
    (he : starEach [a] X.env = [(false, eval a X.env)] := by rfl)
    (hl : lastMarks [.LtE, .LtE] [.Call (.Name "len" p) [a] [] p1, .Name x p2] = false := by with_unfolding_all rfl) :
    PT X (.Compare (.Constant (.int 1) j p0) [.LtE, .LtE] [.Call (.Name "len" p) [a] [] p1, .Name x p2] pos) (TTZ X.K F (mTest (vNmLen ma))) := by
  obtain ⟨t, hc⟩ := hc
  refine PT.imp (pt_chain op_le op_le pe_int (pe_callB call_len_str hg hm PySem.boot_len (pa_cons ha pa_nil he) (by decide) (by decide) he rfl) (pe_glob (v := .int 8) hx hc ⟨t, rfl⟩ hd) hl) ?_
  rintro σ H Q ⟨e, ρ, sl, L, w, L', he, hs, hh, hm, k⟩
  unfold mTest at hm
  split at hm
  · rename_i b' L1 h1
    cases hm
    exact tz_nmLen ⟨e, ρ, sl, L, _, _, he, hs, hh, h1, fun ρ' H' v f1 r1 w1 => ⟨_, w1, k ρ' H' f1 r1⟩⟩
  · cases hm
end
/-- all([c in LETTERS for c in x]) of a drawn name -/
def vNmAll (i : Nat) (a : Ex) : Ex := fun sl L => match a sl L with
  | some (.str k, L1) => cond (Nat.ble 1000 k && Nat.blt i sl.length) (some (.bl true, L1)) none
  | _ => none
section
variable {X : Cx} {F : Fx} {ma : Ex} {a : Expr} {x y : Str} {p p1 p2 p3 pos pos' cpos : Pos} {i : Nat}
theorem tz_nmAll {σ : St} {H : Hp} {Q : VK} (h : TZ X.K F (vNmAll i ma) σ H Q) :
    tCB (rAll X.K) (tCons (tLc (iStr (TZ X.K F ma)) (gName i) tYes (tOp (fun x y H Q => ∃ (c : Nat) (z : Str), x = .str ⟨#[c]⟩ ∧ y = .str z ∧ Q (.bl (decide (c ∈ z.cps.toList))) H) (tVar i) (tC (.str letters))) [i]) tNil) σ H Q := by
  obtain ⟨e, ρ, sl, L, w, L', he, hs, hh, hm, k⟩ := h
  unfold vNmAll at hm
  split at hm
  · rename_i n L1 h1
    obtain ⟨q, hm⟩ := cond_some hm
    cases hm
    rw [Bool.and_eq_true] at q
    have hil : i < sl.length := Nat.le_of_ble_eq_true q.2
    refine ⟨e, ρ, sl, L, _, _, he, hs, hh, h1, fun ρ1 H1 v f1 r1 w1 => ?_⟩
    obtain ⟨z, hz, rfl⟩ := w1
    have hq := Nat.le_of_ble_eq_true q.1
    unfold sOf at hz
    rw [if_neg (by omega)] at hz
    obtain ⟨b1, b2, b3⟩ := isNm_of (he.nm z (List.mem_of_getElem? hz))
    refine ⟨z, rfl, fun D hD => ?_⟩
    refine ⟨fun j m H => m + j = z.cps.size ∧ H = upd H1 D (.lst ((List.replicate j true).map V.bl)), ⟨z.cps.size, rfl, rfl⟩, ?_⟩
    rintro j m H2 ⟨hj, rfl⟩
    have f2 : Fm ρ1 ρ1 H1 (upd H1 D (.lst ((List.replicate j true).map V.bl))) := fm_new hD
    have r2 := r1.new (o := .lst ((List.replicate j true).map V.bl)) hD
    by_cases hlt : j < z.cps.size
    · refine .inr ⟨hlt, fun H' => (m - 1) + (j + 1) = z.cps.size ∧ H' = upd H1 D (.lst ((List.replicate (j + 1) true).map V.bl)), fun H' q => ⟨m - 1, by omega, q⟩, ?_⟩
      rintro xv H3 ⟨rfl, c, hc, rfl⟩
      have hσ : i < (wipe σ [i]).length := by rw [wipe_length, hs.len]; exact hil
      refine ⟨?_, ?_⟩
      · exact (wipe_set (List.mem_singleton.mpr rfl)).trans (wipe_wipe σ [i])
      · unfold tYes
        dsimp only
        rw [if_pos rfl]
        refine ⟨.str ⟨#[c]⟩, List.getElem?_set_self hσ, c, letters, rfl, rfl, ?_⟩
        have hcm : c ∈ z.cps.toList := by
          obtain ⟨g1, g2⟩ := Array.getElem?_eq_some_iff.mp hc
          rw [← g2]
          exact Array.getElem_mem_toList g1
        rw [decide_eq_true (b3 c hcm)]
        have hsz : z.cps.size ≤ 8 := b2
        refine ⟨_, upd_same, by rw [List.length_map, List.length_replicate, sizeLine_eq]; omega, by omega, ?_⟩
        rw [upd_upd, List.replicate_succ', List.map_append]
        rfl
    · refine .inl ⟨Nat.le_of_not_lt hlt, ?_⟩
      refine ⟨D, List.replicate j true, rfl, SqL.of upd_same, ?_⟩
      have : (List.replicate j true).all id = true := by simp
      rw [this]
      exact k ρ1 _ _ (f1.trans f2) r2 rfl
  · cases hm
theorem ze_nmAll {scope : Scope} (hc : X.calm = true) (hN : X.N.Nodup) (hg : Gl X "all") (hm : X.mg "all" = none) (ha : PE X a (TZ X.K F ma)) (ok : BlkOk X.N X.env.scope scope [(x, i)])
    (hi : X.N[i]? = some x)
    (hgl : ∀ (s : Shared) (H : Hp) (C : Addr) (cl : List (Str × Addr)) (fp : List Addr), PG (X.blk s H scope (compEnvC scope cl C X.env) fp) (.Name x p1) (gName i))
    (hv : ∀ (s : Shared) (H : Hp) (C : Addr) (cl : List (Str × Addr)) (fp : List Addr), PE (X.blk s H scope (compEnvC scope cl C X.env) fp) (.Name x p2) (tVar i))
    (hy : ∀ (s : Shared) (H : Hp) (C : Addr) (cl : List (Str × Addr)) (fp : List Addr), PE (X.blk s H scope (compEnvC scope cl C X.env) fp) (.Name y p3) (tC (.str letters)))
    (he : starEach [.ListComp (.Compare (.Name x p2) [.In] [.Name y p3] pos) [⟨.Name x p1, a, [], 0⟩] scope pos'] X.env = [(false, eval (.ListComp (.Compare (.Name x p2) [.In] [.Name y p3] pos) [⟨.Name x p1, a, [], 0⟩] scope pos') X.env)] := by rfl)
    (hf : ∀ v, foldedSetIterable a X.env v = pure v := by intro _; rfl) :
    PE X (.Call (.Name "all" p) [.ListComp (.Compare (.Name x p2) [.In] [.Name y p3] pos) [⟨.Name x p1, a, [], 0⟩] scope pos'] [] cpos) (TZ X.K F (vNmAll i ma)) :=
  PE.imp (pe_callB (cr_all hc) hg hm (by decide +kernel) (pa_cons (pe_lc (own := [(x, i)]) (g := gName i) (tt := tYes) hc hN (pi_str ha) ok hgl (fun _ _ _ _ _ => pts_nil) (fun s H C cl fp => pe_cmpR op_in_sign (hv s H C cl fp) (hy s H C cl fp) rfl) hf) pa_nil he) (by decide) (by decide) he rfl) fun _ _ _ h => tz_nmAll h
end
/-! ### ints, added in place -/
def fAddI : W → W → LH → Option (W × LH) := fun x y L => match x, y with
  | .int i, .int j => some (.int (i + j), L)
  | _, _ => none
theorem oz_addI {K : PySem.W.Frag} {F : Fx} : OpZ K F rAdd fAddI := by
  intro e ρ H L x y vx vy w L' Q he R rx ry h k
  unfold fAddI at h
  split at h
  · rename_i i j
    cases h
    cases rx
    cases ry
    exact ⟨i, j, rfl, rfl, k ρ H _ .refl R rfl⟩
  · cases h
/-! ### a dict just made, locked for good -/
def vLockNow (a : Ex) : Ex := fun sl L => match a sl L with
  | some (.ref n, L1) => match dctAt L1 n with
    | some kvs => cond (Nat.blt L1.n top) (some (.ref n, L1.set n (.dlk kvs))) none
    | none => none
  | _ => none
theorem ze_lockNow {X : Cx} {F : Fx} {x : Expr} {m : Ex} (h : PE X x (TZ X.K F m)) : PE X x (TZ X.K F (vLockNow m)) := by
  refine ⟨fun pins s σ H Q I hw => ?_⟩
  obtain ⟨e, ρ, sl, L, w, L', he, hs, hh, hm, k⟩ := hw
  unfold vLockNow at hm
  split at hm
  · rename_i n L1 h1
    split at hm
    · rename_i kvs hd
      obtain ⟨q, hm⟩ := cond_some hm
      cases hm
      have hq : TZ X.K F m σ H (fun v H1 => ∃ a u, v = .ref a ∧ H1 a = some u ∧ Mut (some u) ∧ ∀ od, Q v (upd H1 a (.frz od u))) := by
        refine ⟨e, ρ, sl, L, _, _, he, hs, hh, h1, fun ρ1 H1 v f1 r1 w1 => ?_⟩
        have w1' := w1
        unfold RelW at w1'
        obtain ⟨a, rfl, ha⟩ := w1'
        obtain ⟨a', u, p1, p2, p3⟩ := r1.dct (dctAt_get hd)
        rw [ha] at p1; cases p1
        refine ⟨a, u, rfl, p2, p3.mut, fun od => ?_⟩
        have mu : Mut (H1 a) := by rw [p2]; exact p3.mut
        have f2 : Fm ρ1 ρ1 H1 (upd H1 a (.frz od u)) := fm_put r1 ha mu
        refine k ρ1 _ _ (f1.trans f2) (r1.put (h' := .frz od u) (o := .dlk kvs) ha mu (Nat.le_of_ble_eq_true q) ⟨od, u, upd_same, p3.mono f2.kp f2.pre⟩) (f2.rel w1)
      refine thn (h.run pins s σ H _ I hq) fun v s1 ⟨y, H1, I1, r1, a, u, ey, hu, mu, q2⟩ => ?_
      obtain ⟨od, I2⟩ := I1.lock hu mu
      exact ⟨y, _, I2, r1, q2 od⟩
    · cases hm
  · cases hm
/-! ### a dict of the module -/
def tabAt (k : Nat) : List (Nat × W) → Option W
  | [] => none
  | (j, w) :: r => match Nat.beq j k with
    | true => some w
    | false => tabAt k r
def mKGet (tab : List (Nat × W)) (a b : Ex) : Ex := fun sl L => match a sl L with
  | some (.str k, L1) => match b sl L1 with
    | some (_, L2) => match tabAt k tab with
      | some w => some (w, L2)
      | none => none
    | none => none
  | _ => none
theorem tabAt_mem {k : Nat} {w : W} : ∀ {tab : List (Nat × W)}, tabAt k tab = some w → (k, w) ∈ tab
  | [], h => by cases h
  | (j, w') :: r, h => by
    unfold tabAt at h
    split at h
    · rename_i q
      cases h
      rw [Nat.eq_of_beq_eq_true q]
      exact List.mem_cons_self
    · exact List.mem_cons_of_mem _ (tabAt_mem h)
def tyKD (K : PySem.W.Frag) (d : Addr) : V → Hp → Prop := fun x _ => x = .ref d ∧ ∃ es n, K.lookup d = some ⟨.type "dict", none, .dict es n, #[]⟩
theorem ty_kd {X : Cx} {d : Addr} : TyOk X "dict" (tyKD X.K d) := by
  rintro pins σ H s x v I rx ⟨rfl, es, n, hl⟩
  cases rx
  have := I.kIn _ _ hl
  exact ⟨⟨_, this, rfl⟩, fun b e => by cases e; exact ⟨_, this, rfl⟩⟩
theorem mt_kget {X : Cx} {d : Addr} (hd : (d == sysModules) = false) : MtR X "dict.get" (fun x vs H Q => ∃ z v y, x = .ref d ∧ vs = [.str z, y] ∧ KDct X.K X.w d z v ∧ Q v H) := by
  rintro pins s σ H x xs v us Q I rx rxs ⟨z, v0, y, rfl, rfl, ⟨es, n, u0, hl, hk, e, ru⟩, q⟩
  cases rx
  obtain ⟨u, w, rfl, ⟨t, rfl⟩, rw'⟩ := vals2' rxs
  have hm := PySem.W.mapOf_K (prog := X.prog) (w := X.w) I.kIn hl hk
  refine call_meetsIn PySem.F.slot_dict_get hm.typeIs PySem.F.entry_dict_get (PySem.F.args_dict_get_3 _ _ _) (meets_dict_get_default (strKind X.prog X.w) d (strKind_is X.prog X.w z t) hd w) ⟨_, hm, ?_⟩
  rw [PySem.W.find_K hl e]
  exact ⟨v0, H, I.tok _, ru, q⟩
theorem ze_kget {X : Cx} {F : Fx} {x : Str} {d : Addr} {a b : Expr} {ma mb : Ex} {tab : List (Nat × W)} {p apos cpos : Pos} (hg : Gl X x) (hm : X.mg x = some (.ref d)) (hd : (d == sysModules) = false)
    (ht : ∀ q ∈ tab, ∃ z v, F.lits[q.1]? = some z ∧ q.1 < 1000 ∧ KDct X.K X.w d z v ∧ ∀ (e : En) (H : Hp) (ρ : List Addr), RelW X.K F e H ρ q.2 v)
    (hk : ∃ es n, X.K.lookup d = some ⟨.type "dict", none, .dict es n, #[]⟩)
    (ha : PE X a (TZ X.K F ma)) (hb : PE X b (TZ X.K F mb)) (hdb : (x == ("__debug__" : Str)) = false := by decide)
    (hbase : attributeBase (.Name x p) "get" X.env (eval (.Name x p) X.env) = eval (.Name x p) X.env := by rfl)
    (hfew : ((backTo cpos (starEach [a, b] X.env)).all (fun x => !x.1) && (backToKw cpos (keywordEach [] X.env)).all (fun x => x.1.isSome)
      && decide (([a, b] : List Expr).length + ([] : List Keyword).length + (if ([] : List Keyword).isEmpty then 0 else 1) < 30)) = true := by rfl)
    (hline : (apos.endLine == cpos.line) = true := by rfl) (hs : starEach [a, b] X.env = (false, eval a X.env) :: starEach [b] X.env := by rfl) (hs2 : starEach [b] X.env = (false, eval b X.env) :: starEach [] X.env := by rfl) (hplain : (backTo cpos (starEach [b] X.env)).any (·.1) = false := by rfl) :
    PE X (.Call (.Attribute (.Name x p) "get" apos) [a, b] [] cpos) (TZ X.K F (mKGet tab ma mb)) := by
  refine PE.imp (pe_mG (ty_kd (d := d)) PySem.F.plainAttrs_dict PySem.F.slot_dict_get PySem.F.type_dict_get (mt_kget hd) (pe_glob (v := .ref d) hg hm rfl hdb) (pa_cons ha (pa_cons hb pa_nil hs2) hs) hbase hfew hline hs hplain) ?_
  rintro σ H Q ⟨e, ρ, sl, L, w, L', he, hs, hh, hm, k⟩
  unfold mKGet at hm
  split at hm
  · rename_i n L1 h1
    split at hm
    · rename_i y L2 h2
      split at hm
      · rename_i w' hw
        cases hm
        obtain ⟨z, v, l1, l2, kd, rel⟩ := ht _ (tabAt_mem hw)
        refine ⟨⟨rfl, hk⟩, ?_⟩
        refine ⟨e, ρ, sl, L, _, _, he, hs, hh, h1, fun ρ1 H1 v1 f1 r1 w1 => ?_⟩
        refine ⟨e, ρ1, sl, L1, _, _, he, f1.relSl hs, r1, h2, fun ρ2 H2 v2 f2 r2 w2 => ?_⟩
        obtain ⟨z', hz', rfl⟩ := w1
        rw [sOf_lit l1 l2] at hz'
        cases hz'
        exact ⟨z, v, v2, rfl, rfl, kd, k ρ2 H2 v (f1.trans f2) r2 (rel e H2 ρ2)⟩
      · cases hm
    · cases hm
  · cases hm
end Z

set_option Elab.async false
set_option linter.all false
set_option maxRecDepth 100000
set_option maxHeartbeats 1000000
/-! Z: isinstance of a dict. -/
namespace Z
open PySem PySem.Spec PyProof.Rows L2
def rIsiD (X : Cx) : List V → Hp → VK → Prop := fun xs H Q => ∃ (a : Addr) (uo : HO) (ks ys : List V) (c : V) (u : Value) (b : Bool), xs = [.ref a, c] ∧ Rd H a uo ∧ Rows X a uo ks ys ∧ ClsV c u ∧ PySem.W.kitOne X.K (.type "dict") u = some b ∧ Q (.bl b) H
def rIsiTD (X : Cx) : List V → Hp → VK → Prop := fun xs H Q => ∃ (a : Addr) (uo : HO) (ks ys : List V) (tp : Addr) (cs : List V) (us : List Value) (b : Bool), xs = [.ref a, .ref tp] ∧ Rd H a uo ∧ Rows X a uo ks ys ∧ H tp = some (.tup cs) ∧ Paired ClsV cs us ∧ PySem.W.kitAny X.K (.type "dict") us = some b ∧ Q (.bl b) H
section
variable {X : Cx}
theorem call_isiD : CallR X (.builtin "isinstance") (rIsiD X) := by
  rintro pins s σ H xs us Q I r ⟨a, uo, ks, ys, c, u, b, rfl, hr, rws, k, e, q⟩
  obtain ⟨u1, u2, rfl, r1, r2⟩ := vals2' r
  have e2 := k.eq r2
  subst e2
  cases r1
  obtain ⟨o, ho, es, ep, hx, _⟩ := rd_raw I hr rws
  exact PySem.W.kia_one PySem.W.kitx_dict I.kIn ⟨o, ho, hx.1⟩ e (fun z => nomatch z) fun tk => ⟨.bl b, H, I.tok tk, rfl, q⟩
theorem call_isiTD : CallR X (.builtin "isinstance") (rIsiTD X) := by
  rintro pins s σ H xs us Q I r ⟨a, uo, ks, ys, tp, cs, ws, b, rfl, hr, rws, hT, k, e, q⟩
  obtain ⟨u1, u2, rfl, r1, r2⟩ := vals2' r
  cases r1
  cases r2
  obtain ⟨o', ho', es, ep, hx, _⟩ := rd_raw I hr rws
  obtain ⟨_, its, rv, o, h1, h2, n, h3⟩ := (show ObjOk X.prog X.w H s.heap tp (.tup cs) from I.hok tp _ hT)
  have e3 := ClsV.all k rv
  subst e3
  obtain ⟨oc, od, dt, sl⟩ := o
  simp only at h2 h3
  subst h2 h3
  exact PySem.W.kia_tup PySem.W.kitx_dict I.kIn ⟨o', ho', hx.1⟩ h1 e (fun z => nomatch z) fun tk => ⟨.bl b, H, I.tok tk, rfl, q⟩
end
def isDct (L : LH) : W → Bool
  | .ref n => (tabOf L n).isSome
  | _ => false
def fIsiD (T : Ty) : W → LH → Option (W × LH) := fun x L => cond (isDct L x) (some (.bl (subT .dict T), L)) none
def fIsi2D (T U : Ty) : W → LH → Option (W × LH) := fun x L => cond (isDct L x) (some (.bl (subT .dict T || subT .dict U), L)) none
section
variable {X : Cx} {F : Fx} {ma : Ex} {a : Expr} {p pos : Pos} {T U : Ty} {x y : Str} {p1 p2 p3 : Pos} {kk : Nat}
theorem isDct_ok {e : En} {H : Hp} {ρ : List Addr} {L : LH} (hX : FxOk X F) (R : RH X.K F e H ρ L) {w : W} {v : V} (r : RelW X.K F e H ρ w v) (h : isDct L w = true) : ∃ a uo ks ys, v = .ref a ∧ Rd H a uo ∧ Rows X a uo ks ys := by
  cases w with
  | ref n =>
    simp only [isDct] at h
    cases ht : tabOf L n with
    | none => rw [ht] at h; cases h
    | some kvs =>
      obtain ⟨a, uo, ha, hr, d⟩ := R.tab ht
      unfold RelW at r
      obtain ⟨a', rfl, ha'⟩ := r
      rw [ha] at ha'; cases ha'
      obtain ⟨ks, ys, rws, _, _⟩ := dct_rows hX d
      exact ⟨a, uo, ks, ys, rfl, hr, rws⟩
  | _ => cases h
theorem ze_isiD (hX : FxOk X F) (ha : PE X a (TZ X.K F ma)) (hg : Gl X "isinstance") (hm : X.mg "isinstance" = none) (hx : Gl X x) (hmx : X.mg x = none) (hv : bootBuiltins x = some (.type T.name)) (hn : x ≠ "__name__" := by decide) (hd : (x == ("__debug__" : Str)) = false := by decide)
    (hs1 : starEach [a, .Name x p1] X.env = (false, eval a X.env) :: starEach [.Name x p1] X.env := by rfl) (hs2 : starEach [.Name x p1] X.env = (false, eval (.Name x p1) X.env) :: starEach [] X.env := by rfl) (hpl : (backTo pos (starEach [.Name x p1] X.env)).any (·.1) = false := by rfl) :
    PE X (.Call (.Name "isinstance" p) [a, .Name x p1] [] pos) (TZ X.K F (mUn (fIsiD T) ma)) := by
  refine PE.imp (pe_callB call_isiD hg hm (by decide +kernel) (pa_cons ha (pa_cons (pe_bltn (v := .ty T.name) hx hmx hv rfl hn hd) pa_nil hs2) hs1) (by decide) (by decide) hs1 hpl) ?_
  rintro σ H Q ⟨e, ρ, sl, L, w, L', he, hs, hh, hm, k⟩
  unfold mUn at hm
  split at hm
  · cases hm
  rename_i x1 L1 h1
  unfold fIsiD at hm
  obtain ⟨ht, hm⟩ := cond_some hm
  cases hm
  refine ⟨e, ρ, sl, L, _, _, he, hs, hh, h1, fun ρ1 H1 v f1 r1 w1 => ?_⟩
  obtain ⟨b, uo, ks, ys, rfl, hr, rws⟩ := isDct_ok hX r1 w1 ht
  exact ⟨b, uo, ks, ys, .ty T.name, _, _, rfl, hr, rws, .ty _, kit_sub .dict T, k ρ1 H1 _ f1 r1 rfl⟩
theorem ze_isi2D (hX : FxOk X F) (ha : PE X a (TZ X.K F ma)) (hg : Gl X "isinstance") (hm : X.mg "isinstance" = none) (hx : Gl X x) (hmx : X.mg x = none) (hv : bootBuiltins x = some (.type T.name)) (hy : Gl X y) (hmy : X.mg y = none) (hvy : bootBuiltins y = some (.type U.name))
    (hn : x ≠ "__name__" := by decide) (hd : (x == ("__debug__" : Str)) = false := by decide) (hn' : y ≠ "__name__" := by decide) (hd' : (y == ("__debug__" : Str)) = false := by decide)
    (hs1 : starEach [a, .Tuple [.Name x p1, .Name y p2] kk p3] X.env = (false, eval a X.env) :: starEach [.Tuple [.Name x p1, .Name y p2] kk p3] X.env := by rfl) (hs2 : starEach [.Tuple [.Name x p1, .Name y p2] kk p3] X.env = (false, eval (.Tuple [.Name x p1, .Name y p2] kk p3) X.env) :: starEach [] X.env := by rfl)
    (hs3 : starEach [.Name x p1, .Name y p2] X.env = (false, eval (.Name x p1) X.env) :: starEach [.Name y p2] X.env := by rfl) (hs4 : starEach [.Name y p2] X.env = (false, eval (.Name y p2) X.env) :: starEach [] X.env := by rfl)
    (hpl : (backTo pos (starEach [.Tuple [.Name x p1, .Name y p2] kk p3] X.env)).any (·.1) = false := by rfl) :
    PE X (.Call (.Name "isinstance" p) [a, .Tuple [.Name x p1, .Name y p2] kk p3] [] pos) (TZ X.K F (mUn (fIsi2D T U) ma)) := by
  refine PE.imp (pe_callB call_isiTD hg hm (by decide +kernel) (pa_cons ha (pa_cons (pe_tup (pa_cons (pe_bltn (v := .ty T.name) hx hmx hv rfl hn hd) (pa_cons (pe_bltn (v := .ty U.name) hy hmy hvy rfl hn' hd') pa_nil hs4) hs3)) pa_nil hs2) hs1) (by decide) (by decide) hs1 hpl) ?_
  rintro σ H Q ⟨e, ρ, sl, L, w, L', he, hs, hh, hm, k⟩
  unfold mUn at hm
  split at hm
  · cases hm
  rename_i x1 L1 h1
  unfold fIsi2D at hm
  obtain ⟨ht, hm⟩ := cond_some hm
  cases hm
  refine ⟨e, ρ, sl, L, _, _, he, hs, hh, h1, fun ρ1 H1 v f1 r1 w1 => ?_⟩
  refine ⟨line_ok (show 2 ≤ 1000000 by decide), fun q hq => ?_⟩
  have f2 : Fm ρ1 ρ1 H1 (upd H1 q (.tup [.ty T.name, .ty U.name])) := fm_new hq
  have r2 := r1.new (o := .tup [.ty T.name, .ty U.name]) hq
  obtain ⟨b, uo, ks, ys, rfl, hr, rws⟩ := isDct_ok hX r2 (f2.rel w1) ht
  refine ⟨b, uo, ks, ys, q, _, [.type T.name, .type U.name], _, rfl, hr, rws, upd_same, .cons (.ty _) (.cons (.ty _) .nil), ?_, k ρ1 _ _ (f1.trans f2) r2 rfl⟩
  unfold PySem.W.kitAny
  rw [show (Value.type "dict") = .type Ty.dict.name from rfl, kit_sub .dict T]
  cases subT .dict T with
  | true => rfl
  | false =>
    show PySem.W.kitAny X.K _ _ = _
    unfold PySem.W.kitAny
    rw [kit_sub .dict U]
    cases subT .dict U <;> rfl
end
end Z

set_option Elab.async false
set_option linter.all false
set_option maxRecDepth 100000
set_option maxHeartbeats 1000000
/-! Z: zip of two tuples, or of two lists. -/
namespace Z
open PySem PySem.Spec PyProof.Rows L2
theorem it_zipT {K : PySem.W.Frag} {F : Fx} {e : En} {H : Hp} {ρ : List Addr} {a b : Addr} {us vs : List V} {xs ys : List W} (ha : SqT K H a us) (ra : RelWs K F e H ρ xs us) (hb : SqT K H b vs) (rb : RelWs K F e H ρ ys vs) :
    ItOk K F e (.zip (.vals xs) (.vals ys)) (RZ.ItzT K a b) ρ H := by
  have A := it_tup (F := F) (e := e) ha ra
  have B := it_tup (F := F) (e := e) hb rb
  refine ⟨fun ρ' H' L i w f R h => ?_, fun ρ' H' L i f R h => ?_⟩
  · simp only [Src.item] at h
    split at h
    · cases h
    · cases h
    rename_i x hx
    split at h
    · cases h
    · cases h
    rename_i y hy
    have : W.tup [x, y] = w := Option.some.inj (Option.some.inj h)
    subst this
    obtain ⟨⟨xs, vx, s1, g1⟩, q1⟩ := A.go ρ' H' L i x f R hx
    obtain ⟨⟨ys, vy, s2, g2⟩, q2⟩ := B.go ρ' H' L i y f R hy
    refine ⟨⟨xs, ys, vx, vy, s1, s2, g1, g2⟩, ?_⟩
    rintro v H'' ⟨T, x', y', rfl, hT, rfl, e1, e2⟩
    obtain ⟨_, _, r1⟩ := q1 x' H' ⟨rfl, e1⟩
    obtain ⟨_, _, r2⟩ := q2 y' H' ⟨rfl, e2⟩
    obtain ⟨f3, r3, w3⟩ := new_tup R hT (.cons r1 (.cons r2 .nil))
    exact ⟨f3, r3, w3⟩
  · simp only [Src.item] at h
    split at h
    · cases h
    · rename_i hx
      obtain ⟨xs, s1, l1⟩ := A.stop ρ' H' L i f R hx
      rename_i o ho
      obtain ⟨ys', s2, h2⟩ : ∃ ys', SqT K H' b ys' ∧ True := ⟨vs, f.sqT _ _ hb, trivial⟩
      exact ⟨xs, ys', s1, s2, .inl l1⟩
    · rename_i x hx
      split at h
      · cases h
      · rename_i hy
        obtain ⟨⟨xs, vx, s1, g1⟩, q1⟩ := A.go ρ' H' L i x f R hx
        obtain ⟨ys, s2, l2⟩ := B.stop ρ' H' L i f R hy
        exact ⟨xs, ys, s1, s2, .inr l2⟩
      · cases h
def iZipA (a b : Ex) : Ei := fun sl L => match a sl L with
  | none => none
  | some (x, L1) => match b sl L1 with
    | none => none
    | some (y, L2) => match x, y with
      | .tup xs, .tup ys => some (.zip (.vals xs) (.vals ys), L2)
      | .ref m, .ref n => match L2.get m, L2.get n with
        | some (.lst _), some (.lst _) => some (.zip (.obj m) (.obj n), L2)
        | _, _ => none
      | _, _ => none
section
variable {X : Cx} {F : Fx} {ma mb : Ex} {a b : Expr} {p pos : Pos}
theorem zi_zipA {elts : List Expr} {kk : Nat} {tpos : Pos} (hg : Gl X "zip") (hm : X.mg "zip" = none) (ha : PE X a (TZ X.K F ma)) (hb : PE X b (TZ X.K F mb))
    (hs : starEach [a, b] X.env = (false, eval a X.env) :: starEach [b] X.env := by rfl) (hs2 : starEach [b] X.env = (false, eval b X.env) :: starEach [] X.env := by rfl) (hpl : (backTo pos (starEach [b] X.env)).any (·.1) = false := by rfl) :
    PI X (.Tuple elts kk tpos) (.Call (.Name "zip" p) [a, b] [] pos) (IZ X.K F (iZipA ma mb)) := by
  refine PI.imp (RZ.pi_zipA hg hm (pa_cons ha (pa_cons hb pa_nil hs2) hs) hs hpl) ?_
  rintro σ H R ⟨e, ρ, sl, L, src, L', he, hs, hh, hm, k⟩
  unfold iZipA at hm
  split at hm
  · cases hm
  rename_i x L1 h1
  split at hm
  · cases hm
  rename_i y L2 h2
  refine ⟨e, ρ, sl, L, _, _, he, hs, hh, h1, fun ρ1 H1 v f1 r1 w1 => ?_⟩
  refine ⟨e, ρ1, sl, L1, _, _, he, f1.relSl hs, r1, h2, fun ρ2 H2 v2 f2 r2 w2 => ?_⟩
  have w1' := f2.rel w1
  split at hm
  · cases hm
    unfold RelW at w1' w2
    obtain ⟨a, us, rfl, s1, q1⟩ := w1'
    obtain ⟨b, vs, rfl, s2, q2⟩ := w2
    exact ⟨a, b, us, vs, rfl, .inr ⟨s1, s2, k ρ2 H2 _ (f1.trans f2) r2 (it_zipT s1 q1 s2 q2)⟩⟩
  · split at hm
    · rename_i gx gy
      cases hm
      unfold RelW at w1' w2
      obtain ⟨a, rfl, ha⟩ := w1'
      obtain ⟨b, rfl, hb⟩ := w2
      obtain ⟨a', xs, p1, p2, p3⟩ := r2.lst gx
      rw [ha] at p1; cases p1
      obtain ⟨b', ys, q1, q2, q3⟩ := r2.lst gy
      rw [hb] at q1; cases q1
      exact ⟨a, b, xs, ys, rfl, .inl ⟨SqL.of p2, SqL.of q2, k ρ2 H2 _ (f1.trans f2) r2 (it_zip ha hb)⟩⟩
    · cases hm
  · cases hm
end
end Z

set_option Elab.async false
set_option linter.all false
set_option maxRecDepth 100000
set_option maxHeartbeats 1000000
/-! Z: len of a dict; cells of unknown ints; boxes with a budget; closed runs. -/
namespace Z
open PySem PySem.Spec PyProof.Rows L2
abbrev rLenDZ (X : Cx) : List V → Hp → VK → Prop := fun xs H Q => ∃ a uo ks ys, xs = [.ref a] ∧ Rd H a uo ∧ Rows X a uo ks ys ∧ ks.length ≤ sizeLine ∧ Q (.int ks.length) H
theorem call_lenDZ {X : Cx} : CallR X (.builtin "len") (rLenDZ X) := by
  rintro pins s σ H xs us Q I r ⟨a, uo, ks, ys, rfl, hr, rws, hl, q⟩
  obtain ⟨u, rfl, ru⟩ := vals1' r
  cases ru
  obtain ⟨o, ho, es, ep, hx, hdt, hsz, _, _⟩ := rd_raw I hr rws
  refine Calls.call_function_entry kind_len plain_len entry_len (args_len1 _) ?_
  unfold Builtin.«len»
  have hT : s.TypeIs (.ref a) "dict" := ⟨o, ho, hx.1⟩
  refine wpAny_bind (m := oneArg "len" _) (wpAny_pure ?_)
  refine wpAny_bind (m := callSpecial? (.ref a) (Str.ofString "__len__")) (wpAny_callSpecial?_slot (name := Str.ofString "__len__") hT F.slot_dict_len
    (call_meetsIn F.slot_dict_len hT F.entry_dict_len (F.args_dict_len_1 _) (meets_dict_len_raw a rws.1) ⟨es, ep, ⟨o, ho, hx, hdt⟩, ?_⟩))
  show wpAny _ _ _ _ _ { s with toks := s.toks + 1 }
  refine wpAny_bind (wpAny_holding (wpAny_pure ?_))
  refine wpAny_bind (wpAny_letGo ?_)
  have h63 : es.size < 2 ^ 63 := by rw [sizeLine_eq] at hl; omega
  show wpAny _ _ (if ((es.size : Nat) : Int) < 0 then _ else _) _ _ _
  rw [if_neg (by omega)]
  show wpAny _ _ (if ((es.size : Nat) : Int) ≥ 2 ^ 63 then _ else _) _ _ _
  rw [if_neg (by omega)]
  refine wpAny_bind (wpAny_mkInt (wpAny_pure ⟨_, rfl, .int ks.length, H, (I.tok _), ⟨_, by rw [hsz]⟩, q⟩))
def fLenD : List W → LH → Option (W × LH) := fun xs L => match xs with
  | [.ref n] => match tabOf L n with
    | some kvs => some (.int (kvs.length : Nat), L)
    | none => none
  | _ => none
theorem cz_lenD {X : Cx} {F : Fx} (hX : FxOk X F) : CallZ X.K F (rLenDZ X) fLenD := by
  intro e ρ H L xs vs w L' Q he R rx h k
  unfold fLenD at h
  split at h
  · rename_i n
    split at h
    · rename_i kvs ht
      cases h
      obtain ⟨v, rfl, rv⟩ := rel1 rx
      unfold RelW at rv
      obtain ⟨a, rfl, ha⟩ := rv
      obtain ⟨a', uo, p1, hr, d⟩ := R.tab ht
      rw [ha] at p1; cases p1
      obtain ⟨ks, ys, rws, q1, q2⟩ := dct_rows hX d
      have el : ks.length = kvs.length := by rw [q1.length, List.length_map]
      refine ⟨a, uo, ks, ys, rfl, hr, rws, by rw [el]; exact line_ok d.2.1, ?_⟩
      rw [el]
      exact k ρ H _ .refl R rfl
    · cases h
  · cases h
/-- len of a list of unknown ints -/
def fLenC : List W → LH → Option (W × LH) := fun xs L => match xs with
  | [.ref n] => match L.get n with
    | some (.cel k) => cond (Nat.ble k 1000000) (some (.int (k : Nat), L)) none
    | _ => none
  | _ => none
theorem cz_lenC {K : PySem.W.Frag} {F : Fx} : CallZ K F (fun xs H Q => ∃ x n, xs = [x] ∧ LenV K x H n ∧ Q (.int n) H) fLenC := by
  intro e ρ H L xs vs w L' Q he R rx h k
  unfold fLenC at h
  split at h
  · rename_i n
    split at h
    · rename_i c g
      obtain ⟨q, h⟩ := cond_some h
      cases h
      obtain ⟨v, rfl, rv⟩ := rel1 rx
      unfold RelW at rv
      obtain ⟨a, rfl, ha⟩ := rv
      obtain ⟨a', p1, is, h1, h2⟩ := R.at_ g
      rw [ha] at p1; cases p1
      refine ⟨.ref a, c, rfl, .inl ⟨is.map V.int, SqL.of h1, by rw [List.length_map, h2]⟩, k ρ H _ .refl R rfl⟩
    · cases h
  · cases h
/-! ### frames of closed runs -/
section
variable {K : PySem.W.Frag} {F : Fx} {e e' : En} {H H' : Hp} {ρ ρ' : List Addr} {L : LH}
theorem Fm.closed (f : Fm [] ρ' H H') : Fm ρ ρ H H' := ⟨fun _ _ h => h, fun _ h => .inl h, fun a o h _ => f.keep a o h (by simp), f.there, f.tup, f.frz⟩
theorem RH.closed (R : RH K F e H ρ L) (f : Fm [] ρ' H H') : RH K F e H' ρ L := by
  refine ⟨R.len, R.nd, fun n a h => ?_, R.fit⟩
  obtain ⟨o, h1, h2⟩ := R.ob n a h
  obtain ⟨q, hq, _⟩ := h2.mut
  exact ⟨o, h1, h2.stay f.kp (fun _ _ z => z) (by rw [f.keep a q hq (by simp), hq]) fun d hd => f.keep d _ hd (by simp)⟩
end
def isIntW : W → Bool
  | .int _ => true
  | _ => false
theorem ints_of {ws : List W} (h : ws.all isIntW = true) : ∃ ns : List Int, ws = ns.map W.int := by
  induction ws with
  | nil => exact ⟨[], rfl⟩
  | cons w ws ih =>
    rw [List.all_cons, Bool.and_eq_true] at h
    obtain ⟨ns, rfl⟩ := ih h.2
    cases w with
    | int i => exact ⟨i :: ns, rfl⟩
    | _ => cases h.1
theorem rel_ints_eq {K : PySem.W.Frag} {F : Fx} {e : En} {H : Hp} {ρ : List Addr} : ∀ {ns : List Int} {vs : List V}, RelWs K F e H ρ (ns.map W.int) vs → vs = ns.map V.int
  | [], vs, h => by unfold RelWs at h; exact h
  | n :: ns, vs, h => by
    obtain ⟨v, vr, rfl, h1, h2⟩ := RelWs.uncons h
    have h1' : v = .int n := h1
    rw [h1', rel_ints_eq h2]
    rfl
/-- the cells: how many is told by the law's own mirror -/
def fCells : List W → LH → Option (W × LH) := fun ws L => match ws with
  | [.fz xs, .int m] => match g_cells [.fz xs, .int m] ⟨0, .nil⟩ with
    | some (.ref c, L1) => match L1.get c with
      | some (.lst cs) => cond (xs.all isIntW && (cs.all isIntW && Nat.blt L.n top)) (some (.ref L.n, L.add (.cel cs.length))) none
      | _ => none
    | _ => none
  | _ => none
def fBoxN (f : Nat) : List W → LH → Option (W × LH) := fun ws L => match ws with
  | [.ref c, .int k] => match L.get c with
    | some (.cel n) => cond (decide (0 ≤ k) && (decide (k < (n : Nat)) && (decide (k < 100) && (Nat.blt (L.n + 1) top && Nat.ble f 1000000)))) (some (.ref L.n, (L.set c (.cel n)).add (.box f []))) none
    | _ => none
  | _ => none
def boxAt (o : Option LO) (f : Nat) : Bool := match o with
  | some (.box f' []) => Nat.beq f' f
  | _ => false
def isTrueB (f : Nat) : Option (W × LH) → Bool
  | some (.bl true, L) => boxAt (L.get 0) f
  | _ => false
/-- a def that draws q times, True whatever is drawn; fs: what may be left behind -/
def fRightB (q : Nat) (fs : List Nat) : List W → LH → Option (W × LH) := fun ws L => match ws with
  | [.ref n] => match L.get n with
    | some (.box f []) => cond (Nat.ble q f && (fs.contains (f - q) && Nat.blt L.n top)) (some (.bl true, L.set n (.box (f - q) []))) none
    | _ => none
  | _ => none
section
variable {P : Program} {w : World} {K : PySem.W.Frag} {mg : Str → Option Value} {base : Heap} {F : Fx} {f : Addr} {fd : FuncData} {ps : List Str} {k : Nat}
theorem rel_fz_move {e e' : En} {H : Hp} {ρ ρ' : List Addr} {xs : List W} {v : V} (h : xs.all isIntW = true) (r : RelW K F e H ρ (.fz xs) v) : RelW K F e' H ρ' (.fz xs) v := by
  obtain ⟨ns, rfl⟩ := ints_of h
  unfold RelW at r ⊢
  obtain ⟨a, vs, rfl, z, r⟩ := r
  refine ⟨a, vs, rfl, z, ?_⟩
  rw [rel_ints_eq r]
  exact rel_ints ns
theorem ok_cells (G : FnOk P w K mg base CX0 k f fd ps (spZ K F 2 g_cells)) : FnOk P w K mg base CX0 k f fd ps (spZ K F 2 fCells) := by
  refine G.imp fun vs H Q E h => ?_
  obtain ⟨e, ρ, L, ws, w, L', he, hh, hw, hn, hm, kk⟩ := h
  unfold fCells at hm
  split at hm
  · rename_i xs m
    split at hm
    · rename_i c L1 hg
      split at hm
      · rename_i cs hc
        obtain ⟨q, hm⟩ := cond_some hm
        cases hm
        rw [Bool.and_eq_true, Bool.and_eq_true] at q
        obtain ⟨q1, q2, q3⟩ := q
        obtain ⟨is, rfl⟩ := ints_of q2
        obtain ⟨v1, v2, rfl, r1, r2⟩ := rel2 hw
        cases r2
        refine ⟨e, [], ⟨0, .nil⟩, [.fz xs, .int m], _, _, he, RH.empty, .cons (rel_fz_move q1 r1) (.cons rfl .nil), rfl, hg, fun ρ' H' v f1 R1 w1 => ?_⟩
        unfold RelW at w1
        obtain ⟨a, rfl, ha⟩ := w1
        obtain ⟨a', ys, p1, p2, p3⟩ := R1.lst hc
        rw [ha] at p1; cases p1
        have p4 := rel_ints_eq p3
        subst p4
        have hH : H a = none := by
          rcases f1.new a (List.mem_of_getElem? ha) with z | z
          · simp at z
          · exact z
        have Rc := hh.closed f1
        have fc : Fm ρ ρ H H' := f1.closed
        have hpρ : a ∉ ρ := fun z => by obtain ⟨_, q, _⟩ := hh.mut z; rw [hH] at q; cases q
        refine kk (ρ ++ [a]) H' (.ref a) (fc.adopt hH) (Rc.adopt hpρ (Nat.le_of_ble_eq_true q3) ⟨is, p2, by rw [List.length_map]⟩) ?_
        unfold RelW
        exact ⟨a, rfl, by rw [← hh.len]; simp⟩
      · cases hm
    · cases hm
  · cases hm
theorem ok_boxN {fb : Nat} (G : FnOk P w K mg base CX0 k f fd ps (spZ K F 2 g_box)) : FnOk P w K mg base CX0 k f fd ps (spZ K F 2 (fBoxN fb)) := by
  refine G.imp fun vs H Q E h => ?_
  obtain ⟨e, ρ, L, ws, w, L', he, hh, hw, hn, hm, kk⟩ := h
  unfold fBoxN at hm
  split at hm
  · rename_i c i
    split at hm
    · rename_i n g
      obtain ⟨q, hm⟩ := cond_some hm
      cases hm
      rw [Bool.and_eq_true, Bool.and_eq_true, Bool.and_eq_true, Bool.and_eq_true, decide_eq_true_eq, decide_eq_true_eq, decide_eq_true_eq] at q
      obtain ⟨q1, q2, q3, q4, q5⟩ := q
      obtain ⟨v1, v2, rfl, r1, r2⟩ := rel2 hw
      cases r2
      unfold RelW at r1
      obtain ⟨a, rfl, ha⟩ := r1
      obtain ⟨a', p1, is, h1, h2⟩ := hh.at_ g
      rw [ha] at p1; cases p1
      obtain ⟨j, rfl⟩ := Int.eq_ofNat_of_zero_le q1
      obtain ⟨x, y, b1, b2, b3, e1⟩ := box_eq (L := L1 (.lst (is.map W.int))) (c := 0) (k := j) (cs := is) rfl (by omega) (by omega) (show 1 < top by decide)
      refine ⟨e, [a], L1 (.lst (is.map W.int)), [.ref 0, .int (j : Nat)], _, _, he, RH.one ⟨_, h1, rel_ints is⟩, .cons (by unfold RelW; exact ⟨a, rfl, rfl⟩) (.cons rfl .nil), rfl, e1, fun ρ' H' v f1 R1 w1 => ?_⟩
      have n1 : (L1 (.lst (is.map W.int))).n = 1 := rfl
      unfold RelW at w1
      obtain ⟨p, rfl, hp⟩ := w1
      rw [n1] at hp
      have ha1 : ρ'[0]? = some a := f1.pre 0 a rfl
      have hpa : p ≠ a := fun z => by subst z; have := nd_ix R1.nd hp ha1; omega
      have hH : H p = none := by
        rcases f1.new p (List.mem_of_getElem? hp) with z | z
        · exact absurd (List.mem_singleton.mp z) hpa
        · exact z
      have fw := f1.wide hh ha
      obtain ⟨a2, ys, p1, p2, p3⟩ := R1.lst (n := 0) (ws := is.map W.int) (by rw [LH.get_add (by rw [n1]; decide), if_neg (by rw [n1]; decide)]; rfl)
      rw [ha1] at p1; cases p1
      have p4 := rel_ints_eq p3
      subst p4
      obtain ⟨a3, zs, z1, z2, z3⟩ := R1.lst (n := 1) (ws := [.int x, .int y, .int 0]) (by rw [LH.get_add (by rw [n1]; decide), if_pos n1.symm])
      rw [hp] at z1; cases z1
      have z4 := rel3 z3
      subst z4
      have hn' : L.n < top := by have := Nat.le_of_ble_eq_true q4; omega
      have Rc := hh.repl (o := .cel n) ha f1 hn' ⟨is, p2, h2⟩
      have hpρ : p ∉ ρ := fun z => by obtain ⟨_, q, _⟩ := hh.mut z; rw [hH] at q; cases q
      have q5' := Nat.le_of_ble_eq_true q5
      refine kk (ρ ++ [p]) H' (.ref p) (fw.adopt hH) (Rc.adopt hpρ (by rw [set_n]; exact hn') ⟨x, y, 0, z2, ⟨b1, b2, b3, by omega, by simp; omega⟩, trivial⟩) ?_
      unfold RelW
      exact ⟨p, rfl, by rw [← hh.len]; simp⟩
    · cases hm
  · cases hm
theorem ok_rightB {m : List W → LH → Option (W × LH)} {ms : List Nat} {fs : List Nat} (hm : ∀ m ∈ ms, 1 ≤ m ∧ m ≤ 1000) (hall : ∀ fb ∈ fs, ∀ ds ∈ allDraws ms, isTrueB fb (m [.ref 0] (L1 (.box fb ds))) = true)
    (G : FnOk P w K mg base CX0 k f fd ps (spZ K F 1 m)) : FnOk P w K mg base CX0 k f fd ps (spZ K F 1 (fRightB ms.length fs)) := by
  refine G.imp fun vs H Q E h => ?_
  obtain ⟨e, ρ, L, ws, w, L', he, hh, hw, hn, hm', kk⟩ := h
  unfold fRightB at hm'
  split at hm'
  · rename_i n
    split at hm'
    · rename_i fb g1
      obtain ⟨q, hm'⟩ := cond_some hm'
      cases hm'
      rw [Bool.and_eq_true, Bool.and_eq_true] at q
      obtain ⟨q1, q2, q3⟩ := q
      have q1' := Nat.le_of_ble_eq_true q1
      have q2' : fb - ms.length ∈ fs := by simpa using q2
      obtain ⟨v, rfl, r1⟩ := rel1 hw
      unfold RelW at r1
      obtain ⟨a, rfl, ha⟩ := r1
      obtain ⟨a', p1, x, y, z, p2, b, _⟩ := hh.at_ g1
      rw [ha] at p1; cases p1
      obtain ⟨ds, i1, i2, i3⟩ := draws_of hm (x := x) (y := y) (z := z)
      have ev := hall _ q2' ds i1
      unfold isTrueB at ev
      split at ev
      · rename_i L2 e2
        refine ⟨⟨[], []⟩, [a], L1 (.box (fb - ms.length) ds), [.ref 0], _, _, he.none, RH.one ⟨x, y, z, p2, ⟨b.x0, b.y0, b.y1, b.z0, by have := b.z1; simp at this; omega⟩, i2⟩, ?_, rfl, e2, fun ρ' H' v f1 R1 w1 => ?_⟩
        · refine .cons ?_ .nil
          unfold RelW
          exact ⟨a, rfl, rfl⟩
        · have fw := f1.wide hh ha
          have hv : v = .bl true := w1
          subst hv
          unfold boxAt at ev
          split at ev
          · rename_i fb' go
            have := Nat.eq_of_beq_eq_true ev
            subst this
            obtain ⟨a3, p3, ho⟩ := R1.at_ go
            rw [f1.pre 0 a rfl] at p3; cases p3
            obtain ⟨x', y', z', o1, o2, o3⟩ := ho
            exact kk ρ H' _ fw (hh.repl ha f1 (Nat.le_of_ble_eq_true q3) ⟨x', y', z', o1, o2, trivial⟩) rfl
          · cases ev
      · cases ev
    · cases hm'
  · cases hm'
end
/-! ### a def of four names, True for any four of a pool in their order -/
def fYes4 (pool : List Nat) : List W → LH → Option (W × LH) := fun ws L => match ws with
  | [.str i, .str j, .str k, .str l] => cond ((Nat.blt i j && (Nat.blt j k && Nat.blt k l)) && (pool.contains i && (pool.contains j && (pool.contains k && pool.contains l)))) (some (.bl true, L)) none
  | _ => none
def n4 : List W := [.str 1000, .str 1001, .str 1002, .str 1003]
section
variable {P : Program} {w : World} {K : PySem.W.Frag} {mg : Str → Option Value} {base : Heap} {F : Fx} {f : Addr} {fd : FuncData} {ps : List Str} {k : Nat}
theorem ok_yes4 {m : List W → LH → Option (W × LH)} {pool : List Nat} (hp : ∀ i ∈ pool, i < 1000 ∧ ∃ x, F.lits[i]? = some x ∧ isNm x = true) (ev : isTrueM (m n4 ⟨0, .nil⟩) = true)
    (G : FnOk P w K mg base CX0 k f fd ps (spZ K F 4 m)) : FnOk P w K mg base CX0 k f fd ps (spZ K F 4 (fYes4 pool)) := by
  refine G.imp fun vs H Q E h => ?_
  obtain ⟨e, ρ, L, ws, w, L', he, hh, hw, hn, hm, kk⟩ := h
  unfold fYes4 at hm
  split at hm
  · rename_i i j k l
    obtain ⟨q, hm⟩ := cond_some hm
    cases hm
    rw [Bool.and_eq_true, Bool.and_eq_true, Bool.and_eq_true, Bool.and_eq_true, Bool.and_eq_true, Bool.and_eq_true] at q
    obtain ⟨⟨o1, o2, o3⟩, c1, c2, c3, c4⟩ := q
    have o1 := Nat.le_of_ble_eq_true o1
    have o2 := Nat.le_of_ble_eq_true o2
    have o3 := Nat.le_of_ble_eq_true o3
    obtain ⟨a1, x1, l1, m1⟩ := hp i (by simpa using c1)
    obtain ⟨a2, x2, l2, m2⟩ := hp j (by simpa using c2)
    obtain ⟨a3, x3, l3, m3⟩ := hp k (by simpa using c3)
    obtain ⟨a4, x4, l4, m4⟩ := hp l (by simpa using c4)
    obtain ⟨v1, vr1, rfl, r1, hw⟩ := hw.uncons
    obtain ⟨v2, vr2, rfl, r2, hw⟩ := hw.uncons
    obtain ⟨v3, vr3, rfl, r3, hw⟩ := hw.uncons
    obtain ⟨v4, vr4, rfl, r4, hw⟩ := hw.uncons
    unfold RelWs at hw
    subst hw
    obtain ⟨y1, s1, rfl⟩ := r1
    obtain ⟨y2, s2, rfl⟩ := r2
    obtain ⟨y3, s3, rfl⟩ := r3
    obtain ⟨y4, s4, rfl⟩ := r4
    rw [sOf_lit l1 a1] at s1
    rw [sOf_lit l2 a2] at s2
    rw [sOf_lit l3 a3] at s3
    rw [sOf_lit l4 a4] at s4
    cases s1
    cases s2
    cases s3
    cases s4
    obtain ⟨L2, e2⟩ := isTrueM_of ev
    have t12 := names_lt he.lits l1 l2 o1
    have t23 := names_lt he.lits l2 l3 o2
    have t34 := names_lt he.lits l3 l4 o3
    have t13 := names_lt he.lits l1 l3 (by omega)
    have t14 := names_lt he.lits l1 l4 (by omega)
    have t24 := names_lt he.lits l2 l4 (by omega)
    have mem : ∀ x ∈ [x1, x2, x3, x4], x ∈ F.lits ∧ isNm x = true := by
      intro x hx
      simp only [List.mem_cons, List.not_mem_nil, or_false] at hx
      rcases hx with rfl | rfl | rfl | rfl
      · exact ⟨List.mem_of_getElem? l1, m1⟩
      · exact ⟨List.mem_of_getElem? l2, m2⟩
      · exact ⟨List.mem_of_getElem? l3, m3⟩
      · exact ⟨List.mem_of_getElem? l4, m4⟩
    have ok' : En.Ok F ⟨[x1, x2, x3, x4], []⟩ := by
      refine ⟨he.lits, he.len, he.lok, ?_, fun x hx => he.len x (mem x hx).1, fun x hx => he.lok x (mem x hx).1, fun _ h => (by cases h), fun x hx => (mem x hx).2⟩
      refine .cons (fun x hx => ?_) (.cons (fun x hx => ?_) (.cons (fun x hx => ?_) (.cons (fun x hx => (by cases hx)) .nil)))
      · simp only [List.mem_cons, List.not_mem_nil, or_false] at hx
        rcases hx with rfl | rfl | rfl
        · exact t12
        · exact t13
        · exact t14
      · simp only [List.mem_cons, List.not_mem_nil, or_false] at hx
        rcases hx with rfl | rfl
        · exact t23
        · exact t24
      · simp only [List.mem_cons, List.not_mem_nil, or_false] at hx
        rcases hx with rfl
        exact t34
    refine ⟨⟨[x1, x2, x3, x4], []⟩, [], ⟨0, .nil⟩, n4, _, _, ok', RH.empty, ?_, rfl, e2, fun ρ' H' v f1 R1 w1 => ?_⟩
    · exact .cons ⟨x1, rfl, rfl⟩ (.cons ⟨x2, rfl, rfl⟩ (.cons ⟨x3, rfl, rfl⟩ (.cons ⟨x4, rfl, rfl⟩ .nil)))
    · have hv : v = .bl true := w1
      subst hv
      exact kk ρ H' _ f1.closed (hh.closed f1) rfl
  · cases hm
end
/-! ### the law's own body: cells, then the rest -/
def endM : Option (Out × Sl × LH) → Option (W × LH)
  | some (.nx, _, L) => some (.non, L)
  | some (.rt w, _, L) => some (w, L)
  | _ => none
theorem law_by {most : Nat} {r : Nat} {rest : Sm} {m : List W → LH → Option (W × LH)} (hm : ∀ xs : List W, m [.fz xs] ⟨0, .nil⟩ = endM (sSeq (sSet 1 (mApp (fN 2 fCells) (mCons (vVar 0) (mCons (vC (.int (most : Nat))) mNil)))) rest ([some (.fz xs)] ++ List.replicate r none) ⟨0, .nil⟩))
    (h1 : 1 ≤ most) (h2 : most ≤ 63) (hr : 1 ≤ r) (ev : ∀ (xs : List W) (n : Nat), 1 ≤ n → n ≤ most → isTrueM (endM (rest ([some (.fz xs), some (.ref 0)] ++ List.replicate (r - 1) none) ((⟨0, .nil⟩ : LH).add (.cel n)))) = true)
    (ns : List Int) (hns : ns.length ≤ 63) : ∃ L', m [.fz (ns.map W.int)] ⟨0, .nil⟩ = some (.bl true, L') := by
  obtain ⟨c, L', cs, e1, e2, e3, e4, _⟩ := cells_eq (L := ⟨0, .nil⟩) (ns := ns) h1 h2 hns (by decide)
  have hall : ∀ is : List Int, (is.map W.int).all isIntW = true := fun is => by
    induction is with
    | nil => rfl
    | cons i is ih => rw [List.map_cons, List.all_cons, ih]; rfl
  have ef : fCells [.fz (ns.map W.int), .int (most : Nat)] ⟨0, .nil⟩ = some (.ref 0, (⟨0, .nil⟩ : LH).add (.cel cs.length)) := by
    unfold fCells
    simp only [e1, e2, hall, List.length_map]
    rfl
  refine isTrueM_of ?_
  rw [hm]
  obtain ⟨r', rfl⟩ : ∃ r', r = r' + 1 := ⟨r - 1, by omega⟩
  have es : sSet 1 (mApp (fN 2 fCells) (mCons (vVar 0) (mCons (vC (.int (most : Nat))) mNil))) ([some (.fz (ns.map W.int))] ++ List.replicate (r' + 1) none) ⟨0, .nil⟩ = some (.nx, [some (.fz (ns.map W.int)), some (.ref 0)] ++ List.replicate r' none, (⟨0, .nil⟩ : LH).add (.cel cs.length)) := by
    have b2 : Nat.beq [W.fz (ns.map W.int), W.int (most : Nat)].length 2 = true := rfl
    simp only [sSet, mApp, mCons, mNil, vVar, vC, fN, b2, cond, List.cons_append, List.nil_append, List.getElem?_cons_zero, ef, List.replicate_succ, List.set]
  unfold sSeq
  rw [es]
  have := ev (ns.map W.int) cs.length e3 e4
  rw [Nat.add_sub_cancel] at this
  exact this
end Z

set_option Elab.async false
set_option linter.all false
set_option maxRecDepth 100000
set_option maxHeartbeats 1000000
/-! Z: the head's facts, with slots, tuples and dicts of the module. -/
namespace Z
open PySem PySem.Spec PyProof.Rows L2 He

def sclsB (K : PySem.W.Frag) (x : Str) : Bool := PySem.W.plainGet K (ga K x) Str.empty && (PySem.W.isClsIn K (ga K x) && (PySem.W.plainOver K (ga K x) && eqO (PySem.W.findIn K (.ref (ga K x)) "__setattr__") (some (some (.builtin "object.__setattr__")))))
theorem sclsB_ok {K : PySem.W.Frag} {x : Str} (h : sclsB K x = true) : SlX.SCls K (ga K x) := by
  obtain ⟨h1, h2⟩ := ba h
  obtain ⟨h2, h3⟩ := ba h2
  obtain ⟨h3, h4⟩ := ba h3
  exact ⟨h1, h2, h3, eqO_ok h4⟩
def slotB (K : PySem.W.Frag) (x f : Str) (i : Nat) : Bool := match PySem.W.findIn K (.ref (ga K x)) f with
  | some (some (.ref p)) => eqO (PySem.W.specialIn K (.ref p) "__get__") (some (some (.builtin "member_descriptor.__get__"))) && (decide (PySem.W.takesIn K (.ref p) = some true) && (decide (PySem.W.typeIn K (.ref p) = some (.type "member_descriptor")) && (decide (PySem.W.slotIn K p (ga K x) = some i) && Nat.blt i 1000)))
  | _ => false
theorem slotB_ok {K : PySem.W.Frag} {x f : Str} {i : Nat} (h : slotB K x f i = true) : ∃ p, SlX.Slot1 K (ga K x) f p i := by
  unfold slotB at h
  split at h
  · rename_i p hp
    obtain ⟨h1, h2⟩ := ba h
    obtain ⟨h2, h3⟩ := ba h2
    obtain ⟨h3, h4⟩ := ba h3
    obtain ⟨h4, h5⟩ := ba h4
    exact ⟨p, hp, eqO_ok h1, of_decide_eq_true h2, of_decide_eq_true h3, of_decide_eq_true h4, Nat.le_of_ble_eq_true h5⟩
  · cases h
def bmB (K : PySem.W.Frag) (x m : Str) : Bool := (Fa.meth x m).ok K && (eqO (PySem.W.specialIn K (.ref (ma K (ga K x) m)) "__get__") (some (some (.builtin "function.__get__"))) && (decide (PySem.W.takesIn K (.ref (ma K (ga K x) m)) = some false) && PySem.W.fnIn K (ma K (ga K x) m)))
theorem bmB_ok {K : PySem.W.Frag} {x m : Str} (h : bmB K x m = true) (hc : PySem.W.copiedNames.contains m = false := by decide) : BMeth K (ga K x) m (ma K (ga K x) m) := by
  obtain ⟨h1, h2⟩ := ba h
  obtain ⟨h2, h3⟩ := ba h2
  obtain ⟨h3, h4⟩ := ba h3
  exact ⟨meth_ok h1, eqO_ok h2, of_decide_eq_true h3, hc, h4⟩
abbrev AlZ : Type := AlT × Bool
def obsZ (fa : List Fa) (fn : List DefD) (ts : List Tab) (xs : List (PySem.W.Frag → Bool)) (K : PySem.W.Frag) : AlZ := (obsT fa fn ts K, xs.all fun f => f K)
def valZ (fn : List DefD) (ts : List Tab) (w : World) : AlZ := (valT fn ts w, true)
def obsZG (n : Nat) (fa : List Fa) (fn : List DefD) (ts : List Tab) (xs : List (PySem.W.Frag → Bool)) (g : Addr → Option Obj) : AlZ := obsZ fa fn ts xs (frG g (asD g n))
def SaysZ (fa : List Fa) (fn : List DefD) (ts : List Tab) (xs : List (PySem.W.Frag → Bool)) (w : World) (K : PySem.W.Frag) : Prop := obsZ fa fn ts xs K = valZ fn ts w
def hookZ (n : Nat) (fa : List Fa) (fn : List DefD) (ts : List Tab) (xs : List (PySem.W.Frag → Bool)) : PySem.W.Hook where
  α := AlZ
  obs := fun s => obsZG n fa fn ts xs s.heap.get?
  val := fun w => valZ fn ts w
  says := fun w h => ∃ K : PySem.W.Frag, K.In h ∧ SaysZ fa fn ts xs w K
  of := fun _ _ e => ⟨_, frG_in, e⟩
  keeps := fun _ _ _ ⟨K, hK, c⟩ k => ⟨K, PySem.W.Frag.In.keeps hK k, c⟩
theorem obsZG_eq {n : Nat} {fa : List Fa} {fn : List DefD} {ts : List Tab} {xs : List (PySem.W.Frag → Bool)} {g : Addr → Option Obj} {s : Shared} (h : ∀ a, g a = s.heap.get? a) : obsZG n fa fn ts xs g = (hookZ n fa fn ts xs).obs s := by
  have e : g = s.heap.get? := funext h
  rw [e] <;> rfl
section
variable {fa : List Fa} {fn : List DefD} {ts : List Tab} {xs : List (PySem.W.Frag → Bool)} {w : World} {K : PySem.W.Frag}
theorem SaysZ.t (c : SaysZ fa fn ts xs w K) : SaysT fa fn ts w K := congrArg (fun z : AlZ => z.1) c
theorem SaysZ.x (c : SaysZ fa fn ts xs w K) (i : Nat) {f : PySem.W.Frag → Bool} (h : xs[i]? = some f := by rfl) : f K = true := by
  have e : (xs.all fun f => f K) = true := congrArg (fun z : AlZ => z.2) c
  exact List.all_eq_true.mp e f (List.mem_of_getElem? h)
end
/-- a dict of the module, told -/
theorem kdct_of {K : PySem.W.Frag} {w : World} {d : Addr} {kvs : List (Str × Dv)} (h : ∃ es n, KDict K w d es n) (v : valsB K d kvs = true) : (d == sysModules) = false ∧ (∃ es n, K.lookup d = some ⟨.type "dict", none, .dict es n, #[]⟩) ∧ ∀ q ∈ kvs, KDct K w d q.1 (q.2.v K) := by
  obtain ⟨es, n, k⟩ := h
  refine ⟨k.low, ⟨es, n, k.at_⟩, fun q hq => ?_⟩
  obtain ⟨u, h1, h2⟩ := valsB_ok v hq
  exact ⟨es, n, u, k.at_, k.lit, h1, h2⟩
end Z

set_option Elab.async false
set_option linter.all false
set_option maxRecDepth 100000
set_option maxHeartbeats 1000000
/-! Z: list(range(a, b)). -/
namespace Z
open PySem PySem.Spec PyProof.Rows L2
section
variable {X : Cx} {F : Fx} {a b : Expr} {ma mb : Ex} {p p2 pos pos2 : Pos}
def rgW (i j : Int) : List W := (List.range (j - i).toNat).map fun k => W.int (i + (k : Nat))
def vListRg (a b : Ex) : Ex := fun sl L => match a sl L with
  | some (.int i, L1) => match b sl L1 with
    | some (.int j, L2) => cond (rngOk i && rngOk j) (fLst (rgW i j) L2) none
    | _ => none
  | _ => none
theorem rels_ints {K : PySem.W.Frag} {e : En} {H : Hp} {ρ : List Addr} : ∀ l : List Int, RelWs K F e H ρ (l.map W.int) (l.map V.int)
  | [] => by unfold RelWs; rfl
  | i :: r => by
    have t : RelW K F e H ρ (.int i) (.int i) := by unfold RelW; rfl
    exact RelWs.cons t (rels_ints r)
theorem ze_listRg (hc : X.calm = true) (hl : Gl X "list") (ml : X.mg "list" = none) (hr : Gl X "range") (mr : X.mg "range" = none) (ha : PE X a (TZ X.K F ma)) (hb : PE X b (TZ X.K F mb))
    (ne : starEach [.Call (.Name "range" p2) [a, b] [] pos2] X.env = (false, eval (.Call (.Name "range" p2) [a, b] [] pos2) X.env) :: starEach [] X.env := by rfl)
    (na : starEach [a, b] X.env = (false, eval a X.env) :: starEach [b] X.env := by rfl) (nb : starEach [b] X.env = (false, eval b X.env) :: starEach [] X.env := by rfl) (hp : (backTo pos2 (starEach [b] X.env)).any (·.1) = false := by rfl) :
    PE X (.Call (.Name "list" p) [.Call (.Name "range" p2) [a, b] [] pos2] [] pos) (TZ X.K F (vListRg ma mb)) := by
  refine PE.imp (pe_listRg hc hl ml (prg_2 hr mr ha hb na nb hp) ne) ?_
  rintro σ H R ⟨e, ρ, sl, L, w, L', he, hs, hh, hm, k⟩
  unfold vListRg at hm
  split at hm
  · rename_i i L1 h1
    split at hm
    · rename_i j L2 h2
      cases q : (rngOk i && rngOk j) with
      | false => rw [q] at hm; cases hm
      | true =>
        rw [q] at hm
        obtain ⟨z1, z2, rfl, rfl⟩ := fLst_spec hm
        rw [Bool.and_eq_true] at q
        refine ⟨e, ρ, sl, L, _, _, he, hs, hh, h1, fun ρ1 H1 v f1 r1 w1 => ?_⟩
        cases w1
        refine ⟨e, ρ1, sl, L1, _, _, he, f1.relSl hs, r1, h2, fun ρ2 H2 v2 f2 r2 w2 => ?_⟩
        cases w2
        have b1 := rngOk_of q.1
        have b2 := rngOk_of q.2
        have hn : (j - i).toNat ≤ 2 ^ 24 := by
          have q1 := q.1
          have q2 := q.2
          unfold rngOk at q1 q2
          rw [Bool.and_eq_true, decide_eq_true_eq, decide_eq_true_eq] at q1 q2
          omega
        refine ⟨i, j, rfl, rfl, ⟨b1.1, b1.2, b2.1, b2.2, hn⟩, fun l hl => ?_⟩
        have rr : RelWs X.K F e H2 ρ2 (rgW i j) (rgV i j) := by
          have t := rels_ints (K := X.K) (F := F) (e := e) (H := H2) (ρ := ρ2) ((List.range (j - i).toNat).map fun k => i + (k : Nat))
          rw [List.map_map, List.map_map] at t
          exact t
        obtain ⟨f3, r3, w3⟩ := new_lst r2 hl z2 rr
        exact k _ _ _ ((f1.trans f2).trans f3) r3 w3
    · cases hm
  · cases hm
end
end Z

set_option Elab.async false
set_option linter.all false
set_option maxRecDepth 100000
set_option maxHeartbeats 1000000
/-! Z: a small set of flat tuples (ints and texts), put in one by one, no two alike; over the library's table words (HandS.TupSets: TabOk, go_spec, way). -/
namespace Z
open PySem PySem.Spec PyProof.Rows L2
/-- an item of a flat tuple -/
def Flat1 (v : Value) : Prop := (∃ i t, v = .int i t) ∨ ∃ x t, v = .str x t
def FlatT (h : Heap) (a : Addr) : Prop := ∃ o vs n, h.get? a = some o ∧ o.cls = .type "tuple" ∧ o.data = .seq vs n ∧ ∀ v ∈ vs.toList, Flat1 v
theorem FlatT.keep {h h' : Heap} {a : Addr} (x : FlatT h a) (k : ∀ o, h.get? a = some o → h'.get? a = some o) : FlatT h' a :=
  let ⟨o, vs, n, g, r⟩ := x
  ⟨o, vs, n, k o g, r⟩
section
variable {P : Program} {w : World} {A : Around} {E : Value → Shared → Prop} {s : Shared}
/-- a loop over such items whose turns leave off never -/
theorem flat_loop {β : Type} {f : Value → (Option Bool × β) → Sem (ForInStep ((Option Bool × β)))} {u : β} {Q : (Option Bool × β) → Shared → Prop}
    (turn : ∀ v, Flat1 v → wpAny (model P w) A (f v (none, u)) (fun r s' => r = .yield (none, u) ∧ s' = s) E s) (fin : Q (none, u) s) :
    ∀ l : List Value, (∀ v ∈ l, Flat1 v) → wpAny (model P w) A (forIn l (none, u) f) Q E s
  | [], _ => wpAny_pure fin
  | v :: r, hl => by
    rw [List.forIn_cons]
    refine wpAny_bind (wpAny_mono (turn v (hl v List.mem_cons_self)) (fun z s' ⟨e1, e2⟩ => ?_) fun _ _ q => q)
    rw [e1, e2]
    exact flat_loop turn fin r fun x hx => hl x (List.mem_cons_of_mem _ hx)
theorem ofA_flat {n : Nat} {v : Value} (h : Flat1 v) : ofAClassStatement n v = pure false := by
  rcases h with ⟨i, t, rfl⟩ | ⟨x, t, rfl⟩ <;> cases n <;> rfl
theorem ofA_tuple {a : Addr} {Q : Bool → Shared → Prop} (x : FlatT s.heap a) (h : Q false s) : wpAny (model P w) A (ofAClassStatement 8 (.ref a)) Q E s := by
  obtain ⟨o, vs, n, ho, hc, hd, hf⟩ := x
  unfold ofAClassStatement
  refine wpAny_bind (wpAny_typeOf ⟨o, ho, hc⟩ ?_)
  dsimp only
  rw [show (("tuple" : String) == "tuple") = true from rfl]
  simp only [if_true, Bool.not_true, Bool.false_eq_true, if_false]
  try refine wpAny_bind (wpAny_pure ?_)
  try simp only [Bool.not_true, Bool.false_eq_true, if_false]
  refine wpAny_bind (wpAny_seqItems ho hd ?_)
  dsimp only
  rw [← Array.forIn_toList]
  refine wpAny_bind (flat_loop (fun v hv => ?_) ?_ _ hf)
  · rw [ofA_flat hv]
    refine wpAny_bind (wpAny_pure ?_)
    simp only [Bool.false_eq_true, if_false]
    exact wpAny_pure ⟨rfl, rfl⟩
  · exact wpAny_pure h
/-- what a search among flat tuples shows: nothing -/
theorem unseen {x : Addr} (hx : FlatT s.heap x) {kx : NestedKey} (nx : NestedIs s.heap kx (.ref x)) (dx : kx.depth ≤ 8) {Q : Bool → Shared → Prop} (h : Q false s) :
    ∀ ys : List Value, (∀ y ∈ ys, ∃ b k, y = .ref b ∧ FlatT s.heap b ∧ NestedIs s.heap k (.ref b) ∧ k.depth ≤ 8) → wpAny (model P w) A (searchCouldBeSeen (.ref x) ys) Q E s := by
  intro ys hy
  unfold searchCouldBeSeen
  refine wpAny_bind (wpAny_forIn_list _ (fun l r s' => r.1 = none ∧ s' = s ∧ ∀ y ∈ l, y ∈ ys) _ ?_ ?_ _ _ ⟨rfl, rfl, fun y q => q⟩)
  · rintro y l r s' ⟨_, rfl, hl⟩
    have nxt : ∀ z ∈ l, z ∈ ys := fun z hz => hl z (List.mem_cons_of_mem _ hz)
    obtain ⟨b, k, rfl, fb, nb, db⟩ := hy y (hl y List.mem_cons_self)
    dsimp only
    split
    · exact wpAny_pure ⟨rfl, rfl, nxt⟩
    · refine wpAny_bind (quiet_key kx _ 8 s' nx dx _ _ _ ?_)
      simp only [Bool.not_true, Bool.false_eq_true, if_false]
      refine wpAny_bind (quiet_key k _ 8 s' nb db _ _ _ ?_)
      simp only [Bool.not_true, Bool.false_eq_true, if_false]
      refine wpAny_bind (ofA_tuple hx ?_)
      simp only [Bool.false_eq_true, if_false]
      refine wpAny_bind (ofA_tuple fb ?_)
      simp only [Bool.false_eq_true, if_false]
      exact wpAny_pure ⟨rfl, rfl, nxt⟩
  · rintro ⟨r1, r2⟩ s' ⟨hr, rfl, _⟩
    simp only at hr
    subst hr
    exact wpAny_pure h
/-- whether a flat tuple hashes by its value: some word -/
theorem byVal_tuple {a : Addr} {Q : Bool → Shared → Prop} (x : FlatT s.heap a) (h : ∀ b, Q b s) : wpAny (model P w) A (hashByValue 8 (.ref a)) Q E s := by
  obtain ⟨o, vs, n, ho, hc, hd, hf⟩ := x
  unfold hashByValue
  refine wpAny_bind (wpAny_specialOf ⟨o, ho, hc⟩ F.slot_tuple_hash.lookup ?_)
  refine wpAny_bind (wpAny_seqItems ho hd ?_)
  dsimp only
  rw [← Array.forIn_toList]
  refine wpAny_bind (wpAny_forIn_list _ (fun l r s' => r.1 = none ∧ s' = s ∧ ∀ y ∈ l, Flat1 y) _ ?_ ?_ _ _ ⟨rfl, rfl, hf⟩)
  · rintro v l r s' ⟨_, rfl, hl⟩
    have nxt : ∀ z ∈ l, Flat1 z := fun z hz => hl z (List.mem_cons_of_mem _ hz)
    rcases hl v List.mem_cons_self with ⟨i, t, rfl⟩ | ⟨y, t, rfl⟩
    · rw [show hashByValue 7 (.int i t) = pure true from rfl]
      refine wpAny_bind (wpAny_pure ?_)
      simp only [Bool.not_true, Bool.false_eq_true, if_false]
      exact wpAny_pure ⟨rfl, rfl, nxt⟩
    · rw [show hashByValue 7 (.str y t) = pure false from rfl]
      refine wpAny_bind (wpAny_pure ?_)
      simp only [Bool.not_false, if_true]
      exact wpAny_pure (wpAny_pure (h false))
  · rintro ⟨r1, r2⟩ s' ⟨hr, rfl, _⟩
    simp only at hr
    subst hr
    exact wpAny_pure (h true)
end
end Z

set_option Elab.async false
set_option linter.all false
set_option maxRecDepth 100000
set_option maxHeartbeats 1000000
/-! Z: the small set itself: the search for a key that is not there, one put in. -/
namespace Z
open PySem PySem.Spec PyProof.Rows L2
def KeyP (h : Heap) (p : Addr × NestedKey) : Prop := NestedIs h p.2 (.ref p.1) ∧ FlatT h p.1 ∧ p.2.depth ≤ 8
theorem KeyP.keep {h h' : Heap} {p : Addr × NestedKey} (x : KeyP h p) (k : ∀ b o vs n, h.get? b = some o → o.data = .seq vs n → h'.get? b = some o) : KeyP h' p := by
  obtain ⟨x1, ⟨o, vs, n, g, c, d, f⟩, x3⟩ := x
  exact ⟨x1.at k _ _, ⟨o, vs, n, k _ _ _ _ g d, c, d, f⟩, x3⟩
structure SetZ (w : World) (h : Heap) (a : Addr) (L : List (Addr × NestedKey)) (es : Array (Int × Value)) (ep : Nat) (t : SetTable) : Prop where
  ob : ∃ o, h.get? a = some o ∧ o.ExactSet ∧ o.data = .set es ep t
  rows : es.toList = L.map fun p => (p.2.hash w, Value.ref p.1)
  tab : TabOk t (L.map fun p => p.2.hash w)
  keys : ∀ p ∈ L, KeyP h p
  led : w.params.followText "set-order" = true ∨ t.led = true
  m7 : t.mask = 7
  few : L.length ≤ 4
section
variable {P : Program} {w : World} {A : Around} {E : Value → Shared → Prop} {s : Shared} {a : Addr} {L : List (Addr × NestedKey)} {es : Array (Int × Value)} {ep : Nat} {t : SetTable}
theorem SetZ.count {h : Heap} (R : SetZ w h a L es ep t) : es.size = L.length := by
  rw [← Array.length_toList, R.rows, List.length_map]
theorem SetZ.seats {h : Heap} (R : SetZ w h a L es ep t) : t.place.size = L.length := by
  rw [R.tab.sz, List.length_map]
theorem SetZ.fits {h : Heap} (R : SetZ w h a L es ep t) : t.fits es.size = true := by
  have q1 := R.count
  have q2 := R.seats
  have q3 := R.few
  have q4 := R.m7
  have q5 : t.fill = t.place.size := by
    unfold SetTable.fill
    rw [R.tab.dm]
    rfl
  unfold SetTable.fits
  rw [Bool.and_eq_true, beq_iff_eq, decide_eq_true_eq, q5]
  omega
theorem SetZ.at {h : Heap} (R : SetZ w h a L es ep t) {i : Nat} {p : Addr × NestedKey} (g : L[i]? = some p) : es[i]? = some (p.2.hash w, Value.ref p.1) := by
  have q : es.toList[i]? = some (p.2.hash w, Value.ref p.1) := by
    rw [R.rows, List.getElem?_map, g]
    rfl
  rw [← q, Array.getElem?_toList]
theorem SetZ.here {h : Heap} (R : SetZ w h a L es ep t) : ¬ t.gaveWay = true := by
  unfold SetTable.gaveWay
  rw [R.m7]
  decide
theorem undimmed (m : Nat) : ∀ (n : Nat) (p : SetTable.Probe), p.dummy = none → (nth m p n).dummy = none
  | 0, _, h => h
  | n + 1, p, h => undimmed m n (adv m p) (by unfold adv; split <;> exact h)
/-- the search for a key that is not there ends at the first free seat of its way -/
theorem find_free (R : SetZ w s.heap a L es ep t) {x : Addr} {k : NestedKey} (hx : KeyP s.heap (x, k)) (new : ∀ p ∈ L, p.2 ≠ k) (hu : A.units + 8 < cLine) {K : Nat} (hk : K < 10 * SetTable.turns t.mask)
    (free : way t.mask (k.hash w) K ∉ t.place.toList) (taken : ∀ c, c < K → way t.mask (k.hash w) c ∈ t.place.toList) {Q : SetFound → Shared → Prop} (h : Q (.free (way t.mask (k.hash w) K) false) s) :
    ∀ (f c : Nat) (st : Option SetTable.Probe), st.getD (t.probeStart (k.hash w)) = nth t.mask (t.probeStart (k.hash w)) c → c ≤ K → K - c < f → wpAny (model P w) A (setSearchFrom a (.ref x) (k.hash w) true f st) Q E s
  | 0, _, _, _, _, z => absurd z (Nat.not_lt_zero _)
  | f + 1, c, st, hst, hc, hf => by
    obtain ⟨o, ho, _, hd⟩ := R.ob
    have more : ∀ q, nth t.mask (nth t.mask (t.probeStart (k.hash w)) c) q = nth t.mask (t.probeStart (k.hash w)) (c + q) := fun q => (nth_add t.mask c _ q).symm
    have spec := go_spec t R.tab.ris R.tab.dm (fun i => (es[i]?.map (·.1)).getD 0) (k.hash w) (10 * SetTable.turns t.mask) (K - c) (nth t.mask (t.probeStart (k.hash w)) c) (undimmed t.mask c _ rfl) (by omega)
      (fun q hq => by rw [more]; exact taken (c + q) (by omega)) (by rw [more, show c + (K - c) = K by omega]; exact free)
    rw [setSearchFrom_succ]
    refine wpAny_bind (wpAny_setState_of ho hd R.fits ?_)
    dsimp only
    refine wp_if_neg R.here ?_
    try refine wpAny_bind (wpAny_pure ?_)
    rcases spec with ⟨q, i, hq, hi, _, _, pr⟩ | ⟨_, pr⟩
    · have e : t.probe (fun i => (es[i]?.map (·.1)).getD 0) (k.hash w) (st.getD (t.probeStart (k.hash w))) = some (.candidate (nth t.mask (t.probeStart (k.hash w)) (c + q)).j i (nth t.mask (t.probeStart (k.hash w)) (c + (q + 1)))) := by
        rw [hst, ← more q, ← more (q + 1)]
        exact pr
      rw [e]
      dsimp only
      rw [more] at hi
      have hil : i < L.length := by
        rw [← R.seats, ← Array.length_toList]
        exact (List.getElem?_eq_some_iff.mp hi).1
      obtain ⟨p, gp⟩ : ∃ p, L[i]? = some p := ⟨_, List.getElem?_eq_getElem hil⟩
      have mp : p ∈ L := List.mem_of_getElem? gp
      have kp := R.keys p mp
      have live : t.slot (nth t.mask (t.probeStart (k.hash w)) (c + q)).j = .live i := slot_live R.tab.ris hi
      have ne : NestedKey.beq p.2 k = false := by
        rw [← NestedKey.decide_eq]
        exact decide_eq_false (new p mp)
      have onward : wpAny (model P w) A (searchRest a (.ref x) (k.hash w) true f es t (nth t.mask (t.probeStart (k.hash w)) (c + q)).j i (nth t.mask (t.probeStart (k.hash w)) (c + (q + 1)))) Q E s := by
        unfold searchRest
        rw [R.at gp]
        dsimp only
        refine wpAny_bind (wpAny_holding (eqAt_key p.2 k A s _ _ kp.1 hx.1 (by have := kp.2.2; omega) _ _ _ _ ?_))
        rw [ne]
        refine wpAny_bind (wpAny_setState_of ho hd R.fits ?_)
        dsimp only
        refine wp_if_neg (by simp) ?_
        try refine wpAny_bind (wpAny_pure ?_)
        rw [sameMem]
        dsimp only
        simp only [if_true, live, R.at gp]
        refine wpAny_bind (wpAny_isSame_ref_self (wpAny_bind (wpAny_pure ?_)))
        simp only [if_true]
        refine wp_if_neg (by simp) ?_
        exact find_free R hx new hu hk free taken h f (c + (q + 1)) _ rfl (by omega) (by omega)
      cases ld : t.led with
      | true =>
        refine wp_if_neg (by simp) ?_
        try refine wpAny_bind (wpAny_pure ?_)
        exact onward
      | false =>
        refine wp_if_pos (by simp) ?_
        refine wpAny_bind (unseen hx.2.1 hx.1 hx.2.2 ?_ _ fun y hy => ?_)
        · refine wp_if_neg (by decide) ?_
          try refine wpAny_bind (wpAny_pure ?_)
          exact onward
        · obtain ⟨r, hr, rfl⟩ := List.mem_map.mp hy
          have m1 : r ∈ es.toList := by
            have m2 : r ∈ es ∧ r.1 = k.hash w := by simpa using hr
            simpa using m2.1
          rw [R.rows] at m1
          obtain ⟨p2, m3, rfl⟩ := List.mem_map.mp m1
          exact ⟨p2.1, p2.2, rfl, (R.keys p2 m3).2.1, (R.keys p2 m3).1, (R.keys p2 m3).2.2⟩
    · have e : t.probe (fun i => (es[i]?.map (·.1)).getD 0) (k.hash w) (st.getD (t.probeStart (k.hash w))) = some (.empty (way t.mask (k.hash w) K) none) := by
        rw [hst]
        rw [more, show c + (K - c) = K by omega] at pr
        exact pr
      rw [e]
      exact wpAny_pure h
end
end Z

set_option Elab.async false
set_option linter.all false
set_option maxRecDepth 100000
set_option maxHeartbeats 1000000
/-! Z: one put into the small set. -/
namespace Z
open PySem PySem.Spec PyProof.Rows L2
theorem tab_dull {t : SetTable} {hs : List Int} (T : TabOk t hs) : TabOk { t with plain := false } hs := ⟨T.ris, T.dm, T.sz, T.mok, T.bd, T.reach⟩
theorem cut_perm {α : Type} (l : List α) (n : Nat) (x : α) : (l.take n ++ x :: l.drop n).Perm (x :: l) := by
  have q : (l.take n ++ x :: l.drop n).Perm (x :: (l.take n ++ l.drop n)) := List.perm_middle
  rwa [List.take_append_drop] at q
section
variable {P : Program} {w : World} {A : Around} {E : Value → Shared → Prop} {s : Shared} {a : Addr} {L : List (Addr × NestedKey)} {es : Array (Int × Value)} {ep : Nat} {t : SetTable}
theorem put_new (R : SetZ w s.heap a L es ep t) {x : Addr} {k : NestedKey} (hx : KeyP s.heap (x, k)) (new : ∀ p ∈ L, p.2 ≠ k) (hl : L.length < 4) (hu : A.units + 8 < cLine) {Q : Bool → Shared → Prop}
    (h : ∀ h' L' es' ep' t', Heap.SameBut a s.heap h' → SetZ w h' a L' es' ep' t' → L'.Perm ((x, k) :: L) → Q true { s with heap := h' }) : wpAny (model P w) A (setAddHashed a (.ref x) (k.hash w)) Q E s := by
  obtain ⟨o, ho, hex, hd⟩ := R.ob
  have m7 := R.m7
  obtain ⟨K, hk, free, taken⟩ := R.tab.first (by rw [List.length_map]; omega) (k.hash w)
  have small : K < 100000 := by
    have : 10 * SetTable.turns t.mask ≤ 1000 := by rw [m7]; decide
    omega
  obtain ⟨u1, u2, u3, u4, u5, _, _, _, u9⟩ := R.tab.put free taken
  unfold setAddHashed
  refine wpAny_holding ?_
  rw [show (100000 : Nat) = 99999 + 1 from rfl, setAddHashedIn_succ]
  refine wpAny_bind (wpAny_setState_of ho hd R.fits ?_)
  dsimp only
  refine wp_if_neg (by simp [byScan, Value.scannable]) ?_
  try refine wpAny_bind (wpAny_pure ?_)
  unfold setSearch
  refine wpAny_bind (find_free R hx new hu hk free taken ?_ 100000 0 none rfl (Nat.zero_le _) (by omega))
  dsimp only
  refine wpAny_bind (wpAny_setState_of ho hd R.fits ?_)
  dsimp only
  have gone : ∀ t2 : SetTable, TabOk t2 ((L.map fun p => p.2.hash w).take (SetTable.below t.place (way t.mask (k.hash w) K)) ++ k.hash w :: (L.map fun p => p.2.hash w).drop (SetTable.below t.place (way t.mask (k.hash w) K))) → t2.mask = t.mask → t2.led = t.led →
      t2.fill = L.length + 1 → wpAny (model P w) A (do
        storeSet a (SetTable.insertAt es (SetTable.below t.place (way t.mask (k.hash w) K)) (k.hash w, .ref x)) t2
        if !false && t2.tooFull then setRelay a (SetTable.grown (es.size + 1))
        return true) Q E s := by
    intro t2 T hm hled hfill
    have rows : (SetTable.insertAt es (SetTable.below t.place (way t.mask (k.hash w) K)) (k.hash w, Value.ref x)).toList = (L.take (SetTable.below t.place (way t.mask (k.hash w) K)) ++ (x, k) :: L.drop (SetTable.below t.place (way t.mask (k.hash w) K))).map fun p => (p.2.hash w, Value.ref p.1) := by
      rw [SetTable.toList_insertAt, R.rows, List.map_append, List.map_cons, List.map_take, List.map_drop]
    have pm := cut_perm L (SetTable.below t.place (way t.mask (k.hash w) K)) (x, k)
    have hs : (L.take (SetTable.below t.place (way t.mask (k.hash w) K)) ++ (x, k) :: L.drop (SetTable.below t.place (way t.mask (k.hash w) K))).map (fun p => p.2.hash w) = (L.map fun p => p.2.hash w).take (SetTable.below t.place (way t.mask (k.hash w) K)) ++ k.hash w :: (L.map fun p => p.2.hash w).drop (SetTable.below t.place (way t.mask (k.hash w) K)) := by
      rw [List.map_append, List.map_cons, List.map_take, List.map_drop]
    rw [← hs] at T
    generalize L.take (SetTable.below t.place (way t.mask (k.hash w) K)) ++ (x, k) :: L.drop (SetTable.below t.place (way t.mask (k.hash w) K)) = L1 at rows pm T
    generalize SetTable.insertAt es (SetTable.below t.place (way t.mask (k.hash w) K)) (k.hash w, Value.ref x) = es1 at rows
    have len : L1.length = L.length + 1 := pm.length_eq
    have size : es1.size = L.length + 1 := by rw [← Array.length_toList, rows, List.length_map, len]
    refine wpAny_bind (wpAny_storeSet_of ho hd ?_ (by rw [size, sizeLine_eq]; omega))
    have slim : t2.tooFull = false := by
      unfold SetTable.tooFull
      rw [decide_eq_false_iff_not, hfill, hm, m7]
      omega
    refine wp_if_neg (by rw [slim]; decide) ?_
    try refine wpAny_bind (wpAny_pure ?_)
    have same : Heap.SameBut a s.heap (s.heap.update a (Obj.putSet es1 t2)) := Heap.SameBut.update ..
    have there := store_at (es' := es1) (t' := t2) ho hd
    refine wpAny_pure (h _ L1 es1 (ep + 1) t2 same ⟨⟨_, there, ⟨hex.1, hex.2.1, hex.2.2⟩, rfl⟩, rows, T, fun p hp => ?_, by rw [hled]; exact R.led, hm.trans m7, by omega⟩ pm)
    have old : KeyP s.heap p := by
      rcases List.mem_cons.mp (pm.mem_iff.mp hp) with rfl | q
      · exact hx
      · exact R.keys p q
    refine old.keep fun b ob vs n g1 g2 => (same.2 b fun z => ?_).trans g1
    subst z
    rw [ho] at g1
    cases g1
    rw [hd] at g2
    cases g2
  have fill : (t.put (way t.mask (k.hash w) K)).1.fill = L.length + 1 := by rw [u9, List.length_map]
  rw [u1]
  cases pl : (t.put (way t.mask (k.hash w) K)).1.plain with
  | false =>
    refine wp_if_neg (by simp) ?_
    exact gone _ u3 u4 u5 fill
  | true =>
    refine wp_if_pos (by simp) (wpAny_bind (byVal_tuple hx.2.1 fun b => ?_))
    cases b with
    | true => exact gone _ u3 u4 u5 fill
    | false => exact gone _ (tab_dull u3) u4 u5 fill
end
end Z

set_option Elab.async false
set_option linter.all false
set_option maxRecDepth 100000
set_option maxHeartbeats 3000000
/-! Z: set(list) of few flat tuples, no two alike: the loop. -/
namespace Z
open PySem PySem.Spec PyProof.Rows L2
section
variable {P : Program} {w : World} {A : Around} {E : Value → Shared → Prop}
theorem SetZ.move {h h' : Heap} {a : Addr} {L : List (Addr × NestedKey)} {es : Array (Int × Value)} {ep : Nat} {t : SetTable} (R : SetZ w h a L es ep t) (k : ∀ o, h.get? a = some o → h'.get? a = some o) (kp : ∀ p ∈ L, KeyP h' p) : SetZ w h' a L es ep t := by
  obtain ⟨o, g, r⟩ := R.ob
  exact { R with ob := ⟨o, k o g, r⟩, keys := kp }
theorem setZ_new {h : Heap} {a : Addr} (g : h.get? a = some { cls := .type "set", dict := none, data := .set #[] 0 (.fresh 0 0 (!w.params.followText "set-order")) }) : SetZ w h a [] #[] 0 (.fresh 0 0 (!w.params.followText "set-order")) := by
  refine ⟨⟨_, g, ⟨rfl, rfl, rfl⟩, rfl⟩, rfl, ⟨List.Pairwise.nil, rfl, rfl, .inl rfl, fun x hx => (by cases hx), fun i h j hi => (by simp at hi)⟩, fun p hp => (by cases hp), ?_, rfl, Nat.zero_le _⟩
  show _ ∨ (!w.params.followText "set-order") = true
  cases w.params.followText "set-order" <;> simp
/-- what a state has kept of an earlier heap -/
def Kept (h0 h : Heap) : Prop := ∀ b o, h0.get? b = some o → h.get? b = some o
theorem fill_loop {I S : Addr} {fp wr : List Addr} {G : Array GenState → Array GenState → Prop} {n : Nat} {Pv : Nat → Value → Prop} {St : Nat → Shared → Prop} {R : Result → Shared → Prop} (W : WalksS P w A.in1 I fp wr G n Pv St) (apart : S ∉ fp)
    {ks : List (Addr × NestedKey)} (hn : n = ks.length) (few : ks.length ≤ 4) (nd : (ks.map (·.2)).Nodup) (val : ∀ i v, Pv i v → ∃ p, ks[i]? = some p ∧ v = .ref p.1) {h0 : Heap} (hk : ∀ p ∈ ks, KeyP h0 p) (newS : h0.get? S = none) (newW : ∀ b ∈ wr, h0.get? b = none)
    (hu : A.in1.units + 16 < cLine) :
    ∀ (m i : Nat) (s : Shared), i + m = n → St i s → Kept h0 s.heap → (∃ L es ep t, SetZ w s.heap S L es ep t ∧ L.Perm (ks.take i)) →
      (∀ s' L es ep t, Moved (S :: wr) G s s' → SetZ w s'.heap S L es ep t → L.Perm ks → Kept h0 s'.heap → R (.ok (.ret .none)) s') →
      codeAny (model P w) A (.builtin "set.update.loop" ⟨[.ref S, .ref I], []⟩) R s := by
  have offW : S ∉ wr := fun z => apart (W.sub _ z)
  have wider : ∀ {s s' : Shared}, Moved wr G s s' → Moved (S :: wr) G s s' := fun m => m.mono fun b hb => List.mem_cons_of_mem _ hb
  have keep : ∀ {s s' : Shared}, Moved wr G s s' → Kept h0 s.heap → Kept h0 s'.heap := fun m q b o g => m.heap b o (fun hb => by rw [newW b hb] at g; cases g) (q b o g)
  have key : ∀ {h : Heap}, Kept h0 h → ∀ p ∈ ks, KeyP h p := fun q p hp => (hk p hp).keep fun b o _ _ g _ => q b o g
  intro m
  induction m with
  | zero =>
    intro i s hi st q ⟨L, es, ep, t, R0, pm⟩ h
    have e : i = n := by omega
    subst e
    have pm : L.Perm ks := by rwa [hn, List.take_length] at pm
    refine codeAny_builtin F.entry_set_update_loop ?_
    rw [Around.under_plainId F.plain_set_update_loop _]
    show wpAny _ A.in1 (pyNext (.ref I) >>= _) _ _ s
    refine wpAny_bind (W.done s _ _ st fun s' mv => ?_)
    have q' := keep mv q
    exact wpAny_pure (h s' L es ep t (wider mv) (R0.move (fun o g => mv.heap S o offW g) fun p hp => key q' p (pm.mem_iff.mp hp)) pm q')
  | succ m ih =>
    intro i s hi st q ⟨L, es, ep, t, R0, pm⟩ h
    refine codeAny_builtin F.entry_set_update_loop ?_
    rw [Around.under_plainId F.plain_set_update_loop _]
    show wpAny _ A.in1 (pyNext (.ref I) >>= _) _ _ s
    refine wpAny_bind (W.item i s _ _ (by omega) st fun v s' pv st' mv => ?_)
    obtain ⟨⟨x, k⟩, gp, rfl⟩ := val i v pv
    have q' := keep mv q
    have below : ∀ p ∈ L, p ∈ ks := fun p hp => List.mem_of_mem_take (pm.mem_iff.mp hp)
    have hx := key q' (x, k) (List.mem_of_getElem? gp)
    have hil : i < ks.length := (List.getElem?_eq_some_iff.mp gp).1
    have nxt : ks.take (i + 1) = ks.take i ++ [(x, k)] := by
      rw [List.take_add_one, gp]
      rfl
    have len : L.length = i := by rw [pm.length_eq, List.length_take]; omega
    have new : ∀ p ∈ L, p.2 ≠ k := by
      intro p hp e
      have q1 : ((ks.take i ++ [(x, k)]).map (·.2)).Nodup := by
        rw [← nxt, List.map_take]
        exact nd.sublist (List.take_sublist _ _)
      rw [List.map_append] at q1
      exact (List.nodup_append.mp q1).2.2 p.2 (List.mem_map.mpr ⟨p, pm.mem_iff.mp hp, rfl⟩) k (by simp) e
    have R1 : SetZ w s'.heap S L es ep t := R0.move (fun o g => mv.heap S o offW g) fun p hp => key q' p (below p hp)
    show wpAny _ A.in1 (holding [Value.ref x] (setAdd S (.ref x)) >>= _) _ _ s'
    refine wpAny_bind (wpAny_holding ?_)
    unfold setAdd
    refine wpAny_holding ?_
    refine wpAny_bind (pyHash_key k _ _ s' _ hx.1 (by have d8 : k.depth ≤ 8 := hx.2.2; omega) ?_)
    refine put_new (s := { s' with toks := s'.toks + k.draws }) R1 hx new (by omega) (by omega) fun h' L' es' ep' t' same R2 pm2 => ?_
    have q2 : Kept h0 h' := fun b o g => (same.2 b fun z => by rw [z, newS] at g; cases g).trans (q' b o g)
    have pm3 : L'.Perm (ks.take (i + 1)) := by
      rw [nxt]
      exact pm2.trans ((pm.cons _).trans (List.perm_append_singleton _ _).symm)
    refine wpAny_pure ⟨plainId_quiet F.plain_set_update_loop _, ih (i + 1) _ (by omega) (W.frame _ s' _ _ st' (Nat.le_add_right _ _) fun b hb o g => (same.2 b fun z => apart (z ▸ hb)).trans g) q2 ⟨L', es', ep', t', R2, pm3⟩ fun s2 L2 es2 ep2 t2 mv2 R3 pm4 q3 => ?_⟩
    exact h s2 L2 es2 ep2 t2 (Moved.trans W.gtrans ((wider mv).then_heap (Nat.le_add_right _ _) fun b o hb g => (same.2 b fun z => hb (by rw [z]; exact List.mem_cons_self)).trans g) mv2) R3 pm4 q3
end
end Z

set_option Elab.async false
set_option linter.all false
set_option maxRecDepth 100000
set_option maxHeartbeats 3200000
/-! Z: set(list) of few flat tuples, no two alike: the call. The steps through the model's set(..) follow the library's call_set_tups (HandS.TupSets), which is for tuples of ints. -/
namespace Z
open PySem PySem.Spec PyProof.Rows L2
section
variable {P : Program} {w : World} {A : Around} {E : Value → Shared → Prop} {s : Shared}
/-- the empty set that set(..) begins with -/
abbrev bareSet (w : World) : Obj := { cls := .type "set", dict := none, data := .set #[] 0 (.fresh 0 0 (!w.params.followText "set-order")) }
/-- what stands in the end -/
def Filled (w : World) (h0 : Heap) (S : Addr) (ks : List (Addr × NestedKey)) (h : Heap) : Prop := Kept h0 h ∧ ∃ L es ep t, SetZ w h S L es ep t ∧ L.Perm ks
/-- set.__init__ on the new set -/
theorem init_few {l : Addr} {its : Array Value} {ks : List (Addr × NestedKey)} {Q : PySem.Fin → Shared → Prop} (hh : A.handled = none) (hl : s.heap.IsList l its) (hi : its.toList = ks.map fun p => Value.ref p.1) (hk : ∀ p ∈ ks, KeyP s.heap p) (few : ks.length ≤ 4) (nd : (ks.map (·.2)).Nodup)
    (hu : A.units + 24 < cLine) (h : ∀ h' tk, Filled w s.heap s.heap.objs.size ks h' → Q (.done (.ret .none)) { s with heap := h', toks := tk }) :
    wpAny (model P w) A (Builtin.«set.__init__» ⟨[.ref s.heap.objs.size, .ref l], []⟩) Q E { s with heap := s.heap.push (bareSet w) } := by
  obtain ⟨⟨c, d, dt, sl⟩, hol, hcl, n, hdl⟩ := id hl
  simp only at hcl hdl
  subst hcl hdl
  have hS : (s.heap.push (bareSet w)).get? s.heap.objs.size = some (bareSet w) := Heap.get?_push_size _ rfl
  have hol' : (s.heap.push (bareSet w)).get? l = some { cls := .type "list", dict := d, data := .seq its n, slots := sl } := Heap.get?_push_of_some _ hol
  have hT : Shared.TypeIs { s with heap := s.heap.push (bareSet w) } (.ref s.heap.objs.size) "set" := ⟨_, hS, rfl⟩
  have hl1 : (s.heap.push (bareSet w)).IsList l its := ⟨_, hol', rfl, n, rfl⟩
  have hsls := F.sub_list_set
  have hslf := F.sub_list_frozenset
  have hne : (Value.type "list" == Value.type "dict") = false := by decide
  have lt : l < s.heap.objs.size := Heap.lt_size hol
  have size1 : (s.heap.push (bareSet w)).objs.size = s.heap.objs.size + 1 := Heap.size_push ..
  have len : its.size = ks.length := by rw [← Array.length_toList, hi, List.length_map]
  have off : ∀ b, s.heap.objs.size ≤ b → s.heap.get? b = none := fun b hb => by
    cases q : s.heap.get? b with
    | none => rfl
    | some o => exact absurd (Heap.lt_size q) (Nat.not_lt.mpr hb)
  unfold Builtin.«set.__init__» noKeywords Builtin.Frozenset.updateFrom
  generalize hPI : pyIter = PI
  wp_walk
  subst hPI
  refine wpAny_pyIter_list hl1 ?_
  refine wpAny_bind (wpAny_runValue ?_)
  have lI : l ≠ (s.heap.push (bareSet w)).objs.size := by rw [size1]; exact Nat.ne_of_lt (Nat.lt_succ_of_lt lt)
  refine fill_loop (h0 := s.heap) (S := s.heap.objs.size) (Walks.list (by simp [hh]) (s.heap.push (bareSet w)).objs.size l lI its).toS ?_ len few nd (fun i v hv => ?_) hk (off _ (Nat.le_refl _)) (fun b hb => off b ?_) ?_ its.size 0 _ (by omega)
    ⟨⟨_, Heap.get?_push_size _ rfl, rfl, rfl⟩, hl1.push _⟩ (fun b o g => Heap.get?_push_of_some _ (Heap.get?_push_of_some _ g)) ⟨[], #[], 0, _, setZ_new (w := w) (Heap.get?_push_of_some _ hS), by simp⟩ fun s' L es ep t mv R pm q => ?_
  · rw [size1]
    simp only [List.mem_cons, List.not_mem_nil, or_false, not_or]
    exact ⟨Nat.ne_of_lt (Nat.lt_succ_self _), Nat.ne_of_gt lt⟩
  · have g : its.toList[i]? = some v := by rw [Array.getElem?_toList]; exact hv
    rw [hi, List.getElem?_map] at g
    obtain ⟨p, gp, e⟩ := Option.map_eq_some_iff.mp g
    exact ⟨p, gp, e.symm⟩
  · rw [List.mem_singleton.mp hb, size1]
    exact Nat.le_succ _
  · simp only [Around.in1_units]
    omega
  · obtain ⟨h', g2, d2, tk, os2⟩ := s'
    obtain rfl : g2 = s.gens := mv.gens
    obtain rfl : d2 = s.drawn := mv.drawn
    obtain rfl : os2 = s.os := mv.os
    refine wpAny_pure ?_
    exact wpAny_pure (h h' tk ⟨q, L, es, ep, t, R, pm⟩)
end
end Z

set_option Elab.async false
set_option linter.all false
set_option maxRecDepth 100000
set_option maxHeartbeats 3200000
/-! Z: set(list) of few flat tuples: the call (after the library's call_set_tups), and what sorted(..) gathers of it. -/
namespace Z
open PySem PySem.Spec PyProof.Rows L2
section
variable {P : Program} {w : World} {A : Around} {E : Value → Shared → Prop} {s : Shared}
theorem call_set_few {l : Addr} {its : Array Value} {ks : List (Addr × NestedKey)} {Q : Value → Shared → Prop} (hh : A.handled = none) (hl : s.heap.IsList l its) (hi : its.toList = ks.map fun p => Value.ref p.1) (hk : ∀ p ∈ ks, KeyP s.heap p) (few : ks.length ≤ 4) (nd : (ks.map (·.2)).Nodup)
    (hu : A.units + 32 < cLine) (h : ∀ h' tk, Filled w s.heap s.heap.objs.size ks h' → Q (.ref s.heap.objs.size) { s with heap := h', toks := tk }) : wpAny (model P w) A (call (.type "set") [.ref l]) Q E s := by
  obtain ⟨c, tl, mro⟩ := F.called_set.mro
  have made := F.called_set.made
  have sub := F.called_set.sub
  have n1 := F.called_set.notType
  have n2 := F.called_set.canCreate
  have tc := F.typeCall_set_1 (.ref l)
  refine wpAny_call (codeAny_of_tree ?_)
  show wpAny _ _ (callAny (.type "set") _) _ _ _
  refine wpAny_pure ⟨Code.quiet_builtin _ (by decide +kernel), codeAny_builtin F.entry_type_call ?_⟩
  rw [Around.under_plain (weight_type_call_type "set" [.ref l] []) rfl]
  repeat (any_goals (first | assumption | wp_step))
  refine codeAny_mono (code_set_led1 (.ref l) (E := E) (Q₁ := fun v t => v = .ref s.heap.objs.size ∧ t = { s with heap := s.heap.push (bareSet w) }) ⟨rfl, rfl⟩) fun r t hr => ?_
  match r, hr with
  | .error _, hr => exact hr
  | .ok (.next), hr => exact hr.elim
  | .ok (.brk), hr => exact hr.elim
  | .ok (.cont), hr => exact hr.elim
  | .ok (.ret v), hr =>
    obtain ⟨rfl, rfl⟩ := hr
    have isSet : Shared.TypeIs { s with heap := s.heap.push (bareSet w) } (.ref s.heap.objs.size) "set" := ⟨_, Heap.get?_push_size _ rfl, rfl⟩
    have look := F.called_set.init.lookup
    have bnd := F.called_set.init.bind (.ref s.heap.objs.size)
    repeat (any_goals (first | assumption | wp_step))
    refine codeAny_mono (codeAny_call_builtin (R := wants (fun v t => v = .none ∧ ∃ h' tk, t = { s with heap := h', toks := tk } ∧ Filled w s.heap s.heap.objs.size ks h') E) F.called_set.init.plain F.entry_set_init
      (check_set_init_1 isSet (init_few (by simp [hh]) hl hi hk few nd (by simp only [Around.in1_units]; omega) fun h' tk z => ⟨rfl, h', tk, rfl, z⟩))) fun r2 t2 hr2 => ?_
    match r2, hr2 with
    | .error _, hr2 => exact hr2
    | .ok (.next), hr2 => exact hr2.elim
    | .ok (.brk), hr2 => exact hr2.elim
    | .ok (.cont), hr2 => exact hr2.elim
    | .ok (.ret v), hr2 =>
      obtain ⟨rfl, h', tk, rfl, z⟩ := hr2
      repeat (any_goals (first | assumption | wp_step))
      exact h h' tk z
end
end Z

set_option Elab.async false
set_option linter.all false
set_option maxRecDepth 100000
set_option maxHeartbeats 1000000
/-! Z: a sort does not mind the order it is handed. -/
namespace Z
open PySem PySem.Spec PyProof.Rows L2 PySem.W
theorem inv_any {X : Cx} {pins : List (Addr × Obj)} {σ : St} {H : Hp} {s s' : Shared} (I : Inv X pins σ H s) (k : ∀ b u, s.heap.get? b = some u → s'.heap.get? b = some u) (hg : s'.gens = s.gens) (ho : s'.os = s.os) : Inv X pins σ H s' := by
  have J : Inv X pins σ H { s with heap := s'.heap, gens := s'.gens, drawn := s'.drawn, toks := s'.toks } :=
    I.step (ch := []) (fun b z => nomatch z) (fun b o _ _ _ g _ => k b o g) (fun b o _ _ _ g _ => ⟨o.slots, k b o g⟩) (fun b o _ _ n => n) (fun b o _ g => ⟨o, k b o g⟩) (fun _ _ g => g) (fun _ _ _ g => g)
      (fun b ps g => ⟨#[], by rw [g]; simp⟩) (fun m ⟨o, es, ep, g, r⟩ => ⟨o, es, ep, k _ o g, r⟩) (I.hok.kept k) (by rw [hg]; exact I.bare)
  cases s'
  cases ho
  exact J
theorem each_perm {α : Type} {R : Value → α → Prop} : ∀ {us us0 : List Value}, us.Perm us0 → ∀ {l0 : List α}, EachIs R us0 l0 → ∃ l, l.Perm l0 ∧ EachIs R us l := by
  intro us us0 p
  induction p with
  | nil => intro l0 h; exact ⟨l0, List.Perm.refl _, h⟩
  | cons x _ ih =>
    intro l0 h
    cases h with
    | cons a b =>
      obtain ⟨l, p1, q⟩ := ih b
      exact ⟨_ :: l, p1.cons _, .cons a q⟩
  | swap x y l =>
    intro l0 h
    cases h with
    | cons a b =>
      cases b with
      | cons c d => exact ⟨_, List.Perm.swap _ _ _, .cons c (.cons a d)⟩
  | trans _ _ ih1 ih2 =>
    intro l0 h
    obtain ⟨l1, p1, q1⟩ := ih2 h
    obtain ⟨l2, p2, q2⟩ := ih1 q1
    exact ⟨l2, p2.trans p1, q2⟩
section
variable {L : LH}
/-- whom ltW can tell from one another -/
def tells (L : LH) (ws : List W) : Bool := ws.all fun x => ws.all fun y => (ltW L deep x y).isSome
theorem insW_some {x : W} : ∀ ys : List W, (∀ y ∈ ys, (ltW L deep x y).isSome = true) → ∃ r, insW L x ys = some r
  | [], _ => ⟨_, rfl⟩
  | y :: ys, h => by
    unfold insW
    obtain ⟨b, hb⟩ := Option.isSome_iff_exists.mp (h y List.mem_cons_self)
    rw [hb]
    cases b with
    | true => exact ⟨_, rfl⟩
    | false =>
      obtain ⟨r, hr⟩ := insW_some ys fun z hz => h z (List.mem_cons_of_mem _ hz)
      exact ⟨y :: r, by simp [hr]⟩
theorem isortW_some {ws : List W} (t : ∀ x ∈ ws, ∀ y ∈ ws, (ltW L deep x y).isSome = true) : ∀ r acc : List W, (∀ x ∈ r, x ∈ ws) → (∀ x ∈ acc, x ∈ ws) → ∃ out, isortW L acc r = some out
  | [], acc, _, _ => ⟨acc, rfl⟩
  | x :: r, acc, hr, ha => by
    obtain ⟨a, e⟩ := insW_some (L := L) (x := x) acc fun y hy => t x (hr x List.mem_cons_self) y (ha y hy)
    unfold isortW
    rw [e]
    refine isortW_some t r a (fun y hy => hr y (List.mem_cons_of_mem _ hy)) fun y hy => ?_
    rcases List.mem_cons.mp ((insW_perm e).mem_iff.mp hy) with z | z
    · rw [z]; exact hr x List.mem_cons_self
    · exact ha y z
theorem all_perm {α : Type} {f : α → Bool} {l m : List α} (p : l.Perm m) (h : m.all f = true) : l.all f = true :=
  List.all_eq_true.mpr fun x hx => List.all_eq_true.mp h x (p.mem_iff.mp hx)
theorem srtb_perm {l m : List W} (p : l.Perm m) (h : srtb L m = true) : srtb L l = true := by
  obtain ⟨h1, h2, h3⟩ := srtb_parts h
  unfold srtb
  rw [Bool.and_eq_true, Bool.and_eq_true, Bool.or_eq_true]
  refine ⟨all_perm p h1, all_perm p (List.all_eq_true.mpr fun x hx => all_perm p (List.all_eq_true.mp h2 x hx)), h3.imp (all_perm p) (all_perm p)⟩
variable {K : PySem.W.Frag} {F : Fx} {e : En} {H : Hp} {ρ : List Addr} {ws ws' ws2 : List W} {ys : List V}
theorem sortW_perm (he : En.Ok F e) (R : RH K F e H ρ L) (t : tells L ws = true) (h : sortW L ws = some ws') (r : RelWs K F e H ρ ws ys) (p : ws2.Perm ws) : sortW L ws2 = some ws' := by
  unfold sortW at h ⊢
  obtain ⟨hc, hi⟩ := cond_opt h
  rw [Bool.and_eq_true] at hc
  obtain ⟨hp, ha, _⟩ := srtb_parts hc.1
  have A := le_asked he R hp ha r
  obtain ⟨out, ho⟩ := isortW_some (L := L) (ws := ws) (fun x hx y hy => List.all_eq_true.mp (List.all_eq_true.mp t x hx) y hy) ws2 [] (fun x hx => p.mem_iff.mp hx) fun x hx => by cases hx
  have c : (srtb L ws2 && Nat.ble ws2.length 1000000) = true := by
    rw [Bool.and_eq_true]
    exact ⟨srtb_perm p hc.1, by rw [p.length_eq]; exact hc.2⟩
  rw [c, ho]
  show some out = some ws'
  have p1 : out.Perm ws2 := isortW_perm ho
  have p2 : ws'.Perm ws := isortW_perm hi
  rw [sorted_uniq (p1.trans (p.trans p2.symm)) (isortW_sorted A (fun y hy => p.mem_iff.mp hy) (fun y hy => by cases hy) List.Pairwise.nil ho)
    (isortW_sorted A (fun y hy => hy) (fun y hy => by cases hy) List.Pairwise.nil hi) fun a h1 b h2 z1 z2 => ?_]
  exact le_anti he R hp ha r a b (p.mem_iff.mp (p1.mem_iff.mp h1)) (p.mem_iff.mp (p1.mem_iff.mp h2)) (by simpa using z1) (by simpa using z2)
/-- sort_tail, whatever the order of the values -/
theorem sort_any {X : Cx} (hK : X.K = K) (hu : X.A.units + 64 < cLine) (he : En.Ok F e) (R : RH K F e H ρ L) (t : tells L ws = true) (h : sortW L ws = some ws') (r : RelWs K F e H ρ ws ys)
    (pins : List (Addr × Obj)) (σ : St) (s : Shared) (us us0 : List Value) (E : Value → Shared → Prop) (α : Type) (Q' : α → Shared → Prop) (g : Value → Sem α) (I : Inv X pins σ H s) (rv : Vals ys us0) (pu : us.Perm us0)
    (k : ∀ out l s', RelWs K F e H ρ ws' out → H l = none → Inv X pins σ (upd H l (.lst out)) s' → wpAny (model X.prog X.w) X.A.in1 (g (.ref l)) Q' E s') :
    wpAny (model X.prog X.w) X.A.in1 (newList us >>= fun l => holding [l] (call (.builtin "list.sort") [l]) >>= fun _ => g l) Q' E s := by
  obtain ⟨ps, pp, ee⟩ := each_perm pu (zip_each r rv)
  have rel : RelWs K F e H ρ (ps.map (·.1)) (ps.map (·.2)) := pairs_rel fun p hp => zip_rel r p (pp.mem_iff.mp hp)
  have pw : (ps.map (·.1)).Perm ws := by
    have q := pp.map (·.1)
    rwa [zip_fst r] at q
  obtain ⟨out, ro, so⟩ := sort_tail hK hu he R (sortW_perm he R t h r pw) rel
  exact so pins σ s us E α Q' g I (each_vals ee) fun l s' hl J => k out l s' ro hl J
end
end Z

set_option Elab.async false
set_option linter.all false
set_option maxRecDepth 100000
set_option maxHeartbeats 1000000
/-! Z: sorted(set(xs)), xs a list of at most four flat tuples, no two alike. -/
namespace Z
open PySem PySem.Spec PyProof.Rows L2 PySem.W
/-- flat, by values -/
def flatW : W → Bool
  | .tup xs => xs.all isAtm
  | _ => false
def otherK (x y : W) : Bool := match eqK x y with
  | some false => true
  | _ => false
def apartK : List W → Bool
  | [] => true
  | x :: r => r.all (otherK x) && apartK r
def fewW (L : LH) (ws : List W) : Bool := Nat.ble ws.length 4 && (ws.all flatW && (apartK ws && tells L ws))
def vSortSet (a : Ex) : Ex := fun sl L => match a sl L with
  | some (.ref n, L1) => match L1.get n with
    | some (.lst ws) => cond (fewW L1 ws) (match sortW L1 ws with
      | some ws' => fLst ws' L1
      | none => none) none
    | _ => none
  | _ => none
/-- the values are keys, few, no two alike -/
def KeysOf (X : Cx) (H : Hp) (ys : List V) : Prop := ∀ (pins : List (Addr × Obj)) (σ : St) (s : Shared) (us : List Value), Inv X pins σ H s → Vals ys us →
  ∃ ks : List (Addr × NestedKey), us = ks.map (fun p => Value.ref p.1) ∧ (∀ p ∈ ks, KeyP s.heap p) ∧ ks.length ≤ 4 ∧ (ks.map (·.2)).Nodup
/-- list.sort of them, in any order -/
def SortAny (X : Cx) (H : Hp) (ys : List V) (G : List V → Prop) : Prop := ∀ (pins : List (Addr × Obj)) (σ : St) (s : Shared) (us us0 : List Value) (E : Value → Shared → Prop) (α : Type) (Q' : α → Shared → Prop) (g : Value → Sem α), Inv X pins σ H s → Vals ys us0 → us.Perm us0 →
  (∀ out l s', G out → H l = none → Inv X pins σ (upd H l (.lst out)) s' → wpAny (model X.prog X.w) X.A.in1 (g (.ref l)) Q' E s') →
  wpAny (model X.prog X.w) X.A.in1 (newList us >>= fun l => holding [l] (call (.builtin "list.sort") [l]) >>= fun _ => g l) Q' E s
def tSortSet (X : Cx) (te : TE) : TE := fun σ H Q => te σ H fun v H1 => ∃ a ys, v = .ref a ∧ SqL X.K H1 a ys ∧ KeysOf X H1 ys ∧ ∃ G, SortAny X H1 ys G ∧ ∀ out l, G out → H1 l = none → Q (.ref l) (upd H1 l (.lst out))
section
variable {X : Cx} {e : Expr} {te : TE} {p p2 pos pos2 : Pos}
theorem pe_sortSet (hc : X.calm = true) (hu : X.A.units + 64 < cLine) (hg : Gl X "sorted") (hm : X.mg "sorted" = none) (hv : bootBuiltins "sorted" = some (.builtin "sorted")) (gs : Gl X "set") (ms : X.mg "set" = none) (vs : bootBuiltins "set" = some (.type "set"))
    (he : PE X e te) (na : starEach [.Call (.Name "set" p2) [e] [] pos2] X.env = (false, eval (.Call (.Name "set" p2) [e] [] pos2) X.env) :: starEach [] X.env := by rfl) (ne : starEach [e] X.env = (false, eval e X.env) :: starEach [] X.env := by rfl) :
    PE X (.Call (.Name "sorted" p) [.Call (.Name "set" p2) [e] [] pos2] [] pos) (tSortSet X te) := by
  refine ⟨fun pins s σ H Q I h => ?_⟩
  refine Call_ (ld_blt I hg hm hv (PyProof.Rows.callWith_builtin1 (args_cons ?_ na) na))
  refine Call_ (ld_blt I gs ms vs (PyProof.Rows.callWith_type1 (one_arg he I h (fun v s2 x H2 I2 r q => ?_) ne) ne))
  obtain ⟨a, ys, rfl, hL, hK, G, so, q2⟩ := q
  cases r
  obtain ⟨us, rv, pl, hz⟩ := I2.list hL
  obtain ⟨ks, ek, kp, few, nd⟩ := hK pins σ s2 us I2 rv
  refine call_set_few (its := us.toArray) (I2.ok.hd hc) pl.isList (by simpa using ek) kp few nd (by omega) fun h' tk ⟨keep, L, es, ep, t, R, pm⟩ => ?_
  have I3 : Inv X pins σ H2 { s2 with heap := h', toks := tk } := I2.kept keep
  refine args_nil ?_
  obtain ⟨o, ho, hex, hd⟩ := R.ob
  refine Calls.call_function_entry PyProof.Rows.kind_sorted PyProof.Rows.plain_sorted PyProof.Rows.entry_sorted (PyProof.Rows.args_sorted1 _) ?_
  unfold Builtin.«sorted»
  refine wpAny_bind (m := checkCount "sorted" 1 1 _) (wpAny_pure ?_)
  refine wpAny_bind (collect_set (A := X.A.in1) (s := { s2 with heap := h', toks := tk }) (by simp [I2.ok.hd hc]) ⟨o, ho, hex.1, hd⟩ R.fits (by have := R.count; have := R.few; unfold scanBound; omega) R.tab.ris R.led fun s4 out k4 _ g4 o4 p4 => ?_)
  have I4 : Inv X pins σ H2 s4 := inv_any I3 k4 g4 o4
  have pv : out.Perm us := by
    rw [R.rows, List.map_map] at p4
    rw [ek]
    exact p4.trans (pm.map fun r : Addr × NestedKey => Value.ref r.1)
  refine so pins σ s4 out us _ _ _ (fun l => ret l) I4 rv pv fun o2 l s5 hG hl I5 => ?_
  exact wpAny_pure ⟨_, rfl, .ref l, _, I5, rfl, q2 o2 l hG hl⟩
end
section
variable {K : PySem.W.Frag} {F : Fx} {e : En} {H : Hp} {ρ : List Addr}
theorem apart_nodup (he : En.Ok F e) : ∀ {ws : List W} {ys : List V}, RelWs K F e H ρ ws ys → apartK ws = true → (ws.map (kyW F e)).Nodup
  | [], _, _, _ => List.nodup_nil
  | w :: ws, ys, r, h => by
    obtain ⟨v, vr, rfl, r1, r2⟩ := r.uncons
    unfold apartK at h
    rw [Bool.and_eq_true] at h
    rw [List.map_cons]
    refine List.nodup_cons.mpr ⟨fun m => ?_, apart_nodup he r2 h.2⟩
    obtain ⟨x, hx, ex⟩ := List.mem_map.mp m
    obtain ⟨i, hi⟩ := List.mem_iff_getElem?.mp hx
    obtain ⟨vx, _, rx⟩ := r2.get hi
    have q := List.all_eq_true.mp h.1 x hx
    unfold otherK at q
    split at q
    · rename_i k
      have z := eqK_ok he w x false v vx r1 rx k
      rw [ex, NestedKey.beq_self] at z
      cases z
    · cases q
theorem flat_items : ∀ {xs : List W} {vs : List V} {us : List Value}, xs.all isAtm = true → RelWs K F e H ρ xs vs → Vals vs us → ∀ u ∈ us, Flat1 u
  | [], vs, us, _, r, rv => by
    unfold RelWs at r
    subst r
    cases rv
    intro u hu
    cases hu
  | x :: xs, vs, us, h, r, rv => by
    obtain ⟨v, vr, rfl, r1, r2⟩ := r.uncons
    rw [List.all_cons, Bool.and_eq_true] at h
    cases rv with
    | cons a b =>
      intro u hu
      rcases List.mem_cons.mp hu with z | z
      · subst z
        cases x with
        | int i =>
          unfold RelW at r1
          subst r1
          obtain ⟨t, rfl⟩ := a
          exact .inl ⟨i, t, rfl⟩
        | str k =>
          unfold RelW at r1
          obtain ⟨y, _, rfl⟩ := r1
          obtain ⟨t, rfl⟩ := a
          exact .inr ⟨y, t, rfl⟩
        | _ => simp [isAtm] at h
      · exact flat_items h.2 r2 b u z
theorem atm_key : ∀ (n : Nat) (xs : List W), xs.all isAtm = true → isKys n xs = true
  | n, [], _ => by cases n <;> rfl
  | n, x :: xs, h => by
    rw [List.all_cons, Bool.and_eq_true] at h
    unfold isKys
    rw [Bool.and_eq_true]
    refine ⟨?_, atm_key n xs h.2⟩
    cases x with
    | int _ => cases n <;> rfl
    | str _ => cases n <;> rfl
    | _ => simp [isAtm] at h
end
section
variable {X : Cx} {F : Fx} {e : En} {H : Hp} {ρ : List Addr}
theorem keys_of : ∀ {ws : List W} {ys : List V} {us : List Value} {pins : List (Addr × Obj)} {σ : St} {s : Shared}, Inv X pins σ H s → ws.all flatW = true → RelWs X.K F e H ρ ws ys → Vals ys us →
    ∃ ks : List (Addr × NestedKey), us = ks.map (fun p => Value.ref p.1) ∧ ks.map (·.2) = ws.map (kyW F e) ∧ ∀ p ∈ ks, KeyP s.heap p
  | [], ys, us, _, _, _, _, _, r, rv => by
    unfold RelWs at r
    subst r
    cases rv
    exact ⟨[], rfl, rfl, fun p hp => by cases hp⟩
  | w :: ws, ys, us, pins, σ, s, I, h, r, rv => by
    obtain ⟨v, vr, rfl, r1, r2⟩ := r.uncons
    rw [List.all_cons, Bool.and_eq_true] at h
    cases rv with
    | cons a b =>
      obtain ⟨ks, e1, e2, e3⟩ := keys_of I h.2 r2 b
      cases w with
      | tup xs =>
        have fl : xs.all isAtm = true := h.1
        have kk := ky_is I 8 (.tup xs) v _ (atm_key 7 xs fl) r1 a
        unfold RelW at r1
        obtain ⟨q, vs, rfl, hq, rq⟩ := r1
        cases a
        obtain ⟨its, ri, ⟨o, ho, hcl, n, hd⟩, _⟩ := I.tuple hq
        refine ⟨(q, kyW F e (.tup xs)) :: ks, by rw [e1]; rfl, by rw [List.map_cons, List.map_cons, e2], fun p hp => ?_⟩
        rcases List.mem_cons.mp hp with z | z
        · subst z
          exact ⟨kk.1, ⟨o, its.toArray, n, ho, hcl, hd, fun u hu => flat_items fl rq ri u (by simpa using hu)⟩, kk.2⟩
        · exact e3 p z
      | _ => simp [flatW] at h
end
section
variable {X : Cx} {F : Fx} {a : Expr} {ma : Ex} {p p2 pos pos2 : Pos}
theorem ze_sortSet (hc : X.calm = true) (hu : X.A.units + 64 < cLine) (hg : Gl X "sorted") (hm : X.mg "sorted" = none) (hv : bootBuiltins "sorted" = some (.builtin "sorted")) (gs : Gl X "set") (ms : X.mg "set" = none) (vs : bootBuiltins "set" = some (.type "set"))
    (ha : PE X a (TZ X.K F ma)) (na : starEach [.Call (.Name "set" p2) [a] [] pos2] X.env = (false, eval (.Call (.Name "set" p2) [a] [] pos2) X.env) :: starEach [] X.env := by rfl) (ne : starEach [a] X.env = (false, eval a X.env) :: starEach [] X.env := by rfl) :
    PE X (.Call (.Name "sorted" p) [.Call (.Name "set" p2) [a] [] pos2] [] pos) (TZ X.K F (vSortSet ma)) := by
  refine PE.imp (pe_sortSet hc hu hg hm hv gs ms vs ha na ne) ?_
  rintro σ H Q ⟨e, ρ, sl, L, w, L', he, hs, hh, hm, k⟩
  unfold vSortSet at hm
  split at hm
  · rename_i n L1 h1
    split at hm
    · rename_i ws g
      obtain ⟨hf, hm⟩ := cond_opt hm
      split at hm
      · rename_i ws' hw
        obtain ⟨z2, z3, rfl, rfl⟩ := fLst_spec hm
        unfold fewW at hf
        rw [Bool.and_eq_true, Bool.and_eq_true, Bool.and_eq_true] at hf
        obtain ⟨f1, f2, f3, f4⟩ := hf
        refine ⟨e, ρ, sl, L, _, _, he, hs, hh, h1, fun ρ1 H1 v fm r1 w1 => ?_⟩
        unfold RelW at w1
        obtain ⟨b, rfl, hb⟩ := w1
        obtain ⟨b', ys, p1, p2, p3⟩ := r1.lst g
        rw [hb] at p1; cases p1
        refine ⟨b, ys, rfl, SqL.of p2, fun pins σ s us I rv => ?_, fun out => RelWs X.K F e H1 ρ1 ws' out, fun pins σ s us us0 E α Q' g I rv pu kk => ?_, fun out l ro hl => ?_⟩
        · obtain ⟨ks, e1, e2, e3⟩ := keys_of I f2 p3 rv
          refine ⟨ks, e1, e3, ?_, by rw [e2]; exact apart_nodup he p3 f3⟩
          have q := congrArg List.length e2
          rw [List.length_map, List.length_map] at q
          rw [q]
          exact Nat.le_of_ble_eq_true f1
        · exact sort_any (X := X) rfl hu he r1 f4 hw p3 pins σ s us us0 E α Q' g I rv pu kk
        · obtain ⟨f5, r5, w5⟩ := new_lst r1 hl z3 ro
          exact k _ _ _ (fm.trans f5) r5 w5
      · cases hm
    · cases hm
  · cases hm
end
end Z

set_option Elab.async false
set_option linter.all false
set_option maxRecDepth 100000
set_option maxHeartbeats 4000000
namespace Z13
open PySem PySem.Spec PyProof.Rows L2 Z
def topS (i : Nat) : Stmt := PySem.Challenge.pw_watchlost_k13_known_plans.main.body.getD i (.Pass ⟨0, 0, 0, 0⟩)
abbrev s__law_box : Stmt := topS 32
abbrev s__law_cells : Stmt := topS 34
abbrev s__law_same : Stmt := topS 35
abbrev s_World_entries : Stmt := inClass (topS 23) 3
abbrev s_World___init__ : Stmt := inClass (topS 23) 1
abbrev s_Course___init__ : Stmt := inClass (topS 27) 1
abbrev s_World_do : Stmt := inClass (topS 23) 16
abbrev s_Course_do : Stmt := inClass (topS 27) 5
abbrev s_Course_world : Stmt := inClass (topS 27) 2
abbrev s_tupled : Stmt := topS 4
abbrev s_world_behind : Stmt := topS 28
abbrev s_entries : Stmt := topS 29
abbrev s_World_folders : Stmt := inClass (topS 23) 7
abbrev s_World_is_free : Stmt := inClass (topS 23) 14
abbrev s_World_place_of : Stmt := inClass (topS 23) 10
abbrev s_World_is_within : Stmt := inClass (topS 23) 13
abbrev s_World_names : Stmt := inClass (topS 23) 6
abbrev s_World_what : Stmt := inClass (topS 23) 5
abbrev s_is_name : Stmt := topS 18
abbrev s_is_number : Stmt := topS 19
abbrev s_is_form : Stmt := topS 22
abbrev s_World_can : Stmt := inClass (topS 23) 15
abbrev s_Course_can : Stmt := inClass (topS 27) 4
abbrev s_Course_is_stopped : Stmt := inClass (topS 27) 3
abbrev s_has_no_ring : Stmt := topS 25
abbrev s_is_tuple : Stmt := topS 20
abbrev s_is_entry : Stmt := topS 21
abbrev s_is_tree : Stmt := topS 24
abbrev s_is_plan : Stmt := topS 26
abbrev s_World_path_of : Stmt := inClass (topS 23) 11
abbrev s_paths : Stmt := topS 30
abbrev s__law_moves_right : Stmt := topS 37
abbrev s__law_numbers_right : Stmt := topS 36
abbrev s__law_take : Stmt := topS 33
abbrev s__law_right : Stmt := topS 38
abbrev s_law : Stmt := topS 39
def LITS : List Str := ["a", "ab", "b", "drop", "m", "make", "move", "put", "start", "stop", "zz", "zzzzzzzz"]
def POOL : List Nat := [0, 1, 2, 4, 5, 9, 10, 11]
theorem lit_at {F : Fx} {n : Nat} {x : Str} (h : F.lits = LITS) (q : LITS[n]? = some x) : F.lits[n]? = some x := by rw [h]; exact q
abbrev N__law_box : List Str := ["_law_script", "_law_k", "_law_cell"]
theorem sc__law_box : FnScope N__law_box ["_law_script", "_law_k"] (defScope s__law_box) := ⟨rfl, rfl, rfl, by decide +kernel, rfl, by decide +kernel, by decide +kernel⟩
abbrev N__law_cells : List Str := ["_law_script", "_law_most", "_law_cells_here", "_law_k", "_law_cell", "_law_at_so"]
theorem sc__law_cells : FnScope N__law_cells ["_law_script", "_law_most"] (defScope s__law_cells) := ⟨rfl, rfl, rfl, by decide +kernel, rfl, by decide +kernel, by decide +kernel⟩
abbrev N__law_same : List Str := ["_law_found", "_law_due", "_law_mine", "_law_its", "_law_own"]
theorem sc__law_same : FnScope N__law_same ["_law_found", "_law_due"] (defScope s__law_same) := ⟨rfl, rfl, rfl, by decide +kernel, rfl, by decide +kernel, by decide +kernel⟩
abbrev N_World_entries : List Str := ["self", "place"]
theorem sc_World_entries : FnScope N_World_entries ["self"] (defScope s_World_entries) := ⟨rfl, rfl, rfl, by decide +kernel, rfl, by decide +kernel, by decide +kernel⟩
abbrev N_World___init__ : List Str := ["self", "tree", "folder", "name", "what"]
theorem sc_World___init__ : FnScope N_World___init__ ["self", "tree"] (defScope s_World___init__) := ⟨rfl, rfl, rfl, by decide +kernel, rfl, by decide +kernel, by decide +kernel⟩
abbrev N_Course___init__ : List Str := ["self", "tree"]
theorem sc_Course___init__ : FnScope N_Course___init__ ["self", "tree"] (defScope s_Course___init__) := ⟨rfl, rfl, rfl, by decide +kernel, rfl, by decide +kernel, by decide +kernel⟩
abbrev N_World_do : List Str := ["self", "deed", "word", "rest", "what"]
theorem sc_World_do : FnScope N_World_do ["self", "deed"] (defScope s_World_do) := ⟨rfl, rfl, rfl, by decide +kernel, rfl, by decide +kernel, by decide +kernel⟩
abbrev N_Course_do : List Str := ["self", "deed"]
theorem sc_Course_do : FnScope N_Course_do ["self", "deed"] (defScope s_Course_do) := ⟨rfl, rfl, rfl, by decide +kernel, rfl, by decide +kernel, by decide +kernel⟩
abbrev N_Course_world : List Str := ["self"]
theorem sc_Course_world : FnScope N_Course_world ["self"] (defScope s_Course_world) := ⟨rfl, rfl, rfl, by decide +kernel, rfl, by decide +kernel, by decide +kernel⟩
abbrev N_tupled : List Str := ["thing", "part"]
theorem sc_tupled : FnScope N_tupled ["thing"] (defScope s_tupled) := ⟨rfl, rfl, rfl, by decide +kernel, rfl, by decide +kernel, by decide +kernel⟩
abbrev N_world_behind : List Str := ["plan", "many", "tree", "deeds", "found", "deed"]
theorem sc_world_behind : FnScope N_world_behind ["plan", "many"] (defScope s_world_behind) := ⟨rfl, rfl, rfl, by decide +kernel, rfl, by decide +kernel, by decide +kernel⟩
abbrev N_entries : List Str := ["plan", "many"]
theorem sc_entries : FnScope N_entries ["plan", "many"] (defScope s_entries) := ⟨rfl, rfl, rfl, by decide +kernel, rfl, by decide +kernel, by decide +kernel⟩
abbrev N_World_folders : List Str := ["self", "what"]
theorem sc_World_folders : FnScope N_World_folders ["self"] (defScope s_World_folders) := ⟨rfl, rfl, rfl, by decide +kernel, rfl, by decide +kernel, by decide +kernel⟩
abbrev N_World_is_free : List Str := ["self", "folder", "name"]
theorem sc_World_is_free : FnScope N_World_is_free ["self", "folder", "name"] (defScope s_World_is_free) := ⟨rfl, rfl, rfl, by decide +kernel, rfl, by decide +kernel, by decide +kernel⟩
abbrev N_World_place_of : List Str := ["self", "folder", "place", "what"]
theorem sc_World_place_of : FnScope N_World_place_of ["self", "folder"] (defScope s_World_place_of) := ⟨rfl, rfl, rfl, by decide +kernel, rfl, by decide +kernel, by decide +kernel⟩
abbrev N_World_is_within : List Str := ["self", "folder", "other"]
theorem sc_World_is_within : FnScope N_World_is_within ["self", "folder", "other"] (defScope s_World_is_within) := ⟨rfl, rfl, rfl, by decide +kernel, rfl, by decide +kernel, by decide +kernel⟩
abbrev N_World_names : List Str := ["self", "folder", "other", "name"]
theorem sc_World_names : FnScope N_World_names ["self", "folder"] (defScope s_World_names) := ⟨rfl, rfl, rfl, by decide +kernel, rfl, by decide +kernel, by decide +kernel⟩
abbrev N_World_what : List Str := ["self", "folder", "name"]
theorem sc_World_what : FnScope N_World_what ["self", "folder", "name"] (defScope s_World_what) := ⟨rfl, rfl, rfl, by decide +kernel, rfl, by decide +kernel, by decide +kernel⟩
abbrev N_is_name : List Str := ["thing", "letter"]
theorem sc_is_name : FnScope N_is_name ["thing"] (defScope s_is_name) := ⟨rfl, rfl, rfl, by decide +kernel, rfl, by decide +kernel, by decide +kernel⟩
abbrev N_is_number : List Str := ["thing", "bottom"]
theorem sc_is_number : FnScope N_is_number ["thing", "bottom"] (defScope s_is_number) := ⟨rfl, rfl, rfl, by decide +kernel, rfl, by decide +kernel, by decide +kernel⟩
abbrev N_is_form : List Str := ["thing", "folder", "name"]
theorem sc_is_form : FnScope N_is_form ["thing"] (defScope s_is_form) := ⟨rfl, rfl, rfl, by decide +kernel, rfl, by decide +kernel, by decide +kernel⟩
abbrev N_World_can : List Str := ["self", "deed", "word", "rest", "what"]
theorem sc_World_can : FnScope N_World_can ["self", "deed"] (defScope s_World_can) := ⟨rfl, rfl, rfl, by decide +kernel, rfl, by decide +kernel, by decide +kernel⟩
abbrev N_Course_can : List Str := ["self", "deed"]
theorem sc_Course_can : FnScope N_Course_can ["self", "deed"] (defScope s_Course_can) := ⟨rfl, rfl, rfl, by decide +kernel, rfl, by decide +kernel, by decide +kernel⟩
abbrev N_Course_is_stopped : List Str := ["self"]
theorem sc_Course_is_stopped : FnScope N_Course_is_stopped ["self"] (defScope s_Course_is_stopped) := ⟨rfl, rfl, rfl, by decide +kernel, rfl, by decide +kernel, by decide +kernel⟩
abbrev N_has_no_ring : List Str := ["tree", "above", "folder", "here", "steps", "name", "what"]
theorem sc_has_no_ring : FnScope N_has_no_ring ["tree"] (defScope s_has_no_ring) := ⟨rfl, rfl, rfl, by decide +kernel, rfl, by decide +kernel, by decide +kernel⟩
abbrev N_is_tuple : List Str := ["thing", "many"]
theorem sc_is_tuple : FnScope N_is_tuple ["thing", "many"] (defScope s_is_tuple) := ⟨rfl, rfl, rfl, by decide +kernel, rfl, by decide +kernel, by decide +kernel⟩
abbrev N_is_entry : List Str := ["thing"]
theorem sc_is_entry : FnScope N_is_entry ["thing"] (defScope s_is_entry) := ⟨rfl, rfl, rfl, by decide +kernel, rfl, by decide +kernel, by decide +kernel⟩
abbrev N_is_tree : List Str := ["thing", "places", "numbers", "part"]
theorem sc_is_tree : FnScope N_is_tree ["thing"] (defScope s_is_tree) := ⟨rfl, rfl, rfl, by decide +kernel, rfl, by decide +kernel, by decide +kernel⟩
abbrev N_is_plan : List Str := ["thing", "course", "deed"]
theorem sc_is_plan : FnScope N_is_plan ["thing"] (defScope s_is_plan) := ⟨rfl, rfl, rfl, by decide +kernel, rfl, by decide +kernel, by decide +kernel⟩
abbrev N_World_path_of : List Str := ["self", "folder", "found", "name"]
theorem sc_World_path_of : FnScope N_World_path_of ["self", "folder"] (defScope s_World_path_of) := ⟨rfl, rfl, rfl, by decide +kernel, rfl, by decide +kernel, by decide +kernel⟩
abbrev N_paths : List Str := ["plan", "many", "found", "folder"]
theorem sc_paths : FnScope N_paths ["plan", "many"] (defScope s_paths) := ⟨rfl, rfl, rfl, by decide +kernel, rfl, by decide +kernel, by decide +kernel⟩
abbrev N__law_moves_right : List Str := ["_law_a", "_law_b", "_law_c", "_law_d", "_law_tree_so", "_law_deeds_so", "_law_plan_so", "_law_due", "_law_k"]
theorem sc__law_moves_right : FnScope N__law_moves_right ["_law_a", "_law_b", "_law_c", "_law_d"] (defScope s__law_moves_right) := ⟨rfl, rfl, rfl, by decide +kernel, rfl, by decide +kernel, by decide +kernel⟩
abbrev N__law_numbers_right : List Str := ["_law_a", "_law_b", "_law_c", "_law_d", "_law_deeds_so", "_law_plan_so", "_law_due", "_law_k"]
theorem sc__law_numbers_right : FnScope N__law_numbers_right ["_law_a", "_law_b", "_law_c", "_law_d"] (defScope s__law_numbers_right) := ⟨rfl, rfl, rfl, by decide +kernel, rfl, by decide +kernel, by decide +kernel⟩
abbrev N__law_take : List Str := ["_law_box_here", "_law_below", "_law_drawn", "_law_once", "_law_far", "_law_twice"]
theorem sc__law_take : FnScope N__law_take ["_law_box_here", "_law_below"] (defScope s__law_take) := ⟨rfl, rfl, rfl, by decide +kernel, rfl, by decide +kernel, by decide +kernel⟩
abbrev N__law_right : List Str := ["_law_box_here", "_law_left", "_law_w", "_law_turn"]
theorem sc__law_right : FnScope N__law_right ["_law_box_here"] (defScope s__law_right) := ⟨rfl, rfl, rfl, by decide +kernel, rfl, by decide +kernel, by decide +kernel⟩
abbrev N_law : List Str := ["_law_script", "_law_cells_here", "_law_k"]
theorem sc_law : FnScope N_law ["_law_script"] (defScope s_law) := ⟨rfl, rfl, rfl, by decide +kernel, rfl, by decide +kernel, by decide +kernel⟩
abbrev FnP (K : PySem.W.Frag) (x q : Str) (st : Stmt) (f : Addr) (fd : FuncData) : Prop := FunD K x q (defArgs st) (defBody st) (defScope st) [] [] f fd
structure Tx (P : Program) (w : World) (K : PySem.W.Frag) (mg : Str → Option Value) (F : Fx) where
  hP : F.P = P
  hw : F.w = w
  hL : F.lits = LITS
  a__law_box : Addr
  d__law_box : FuncData
  F__law_box : FnP K "_law_box" "_law_box" s__law_box a__law_box d__law_box
  g__law_box : mg "_law_box" = some (.ref a__law_box)
  a__law_cells : Addr
  d__law_cells : FuncData
  F__law_cells : FnP K "_law_cells" "_law_cells" s__law_cells a__law_cells d__law_cells
  g__law_cells : mg "_law_cells" = some (.ref a__law_cells)
  a__law_same : Addr
  d__law_same : FuncData
  F__law_same : FnP K "_law_same" "_law_same" s__law_same a__law_same d__law_same
  g__law_same : mg "_law_same" = some (.ref a__law_same)
  a_World_entries : Addr
  d_World_entries : FuncData
  F_World_entries : FnP K "entries" "World.entries" s_World_entries a_World_entries d_World_entries
  a_World___init__ : Addr
  d_World___init__ : FuncData
  F_World___init__ : FnP K "__init__" "World.__init__" s_World___init__ a_World___init__ d_World___init__
  a_Course___init__ : Addr
  d_Course___init__ : FuncData
  F_Course___init__ : FnP K "__init__" "Course.__init__" s_Course___init__ a_Course___init__ d_Course___init__
  a_World_do : Addr
  d_World_do : FuncData
  F_World_do : FnP K "do" "World.do" s_World_do a_World_do d_World_do
  a_Course_do : Addr
  d_Course_do : FuncData
  F_Course_do : FnP K "do" "Course.do" s_Course_do a_Course_do d_Course_do
  a_Course_world : Addr
  d_Course_world : FuncData
  F_Course_world : FnP K "world" "Course.world" s_Course_world a_Course_world d_Course_world
  a_tupled : Addr
  d_tupled : FuncData
  F_tupled : FnP K "tupled" "tupled" s_tupled a_tupled d_tupled
  g_tupled : mg "tupled" = some (.ref a_tupled)
  a_world_behind : Addr
  d_world_behind : FuncData
  F_world_behind : FnP K "world_behind" "world_behind" s_world_behind a_world_behind d_world_behind
  g_world_behind : mg "world_behind" = some (.ref a_world_behind)
  a_entries : Addr
  d_entries : FuncData
  F_entries : FnP K "entries" "entries" s_entries a_entries d_entries
  g_entries : mg "entries" = some (.ref a_entries)
  a_World_folders : Addr
  d_World_folders : FuncData
  F_World_folders : FnP K "folders" "World.folders" s_World_folders a_World_folders d_World_folders
  a_World_is_free : Addr
  d_World_is_free : FuncData
  F_World_is_free : FnP K "is_free" "World.is_free" s_World_is_free a_World_is_free d_World_is_free
  a_World_place_of : Addr
  d_World_place_of : FuncData
  F_World_place_of : FnP K "place_of" "World.place_of" s_World_place_of a_World_place_of d_World_place_of
  a_World_is_within : Addr
  d_World_is_within : FuncData
  F_World_is_within : FnP K "is_within" "World.is_within" s_World_is_within a_World_is_within d_World_is_within
  a_World_names : Addr
  d_World_names : FuncData
  F_World_names : FnP K "names" "World.names" s_World_names a_World_names d_World_names
  a_World_what : Addr
  d_World_what : FuncData
  F_World_what : FnP K "what" "World.what" s_World_what a_World_what d_World_what
  a_is_name : Addr
  d_is_name : FuncData
  F_is_name : FnP K "is_name" "is_name" s_is_name a_is_name d_is_name
  g_is_name : mg "is_name" = some (.ref a_is_name)
  a_is_number : Addr
  d_is_number : FuncData
  F_is_number : FnP K "is_number" "is_number" s_is_number a_is_number d_is_number
  g_is_number : mg "is_number" = some (.ref a_is_number)
  a_is_form : Addr
  d_is_form : FuncData
  F_is_form : FnP K "is_form" "is_form" s_is_form a_is_form d_is_form
  g_is_form : mg "is_form" = some (.ref a_is_form)
  a_World_can : Addr
  d_World_can : FuncData
  F_World_can : FnP K "can" "World.can" s_World_can a_World_can d_World_can
  a_Course_can : Addr
  d_Course_can : FuncData
  F_Course_can : FnP K "can" "Course.can" s_Course_can a_Course_can d_Course_can
  a_Course_is_stopped : Addr
  d_Course_is_stopped : FuncData
  F_Course_is_stopped : FnP K "is_stopped" "Course.is_stopped" s_Course_is_stopped a_Course_is_stopped d_Course_is_stopped
  a_has_no_ring : Addr
  d_has_no_ring : FuncData
  F_has_no_ring : FnP K "has_no_ring" "has_no_ring" s_has_no_ring a_has_no_ring d_has_no_ring
  g_has_no_ring : mg "has_no_ring" = some (.ref a_has_no_ring)
  a_is_tuple : Addr
  d_is_tuple : FuncData
  F_is_tuple : FnP K "is_tuple" "is_tuple" s_is_tuple a_is_tuple d_is_tuple
  g_is_tuple : mg "is_tuple" = some (.ref a_is_tuple)
  a_is_entry : Addr
  d_is_entry : FuncData
  F_is_entry : FnP K "is_entry" "is_entry" s_is_entry a_is_entry d_is_entry
  g_is_entry : mg "is_entry" = some (.ref a_is_entry)
  a_is_tree : Addr
  d_is_tree : FuncData
  F_is_tree : FnP K "is_tree" "is_tree" s_is_tree a_is_tree d_is_tree
  g_is_tree : mg "is_tree" = some (.ref a_is_tree)
  a_is_plan : Addr
  d_is_plan : FuncData
  F_is_plan : FnP K "is_plan" "is_plan" s_is_plan a_is_plan d_is_plan
  g_is_plan : mg "is_plan" = some (.ref a_is_plan)
  a_World_path_of : Addr
  d_World_path_of : FuncData
  F_World_path_of : FnP K "path_of" "World.path_of" s_World_path_of a_World_path_of d_World_path_of
  a_paths : Addr
  d_paths : FuncData
  F_paths : FnP K "paths" "paths" s_paths a_paths d_paths
  g_paths : mg "paths" = some (.ref a_paths)
  a__law_moves_right : Addr
  d__law_moves_right : FuncData
  F__law_moves_right : FnP K "_law_moves_right" "_law_moves_right" s__law_moves_right a__law_moves_right d__law_moves_right
  g__law_moves_right : mg "_law_moves_right" = some (.ref a__law_moves_right)
  a__law_numbers_right : Addr
  d__law_numbers_right : FuncData
  F__law_numbers_right : FnP K "_law_numbers_right" "_law_numbers_right" s__law_numbers_right a__law_numbers_right d__law_numbers_right
  g__law_numbers_right : mg "_law_numbers_right" = some (.ref a__law_numbers_right)
  a__law_take : Addr
  d__law_take : FuncData
  F__law_take : FnP K "_law_take" "_law_take" s__law_take a__law_take d__law_take
  g__law_take : mg "_law_take" = some (.ref a__law_take)
  a__law_right : Addr
  d__law_right : FuncData
  F__law_right : FnP K "_law_right" "_law_right" s__law_right a__law_right d__law_right
  g__law_right : mg "_law_right" = some (.ref a__law_right)
  a_law : Addr
  d_law : FuncData
  F_law : FnP K "law" "law" s_law a_law d_law
  g_law : mg "law" = some (.ref a_law)
  g_World : mg "World" = some (.ref (F.C 1))
  hf_World : F.fld 1 = none
  sc_World : SlX.SCls K (F.C 1)
  sl_World_own_next : ∃ p, SlX.Slot1 K (F.C 1) "own_next" p 0
  sl_World_own_places : ∃ p, SlX.Slot1 K (F.C 1) "own_places" p 1
  me_World_entries : Meth K (F.C 1) "entries" a_World_entries
  mk_World : Mk K (F.C 1) a_World___init__
  me_World_do : Meth K (F.C 1) "do" a_World_do
  me_World_folders : Meth K (F.C 1) "folders" a_World_folders
  me_World_is_free : Meth K (F.C 1) "is_free" a_World_is_free
  me_World_place_of : Meth K (F.C 1) "place_of" a_World_place_of
  me_World_is_within : Meth K (F.C 1) "is_within" a_World_is_within
  me_World_names : Meth K (F.C 1) "names" a_World_names
  me_World_what : Meth K (F.C 1) "what" a_World_what
  me_World_can : Meth K (F.C 1) "can" a_World_can
  me_World_path_of : Meth K (F.C 1) "path_of" a_World_path_of
  g_Course : mg "Course" = some (.ref (F.C 2))
  hf_Course : F.fld 2 = none
  sc_Course : SlX.SCls K (F.C 2)
  sl_Course_own_stopped : ∃ p, SlX.Slot1 K (F.C 2) "own_stopped" p 0
  sl_Course_own_world : ∃ p, SlX.Slot1 K (F.C 2) "own_world" p 1
  mk_Course : Mk K (F.C 2) a_Course___init__
  me_Course_do : Meth K (F.C 2) "do" a_Course_do
  me_Course_world : Meth K (F.C 2) "world" a_Course_world
  me_Course_can : Meth K (F.C 2) "can" a_Course_can
  me_Course_is_stopped : Meth K (F.C 2) "is_stopped" a_Course_is_stopped
  n_abs : mg "abs" = none
  n_all : mg "all" = none
  n_bool : mg "bool" = none
  n_dict : mg "dict" = none
  n_enumerate : mg "enumerate" = none
  n_int : mg "int" = none
  n_isinstance : mg "isinstance" = none
  n_len : mg "len" = none
  n_list : mg "list" = none
  n_max : mg "max" = none
  n_range : mg "range" = none
  n_set : mg "set" = none
  n_sorted : mg "sorted" = none
  n_str : mg "str" = none
  n_tuple : mg "tuple" = none
  n_zip : mg "zip" = none
  c_DROP : ∃ t, mg "DROP" = some (.str "drop" t)
  c_FILE : ∃ t, mg "FILE" = some (.int (-1) t)
  c_LETTERS : ∃ t, mg "LETTERS" = some (.str "abcdefghijklmnopqrstuvwxyz" t)
  c_LONG_PARTS : ∃ t, mg "LONG_PARTS" = some (.int (5) t)
  c_MAKE : ∃ t, mg "MAKE" = some (.str "make" t)
  c_MOST_LETTERS : ∃ t, mg "MOST_LETTERS" = some (.int (8) t)
  c_MOVE : ∃ t, mg "MOVE" = some (.str "move" t)
  c_PUT : ∃ t, mg "PUT" = some (.str "put" t)
  c_ROOT : ∃ t, mg "ROOT" = some (.int (0) t)
  c_SHORT_PARTS : ∃ t, mg "SHORT_PARTS" = some (.int (3) t)
  c_START : ∃ t, mg "START" = some (.str "start" t)
  c_STOP : ∃ t, mg "STOP" = some (.str "stop" t)
theorem bd__law_box {K : PySem.W.Frag} {f : Addr} {fd : FuncData} (F : FnP K "_law_box" "_law_box" s__law_box f fd) : Binds K fd ["_law_script", "_law_k"] [] := F.bindsN fun _ _ _ _ _ _ us hl => match us, hl with | [_, _], _ => rfl
theorem bd__law_cells {K : PySem.W.Frag} {f : Addr} {fd : FuncData} (F : FnP K "_law_cells" "_law_cells" s__law_cells f fd) : Binds K fd ["_law_script", "_law_most"] [] := F.bindsN fun _ _ _ _ _ _ us hl => match us, hl with | [_, _], _ => rfl
theorem bd__law_same {K : PySem.W.Frag} {f : Addr} {fd : FuncData} (F : FnP K "_law_same" "_law_same" s__law_same f fd) : Binds K fd ["_law_found", "_law_due"] [] := F.bindsN fun _ _ _ _ _ _ us hl => match us, hl with | [_, _], _ => rfl
theorem bd_World_entries {K : PySem.W.Frag} {f : Addr} {fd : FuncData} (F : FnP K "entries" "World.entries" s_World_entries f fd) : Binds K fd ["self"] [] := F.bindsN fun _ _ _ _ _ _ us hl => match us, hl with | [_], _ => rfl
theorem bd_World___init__ {K : PySem.W.Frag} {f : Addr} {fd : FuncData} (F : FnP K "__init__" "World.__init__" s_World___init__ f fd) : Binds K fd ["self", "tree"] [] := F.bindsN fun _ _ _ _ _ _ us hl => match us, hl with | [_, _], _ => rfl
theorem bd_Course___init__ {K : PySem.W.Frag} {f : Addr} {fd : FuncData} (F : FnP K "__init__" "Course.__init__" s_Course___init__ f fd) : Binds K fd ["self", "tree"] [] := F.bindsN fun _ _ _ _ _ _ us hl => match us, hl with | [_, _], _ => rfl
theorem bd_World_do {K : PySem.W.Frag} {f : Addr} {fd : FuncData} (F : FnP K "do" "World.do" s_World_do f fd) : Binds K fd ["self", "deed"] [] := F.bindsN fun _ _ _ _ _ _ us hl => match us, hl with | [_, _], _ => rfl
theorem bd_Course_do {K : PySem.W.Frag} {f : Addr} {fd : FuncData} (F : FnP K "do" "Course.do" s_Course_do f fd) : Binds K fd ["self", "deed"] [] := F.bindsN fun _ _ _ _ _ _ us hl => match us, hl with | [_, _], _ => rfl
theorem bd_Course_world {K : PySem.W.Frag} {f : Addr} {fd : FuncData} (F : FnP K "world" "Course.world" s_Course_world f fd) : Binds K fd ["self"] [] := F.bindsN fun _ _ _ _ _ _ us hl => match us, hl with | [_], _ => rfl
theorem bd_tupled {K : PySem.W.Frag} {f : Addr} {fd : FuncData} (F : FnP K "tupled" "tupled" s_tupled f fd) : Binds K fd ["thing"] [] := F.bindsN fun _ _ _ _ _ _ us hl => match us, hl with | [_], _ => rfl
theorem bd_world_behind {K : PySem.W.Frag} {f : Addr} {fd : FuncData} (F : FnP K "world_behind" "world_behind" s_world_behind f fd) : Binds K fd ["plan", "many"] [] := F.bindsN fun _ _ _ _ _ _ us hl => match us, hl with | [_, _], _ => rfl
theorem bd_entries {K : PySem.W.Frag} {f : Addr} {fd : FuncData} (F : FnP K "entries" "entries" s_entries f fd) : Binds K fd ["plan", "many"] [] := F.bindsN fun _ _ _ _ _ _ us hl => match us, hl with | [_, _], _ => rfl
theorem bd_World_folders {K : PySem.W.Frag} {f : Addr} {fd : FuncData} (F : FnP K "folders" "World.folders" s_World_folders f fd) : Binds K fd ["self"] [] := F.bindsN fun _ _ _ _ _ _ us hl => match us, hl with | [_], _ => rfl
theorem bd_World_is_free {K : PySem.W.Frag} {f : Addr} {fd : FuncData} (F : FnP K "is_free" "World.is_free" s_World_is_free f fd) : Binds K fd ["self", "folder", "name"] [] := F.bindsN fun _ _ _ _ _ _ us hl => match us, hl with | [_, _, _], _ => rfl
theorem bd_World_place_of {K : PySem.W.Frag} {f : Addr} {fd : FuncData} (F : FnP K "place_of" "World.place_of" s_World_place_of f fd) : Binds K fd ["self", "folder"] [] := F.bindsN fun _ _ _ _ _ _ us hl => match us, hl with | [_, _], _ => rfl
theorem bd_World_is_within {K : PySem.W.Frag} {f : Addr} {fd : FuncData} (F : FnP K "is_within" "World.is_within" s_World_is_within f fd) : Binds K fd ["self", "folder", "other"] [] := F.bindsN fun _ _ _ _ _ _ us hl => match us, hl with | [_, _, _], _ => rfl
theorem bd_World_names {K : PySem.W.Frag} {f : Addr} {fd : FuncData} (F : FnP K "names" "World.names" s_World_names f fd) : Binds K fd ["self", "folder"] [] := F.bindsN fun _ _ _ _ _ _ us hl => match us, hl with | [_, _], _ => rfl
theorem bd_World_what {K : PySem.W.Frag} {f : Addr} {fd : FuncData} (F : FnP K "what" "World.what" s_World_what f fd) : Binds K fd ["self", "folder", "name"] [] := F.bindsN fun _ _ _ _ _ _ us hl => match us, hl with | [_, _, _], _ => rfl
theorem bd_is_name {K : PySem.W.Frag} {f : Addr} {fd : FuncData} (F : FnP K "is_name" "is_name" s_is_name f fd) : Binds K fd ["thing"] [] := F.bindsN fun _ _ _ _ _ _ us hl => match us, hl with | [_], _ => rfl
theorem bd_is_number {K : PySem.W.Frag} {f : Addr} {fd : FuncData} (F : FnP K "is_number" "is_number" s_is_number f fd) : Binds K fd ["thing", "bottom"] [] := F.bindsN fun _ _ _ _ _ _ us hl => match us, hl with | [_, _], _ => rfl
theorem bd_is_form {K : PySem.W.Frag} {f : Addr} {fd : FuncData} (F : FnP K "is_form" "is_form" s_is_form f fd) : Binds K fd ["thing"] [] := F.bindsN fun _ _ _ _ _ _ us hl => match us, hl with | [_], _ => rfl
theorem bd_World_can {K : PySem.W.Frag} {f : Addr} {fd : FuncData} (F : FnP K "can" "World.can" s_World_can f fd) : Binds K fd ["self", "deed"] [] := F.bindsN fun _ _ _ _ _ _ us hl => match us, hl with | [_, _], _ => rfl
theorem bd_Course_can {K : PySem.W.Frag} {f : Addr} {fd : FuncData} (F : FnP K "can" "Course.can" s_Course_can f fd) : Binds K fd ["self", "deed"] [] := F.bindsN fun _ _ _ _ _ _ us hl => match us, hl with | [_, _], _ => rfl
theorem bd_Course_is_stopped {K : PySem.W.Frag} {f : Addr} {fd : FuncData} (F : FnP K "is_stopped" "Course.is_stopped" s_Course_is_stopped f fd) : Binds K fd ["self"] [] := F.bindsN fun _ _ _ _ _ _ us hl => match us, hl with | [_], _ => rfl
theorem bd_has_no_ring {K : PySem.W.Frag} {f : Addr} {fd : FuncData} (F : FnP K "has_no_ring" "has_no_ring" s_has_no_ring f fd) : Binds K fd ["tree"] [] := F.bindsN fun _ _ _ _ _ _ us hl => match us, hl with | [_], _ => rfl
theorem bd_is_tuple {K : PySem.W.Frag} {f : Addr} {fd : FuncData} (F : FnP K "is_tuple" "is_tuple" s_is_tuple f fd) : Binds K fd ["thing", "many"] [] := F.bindsN fun _ _ _ _ _ _ us hl => match us, hl with | [_, _], _ => rfl
theorem bd_is_entry {K : PySem.W.Frag} {f : Addr} {fd : FuncData} (F : FnP K "is_entry" "is_entry" s_is_entry f fd) : Binds K fd ["thing"] [] := F.bindsN fun _ _ _ _ _ _ us hl => match us, hl with | [_], _ => rfl
theorem bd_is_tree {K : PySem.W.Frag} {f : Addr} {fd : FuncData} (F : FnP K "is_tree" "is_tree" s_is_tree f fd) : Binds K fd ["thing"] [] := F.bindsN fun _ _ _ _ _ _ us hl => match us, hl with | [_], _ => rfl
theorem bd_is_plan {K : PySem.W.Frag} {f : Addr} {fd : FuncData} (F : FnP K "is_plan" "is_plan" s_is_plan f fd) : Binds K fd ["thing"] [] := F.bindsN fun _ _ _ _ _ _ us hl => match us, hl with | [_], _ => rfl
theorem bd_World_path_of {K : PySem.W.Frag} {f : Addr} {fd : FuncData} (F : FnP K "path_of" "World.path_of" s_World_path_of f fd) : Binds K fd ["self", "folder"] [] := F.bindsN fun _ _ _ _ _ _ us hl => match us, hl with | [_, _], _ => rfl
theorem bd_paths {K : PySem.W.Frag} {f : Addr} {fd : FuncData} (F : FnP K "paths" "paths" s_paths f fd) : Binds K fd ["plan", "many"] [] := F.bindsN fun _ _ _ _ _ _ us hl => match us, hl with | [_, _], _ => rfl
theorem bd__law_moves_right {K : PySem.W.Frag} {f : Addr} {fd : FuncData} (F : FnP K "_law_moves_right" "_law_moves_right" s__law_moves_right f fd) : Binds K fd ["_law_a", "_law_b", "_law_c", "_law_d"] [] := F.bindsN fun _ _ _ _ _ _ us hl => match us, hl with | [_, _, _, _], _ => rfl
theorem bd__law_numbers_right {K : PySem.W.Frag} {f : Addr} {fd : FuncData} (F : FnP K "_law_numbers_right" "_law_numbers_right" s__law_numbers_right f fd) : Binds K fd ["_law_a", "_law_b", "_law_c", "_law_d"] [] := F.bindsN fun _ _ _ _ _ _ us hl => match us, hl with | [_, _, _, _], _ => rfl
theorem bd__law_take {K : PySem.W.Frag} {f : Addr} {fd : FuncData} (F : FnP K "_law_take" "_law_take" s__law_take f fd) : Binds K fd ["_law_box_here", "_law_below"] [] := F.bindsN fun _ _ _ _ _ _ us hl => match us, hl with | [_, _], _ => rfl
theorem bd__law_right {K : PySem.W.Frag} {f : Addr} {fd : FuncData} (F : FnP K "_law_right" "_law_right" s__law_right f fd) : Binds K fd ["_law_box_here"] [] := F.bindsN fun _ _ _ _ _ _ us hl => match us, hl with | [_], _ => rfl
theorem bd_law {K : PySem.W.Frag} {f : Addr} {fd : FuncData} (F : FnP K "law" "law" s_law f fd) : Binds K fd ["_law_script"] [] := F.bindsN fun _ _ _ _ _ _ us hl => match us, hl with | [_], _ => rfl
def b__law_box : Sm :=
    (sSeq (sSet 2 (vIfM (mTest (mBin fLt (vVar 1) (mApp fLen (mCons (vVar 0) mNil)))) (mBin fIx (vVar 0) (vVar 1)) (vC (.int 0))))
    (sRet (mApp fLst (mCons (mBin fMul (mApp fAbs (mCons (vVar 2) mNil)) (mApp fInt (mCons (mBin fGe (mApp fAbs (mCons (vVar 2) mNil)) (mBin fPow (vC (.int 10)) (vC (.int 18)))) mNil))) (mCons (mBin fAdd (mBin fAdd (mBin fMod (mApp fInt (mCons (vVar 2) mNil)) (vC (.int 2305843009213693951))) (mBin fMul (vC (.int 39373)) (vVar 1))) (vC (.int 179))) (mCons (vC (.int 0)) mNil))))))
def m__law_box : List W → LH → Option (W × LH) := fnZ 1 b__law_box

def b__law_cells : Sm :=
    (sSeq (sSet 2 (vOrM (mApp fList (mCons (mSlice (vVar 0) oNone (oSome (vVar 1))) mNil)) (mApp fLst (mCons (vC (.int 0)) mNil))))
    (sSeq (sFor (iEnumM (mSlice (vVar 0) (oSome (vVar 1)) (oSome (vC (.int 63))))) (gTupM 2 (gConsM (gSet 3) (gConsM (gSet 4) gNilM))) (sSeq (sSet 5 (mBin fMod (mApp fInt (mCons (vVar 3) mNil)) (vVar 1)))
    (sAsg (mBin fAdd (mBin fIx (vVar 2) (vVar 5)) (mBin fMul (vVar 4) (mBin fAdd (vVar 3) (vC (.int 2))))) (gIx (vVar 2) (vVar 5)))))
    (sRet (vVar 2))))
def m__law_cells : List W → LH → Option (W × LH) := fnZ 4 b__law_cells

def b__law_same (fl__law_same : List W → LH → Option (W × LH)) : Sm :=
    (sSeq (sIf (mTruth (mAlt (mUn (fIsi2 .list .tuple) (vVar 1)) (mUn (fIsi2D .list .tuple) (vVar 1)))) (sSeq (sIf (tOrM (mTest (mBin fNe (mAlt (mUn (fIsi .list) (vVar 0)) (mUn (fIsiD .list) (vVar 0))) (mAlt (mUn (fIsi .list) (vVar 1)) (mUn (fIsiD .list) (vVar 1))))) (mTest (mBin fNe (mAlt (mUn (fIsi .tuple) (vVar 0)) (mUn (fIsiD .tuple) (vVar 0))) (mAlt (mUn (fIsi .tuple) (vVar 1)) (mUn (fIsiD .tuple) (vVar 1)))))) (sRet (vC (.bl false))) sNil)
    (sRet (vAndM (mBin fEq (mApp (fOr1 fLen fLenD) (mCons (vVar 0) mNil)) (mApp (fOr1 fLen fLenD) (mCons (vVar 1) mNil))) (mApp fAll (mCons (vLc (iZipA (vVar 0) (vVar 1)) [2, 3] (gTupM 2 (gConsM (gSet 2) (gConsM (gSet 3) gNilM))) tYesM (mApp (fN 2 fl__law_same) (mCons (vVar 2) (mCons (vVar 3) mNil)))) mNil))))) sNil)
    (sSeq (sIf (mTruth (mAlt (mUn (fIsi .dict) (vVar 1)) (mUn (fIsiD .dict) (vVar 1)))) (sSeq (sIf (tOrM (tNotM (mTruth (mAlt (mUn (fIsi .dict) (vVar 0)) (mUn (fIsiD .dict) (vVar 0))))) (mTest (mBin fNe (mApp fSorted (mCons (vVar 0) mNil)) (mApp fSortedD (mCons (vVar 1) mNil))))) (sRet (vC (.bl false))) sNil)
    (sRet (mApp fAll (mCons (eLock (vVar 1) (vLc (iDk (vVar 1)) [4] (gSet 4) tYesM (mApp (fN 2 fl__law_same) (mCons (mBin fSub2 (vVar 0) (vVar 4)) (mCons (mBin fDGet (vVar 1) (vVar 4)) mNil))))) mNil)))) sNil)
    (sSeq (sIf (tOrM (mTest (mBin fIsN (vVar 1) (vC .non))) (mTruth (mAlt (mUn (fIsi2 .bool .str) (vVar 1)) (mUn (fIsi2D .bool .str) (vVar 1))))) (sRet (vAndM (mBin fEq (vVar 0) (vVar 1)) (vAndM (mBin fEq (mAlt (mUn (fIsi .bool) (vVar 0)) (mUn (fIsiD .bool) (vVar 0))) (mAlt (mUn (fIsi .bool) (vVar 1)) (mUn (fIsiD .bool) (vVar 1)))) (mBin fEq (mBin fIsN (vVar 0) (vC .non)) (mBin fIsN (vVar 1) (vC .non)))))) sNil)
    (sRet (vAndM (mAlt (mUn (fIsi .int) (vVar 0)) (mUn (fIsiD .int) (vVar 0))) (vAndM (vNotM (mAlt (mUn (fIsi .bool) (vVar 0)) (mUn (fIsiD .bool) (vVar 0)))) (mBin fEq (vVar 0) (vVar 1))))))))
def m__law_same : Nat → List W → LH → Option (W × LH)
  | 0 => fun _ _ => none
  | n + 1 => fnZ 3 (b__law_same (m__law_same n))

def b_World_entries : Sm :=
    (sRet (mApp fTuple (mCons (vLc (iVal (mApp fSortedD (mCons (mAttr 1 1 (vVar 0)) mNil))) [1] (gSet 1) tYesM (mBin fAdd (vVar 1) (mApp fTup (mCons (mBin fDGet (mAttr 1 1 (vVar 0)) (vVar 1)) mNil)))) mNil)))
def m_World_entries : List W → LH → Option (W × LH) := fnZ 1 b_World_entries

def b_World___init__ : Sm :=
    (sSeq (sAttr 1 1 (vVar 0) (vDc (iVal (vVar 1)) [2, 3, 4] (gTupM 3 (gConsM (gSet 2) (gConsM (gSet 3) (gConsM (gSet 4) gNilM)))) tYesM (mApp fTup (mCons (vVar 2) (mCons (vVar 3) mNil))) (vVar 4)))
    (sAttr 1 0 (vVar 0) (mBin fAdd (vC (.int 1)) (mAppB fMaxD (mCons (vLc (iVal (vVar 1)) [2, 3, 4] (gTupM 3 (gConsM (gSet 2) (gConsM (gSet 3) (gConsM (gSet 4) gNilM)))) (mTest (mBin fNe (vVar 4) (vC (.int (-1))))) (vVar 4)) mNil) (mCons (vC (.int (0))) mNil)))))
def m_World___init__ : List W → LH → Option (W × LH) := fnZ 3 b_World___init__

def b_Course___init__ : Sm :=
    (sSeq (sAttr 2 1 (vVar 0) (mMake 1 2 2 m_World___init__ (mCons (vVar 1) mNil)))
    (sAttr 2 0 (vVar 0) (vC (.bl false))))
def m_Course___init__ : List W → LH → Option (W × LH) := fnZ 0 b_Course___init__

def b_World_do : Sm :=
    (sSeq (sPar 2 3 (mBin fIx (vVar 1) (vC (.int 0))) (mSlice (vVar 1) (oSome (vC (.int 1))) oNone))
    (sIf (mTest (mBin fEq (vVar 2) (vC (.str 7)))) (sAsg (vC (.int (-1))) (gDx (mAttr 1 1 (vVar 0)) (vVar 3))) (sIf (mTest (mBin fEq (vVar 2) (vC (.str 5)))) (sSeq (sAsg (mAttr 1 0 (vVar 0)) (gDx (mAttr 1 1 (vVar 0)) (vVar 3)))
    (sAttrAug 1 0 fAddI (vVar 0) (vC (.int 1)))) (sSeq (sSet 4 (mMt isD fDPop (mAttr 1 1 (vVar 0)) (mCons (mSlice (vVar 3) oNone (oSome (vC (.int 2)))) mNil)))
    (sIf (mTest (mBin fEq (vVar 2) (vC (.str 6)))) (sAsg (vVar 4) (gDx (mAttr 1 1 (vVar 0)) (mSlice (vVar 3) (oSome (vC (.int 2))) oNone))) sNil)))))
def m_World_do : List W → LH → Option (W × LH) := fnZ 3 b_World_do

def b_Course_do : Sm :=
    (sIf (mTest (mBin fIn2 (mBin fIx (vVar 1) (vC (.int 0))) (mApp fTup (mCons (vC (.str 9)) (mCons (vC (.str 8)) mNil))))) (sAttr 2 0 (vVar 0) (mBin fEq (mBin fIx (vVar 1) (vC (.int 0))) (vC (.str 9)))) (sExpr (mMeth 1 2 m_World_do (mAttr 2 1 (vVar 0)) (mCons (vVar 1) mNil))))
def m_Course_do : List W → LH → Option (W × LH) := fnZ 0 b_Course_do

def b_Course_world : Sm :=
    (sRet (mAttr 2 1 (vVar 0)))
def m_Course_world : List W → LH → Option (W × LH) := fnZ 0 b_Course_world

def b_tupled (fl_tupled : List W → LH → Option (W × LH)) : Sm :=
    (sRet (vIfM (mTruth (mUn (fIsi2 .list .tuple) (vVar 0))) (mApp fTuple (mCons (vLc (iVal (vVar 0)) [1] (gSet 1) tYesM (mApp (fN 1 fl_tupled) (mCons (vVar 1) mNil))) mNil)) (vVar 0)))
def m_tupled : Nat → List W → LH → Option (W × LH)
  | 0 => fun _ _ => none
  | n + 1 => fnZ 1 (b_tupled (m_tupled n))

def b_world_behind : Sm :=
    (sSeq (sAsg (mApp (fN 1 (m_tupled 6)) (mCons (vVar 0) mNil)) (gTupM 2 (gConsM (gSet 2) (gConsM (gSet 3) gNilM))))
    (sSeq (sIf (tNotM (mTest (mChain fLe fLe (vC (.int 0)) (vVar 1) (mApp fLen (mCons (vVar 3) mNil))))) sBad sNil)
    (sSeq (sSet 4 (mMake 2 2 2 m_Course___init__ (mCons (vVar 2) mNil)))
    (sSeq (sFor (iVal (mSlice (vVar 3) oNone (oSome (vVar 1)))) (gSet 5) (sExpr (mMeth 2 2 m_Course_do (vVar 4) (mCons (vVar 5) mNil))))
    (sRet (mMeth 2 1 m_Course_world (vVar 4) mNil))))))
def m_world_behind : List W → LH → Option (W × LH) := fnZ 4 b_world_behind

def b_entries : Sm :=
    (sRet (mMeth 1 1 m_World_entries (mApp (fN 2 m_world_behind) (mCons (vVar 0) (mCons (vVar 1) mNil))) mNil))
def m_entries : List W → LH → Option (W × LH) := fnZ 0 b_entries

def b_World_folders : Sm :=
    (sRet (mBin fAdd (mApp fLst (mCons (vC (.int (0))) mNil)) (mApp fSorted (mCons (vLc (iVal (mListVals (mAttr 1 1 (vVar 0)))) [1] (gSet 1) (mTest (mBin fNe (vVar 1) (vC (.int (-1))))) (vVar 1)) mNil))))
def m_World_folders : List W → LH → Option (W × LH) := fnZ 1 b_World_folders

def b_World_is_free : Sm :=
    (sRet (vAndM (mBin fIn2 (vVar 1) (mMeth 1 1 m_World_folders (vVar 0) mNil)) (mBin fNotIn2 (mApp fTup (mCons (vVar 1) (mCons (vVar 2) mNil))) (mAttr 1 1 (vVar 0)))))
def m_World_is_free : List W → LH → Option (W × LH) := fnZ 0 b_World_is_free

def b_World_place_of : Sm :=
    (sRet (mBin fIx (eLock (mAttr 1 1 (vVar 0)) (vLc (iDi (mAttr 1 1 (vVar 0))) [2, 3] (gTupM 2 (gConsM (gSet 2) (gConsM (gSet 3) gNilM))) (mTest (mBin fEq (vVar 3) (vVar 1))) (vVar 2))) (vC (.int 0))))
def m_World_place_of : List W → LH → Option (W × LH) := fnZ 2 b_World_place_of

def b_World_is_within : Sm :=
    (sSeq (sWhile (mTest (mBin fNotIn2 (vVar 1) (mApp fTup (mCons (vC (.int (0))) (mCons (vVar 2) mNil))))) (sSet 1 (mBin fIx (mMeth 1 2 m_World_place_of (vVar 0) (mCons (vVar 1) mNil)) (vC (.int 0)))))
    (sRet (mBin fEq (vVar 1) (vVar 2))))
def m_World_is_within : List W → LH → Option (W × LH) := fnZ 0 b_World_is_within

def b_World_names : Sm :=
    (sRet (mApp fSorted (mCons (eLock (mAttr 1 1 (vVar 0)) (vLc (iDk (mAttr 1 1 (vVar 0))) [2, 3] (gTupM 2 (gConsM (gSet 2) (gConsM (gSet 3) gNilM))) (mTest (mBin fEq (vVar 2) (vVar 1))) (vVar 3))) mNil)))
def m_World_names : List W → LH → Option (W × LH) := fnZ 2 b_World_names

def b_World_what : Sm :=
    (sRet (mMt isD fDGetM (mAttr 1 1 (vVar 0)) (mCons (mApp fTup (mCons (vVar 1) (mCons (vVar 2) mNil))) mNil)))
def m_World_what : List W → LH → Option (W × LH) := fnZ 0 b_World_what

def b_is_name : Sm :=
    (sSeq (sIf (tOrM (tNotM (mTruth (mUn (fIsi .str) (vVar 0)))) (tNotM (mTest (vNmLen (vVar 0))))) (sRet (vC (.bl false))) sNil)
    (sRet (vNmAll 1 (vVar 0))))
def m_is_name : List W → LH → Option (W × LH) := fnZ 1 b_is_name

def b_is_number : Sm :=
    (sRet (vAndM (mUn (fIsi .int) (vVar 0)) (vAndM (vNotM (mUn (fIsi .bool) (vVar 0))) (mBin fGe (vVar 0) (vVar 1)))))
def m_is_number : List W → LH → Option (W × LH) := fnZ 0 b_is_number

def b_is_form : Sm :=
    (sSeq (sIf (tOrM (tNotM (mTruth (mUn (fIsi .tuple) (vVar 0)))) (tOrM (mTest (mBin fEq (mApp fLen (mCons (vVar 0) mNil)) (vC (.int 0)))) (tNotM (mTruth (mUn (fIsi .str) (mBin fIx (vVar 0) (vC (.int 0)))))))) (sRet (vC (.bl false))) sNil)
    (sSeq (sIf (mTest (mBin fIn2 (mBin fIx (vVar 0) (vC (.int 0))) (mApp fTup (mCons (vC (.str 9)) (mCons (vC (.str 8)) mNil))))) (sRet (mBin fEq (mApp fLen (mCons (vVar 0) mNil)) (vC (.int 1)))) sNil)
    (sSeq (sIf (mTest (mBin fIn2 (mBin fIx (vVar 0) (vC (.int 0))) (mApp fTup (mCons (vC (.str 5)) (mCons (vC (.str 7)) (mCons (vC (.str 3)) mNil)))))) (sRet (vAndM (mBin fEq (mApp fLen (mCons (vVar 0) mNil)) (vC (.int (3)))) (vAndM (mApp (fN 2 m_is_number) (mCons (mBin fIx (vVar 0) (vC (.int 1))) (mCons (vC (.int (0))) mNil))) (mApp (fN 1 m_is_name) (mCons (mBin fIx (vVar 0) (vC (.int 2))) mNil))))) sNil)
    (sSeq (sIf (tOrM (mTest (mBin fNe (mBin fIx (vVar 0) (vC (.int 0))) (vC (.str 6)))) (mTest (mBin fNe (mApp fLen (mCons (vVar 0) mNil)) (vC (.int (5)))))) (sRet (vC (.bl false))) sNil)
    (sRet (mApp fAll (mCons (vLc (iVal (mApp fTup (mCons (mSlice (vVar 0) (oSome (vC (.int 1))) (oSome (vC (.int 3)))) (mCons (mSlice (vVar 0) (oSome (vC (.int 3))) oNone) mNil)))) [1, 2] (gTupM 2 (gConsM (gSet 1) (gConsM (gSet 2) gNilM))) tYesM (vAndM (mApp (fN 2 m_is_number) (mCons (vVar 1) (mCons (vC (.int (0))) mNil))) (mApp (fN 1 m_is_name) (mCons (vVar 2) mNil)))) mNil)))))))
def m_is_form : List W → LH → Option (W × LH) := fnZ 2 b_is_form

def b_World_can : Sm :=
    (sSeq (sIf (tOrM (tNotM (mTruth (mApp (fN 1 m_is_form) (mCons (vVar 1) mNil)))) (mTest (mBin fIn2 (mBin fIx (vVar 1) (vC (.int 0))) (mApp fTup (mCons (vC (.str 9)) (mCons (vC (.str 8)) mNil)))))) (sRet (vC (.bl false))) sNil)
    (sSeq (sPar 2 3 (mBin fIx (vVar 1) (vC (.int 0))) (mSlice (vVar 1) (oSome (vC (.int 1))) oNone))
    (sSeq (sIf (mTest (mBin fIn2 (vVar 2) (mApp fTup (mCons (vC (.str 5)) (mCons (vC (.str 7)) mNil))))) (sRet (mMeth 1 3 m_World_is_free (vVar 0) (mCons (mBin fIx (vVar 3) (vC (.int 0))) (mCons (mBin fIx (vVar 3) (vC (.int 1))) mNil)))) sNil)
    (sSeq (sSet 4 (mMeth 1 3 m_World_what (vVar 0) (mCons (mBin fIx (vVar 3) (vC (.int 0))) (mCons (mBin fIx (vVar 3) (vC (.int 1))) mNil))))
    (sSeq (sIf (mTest (mBin fIsN (vVar 4) (vC .non))) (sRet (vC (.bl false))) sNil)
    (sSeq (sIf (mTest (mBin fEq (vVar 2) (vC (.str 3)))) (sRet (vOrM (mBin fEq (vVar 4) (vC (.int (-1)))) (mBin fEq (mApp fLen (mCons (mMeth 1 2 m_World_names (vVar 0) (mCons (vVar 4) mNil)) mNil)) (vC (.int 0))))) sNil)
    (sRet (vAndM (mMeth 1 3 m_World_is_free (vVar 0) (mCons (mBin fIx (vVar 3) (vC (.int 2))) (mCons (mBin fIx (vVar 3) (vC (.int 3))) mNil))) (vOrM (mBin fEq (vVar 4) (vC (.int (-1)))) (vNotM (mMeth 1 3 m_World_is_within (vVar 0) (mCons (mBin fIx (vVar 3) (vC (.int 2))) (mCons (vVar 4) mNil)))))))))))))
def m_World_can : List W → LH → Option (W × LH) := fnZ 3 b_World_can

def b_Course_can : Sm :=
    (sSeq (sIf (mTest (mBin fIn2 (vVar 1) (mApp fTup (mCons (mApp fTup (mCons (vC (.str 9)) mNil)) (mCons (mApp fTup (mCons (vC (.str 8)) mNil)) mNil))))) (sRet (mBin fEq (mAttr 2 0 (vVar 0)) (mBin fEq (vVar 1) (mApp fTup (mCons (vC (.str 8)) mNil))))) sNil)
    (sRet (mMeth 1 2 m_World_can (mAttr 2 1 (vVar 0)) (mCons (vVar 1) mNil))))
def m_Course_can : List W → LH → Option (W × LH) := fnZ 0 b_Course_can

def b_Course_is_stopped : Sm :=
    (sRet (mAttr 2 0 (vVar 0)))
def m_Course_is_stopped : List W → LH → Option (W × LH) := fnZ 0 b_Course_is_stopped

def b_has_no_ring : Sm :=
    (sSeq (sSet 1 (vDc (iVal (vVar 0)) [2, 5, 6] (gTupM 3 (gConsM (gSet 2) (gConsM (gSet 5) (gConsM (gSet 6) gNilM)))) (mTest (mBin fNe (vVar 6) (vC (.int (-1))))) (vVar 6) (vVar 2)))
    (sSeq (sLock (vVar 1) (sFor (iDk (vVar 1)) (gSet 2) (sSeq (sPar 3 4 (vVar 2) (vC (.int 0)))
    (sSeq (sWhile (tAndM (mTest (mBin fNe (vVar 3) (vC (.int (0))))) (mTest (mBin fLe (vVar 4) (mApp (fOr1 fLen fLenD) (mCons (vVar 1) mNil))))) (sPar 3 4 (mBin fDGet (vVar 1) (vVar 3)) (mBin fAdd (vVar 4) (vC (.int 1)))))
    (sIf (mTest (mBin fNe (vVar 3) (vC (.int (0))))) (sRet (vC (.bl false))) sNil)))))
    (sRet (vC (.bl true)))))
def m_has_no_ring : List W → LH → Option (W × LH) := fnZ 6 b_has_no_ring

def b_is_tuple : Sm :=
    (sRet (vAndM (mUn (fIsi .tuple) (vVar 0)) (mBin fEq (mApp fLen (mCons (vVar 0) mNil)) (vVar 1))))
def m_is_tuple : List W → LH → Option (W × LH) := fnZ 0 b_is_tuple

def b_is_entry : Sm :=
    (sSeq (sIf (tOrM (tNotM (mTruth (mApp (fN 2 m_is_tuple) (mCons (vVar 0) (mCons (vC (.int (3))) mNil))))) (tOrM (tNotM (mTruth (mApp (fN 2 m_is_number) (mCons (mBin fIx (vVar 0) (vC (.int 0))) (mCons (vC (.int (0))) mNil))))) (tNotM (mTruth (mApp (fN 1 m_is_name) (mCons (mBin fIx (vVar 0) (vC (.int 1))) mNil)))))) (sRet (vC (.bl false))) sNil)
    (sRet (vAndM (mApp (fN 2 m_is_number) (mCons (mBin fIx (vVar 0) (vC (.int 2))) (mCons (vC (.int (-1))) mNil))) (mBin fNe (mBin fIx (vVar 0) (vC (.int 2))) (vC (.int (0)))))))
def m_is_entry : List W → LH → Option (W × LH) := fnZ 0 b_is_entry

def b_is_tree : Sm :=
    (sSeq (sIf (tOrM (tNotM (mTruth (mUn (fIsi .tuple) (vVar 0)))) (tNotM (mTruth (mApp fAll (mCons (vLc (iVal (vVar 0)) [3] (gSet 3) tYesM (mApp (fN 1 m_is_entry) (mCons (vVar 3) mNil))) mNil))))) (sRet (vC (.bl false))) sNil)
    (sSeq (sSet 1 (vLc (iVal (vVar 0)) [3] (gSet 3) tYesM (mSlice (vVar 3) oNone (oSome (vC (.int 2))))))
    (sSeq (sSet 2 (mApp fSorted (mCons (vLc (iVal (vVar 0)) [3] (gSet 3) (mTest (mBin fNe (mBin fIx (vVar 3) (vC (.int 2))) (vC (.int (-1))))) (mBin fIx (vVar 3) (vC (.int 2)))) mNil)))
    (sSeq (sIf (tOrM (mTest (mBin fNe (vVar 1) (vSortSet (vVar 1)))) (mTest (mBin fNe (vVar 2) (vListRg (vC (.int 1)) (mBin fAdd (mApp fLen (mCons (vVar 2) mNil)) (vC (.int 1))))))) (sRet (vC (.bl false))) sNil)
    (sRet (vAndM (mApp fAll (mCons (vLc (iVal (vVar 0)) [3] (gSet 3) tYesM (mBin fLe (mBin fIx (vVar 3) (vC (.int 0))) (mApp fLen (mCons (vVar 2) mNil)))) mNil)) (mApp (fN 1 m_has_no_ring) (mCons (vVar 0) mNil))))))))
def m_is_tree : List W → LH → Option (W × LH) := fnZ 3 b_is_tree

def b_is_plan : Sm :=
    (sSeq (sIf (tOrM (tNotM (mTruth (mApp (fN 2 m_is_tuple) (mCons (vVar 0) (mCons (vC (.int 2)) mNil))))) (tOrM (tNotM (mTruth (mApp (fN 1 m_is_tree) (mCons (mBin fIx (vVar 0) (vC (.int 0))) mNil)))) (tNotM (mTruth (mUn (fIsi .tuple) (mBin fIx (vVar 0) (vC (.int 1)))))))) (sRet (vC (.bl false))) sNil)
    (sSeq (sSet 1 (mMake 2 2 2 m_Course___init__ (mCons (mBin fIx (vVar 0) (vC (.int 0))) mNil)))
    (sSeq (sFor (iVal (mBin fIx (vVar 0) (vC (.int 1)))) (gSet 2) (sSeq (sIf (tNotM (mTruth (mMeth 2 2 m_Course_can (vVar 1) (mCons (vVar 2) mNil)))) (sRet (vC (.bl false))) sNil)
    (sExpr (mMeth 2 2 m_Course_do (vVar 1) (mCons (vVar 2) mNil)))))
    (sRet (vNotM (mMeth 2 1 m_Course_is_stopped (vVar 1) mNil))))))
def m_is_plan : List W → LH → Option (W × LH) := fnZ 2 b_is_plan

def b_World_path_of : Sm :=
    (sSeq (sSet 2 (mApp fTup mNil))
    (sSeq (sIf (mTest (mBin fNotIn2 (vVar 1) (mMeth 1 1 m_World_folders (vVar 0) mNil))) (sRet (vC .non)) sNil)
    (sSeq (sWhile (mTest (mBin fNe (vVar 1) (vC (.int (0))))) (sSeq (sAsg (mMeth 1 2 m_World_place_of (vVar 0) (mCons (vVar 1) mNil)) (gTupM 2 (gConsM (gSet 1) (gConsM (gSet 3) gNilM))))
    (sSet 2 (mBin fAdd (mApp fTup (mCons (vVar 3) mNil)) (vVar 2)))))
    (sRet (vVar 2)))))
def m_World_path_of : List W → LH → Option (W × LH) := fnZ 2 b_World_path_of

def b_paths : Sm :=
    (sSeq (sSet 2 (mApp (fN 2 m_world_behind) (mCons (vVar 0) (mCons (vVar 1) mNil))))
    (sRet (mApp fSorted (mCons (vLc (iVal (mMeth 1 1 m_World_folders (vVar 2) mNil)) [3] (gSet 3) tYesM (mApp fTup (mCons (mMeth 1 2 m_World_path_of (vVar 2) (mCons (vVar 3) mNil)) (mCons (vVar 3) mNil)))) mNil))))
def m_paths : List W → LH → Option (W × LH) := fnZ 2 b_paths

def b__law_moves_right : Sm :=
    (sSeq (sSet 4 (mApp fTup (mCons (mApp fTup (mCons (vC (.int 0)) (mCons (vVar 0) (mCons (vC (.int 1)) mNil)))) (mCons (mApp fTup (mCons (vC (.int 1)) (mCons (vVar 1) (mCons (vC (.int 2)) mNil)))) (mCons (mApp fTup (mCons (vC (.int 2)) (mCons (vVar 2) (mCons (vC (.int 3)) mNil)))) (mCons (mApp fTup (mCons (vC (.int 3)) (mCons (vVar 3) (mCons (mUn fNeg (vC (.int 1))) mNil)))) mNil))))))
    (sSeq (sSet 5 (mApp fTup (mCons (mApp fTup (mCons (vC (.str 6)) (mCons (vC (.int 1)) (mCons (vVar 1) (mCons (vC (.int 0)) (mCons (vVar 2) mNil)))))) (mCons (mApp fTup (mCons (vC (.str 6)) (mCons (vC (.int 0)) (mCons (vVar 0) (mCons (vC (.int 2)) (mCons (vVar 0) mNil)))))) (mCons (mApp fTup (mCons (vC (.str 6)) (mCons (vC (.int 0)) (mCons (vVar 2) (mCons (vC (.int 0)) (mCons (vVar 1) mNil)))))) (mCons (mApp fTup (mCons (vC (.str 6)) (mCons (vC (.int 2)) (mCons (vVar 2) (mCons (vC (.int 1)) (mCons (vVar 2) mNil)))))) mNil))))))
    (sSeq (sSet 6 (mApp fTup (mCons (vVar 4) (mCons (mBin fAdd (vVar 5) (mApp fTup (mCons (mApp fTup (mCons (vC (.str 6)) (mCons (vC (.int 3)) (mCons (vVar 3) (mCons (vC (.int 0)) (mCons (vVar 3) mNil)))))) (mCons (mApp fTup (mCons (vC (.str 6)) (mCons (vC (.int 1)) (mCons (vVar 2) (mCons (vC (.int 2)) (mCons (vVar 3) mNil)))))) (mCons (mApp fTup (mCons (vC (.str 6)) (mCons (vC (.int 2)) (mCons (vVar 0) (mCons (vC (.int 0)) (mCons (vVar 0) mNil)))))) mNil))))) mNil))))
    (sSeq (sSet 7 (mApp fLst (mCons (mApp fLst (mCons (mApp fTup (mCons (mApp fTup mNil) (mCons (vC (.int 0)) mNil))) (mCons (mApp fTup (mCons (mApp fTup (mCons (vVar 0) mNil)) (mCons (vC (.int 1)) mNil))) (mCons (mApp fTup (mCons (mApp fTup (mCons (vVar 0) (mCons (vVar 1) mNil))) (mCons (vC (.int 2)) mNil))) (mCons (mApp fTup (mCons (mApp fTup (mCons (vVar 0) (mCons (vVar 1) (mCons (vVar 2) mNil)))) (mCons (vC (.int 3)) mNil))) mNil))))) (mCons (mApp fLst (mCons (mApp fTup (mCons (mApp fTup mNil) (mCons (vC (.int 0)) mNil))) (mCons (mApp fTup (mCons (mApp fTup (mCons (vVar 0) mNil)) (mCons (vC (.int 1)) mNil))) (mCons (mApp fTup (mCons (mApp fTup (mCons (vVar 2) mNil)) (mCons (vC (.int 2)) mNil))) (mCons (mApp fTup (mCons (mApp fTup (mCons (vVar 2) (mCons (vVar 2) mNil))) (mCons (vC (.int 3)) mNil))) mNil))))) mNil))))
    (sSeq (sSet 7 (mBin fAdd (vVar 7) (mApp fLst (mCons (mApp fLst (mCons (mApp fTup (mCons (mApp fTup mNil) (mCons (vC (.int 0)) mNil))) (mCons (mApp fTup (mCons (mApp fTup (mCons (vVar 2) mNil)) (mCons (vC (.int 2)) mNil))) (mCons (mApp fTup (mCons (mApp fTup (mCons (vVar 2) (mCons (vVar 0) mNil))) (mCons (vC (.int 1)) mNil))) (mCons (mApp fTup (mCons (mApp fTup (mCons (vVar 2) (mCons (vVar 2) mNil))) (mCons (vC (.int 3)) mNil))) mNil))))) (mCons (mApp fLst (mCons (mApp fTup (mCons (mApp fTup mNil) (mCons (vC (.int 0)) mNil))) (mCons (mApp fTup (mCons (mApp fTup (mCons (vVar 1) mNil)) (mCons (vC (.int 2)) mNil))) (mCons (mApp fTup (mCons (mApp fTup (mCons (vVar 1) (mCons (vVar 0) mNil))) (mCons (vC (.int 1)) mNil))) (mCons (mApp fTup (mCons (mApp fTup (mCons (vVar 1) (mCons (vVar 2) mNil))) (mCons (vC (.int 3)) mNil))) mNil))))) mNil)))))
    (sSeq (sSet 7 (mBin fAdd (vVar 7) (mBin fMul (mApp fLst (mCons (mApp fLst (mCons (mApp fTup (mCons (mApp fTup mNil) (mCons (vC (.int 0)) mNil))) (mCons (mApp fTup (mCons (mApp fTup (mCons (vVar 1) mNil)) (mCons (vC (.int 2)) mNil))) (mCons (mApp fTup (mCons (mApp fTup (mCons (vVar 1) (mCons (vVar 0) mNil))) (mCons (vC (.int 1)) mNil))) (mCons (mApp fTup (mCons (mApp fTup (mCons (vVar 1) (mCons (vVar 0) (mCons (vVar 2) mNil)))) (mCons (vC (.int 3)) mNil))) mNil))))) mNil)) (vC (.int 2)))))
    (sSeq (sSet 7 (mBin fAdd (vVar 7) (mApp fLst (mCons (mApp fLst (mCons (mApp fTup (mCons (mApp fTup mNil) (mCons (vC (.int 0)) mNil))) (mCons (mApp fTup (mCons (mApp fTup (mCons (vVar 1) mNil)) (mCons (vC (.int 2)) mNil))) (mCons (mApp fTup (mCons (mApp fTup (mCons (vVar 1) (mCons (vVar 0) mNil))) (mCons (vC (.int 1)) mNil))) (mCons (mApp fTup (mCons (mApp fTup (mCons (vVar 1) (mCons (vVar 3) mNil))) (mCons (vC (.int 3)) mNil))) mNil))))) (mCons (mApp fLst (mCons (mApp fTup (mCons (mApp fTup mNil) (mCons (vC (.int 0)) mNil))) (mCons (mApp fTup (mCons (mApp fTup (mCons (vVar 0) mNil)) (mCons (vC (.int 1)) mNil))) (mCons (mApp fTup (mCons (mApp fTup (mCons (vVar 1) mNil)) (mCons (vC (.int 2)) mNil))) (mCons (mApp fTup (mCons (mApp fTup (mCons (vVar 1) (mCons (vVar 3) mNil))) (mCons (vC (.int 3)) mNil))) mNil))))) mNil)))))
    (sSeq (sIf (tOrM (tNotM (mTruth (mApp (fN 2 (m__law_same 8)) (mCons (vLc (iRange1 (vC (.int 8))) [8] (gSet 8) tYesM (mApp (fN 2 m_paths) (mCons (vVar 6) (mCons (vVar 8) mNil)))) (mCons (vVar 7) mNil))))) (mTest (mBin fNotB (mApp (fN 1 m_is_plan) (mCons (vVar 6) mNil)) (vC (.bl true))))) (sRet (vC (.bl false))) sNil)
    (sSeq (sIf (tOrM (mTruth (mApp (fN 1 m_is_plan) (mCons (mApp fTup (mCons (vVar 4) (mCons (mApp fTup (mCons (mApp fTup (mCons (vC (.str 6)) (mCons (vC (.int 0)) (mCons (vVar 0) (mCons (vC (.int 2)) (mCons (vVar 3) mNil)))))) mNil)) mNil))) mNil))) (mTruth (mApp (fN 1 m_is_plan) (mCons (mApp fTup (mCons (vVar 4) (mCons (mBin fAdd (mSlice (vVar 5) oNone (oSome (vC (.int 1)))) (mApp fTup (mCons (mApp fTup (mCons (vC (.str 6)) (mCons (vC (.int 0)) (mCons (vVar 2) (mCons (vC (.int 3)) (mCons (vVar 0) mNil)))))) mNil))) mNil))) mNil)))) (sRet (vC (.bl false))) sNil)
    (sRet (mApp (fN 2 (m__law_same 8)) (mCons (mApp (fN 2 m_entries) (mCons (vVar 6) (mCons (vC (.int 7)) mNil))) (mCons (mApp fTup (mCons (mApp fTup (mCons (vC (.int 0)) (mCons (vVar 0) (mCons (vC (.int 1)) mNil)))) (mCons (mApp fTup (mCons (vC (.int 0)) (mCons (vVar 1) (mCons (vC (.int 2)) mNil)))) (mCons (mApp fTup (mCons (vC (.int 0)) (mCons (vVar 3) (mCons (mUn fNeg (vC (.int 1))) mNil)))) (mCons (mApp fTup (mCons (vC (.int 2)) (mCons (vVar 3) (mCons (vC (.int 3)) mNil)))) mNil))))) mNil)))))))))))))
def m__law_moves_right : List W → LH → Option (W × LH) := fnZ 5 b__law_moves_right

def b__law_numbers_right : Sm :=
    (sSeq (sSet 4 (mApp fTup (mCons (mApp fTup (mCons (vC (.str 5)) (mCons (vC (.int 0)) (mCons (vVar 0) mNil)))) (mCons (mApp fTup (mCons (vC (.str 3)) (mCons (vC (.int 0)) (mCons (vVar 0) mNil)))) (mCons (mApp fTup (mCons (vC (.str 5)) (mCons (vC (.int 0)) (mCons (vVar 1) mNil)))) (mCons (mApp fTup (mCons (vC (.str 7)) (mCons (vC (.int 2)) (mCons (vVar 2) mNil)))) (mCons (mApp fTup (mCons (vC (.str 9)) mNil)) (mCons (mApp fTup (mCons (vC (.str 3)) (mCons (vC (.int 2)) (mCons (vVar 2) mNil)))) (mCons (mApp fTup (mCons (vC (.str 8)) mNil)) mNil)))))))))
    (sSeq (sSet 5 (mApp fTup (mCons (mApp fTup mNil) (mCons (mBin fAdd (vVar 4) (mApp fTup (mCons (mApp fTup (mCons (vC (.str 5)) (mCons (vC (.int 2)) (mCons (vVar 0) mNil)))) (mCons (mApp fTup (mCons (vC (.str 3)) (mCons (vC (.int 2)) (mCons (vVar 0) mNil)))) (mCons (mApp fTup (mCons (vC (.str 5)) (mCons (vC (.int 0)) (mCons (vVar 0) mNil)))) (mCons (mApp fTup (mCons (vC (.str 3)) (mCons (vC (.int 0)) (mCons (vVar 1) mNil)))) (mCons (mApp fTup (mCons (vC (.str 5)) (mCons (vC (.int 4)) (mCons (vVar 3) mNil)))) mNil))))))) mNil))))
    (sSeq (sSet 6 (mApp fLst (mCons (mApp fTup mNil) (mCons (mApp fTup (mCons (mApp fTup (mCons (vC (.int 0)) (mCons (vVar 0) (mCons (vC (.int 1)) mNil)))) mNil)) (mCons (mApp fTup mNil) (mCons (mApp fTup (mCons (mApp fTup (mCons (vC (.int 0)) (mCons (vVar 1) (mCons (vC (.int 2)) mNil)))) mNil)) (mCons (mApp fTup (mCons (mApp fTup (mCons (vC (.int 0)) (mCons (vVar 1) (mCons (vC (.int 2)) mNil)))) (mCons (mApp fTup (mCons (vC (.int 2)) (mCons (vVar 2) (mCons (mUn fNeg (vC (.int 1))) mNil)))) mNil))) (mCons (mApp fTup (mCons (mApp fTup (mCons (vC (.int 0)) (mCons (vVar 1) (mCons (vC (.int 2)) mNil)))) (mCons (mApp fTup (mCons (vC (.int 2)) (mCons (vVar 2) (mCons (mUn fNeg (vC (.int 1))) mNil)))) mNil))) (mCons (mApp fTup (mCons (mApp fTup (mCons (vC (.int 0)) (mCons (vVar 1) (mCons (vC (.int 2)) mNil)))) mNil)) mNil)))))))))
    (sSeq (sSet 6 (mBin fAdd (vVar 6) (mApp fLst (mCons (mApp fTup (mCons (mApp fTup (mCons (vC (.int 0)) (mCons (vVar 1) (mCons (vC (.int 2)) mNil)))) mNil)) (mCons (mApp fTup (mCons (mApp fTup (mCons (vC (.int 0)) (mCons (vVar 1) (mCons (vC (.int 2)) mNil)))) (mCons (mApp fTup (mCons (vC (.int 2)) (mCons (vVar 0) (mCons (vC (.int 3)) mNil)))) mNil))) (mCons (mApp fTup (mCons (mApp fTup (mCons (vC (.int 0)) (mCons (vVar 1) (mCons (vC (.int 2)) mNil)))) mNil)) (mCons (mApp fTup (mCons (mApp fTup (mCons (vC (.int 0)) (mCons (vVar 0) (mCons (vC (.int 4)) mNil)))) (mCons (mApp fTup (mCons (vC (.int 0)) (mCons (vVar 1) (mCons (vC (.int 2)) mNil)))) mNil))) (mCons (mApp fTup (mCons (mApp fTup (mCons (vC (.int 0)) (mCons (vVar 0) (mCons (vC (.int 4)) mNil)))) mNil)) mNil))))))))
    (sSeq (sExpr (mMt isL fAppend (vVar 6) (mCons (mApp fTup (mCons (mApp fTup (mCons (vC (.int 0)) (mCons (vVar 0) (mCons (vC (.int 4)) mNil)))) (mCons (mApp fTup (mCons (vC (.int 4)) (mCons (vVar 3) (mCons (vC (.int 5)) mNil)))) mNil))) mNil)))
    (sSeq (sIf (tOrM (tNotM (mTruth (mApp (fN 2 (m__law_same 8)) (mCons (vLc (iRange1 (vC (.int 13))) [7] (gSet 7) tYesM (mApp (fN 2 m_entries) (mCons (vVar 5) (mCons (vVar 7) mNil)))) (mCons (vVar 6) mNil))))) (mTest (mBin fNotB (mApp (fN 1 m_is_plan) (mCons (vVar 5) mNil)) (vC (.bl true))))) (sRet (vC (.bl false))) sNil)
    (sSeq (sSet 6 (mApp fLst (mCons (mApp fLst (mCons (mApp fTup (mCons (mApp fTup mNil) (mCons (vC (.int 0)) mNil))) (mCons (mApp fTup (mCons (mApp fTup (mCons (vVar 1) mNil)) (mCons (vC (.int 2)) mNil))) (mCons (mApp fTup (mCons (mApp fTup (mCons (vVar 1) (mCons (vVar 0) mNil))) (mCons (vC (.int 3)) mNil))) mNil)))) (mCons (mApp fLst (mCons (mApp fTup (mCons (mApp fTup mNil) (mCons (vC (.int 0)) mNil))) (mCons (mApp fTup (mCons (mApp fTup (mCons (vVar 0) mNil)) (mCons (vC (.int 4)) mNil))) (mCons (mApp fTup (mCons (mApp fTup (mCons (vVar 0) (mCons (vVar 3) mNil))) (mCons (vC (.int 5)) mNil))) mNil)))) mNil))))
    (sRet (mApp (fN 2 (m__law_same 8)) (mCons (mApp fLst (mCons (mApp (fN 2 m_paths) (mCons (vVar 5) (mCons (vC (.int 8)) mNil))) (mCons (mApp (fN 2 m_paths) (mCons (vVar 5) (mCons (vC (.int 12)) mNil))) mNil))) (mCons (vVar 6) mNil)))))))))))
def m__law_numbers_right : List W → LH → Option (W × LH) := fnZ 4 b__law_numbers_right

def b__law_take : Sm :=
    (sSeq (sIf (mTest (mBin fGt (mBin fIx (vVar 0) (vC (.int 0))) (vC (.int 0)))) (sSeq (sSet 2 (mBin fMod (mApp fInt (mCons (mBin fIx (vVar 0) (vC (.int 0))) mNil)) (vVar 1)))
    (sSeq (sAsg (mBin fDiv (mBin fIx (vVar 0) (vC (.int 0))) (vVar 1)) (gIx (vVar 0) (vC (.int 0))))
    (sRet (vVar 2)))) sNil)
    (sSeq (sAsg (mBin fAdd (mBin fIx (vVar 0) (vC (.int 2))) (vC (.int 1))) (gIx (vVar 0) (vC (.int 2))))
    (sSeq (sSet 3 (mBin fMod (mApp fInt (mCons (mBin fMul (mBin fAdd (mBin fIx (vVar 0) (vC (.int 1))) (mBin fMul (vC (.int 48271)) (mBin fIx (vVar 0) (vC (.int 2))))) (mBin fAdd (vC (.int 39373)) (mBin fIx (vVar 0) (vC (.int 2))))) mNil)) (vC (.int 2147483647))))
    (sSeq (sSet 4 (mBin fAdd (mBin fMod (mApp fInt (mCons (vVar 3) mNil)) (vC (.int 40009))) (vC (.int 7))))
    (sSeq (sSet 5 (mBin fMod (mApp fInt (mCons (mBin fMul (mBin fAdd (mBin fAdd (vVar 3) (mBin fIx (vVar 0) (vC (.int 2)))) (mBin fDiv (mBin fIx (vVar 0) (vC (.int 1))) (vC (.int 1000003)))) (vVar 4)) mNil)) (vC (.int 2147483629))))
    (sRet (mBin fMod (mApp fInt (mCons (mBin fDiv (mBin fMod (mApp fInt (mCons (mBin fAdd (mBin fMul (vVar 5) (vC (.int 48271))) (vVar 3)) mNil)) (vC (.int 2147483587))) (vC (.int 64))) mNil)) (vVar 1))))))))
def m__law_take : List W → LH → Option (W × LH) := fnZ 4 b__law_take

def b__law_right : Sm :=
    (sSeq (sSet 1 (mApp fLst (mCons (vC (.str 0)) (mCons (vC (.str 1)) (mCons (vC (.str 2)) (mCons (vC (.str 4)) (mCons (vC (.str 5)) (mCons (vC (.str 9)) (mCons (vC (.str 10)) (mCons (vC (.str 11)) mNil))))))))))
    (sSeq (sSet 2 (mApp fSorted (mCons (vLc (iRange1 (vC (.int 4))) [3] (gSet 3) tYesM (mMt isL fPopAt (vVar 1) (mCons (mApp (fN 2 fTake) (mCons (vVar 0) (mCons (mApp fLen (mCons (vVar 1) mNil)) mNil))) mNil))) mNil)))
    (sRet (vAndM (mApp (fN 4 (fYes4 POOL)) (mCons (mBin fIx (vVar 2) (vC (.int 0))) (mCons (mBin fIx (vVar 2) (vC (.int 1))) (mCons (mBin fIx (vVar 2) (vC (.int 2))) (mCons (mBin fIx (vVar 2) (vC (.int 3))) mNil))))) (mApp (fN 4 (fYes4 POOL)) (mCons (mBin fIx (vVar 2) (vC (.int 0))) (mCons (mBin fIx (vVar 2) (vC (.int 1))) (mCons (mBin fIx (vVar 2) (vC (.int 2))) (mCons (mBin fIx (vVar 2) (vC (.int 3))) mNil)))))))))
def m__law_right : List W → LH → Option (W × LH) := fnZ 3 b__law_right

def b_law : Sm :=
    (sSeq (sSet 1 (mApp (fN 2 fCells) (mCons (vVar 0) (mCons (vC (.int 3)) mNil))))
    (sRet (mApp fAll (mCons (vLc (iRange1 (mApp (fOr1 fLen fLenC) (mCons (vVar 1) mNil))) [2] (gSet 2) tYesM (mApp (fN 1 (fRightB 4 [0])) (mCons (mApp (fN 2 (fBoxN 4)) (mCons (vVar 1) (mCons (vVar 2) mNil))) mNil))) mNil))))
def m_law : List W → LH → Option (W × LH) := fnZ 2 b_law

def rest_law : Sm :=
    (sRet (mApp fAll (mCons (vLc (iRange1 (mApp (fOr1 fLen fLenC) (mCons (vVar 1) mNil))) [2] (gSet 2) tYesM (mApp (fN 1 (fRightB 4 [0])) (mCons (mApp (fN 2 (fBoxN 4)) (mCons (vVar 1) (mCons (vVar 2) mNil))) mNil))) mNil)))

end Z13

set_option Elab.async false
set_option linter.all false
set_option maxRecDepth 100000
set_option maxHeartbeats 4000000
namespace Z13
open PySem PySem.Spec PyProof.Rows L2 Z
section
variable {P : Program} {w : World} {K : PySem.W.Frag} {mg : Str → Option Value} {base : Heap} {F : Fx}
theorem ok__law_moves_right (T : Tx P w K mg F) (G__law_same : FnOk P w K mg base CX0 9 T.a__law_same T.d__law_same ["_law_found", "_law_due"] (spZ K F 2 (m__law_same 8))) (G_entries : FnOk P w K mg base CX0 9 T.a_entries T.d_entries ["plan", "many"] (spZ K F 2 m_entries)) (G_is_plan : FnOk P w K mg base CX0 5 T.a_is_plan T.d_is_plan ["thing"] (spZ K F 1 m_is_plan)) (G_paths : FnOk P w K mg base CX0 9 T.a_paths T.d_paths ["plan", "many"] (spZ K F 2 m_paths)) : FnOk P w K mg base CX0 10 T.a__law_moves_right T.d__law_moves_right ["_law_a", "_law_b", "_law_c", "_law_d"] (spZ K F 4 m__law_moves_right) := by
  refine ok_zD T.F__law_moves_right sc__law_moves_right rfl fun cdv A outer s H E hr => ?_
  exact (zss_cons (zs_set (i := 4) sc__law_moves_right.nd rfl (.inl rfl) (ze_tup (za_cons (ze_tup (za_cons ze_int (za_cons (ze_var (i := 0) rfl (.inl rfl)) (za_cons ze_int za_nil)))) (za_cons (ze_tup (za_cons ze_int (za_cons (ze_var (i := 1) rfl (.inl rfl)) (za_cons ze_int za_nil)))) (za_cons (ze_tup (za_cons ze_int (za_cons (ze_var (i := 2) rfl (.inl rfl)) (za_cons ze_int za_nil)))) (za_cons (ze_tup (za_cons ze_int (za_cons (ze_var (i := 3) rfl (.inl rfl)) (za_cons (ze_neg ze_int) za_nil)))) za_nil))))))
      (zss_cons (zs_set (i := 5) sc__law_moves_right.nd rfl (.inl rfl) (ze_tup (za_cons (ze_tup (za_cons (ze_str 6 (lit_at T.hL rfl)) (za_cons ze_int (za_cons (ze_var (i := 1) rfl (.inl rfl)) (za_cons ze_int (za_cons (ze_var (i := 2) rfl (.inl rfl)) za_nil)))))) (za_cons (ze_tup (za_cons (ze_str 6 (lit_at T.hL rfl)) (za_cons ze_int (za_cons (ze_var (i := 0) rfl (.inl rfl)) (za_cons ze_int (za_cons (ze_var (i := 0) rfl (.inl rfl)) za_nil)))))) (za_cons (ze_tup (za_cons (ze_str 6 (lit_at T.hL rfl)) (za_cons ze_int (za_cons (ze_var (i := 2) rfl (.inl rfl)) (za_cons ze_int (za_cons (ze_var (i := 1) rfl (.inl rfl)) za_nil)))))) (za_cons (ze_tup (za_cons (ze_str 6 (lit_at T.hL rfl)) (za_cons ze_int (za_cons (ze_var (i := 2) rfl (.inl rfl)) (za_cons ze_int (za_cons (ze_var (i := 2) rfl (.inl rfl)) za_nil)))))) za_nil))))))
      (zss_cons (zs_set (i := 6) sc__law_moves_right.nd rfl (.inr rfl) (ze_tup (za_cons (ze_var (i := 4) rfl (.inl rfl)) (za_cons (ze_op (L2.OpR.or op_add (L2.OpR.or op_catA op_cat)) oz_add (ze_var (i := 5) rfl (.inl rfl)) (ze_tup (za_cons (ze_tup (za_cons (ze_str 6 (lit_at T.hL rfl)) (za_cons ze_int (za_cons (ze_var (i := 3) rfl (.inl rfl)) (za_cons ze_int (za_cons (ze_var (i := 3) rfl (.inl rfl)) za_nil)))))) (za_cons (ze_tup (za_cons (ze_str 6 (lit_at T.hL rfl)) (za_cons ze_int (za_cons (ze_var (i := 2) rfl (.inl rfl)) (za_cons ze_int (za_cons (ze_var (i := 3) rfl (.inl rfl)) za_nil)))))) (za_cons (ze_tup (za_cons (ze_str 6 (lit_at T.hL rfl)) (za_cons ze_int (za_cons (ze_var (i := 0) rfl (.inl rfl)) (za_cons ze_int (za_cons (ze_var (i := 0) rfl (.inl rfl)) za_nil)))))) za_nil))))) za_nil))))
      (zss_cons (zs_set (i := 7) sc__law_moves_right.nd rfl (.inl rfl) (ze_lst (za_cons (ze_lst (za_cons (ze_tup (za_cons (ze_tup za_nil) (za_cons ze_int za_nil))) (za_cons (ze_tup (za_cons (ze_tup (za_cons (ze_var (i := 0) rfl (.inl rfl)) za_nil)) (za_cons ze_int za_nil))) (za_cons (ze_tup (za_cons (ze_tup (za_cons (ze_var (i := 0) rfl (.inl rfl)) (za_cons (ze_var (i := 1) rfl (.inl rfl)) za_nil))) (za_cons ze_int za_nil))) (za_cons (ze_tup (za_cons (ze_tup (za_cons (ze_var (i := 0) rfl (.inl rfl)) (za_cons (ze_var (i := 1) rfl (.inl rfl)) (za_cons (ze_var (i := 2) rfl (.inl rfl)) za_nil)))) (za_cons ze_int za_nil))) za_nil))))) (za_cons (ze_lst (za_cons (ze_tup (za_cons (ze_tup za_nil) (za_cons ze_int za_nil))) (za_cons (ze_tup (za_cons (ze_tup (za_cons (ze_var (i := 0) rfl (.inl rfl)) za_nil)) (za_cons ze_int za_nil))) (za_cons (ze_tup (za_cons (ze_tup (za_cons (ze_var (i := 2) rfl (.inl rfl)) za_nil)) (za_cons ze_int za_nil))) (za_cons (ze_tup (za_cons (ze_tup (za_cons (ze_var (i := 2) rfl (.inl rfl)) (za_cons (ze_var (i := 2) rfl (.inl rfl)) za_nil))) (za_cons ze_int za_nil))) za_nil))))) za_nil))))
      (zss_cons (zs_set (i := 7) sc__law_moves_right.nd rfl (.inl rfl) (ze_op (L2.OpR.or op_add (L2.OpR.or op_catA op_cat)) oz_add (ze_var (i := 7) rfl (.inl rfl)) (ze_lst (za_cons (ze_lst (za_cons (ze_tup (za_cons (ze_tup za_nil) (za_cons ze_int za_nil))) (za_cons (ze_tup (za_cons (ze_tup (za_cons (ze_var (i := 2) rfl (.inl rfl)) za_nil)) (za_cons ze_int za_nil))) (za_cons (ze_tup (za_cons (ze_tup (za_cons (ze_var (i := 2) rfl (.inl rfl)) (za_cons (ze_var (i := 0) rfl (.inl rfl)) za_nil))) (za_cons ze_int za_nil))) (za_cons (ze_tup (za_cons (ze_tup (za_cons (ze_var (i := 2) rfl (.inl rfl)) (za_cons (ze_var (i := 2) rfl (.inl rfl)) za_nil))) (za_cons ze_int za_nil))) za_nil))))) (za_cons (ze_lst (za_cons (ze_tup (za_cons (ze_tup za_nil) (za_cons ze_int za_nil))) (za_cons (ze_tup (za_cons (ze_tup (za_cons (ze_var (i := 1) rfl (.inl rfl)) za_nil)) (za_cons ze_int za_nil))) (za_cons (ze_tup (za_cons (ze_tup (za_cons (ze_var (i := 1) rfl (.inl rfl)) (za_cons (ze_var (i := 0) rfl (.inl rfl)) za_nil))) (za_cons ze_int za_nil))) (za_cons (ze_tup (za_cons (ze_tup (za_cons (ze_var (i := 1) rfl (.inl rfl)) (za_cons (ze_var (i := 2) rfl (.inl rfl)) za_nil))) (za_cons ze_int za_nil))) za_nil))))) za_nil)))))
      (zss_cons (zs_set (i := 7) sc__law_moves_right.nd rfl (.inl rfl) (ze_op (L2.OpR.or op_add (L2.OpR.or op_catA op_cat)) oz_add (ze_var (i := 7) rfl (.inl rfl)) (ze_op (L2.OpR.or op_mul (L2.OpR.or op_repT op_rep)) oz_mul (ze_lst (za_cons (ze_lst (za_cons (ze_tup (za_cons (ze_tup za_nil) (za_cons ze_int za_nil))) (za_cons (ze_tup (za_cons (ze_tup (za_cons (ze_var (i := 1) rfl (.inl rfl)) za_nil)) (za_cons ze_int za_nil))) (za_cons (ze_tup (za_cons (ze_tup (za_cons (ze_var (i := 1) rfl (.inl rfl)) (za_cons (ze_var (i := 0) rfl (.inl rfl)) za_nil))) (za_cons ze_int za_nil))) (za_cons (ze_tup (za_cons (ze_tup (za_cons (ze_var (i := 1) rfl (.inl rfl)) (za_cons (ze_var (i := 0) rfl (.inl rfl)) (za_cons (ze_var (i := 2) rfl (.inl rfl)) za_nil)))) (za_cons ze_int za_nil))) za_nil))))) za_nil)) ze_int)))
      (zss_cons (zs_set (i := 7) sc__law_moves_right.nd rfl (.inl rfl) (ze_op (L2.OpR.or op_add (L2.OpR.or op_catA op_cat)) oz_add (ze_var (i := 7) rfl (.inl rfl)) (ze_lst (za_cons (ze_lst (za_cons (ze_tup (za_cons (ze_tup za_nil) (za_cons ze_int za_nil))) (za_cons (ze_tup (za_cons (ze_tup (za_cons (ze_var (i := 1) rfl (.inl rfl)) za_nil)) (za_cons ze_int za_nil))) (za_cons (ze_tup (za_cons (ze_tup (za_cons (ze_var (i := 1) rfl (.inl rfl)) (za_cons (ze_var (i := 0) rfl (.inl rfl)) za_nil))) (za_cons ze_int za_nil))) (za_cons (ze_tup (za_cons (ze_tup (za_cons (ze_var (i := 1) rfl (.inl rfl)) (za_cons (ze_var (i := 3) rfl (.inl rfl)) za_nil))) (za_cons ze_int za_nil))) za_nil))))) (za_cons (ze_lst (za_cons (ze_tup (za_cons (ze_tup za_nil) (za_cons ze_int za_nil))) (za_cons (ze_tup (za_cons (ze_tup (za_cons (ze_var (i := 0) rfl (.inl rfl)) za_nil)) (za_cons ze_int za_nil))) (za_cons (ze_tup (za_cons (ze_tup (za_cons (ze_var (i := 1) rfl (.inl rfl)) za_nil)) (za_cons ze_int za_nil))) (za_cons (ze_tup (za_cons (ze_tup (za_cons (ze_var (i := 1) rfl (.inl rfl)) (za_cons (ze_var (i := 3) rfl (.inl rfl)) za_nil))) (za_cons ze_int za_nil))) za_nil))))) za_nil)))))
      (zss_cons (zs_if (PW.pt (zw_or (zt_not (zt_truth (ze_call (G__law_same) (hr.mono (by decide)) rfl T.g__law_same T.F__law_same.kp (bd__law_same T.F__law_same) (za_cons (ze_lc (own := [("_law_k", 8)]) (T := [8]) rfl sc__law_moves_right.nd (zi_range1 rfl T.n_range ze_int) (blkOk_by (own := [("_law_k", 8)]) (N := N__law_moves_right) (sc := defScope s__law_moves_right) (by decide +kernel)) rfl (fun _ _ _ _ _ => (zg_name (i := 8) sc__law_moves_right.nd rfl (.inl rfl))) (fun _ _ _ _ _ => zts_nil) (fun _ _ _ _ _ => (ze_call (G_paths) (hr.mono (by decide)) rfl T.g_paths T.F_paths.kp (bd_paths T.F_paths) (za_cons (ze_var (i := 6) rfl (.inr (.inl rfl))) (za_cons (ze_var (i := 8) rfl (.inl rfl)) za_nil))))) (za_cons (ze_var (i := 7) rfl (.inl rfl)) za_nil))))) (zw_or1 (zt_cmp op_isnot_bl oz_notB (ze_call (G_is_plan) (hr.mono (by decide)) rfl T.g_is_plan T.F_is_plan.kp (bd_is_plan T.F_is_plan) (za_cons (ze_var (i := 6) rfl (.inr (.inl rfl))) za_nil)) ze_bl (nomark _))))) (zss_one (zs_ret ze_bl)) zss_nil)
      (zss_cons (zs_if (PW.pt (zw_or (zt_truth (ze_call (G_is_plan) (hr.mono (by decide)) rfl T.g_is_plan T.F_is_plan.kp (bd_is_plan T.F_is_plan) (za_cons (ze_tup (za_cons (ze_var (i := 4) rfl (.inl rfl)) (za_cons (ze_tup (za_cons (ze_tup (za_cons (ze_str 6 (lit_at T.hL rfl)) (za_cons ze_int (za_cons (ze_var (i := 0) rfl (.inl rfl)) (za_cons ze_int (za_cons (ze_var (i := 3) rfl (.inl rfl)) za_nil)))))) za_nil)) za_nil))) za_nil))) (zw_or1 (zt_truth (ze_call (G_is_plan) (hr.mono (by decide)) rfl T.g_is_plan T.F_is_plan.kp (bd_is_plan T.F_is_plan) (za_cons (ze_tup (za_cons (ze_var (i := 4) rfl (.inl rfl)) (za_cons (ze_op (L2.OpR.or op_add (L2.OpR.or op_catA op_cat)) oz_add (ze_slice (ze_var (i := 5) rfl (.inl rfl)) zo_none (zo_some ze_int)) (ze_tup (za_cons (ze_tup (za_cons (ze_str 6 (lit_at T.hL rfl)) (za_cons ze_int (za_cons (ze_var (i := 2) rfl (.inl rfl)) (za_cons ze_int (za_cons (ze_var (i := 0) rfl (.inl rfl)) za_nil)))))) za_nil))) za_nil))) za_nil)))))) (zss_one (zs_ret ze_bl)) zss_nil)
      (zss_one (zs_ret (ze_call (G__law_same) (hr.mono (by decide)) rfl T.g__law_same T.F__law_same.kp (bd__law_same T.F__law_same) (za_cons (ze_call (G_entries) (hr.mono (by decide)) rfl T.g_entries T.F_entries.kp (bd_entries T.F_entries) (za_cons (ze_var (i := 6) rfl (.inr (.inl rfl))) (za_cons ze_int za_nil))) (za_cons (ze_tup (za_cons (ze_tup (za_cons ze_int (za_cons (ze_var (i := 0) rfl (.inl rfl)) (za_cons ze_int za_nil)))) (za_cons (ze_tup (za_cons ze_int (za_cons (ze_var (i := 1) rfl (.inl rfl)) (za_cons ze_int za_nil)))) (za_cons (ze_tup (za_cons ze_int (za_cons (ze_var (i := 3) rfl (.inl rfl)) (za_cons (ze_neg ze_int) za_nil)))) (za_cons (ze_tup (za_cons ze_int (za_cons (ze_var (i := 3) rfl (.inl rfl)) (za_cons ze_int za_nil)))) za_nil))))) za_nil))))))))))))))

theorem ok_is_name (T : Tx P w K mg F)  : FnOk P w K mg base CX0 1 T.a_is_name T.d_is_name ["thing"] (spZ K F 1 m_is_name) := by
  refine ok_zD T.F_is_name sc_is_name rfl fun cdv A outer s H E hr => ?_
  exact (zss_cons (zs_if (PW.pt (zw_or (zt_not (zt_truth (ze_isi (T := .str) (ze_var (i := 0) rfl (.inl rfl)) rfl T.n_isinstance rfl T.n_str (by decide +kernel)))) (zw_or1 (zt_not (zt_nmLen rfl T.n_len rfl T.c_MOST_LETTERS (ze_var (i := 0) rfl (.inl rfl))))))) (zss_one (zs_ret ze_bl)) zss_nil)
      (zss_one (zs_ret (ze_nmAll (i := 1) rfl sc_is_name.nd rfl T.n_all (ze_var (i := 0) rfl (.inl rfl)) (blkOk_by (N := N_is_name) (sc := defScope s_is_name) (by decide +kernel)) rfl (fun _ _ _ _ _ => pg_name (i := 1) sc_is_name.nd rfl (.inl rfl)) (fun _ _ _ _ _ => pe_var (i := 1) rfl (.inl rfl)) (fun _ _ _ _ _ => pe_glob rfl T.c_LETTERS.choose_spec ⟨_, rfl⟩)))))

end
end Z13

set_option Elab.async false
set_option linter.all false
set_option maxRecDepth 100000
set_option maxHeartbeats 4000000
namespace Z13
open PySem PySem.Spec PyProof.Rows L2 Z
section
variable {P : Program} {w : World} {K : PySem.W.Frag} {mg : Str → Option Value} {base : Heap} {F : Fx}
theorem ok__law_numbers_right (T : Tx P w K mg F) (G__law_same : FnOk P w K mg base CX0 9 T.a__law_same T.d__law_same ["_law_found", "_law_due"] (spZ K F 2 (m__law_same 8))) (G_entries : FnOk P w K mg base CX0 9 T.a_entries T.d_entries ["plan", "many"] (spZ K F 2 m_entries)) (G_is_plan : FnOk P w K mg base CX0 5 T.a_is_plan T.d_is_plan ["thing"] (spZ K F 1 m_is_plan)) (G_paths : FnOk P w K mg base CX0 9 T.a_paths T.d_paths ["plan", "many"] (spZ K F 2 m_paths)) : FnOk P w K mg base CX0 10 T.a__law_numbers_right T.d__law_numbers_right ["_law_a", "_law_b", "_law_c", "_law_d"] (spZ K F 4 m__law_numbers_right) := by
  refine ok_zD T.F__law_numbers_right sc__law_numbers_right rfl fun cdv A outer s H E hr => ?_
  exact (zss_cons (zs_set (i := 4) sc__law_numbers_right.nd rfl (.inl rfl) (ze_tup (za_cons (ze_tup (za_cons (ze_str 5 (lit_at T.hL rfl)) (za_cons ze_int (za_cons (ze_var (i := 0) rfl (.inl rfl)) za_nil)))) (za_cons (ze_tup (za_cons (ze_str 3 (lit_at T.hL rfl)) (za_cons ze_int (za_cons (ze_var (i := 0) rfl (.inl rfl)) za_nil)))) (za_cons (ze_tup (za_cons (ze_str 5 (lit_at T.hL rfl)) (za_cons ze_int (za_cons (ze_var (i := 1) rfl (.inl rfl)) za_nil)))) (za_cons (ze_tup (za_cons (ze_str 7 (lit_at T.hL rfl)) (za_cons ze_int (za_cons (ze_var (i := 2) rfl (.inl rfl)) za_nil)))) (za_cons (ze_tup (za_cons (ze_str 9 (lit_at T.hL rfl)) za_nil)) (za_cons (ze_tup (za_cons (ze_str 3 (lit_at T.hL rfl)) (za_cons ze_int (za_cons (ze_var (i := 2) rfl (.inl rfl)) za_nil)))) (za_cons (ze_tup (za_cons (ze_str 8 (lit_at T.hL rfl)) za_nil)) za_nil)))))))))
      (zss_cons (zs_set (i := 5) sc__law_numbers_right.nd rfl (.inr rfl) (ze_tup (za_cons (ze_tup za_nil) (za_cons (ze_op (L2.OpR.or op_add (L2.OpR.or op_catA op_cat)) oz_add (ze_var (i := 4) rfl (.inl rfl)) (ze_tup (za_cons (ze_tup (za_cons (ze_str 5 (lit_at T.hL rfl)) (za_cons ze_int (za_cons (ze_var (i := 0) rfl (.inl rfl)) za_nil)))) (za_cons (ze_tup (za_cons (ze_str 3 (lit_at T.hL rfl)) (za_cons ze_int (za_cons (ze_var (i := 0) rfl (.inl rfl)) za_nil)))) (za_cons (ze_tup (za_cons (ze_str 5 (lit_at T.hL rfl)) (za_cons ze_int (za_cons (ze_var (i := 0) rfl (.inl rfl)) za_nil)))) (za_cons (ze_tup (za_cons (ze_str 3 (lit_at T.hL rfl)) (za_cons ze_int (za_cons (ze_var (i := 1) rfl (.inl rfl)) za_nil)))) (za_cons (ze_tup (za_cons (ze_str 5 (lit_at T.hL rfl)) (za_cons ze_int (za_cons (ze_var (i := 3) rfl (.inl rfl)) za_nil)))) za_nil))))))) za_nil))))
      (zss_cons (zs_set (i := 6) sc__law_numbers_right.nd rfl (.inl rfl) (ze_lst (za_cons (ze_tup za_nil) (za_cons (ze_tup (za_cons (ze_tup (za_cons ze_int (za_cons (ze_var (i := 0) rfl (.inl rfl)) (za_cons ze_int za_nil)))) za_nil)) (za_cons (ze_tup za_nil) (za_cons (ze_tup (za_cons (ze_tup (za_cons ze_int (za_cons (ze_var (i := 1) rfl (.inl rfl)) (za_cons ze_int za_nil)))) za_nil)) (za_cons (ze_tup (za_cons (ze_tup (za_cons ze_int (za_cons (ze_var (i := 1) rfl (.inl rfl)) (za_cons ze_int za_nil)))) (za_cons (ze_tup (za_cons ze_int (za_cons (ze_var (i := 2) rfl (.inl rfl)) (za_cons (ze_neg ze_int) za_nil)))) za_nil))) (za_cons (ze_tup (za_cons (ze_tup (za_cons ze_int (za_cons (ze_var (i := 1) rfl (.inl rfl)) (za_cons ze_int za_nil)))) (za_cons (ze_tup (za_cons ze_int (za_cons (ze_var (i := 2) rfl (.inl rfl)) (za_cons (ze_neg ze_int) za_nil)))) za_nil))) (za_cons (ze_tup (za_cons (ze_tup (za_cons ze_int (za_cons (ze_var (i := 1) rfl (.inl rfl)) (za_cons ze_int za_nil)))) za_nil)) za_nil)))))))))
      (zss_cons (zs_set (i := 6) sc__law_numbers_right.nd rfl (.inl rfl) (ze_op (L2.OpR.or op_add (L2.OpR.or op_catA op_cat)) oz_add (ze_var (i := 6) rfl (.inl rfl)) (ze_lst (za_cons (ze_tup (za_cons (ze_tup (za_cons ze_int (za_cons (ze_var (i := 1) rfl (.inl rfl)) (za_cons ze_int za_nil)))) za_nil)) (za_cons (ze_tup (za_cons (ze_tup (za_cons ze_int (za_cons (ze_var (i := 1) rfl (.inl rfl)) (za_cons ze_int za_nil)))) (za_cons (ze_tup (za_cons ze_int (za_cons (ze_var (i := 0) rfl (.inl rfl)) (za_cons ze_int za_nil)))) za_nil))) (za_cons (ze_tup (za_cons (ze_tup (za_cons ze_int (za_cons (ze_var (i := 1) rfl (.inl rfl)) (za_cons ze_int za_nil)))) za_nil)) (za_cons (ze_tup (za_cons (ze_tup (za_cons ze_int (za_cons (ze_var (i := 0) rfl (.inl rfl)) (za_cons ze_int za_nil)))) (za_cons (ze_tup (za_cons ze_int (za_cons (ze_var (i := 1) rfl (.inl rfl)) (za_cons ze_int za_nil)))) za_nil))) (za_cons (ze_tup (za_cons (ze_tup (za_cons ze_int (za_cons (ze_var (i := 0) rfl (.inl rfl)) (za_cons ze_int za_nil)))) za_nil)) za_nil))))))))
      (zss_cons (zs_expr (ze_mt tz_list mz_append ty_list PySem.F.plainAttrs_list PySem.F.slot_list_append PySem.F.type_list_append mt_append (ze_var (i := 6) rfl (.inl rfl)) (za_cons (ze_tup (za_cons (ze_tup (za_cons ze_int (za_cons (ze_var (i := 0) rfl (.inl rfl)) (za_cons ze_int za_nil)))) (za_cons (ze_tup (za_cons ze_int (za_cons (ze_var (i := 3) rfl (.inl rfl)) (za_cons ze_int za_nil)))) za_nil))) za_nil)))
      (zss_cons (zs_if (PW.pt (zw_or (zt_not (zt_truth (ze_call (G__law_same) (hr.mono (by decide)) rfl T.g__law_same T.F__law_same.kp (bd__law_same T.F__law_same) (za_cons (ze_lc (own := [("_law_k", 7)]) (T := [7]) rfl sc__law_numbers_right.nd (zi_range1 rfl T.n_range ze_int) (blkOk_by (own := [("_law_k", 7)]) (N := N__law_numbers_right) (sc := defScope s__law_numbers_right) (by decide +kernel)) rfl (fun _ _ _ _ _ => (zg_name (i := 7) sc__law_numbers_right.nd rfl (.inl rfl))) (fun _ _ _ _ _ => zts_nil) (fun _ _ _ _ _ => (ze_call (G_entries) (hr.mono (by decide)) rfl T.g_entries T.F_entries.kp (bd_entries T.F_entries) (za_cons (ze_var (i := 5) rfl (.inr (.inl rfl))) (za_cons (ze_var (i := 7) rfl (.inl rfl)) za_nil))))) (za_cons (ze_var (i := 6) rfl (.inl rfl)) za_nil))))) (zw_or1 (zt_cmp op_isnot_bl oz_notB (ze_call (G_is_plan) (hr.mono (by decide)) rfl T.g_is_plan T.F_is_plan.kp (bd_is_plan T.F_is_plan) (za_cons (ze_var (i := 5) rfl (.inr (.inl rfl))) za_nil)) ze_bl (nomark _))))) (zss_one (zs_ret ze_bl)) zss_nil)
      (zss_cons (zs_set (i := 6) sc__law_numbers_right.nd rfl (.inl rfl) (ze_lst (za_cons (ze_lst (za_cons (ze_tup (za_cons (ze_tup za_nil) (za_cons ze_int za_nil))) (za_cons (ze_tup (za_cons (ze_tup (za_cons (ze_var (i := 1) rfl (.inl rfl)) za_nil)) (za_cons ze_int za_nil))) (za_cons (ze_tup (za_cons (ze_tup (za_cons (ze_var (i := 1) rfl (.inl rfl)) (za_cons (ze_var (i := 0) rfl (.inl rfl)) za_nil))) (za_cons ze_int za_nil))) za_nil)))) (za_cons (ze_lst (za_cons (ze_tup (za_cons (ze_tup za_nil) (za_cons ze_int za_nil))) (za_cons (ze_tup (za_cons (ze_tup (za_cons (ze_var (i := 0) rfl (.inl rfl)) za_nil)) (za_cons ze_int za_nil))) (za_cons (ze_tup (za_cons (ze_tup (za_cons (ze_var (i := 0) rfl (.inl rfl)) (za_cons (ze_var (i := 3) rfl (.inl rfl)) za_nil))) (za_cons ze_int za_nil))) za_nil)))) za_nil))))
      (zss_one (zs_ret (ze_call (G__law_same) (hr.mono (by decide)) rfl T.g__law_same T.F__law_same.kp (bd__law_same T.F__law_same) (za_cons (ze_lst (za_cons (ze_call (G_paths) (hr.mono (by decide)) rfl T.g_paths T.F_paths.kp (bd_paths T.F_paths) (za_cons (ze_var (i := 5) rfl (.inr (.inl rfl))) (za_cons ze_int za_nil))) (za_cons (ze_call (G_paths) (hr.mono (by decide)) rfl T.g_paths T.F_paths.kp (bd_paths T.F_paths) (za_cons (ze_var (i := 5) rfl (.inr (.inl rfl))) (za_cons ze_int za_nil))) za_nil))) (za_cons (ze_var (i := 6) rfl (.inl rfl)) za_nil))))))))))))

theorem ok_is_entry (T : Tx P w K mg F) (G_is_name : FnOk P w K mg base CX0 1 T.a_is_name T.d_is_name ["thing"] (spZ K F 1 m_is_name)) (G_is_number : FnOk P w K mg base CX0 1 T.a_is_number T.d_is_number ["thing", "bottom"] (spZ K F 2 m_is_number)) (G_is_tuple : FnOk P w K mg base CX0 1 T.a_is_tuple T.d_is_tuple ["thing", "many"] (spZ K F 2 m_is_tuple)) : FnOk P w K mg base CX0 2 T.a_is_entry T.d_is_entry ["thing"] (spZ K F 1 m_is_entry) := by
  refine ok_zD T.F_is_entry sc_is_entry rfl fun cdv A outer s H E hr => ?_
  exact (zss_cons (zs_if (PW.pt (zw_or (zt_not (zt_truth (ze_call (G_is_tuple) (hr.mono (by decide)) rfl T.g_is_tuple T.F_is_tuple.kp (bd_is_tuple T.F_is_tuple) (za_cons (ze_var (i := 0) rfl (.inl rfl)) (za_cons (ze_gint rfl T.c_SHORT_PARTS) za_nil))))) (zw_or (zt_not (zt_truth (ze_call (G_is_number) (hr.mono (by decide)) rfl T.g_is_number T.F_is_number.kp (bd_is_number T.F_is_number) (za_cons (ze_ix (ze_var (i := 0) rfl (.inl rfl)) ze_int) (za_cons (ze_gint rfl T.c_ROOT) za_nil))))) (zw_or1 (zt_not (zt_truth (ze_call (G_is_name) (hr.mono (by decide)) rfl T.g_is_name T.F_is_name.kp (bd_is_name T.F_is_name) (za_cons (ze_ix (ze_var (i := 0) rfl (.inl rfl)) ze_int) za_nil)))))))) (zss_one (zs_ret ze_bl)) zss_nil)
      (zss_one (zs_ret (ze_and (ze_call (G_is_number) (hr.mono (by decide)) rfl T.g_is_number T.F_is_number.kp (bd_is_number T.F_is_number) (za_cons (ze_ix (ze_var (i := 0) rfl (.inl rfl)) ze_int) (za_cons (ze_gint rfl T.c_FILE) za_nil))) (ze_one (ze_cmp (op_neD hr.units) oz_ne (ze_ix (ze_var (i := 0) rfl (.inl rfl)) ze_int) (ze_gint rfl T.c_ROOT) (nomark _)))))))

theorem ok_World_names (T : Tx P w K mg F)  : FnOk P w K mg base CX0 1 T.a_World_names T.d_World_names ["self", "folder"] (spZ K F 2 m_World_names) := by
  refine ok_zD T.F_World_names sc_World_names rfl fun cdv A outer s H E hr => ?_
  exact (zss_one (zs_ret (ze_callB (cz_sorted hr.units) cr_sortedZ rfl T.n_sorted (by decide +kernel) (za_cons (ze_lock (ma := (mAttr 1 1 (vVar 0))) (ze_lc (own := [("other", 2), ("name", 3)]) (T := [2, 3]) rfl sc_World_names.nd (zi_dk ⟨T.hP, T.hw⟩ (ze_attr T.hf_World T.sc_World T.sl_World_own_places.choose_spec (ze_var (i := 0) rfl (.inl rfl)))) (blkOk_by (own := [("other", 2), ("name", 3)]) (N := N_World_names) (sc := defScope s_World_names) (by decide +kernel)) rfl (fun _ _ _ _ _ => (zg_tup rfl (zgs_cons (zg_name (i := 2) sc_World_names.nd rfl (.inl rfl)) (zgs_cons (zg_name (i := 3) sc_World_names.nd rfl (.inl rfl)) zgs_nil)))) (fun _ _ _ _ _ => (zts_one (zt_cmp (op_eqD hr.units) oz_eq (ze_var (i := 2) rfl (.inl rfl)) (ze_var (i := 1) rfl (.inr (.inl rfl))) (nomark _)))) (fun _ _ _ _ _ => (ze_var (i := 3) rfl (.inl rfl))))) za_nil))))

theorem ok_entries (T : Tx P w K mg F) (G_World_entries : FnOk P w K mg base CX0 1 T.a_World_entries T.d_World_entries ["self"] (spZ K F 1 m_World_entries)) (G_world_behind : FnOk P w K mg base CX0 8 T.a_world_behind T.d_world_behind ["plan", "many"] (spZ K F 2 m_world_behind)) : FnOk P w K mg base CX0 9 T.a_entries T.d_entries ["plan", "many"] (spZ K F 2 m_entries) := by
  refine ok_zD T.F_entries sc_entries rfl fun cdv A outer s H E hr => ?_
  exact (zss_one (zs_ret (ze_meth0 T.hf_World (ze_call (G_world_behind) (hr.mono (by decide)) rfl T.g_world_behind T.F_world_behind.kp (bd_world_behind T.F_world_behind) (za_cons (ze_var (i := 0) rfl (.inl rfl)) (za_cons (ze_var (i := 1) rfl (.inl rfl)) za_nil))) T.sc_World T.me_World_entries (G_World_entries) (hr.mono (by decide)) (bd_World_entries T.F_World_entries))))

theorem ok_Course_world (T : Tx P w K mg F)  : FnOk P w K mg base CX0 1 T.a_Course_world T.d_Course_world ["self"] (spZ K F 1 m_Course_world) := by
  refine ok_zD T.F_Course_world sc_Course_world rfl fun cdv A outer s H E hr => ?_
  exact (zss_one (zs_ret (ze_attr T.hf_Course T.sc_Course T.sl_Course_own_world.choose_spec (ze_var (i := 0) rfl (.inl rfl)))))

end
end Z13

set_option Elab.async false
set_option linter.all false
set_option maxRecDepth 100000
set_option maxHeartbeats 4000000
namespace Z13
open PySem PySem.Spec PyProof.Rows L2 Z
section
variable {P : Program} {w : World} {K : PySem.W.Frag} {mg : Str → Option Value} {base : Heap} {F : Fx}
theorem ok__law_same (T : Tx P w K mg F)  : ∀ n, FnOk P w K mg base CX0 (n + 1) T.a__law_same T.d__law_same ["_law_found", "_law_due"] (spZ K F 2 (m__law_same n))
  | 0 => ok_none
  | n + 1 => by
    have G__law_same := ok__law_same T  n
    refine ok_zD T.F__law_same sc__law_same rfl fun cdv A outer s H E hr => ?_
    exact (zss_cons (zs_if (zt_truth (ze_alt (ze_isi2 (T := .list) (U := .tuple) (ze_var (i := 1) rfl (.inr (.inl rfl))) rfl T.n_isinstance rfl T.n_list (by decide +kernel) rfl T.n_tuple (by decide +kernel)) (ze_isi2D (T := .list) (U := .tuple) ⟨T.hP, T.hw⟩ (ze_var (i := 1) rfl (.inr (.inl rfl))) rfl T.n_isinstance rfl T.n_list (by decide +kernel) rfl T.n_tuple (by decide +kernel)))) (zss_cons (zs_if (PW.pt (zw_or (zt_cmp (op_neD hr.units) oz_ne (ze_alt (ze_isi (T := .list) (ze_var (i := 0) rfl (.inr (.inl rfl))) rfl T.n_isinstance rfl T.n_list (by decide +kernel)) (ze_isiD (T := .list) ⟨T.hP, T.hw⟩ (ze_var (i := 0) rfl (.inr (.inl rfl))) rfl T.n_isinstance rfl T.n_list (by decide +kernel))) (ze_alt (ze_isi (T := .list) (ze_var (i := 1) rfl (.inr (.inl rfl))) rfl T.n_isinstance rfl T.n_list (by decide +kernel)) (ze_isiD (T := .list) ⟨T.hP, T.hw⟩ (ze_var (i := 1) rfl (.inr (.inl rfl))) rfl T.n_isinstance rfl T.n_list (by decide +kernel))) (nomark _)) (zw_or1 (zt_cmp (op_neD hr.units) oz_ne (ze_alt (ze_isi (T := .tuple) (ze_var (i := 0) rfl (.inr (.inl rfl))) rfl T.n_isinstance rfl T.n_tuple (by decide +kernel)) (ze_isiD (T := .tuple) ⟨T.hP, T.hw⟩ (ze_var (i := 0) rfl (.inr (.inl rfl))) rfl T.n_isinstance rfl T.n_tuple (by decide +kernel))) (ze_alt (ze_isi (T := .tuple) (ze_var (i := 1) rfl (.inr (.inl rfl))) rfl T.n_isinstance rfl T.n_tuple (by decide +kernel)) (ze_isiD (T := .tuple) ⟨T.hP, T.hw⟩ (ze_var (i := 1) rfl (.inr (.inl rfl))) rfl T.n_isinstance rfl T.n_tuple (by decide +kernel))) (nomark _))))) (zss_one (zs_ret ze_bl)) zss_nil)
      (zss_one (zs_ret (ze_and (ze_cmp (op_eqD hr.units) oz_eq (ze_callB (cz_or cz_len (cz_lenD ⟨T.hP, T.hw⟩)) (Z.CallR.or call_len call_lenDZ) rfl T.n_len (by decide +kernel) (za_cons (ze_var (i := 0) rfl (.inr (.inl rfl))) za_nil)) (ze_callB (cz_or cz_len (cz_lenD ⟨T.hP, T.hw⟩)) (Z.CallR.or call_len call_lenDZ) rfl T.n_len (by decide +kernel) (za_cons (ze_var (i := 1) rfl (.inr (.inl rfl))) za_nil)) (nomark _)) (ze_one (ze_callB cz_all (cr_all rfl) rfl T.n_all (by decide +kernel) (za_cons (ze_lc (own := [("_law_mine", 2), ("_law_its", 3)]) (T := [2, 3]) rfl sc__law_same.nd (zi_zipA rfl T.n_zip (ze_var (i := 0) rfl (.inr (.inl rfl))) (ze_var (i := 1) rfl (.inr (.inl rfl)))) (blkOk_by (own := [("_law_mine", 2), ("_law_its", 3)]) (N := N__law_same) (sc := defScope s__law_same) (by decide +kernel)) rfl (fun _ _ _ _ _ => (zg_tup rfl (zgs_cons (zg_name (i := 2) sc__law_same.nd rfl (.inl rfl)) (zgs_cons (zg_name (i := 3) sc__law_same.nd rfl (.inl rfl)) zgs_nil)))) (fun _ _ _ _ _ => zts_nil) (fun _ _ _ _ _ => (ze_call G__law_same hr rfl T.g__law_same T.F__law_same.kp (bd__law_same T.F__law_same) (za_cons (ze_var (i := 2) rfl (.inl rfl)) (za_cons (ze_var (i := 3) rfl (.inl rfl)) za_nil))))) za_nil))))))) zss_nil)
      (zss_cons (zs_if (zt_truth (ze_alt (ze_isi (T := .dict) (ze_var (i := 1) rfl (.inr (.inl rfl))) rfl T.n_isinstance rfl T.n_dict (by decide +kernel)) (ze_isiD (T := .dict) ⟨T.hP, T.hw⟩ (ze_var (i := 1) rfl (.inr (.inl rfl))) rfl T.n_isinstance rfl T.n_dict (by decide +kernel)))) (zss_cons (zs_if (PW.pt (zw_or (zt_not (zt_truth (ze_alt (ze_isi (T := .dict) (ze_var (i := 0) rfl (.inr (.inl rfl))) rfl T.n_isinstance rfl T.n_dict (by decide +kernel)) (ze_isiD (T := .dict) ⟨T.hP, T.hw⟩ (ze_var (i := 0) rfl (.inr (.inl rfl))) rfl T.n_isinstance rfl T.n_dict (by decide +kernel))))) (zw_or1 (zt_cmp (op_neD hr.units) oz_ne (ze_callB (cz_sorted hr.units) cr_sortedZ rfl T.n_sorted (by decide +kernel) (za_cons (ze_var (i := 0) rfl (.inr (.inl rfl))) za_nil)) (ze_callB (cz_sortedD ⟨T.hP, T.hw⟩ rfl hr.units) cr_sortedG rfl T.n_sorted (by decide +kernel) (za_cons (ze_var (i := 1) rfl (.inr (.inl rfl))) za_nil)) (nomark _))))) (zss_one (zs_ret ze_bl)) zss_nil)
      (zss_one (zs_ret (ze_callB cz_all (cr_all rfl) rfl T.n_all (by decide +kernel) (za_cons (ze_lock (ma := (vVar 1)) (ze_lc (own := [("_law_own", 4)]) (T := [4]) rfl sc__law_same.nd (zi_dk ⟨T.hP, T.hw⟩ (ze_var (i := 1) rfl (.inr (.inl rfl)))) (blkOk_by (own := [("_law_own", 4)]) (N := N__law_same) (sc := defScope s__law_same) (by decide +kernel)) rfl (fun _ _ _ _ _ => (zg_name (i := 4) sc__law_same.nd rfl (.inl rfl))) (fun _ _ _ _ _ => zts_nil) (fun _ _ _ _ _ => (ze_call G__law_same hr rfl T.g__law_same T.F__law_same.kp (bd__law_same T.F__law_same) (za_cons (ze_sub2 ⟨T.hP, T.hw⟩ hr.units (ze_var (i := 0) rfl (.inr (.inl rfl))) (ze_var (i := 4) rfl (.inl rfl))) (za_cons (ze_dget ⟨T.hP, T.hw⟩ hr.units (ze_var (i := 1) rfl (.inr (.inl rfl))) (ze_var (i := 4) rfl (.inl rfl))) za_nil)))))) za_nil))))) zss_nil)
      (zss_cons (zs_if (PW.pt (zw_or (zt_cmp op_isN oz_isN (ze_var (i := 1) rfl (.inr (.inl rfl))) ze_non (nomark _)) (zw_or1 (zt_truth (ze_alt (ze_isi2 (T := .bool) (U := .str) (ze_var (i := 1) rfl (.inr (.inl rfl))) rfl T.n_isinstance rfl T.n_bool (by decide +kernel) rfl T.n_str (by decide +kernel)) (ze_isi2D (T := .bool) (U := .str) ⟨T.hP, T.hw⟩ (ze_var (i := 1) rfl (.inr (.inl rfl))) rfl T.n_isinstance rfl T.n_bool (by decide +kernel) rfl T.n_str (by decide +kernel))))))) (zss_one (zs_ret (ze_and (ze_cmp (op_eqD hr.units) oz_eq (ze_var (i := 0) rfl (.inr (.inl rfl))) (ze_var (i := 1) rfl (.inr (.inl rfl))) (nomark _)) (ze_and (ze_cmp (op_eqD hr.units) oz_eq (ze_alt (ze_isi (T := .bool) (ze_var (i := 0) rfl (.inr (.inl rfl))) rfl T.n_isinstance rfl T.n_bool (by decide +kernel)) (ze_isiD (T := .bool) ⟨T.hP, T.hw⟩ (ze_var (i := 0) rfl (.inr (.inl rfl))) rfl T.n_isinstance rfl T.n_bool (by decide +kernel))) (ze_alt (ze_isi (T := .bool) (ze_var (i := 1) rfl (.inr (.inl rfl))) rfl T.n_isinstance rfl T.n_bool (by decide +kernel)) (ze_isiD (T := .bool) ⟨T.hP, T.hw⟩ (ze_var (i := 1) rfl (.inr (.inl rfl))) rfl T.n_isinstance rfl T.n_bool (by decide +kernel))) (nomark _)) (ze_one (ze_cmp (op_eqD hr.units) oz_eq (ze_cmp op_isN oz_isN (ze_var (i := 0) rfl (.inr (.inl rfl))) ze_non (nomark _)) (ze_cmp op_isN oz_isN (ze_var (i := 1) rfl (.inr (.inl rfl))) ze_non (nomark _)) (nomark _))))))) zss_nil)
      (zss_one (zs_ret (ze_and (ze_alt (ze_isi (T := .int) (ze_var (i := 0) rfl (.inr (.inl rfl))) rfl T.n_isinstance rfl T.n_int (by decide +kernel)) (ze_isiD (T := .int) ⟨T.hP, T.hw⟩ (ze_var (i := 0) rfl (.inr (.inl rfl))) rfl T.n_isinstance rfl T.n_int (by decide +kernel))) (ze_and (ze_not (ze_alt (ze_isi (T := .bool) (ze_var (i := 0) rfl (.inr (.inl rfl))) rfl T.n_isinstance rfl T.n_bool (by decide +kernel)) (ze_isiD (T := .bool) ⟨T.hP, T.hw⟩ (ze_var (i := 0) rfl (.inr (.inl rfl))) rfl T.n_isinstance rfl T.n_bool (by decide +kernel)))) (ze_one (ze_cmp (op_eqD hr.units) oz_eq (ze_var (i := 0) rfl (.inr (.inl rfl))) (ze_var (i := 1) rfl (.inr (.inl rfl))) (nomark _))))))))))

theorem ok_law (T : Tx P w K mg F) (G__law_box : FnOk P w K mg base CX0 1 T.a__law_box T.d__law_box ["_law_script", "_law_k"] (spZ K F 2 (fBoxN 4))) (G__law_cells : FnOk P w K mg base CX0 1 T.a__law_cells T.d__law_cells ["_law_script", "_law_most"] (spZ K F 2 fCells)) (G__law_right : FnOk P w K mg base CX0 11 T.a__law_right T.d__law_right ["_law_box_here"] (spZ K F 1 (fRightB 4 [0]))) : FnOk P w K mg base CX0 12 T.a_law T.d_law ["_law_script"] (spZ K F 1 m_law) := by
  refine ok_zD T.F_law sc_law rfl fun cdv A outer s H E hr => ?_
  exact (zss_cons (zs_set (i := 1) sc_law.nd rfl (.inr rfl) (ze_call (G__law_cells) (hr.mono (by decide)) rfl T.g__law_cells T.F__law_cells.kp (bd__law_cells T.F__law_cells) (za_cons (ze_var (i := 0) rfl (.inl rfl)) (za_cons ze_int za_nil))))
      (zss_one (zs_ret (ze_callB cz_all (cr_all rfl) rfl T.n_all (by decide +kernel) (za_cons (ze_lc (own := [("_law_k", 2)]) (T := [2]) rfl sc_law.nd (zi_range1 rfl T.n_range (ze_callB (cz_or cz_len cz_lenC) (Z.CallR.or call_len call_len) rfl T.n_len (by decide +kernel) (za_cons (ze_var (i := 1) rfl (.inr (.inl rfl))) za_nil))) (blkOk_by (own := [("_law_k", 2)]) (N := N_law) (sc := defScope s_law) (by decide +kernel)) rfl (fun _ _ _ _ _ => (zg_name (i := 2) sc_law.nd rfl (.inl rfl))) (fun _ _ _ _ _ => zts_nil) (fun _ _ _ _ _ => (ze_call (G__law_right) (hr.mono (by decide)) rfl T.g__law_right T.F__law_right.kp (bd__law_right T.F__law_right) (za_cons (ze_call (G__law_box) (hr.mono (by decide)) rfl T.g__law_box T.F__law_box.kp (bd__law_box T.F__law_box) (za_cons (ze_var (i := 1) rfl (.inr (.inl rfl))) (za_cons (ze_var (i := 2) rfl (.inl rfl)) za_nil))) za_nil)))) za_nil)))))

theorem ok_Course_do (T : Tx P w K mg F) (G_World_do : FnOk P w K mg base CX0 1 T.a_World_do T.d_World_do ["self", "deed"] (spZ K F 2 m_World_do)) : FnOk P w K mg base CX0 2 T.a_Course_do T.d_Course_do ["self", "deed"] (spZ K F 2 m_Course_do) := by
  refine ok_zD T.F_Course_do sc_Course_do rfl fun cdv A outer s H E hr => ?_
  exact (zss_one (zs_if (zt_cmp (op_in2 hr.u65) (oz_in2 ⟨T.hP, T.hw⟩) (ze_ix (ze_var (i := 1) rfl (.inl rfl)) ze_int) (ze_tup (za_cons (ze_gstr 9 rfl T.c_STOP (lit_at T.hL rfl)) (za_cons (ze_gstr 8 rfl T.c_START (lit_at T.hL rfl)) za_nil))) (by rfl)) (zss_one (zs_attr T.hf_Course T.sc_Course T.sl_Course_own_stopped.choose_spec (ze_var (i := 0) rfl (.inl rfl)) (ze_cmp (op_eqD hr.units) oz_eq (ze_ix (ze_var (i := 1) rfl (.inl rfl)) ze_int) (ze_gstr 9 rfl T.c_STOP (lit_at T.hL rfl)) (nomark _)))) (zss_one (zs_expr (ze_meth T.hf_World (ze_attr T.hf_Course T.sc_Course T.sl_Course_own_world.choose_spec (ze_var (i := 0) rfl (.inl rfl))) T.sc_World T.me_World_do (G_World_do) (hr.mono (by decide)) (bd_World_do T.F_World_do) (za_cons (ze_var (i := 1) rfl (.inl rfl)) za_nil))))))

theorem ok_World_is_free (T : Tx P w K mg F) (G_World_folders : FnOk P w K mg base CX0 1 T.a_World_folders T.d_World_folders ["self"] (spZ K F 1 m_World_folders)) : FnOk P w K mg base CX0 2 T.a_World_is_free T.d_World_is_free ["self", "folder", "name"] (spZ K F 3 m_World_is_free) := by
  refine ok_zD T.F_World_is_free sc_World_is_free rfl fun cdv A outer s H E hr => ?_
  exact (zss_one (zs_ret (ze_and (ze_cmp (op_in2 hr.u65) (oz_in2 ⟨T.hP, T.hw⟩) (ze_var (i := 1) rfl (.inl rfl)) (ze_meth0 T.hf_World (ze_var (i := 0) rfl (.inl rfl)) T.sc_World T.me_World_folders (G_World_folders) (hr.mono (by decide)) (bd_World_folders T.F_World_folders)) (by rfl)) (ze_one (ze_cmp (op_notIn2 hr.u65) (oz_notIn2 ⟨T.hP, T.hw⟩) (ze_tup (za_cons (ze_var (i := 1) rfl (.inl rfl)) (za_cons (ze_var (i := 2) rfl (.inl rfl)) za_nil))) (ze_attr T.hf_World T.sc_World T.sl_World_own_places.choose_spec (ze_var (i := 0) rfl (.inl rfl))) (by rfl))))))

theorem ok_Course_is_stopped (T : Tx P w K mg F)  : FnOk P w K mg base CX0 1 T.a_Course_is_stopped T.d_Course_is_stopped ["self"] (spZ K F 1 m_Course_is_stopped) := by
  refine ok_zD T.F_Course_is_stopped sc_Course_is_stopped rfl fun cdv A outer s H E hr => ?_
  exact (zss_one (zs_ret (ze_attr T.hf_Course T.sc_Course T.sl_Course_own_stopped.choose_spec (ze_var (i := 0) rfl (.inl rfl)))))

end
end Z13

set_option Elab.async false
set_option linter.all false
set_option maxRecDepth 100000
set_option maxHeartbeats 4000000
namespace Z13
open PySem PySem.Spec PyProof.Rows L2 Z
section
variable {P : Program} {w : World} {K : PySem.W.Frag} {mg : Str → Option Value} {base : Heap} {F : Fx}
theorem ok_World_can (T : Tx P w K mg F) (G_World_is_free : FnOk P w K mg base CX0 2 T.a_World_is_free T.d_World_is_free ["self", "folder", "name"] (spZ K F 3 m_World_is_free)) (G_World_is_within : FnOk P w K mg base CX0 2 T.a_World_is_within T.d_World_is_within ["self", "folder", "other"] (spZ K F 3 m_World_is_within)) (G_World_names : FnOk P w K mg base CX0 1 T.a_World_names T.d_World_names ["self", "folder"] (spZ K F 2 m_World_names)) (G_World_what : FnOk P w K mg base CX0 1 T.a_World_what T.d_World_what ["self", "folder", "name"] (spZ K F 3 m_World_what)) (G_is_form : FnOk P w K mg base CX0 2 T.a_is_form T.d_is_form ["thing"] (spZ K F 1 m_is_form)) : FnOk P w K mg base CX0 3 T.a_World_can T.d_World_can ["self", "deed"] (spZ K F 2 m_World_can) := by
  refine ok_zD T.F_World_can sc_World_can rfl fun cdv A outer s H E hr => ?_
  exact (zss_cons (zs_if (PW.pt (zw_or (zt_not (zt_truth (ze_call (G_is_form) (hr.mono (by decide)) rfl T.g_is_form T.F_is_form.kp (bd_is_form T.F_is_form) (za_cons (ze_var (i := 1) rfl (.inl rfl)) za_nil)))) (zw_or1 (zt_cmp (op_in2 hr.u65) (oz_in2 ⟨T.hP, T.hw⟩) (ze_ix (ze_var (i := 1) rfl (.inl rfl)) ze_int) (ze_tup (za_cons (ze_gstr 9 rfl T.c_STOP (lit_at T.hL rfl)) (za_cons (ze_gstr 8 rfl T.c_START (lit_at T.hL rfl)) za_nil))) (by rfl))))) (zss_one (zs_ret ze_bl)) zss_nil)
      (zss_cons (zs_par (i := 2) (j := 3) rfl sc_World_can.nd rfl rfl (by decide) rfl rfl (ze_ix (ze_var (i := 1) rfl (.inl rfl)) ze_int) (ze_slice (ze_var (i := 1) rfl (.inl rfl)) (zo_some ze_int) zo_none) (by rfl))
      (zss_cons (zs_if (zt_cmp (op_in2 hr.u65) (oz_in2 ⟨T.hP, T.hw⟩) (ze_var (i := 2) rfl (.inl rfl)) (ze_tup (za_cons (ze_gstr 5 rfl T.c_MAKE (lit_at T.hL rfl)) (za_cons (ze_gstr 7 rfl T.c_PUT (lit_at T.hL rfl)) za_nil))) (by rfl)) (zss_one (zs_ret (ze_meth T.hf_World (ze_var (i := 0) rfl (.inl rfl)) T.sc_World T.me_World_is_free (G_World_is_free) (hr.mono (by decide)) (bd_World_is_free T.F_World_is_free) (za_cons (ze_ix (ze_var (i := 3) rfl (.inl rfl)) ze_int) (za_cons (ze_ix (ze_var (i := 3) rfl (.inl rfl)) ze_int) za_nil))))) zss_nil)
      (zss_cons (zs_set (i := 4) sc_World_can.nd rfl (.inl rfl) (ze_meth T.hf_World (ze_var (i := 0) rfl (.inl rfl)) T.sc_World T.me_World_what (G_World_what) (hr.mono (by decide)) (bd_World_what T.F_World_what) (za_cons (ze_ix (ze_var (i := 3) rfl (.inl rfl)) ze_int) (za_cons (ze_ix (ze_var (i := 3) rfl (.inl rfl)) ze_int) za_nil))))
      (zss_cons (zs_if (zt_cmp op_isN oz_isN (ze_var (i := 4) rfl (.inl rfl)) ze_non (nomark _)) (zss_one (zs_ret ze_bl)) zss_nil)
      (zss_cons (zs_if (zt_cmp (op_eqD hr.units) oz_eq (ze_var (i := 2) rfl (.inl rfl)) (ze_gstr 3 rfl T.c_DROP (lit_at T.hL rfl)) (nomark _)) (zss_one (zs_ret (ze_or (ze_cmp (op_eqD hr.units) oz_eq (ze_var (i := 4) rfl (.inl rfl)) (ze_gint rfl T.c_FILE) (nomark _)) (ze_one (ze_cmp (op_eqD hr.units) oz_eq (ze_callB cz_len call_len rfl T.n_len (by decide +kernel) (za_cons (ze_meth T.hf_World (ze_var (i := 0) rfl (.inl rfl)) T.sc_World T.me_World_names (G_World_names) (hr.mono (by decide)) (bd_World_names T.F_World_names) (za_cons (ze_var (i := 4) rfl (.inl rfl)) za_nil)) za_nil)) ze_int (nomark _)))))) zss_nil)
      (zss_one (zs_ret (ze_and (ze_meth T.hf_World (ze_var (i := 0) rfl (.inl rfl)) T.sc_World T.me_World_is_free (G_World_is_free) (hr.mono (by decide)) (bd_World_is_free T.F_World_is_free) (za_cons (ze_ix (ze_var (i := 3) rfl (.inl rfl)) ze_int) (za_cons (ze_ix (ze_var (i := 3) rfl (.inl rfl)) ze_int) za_nil))) (ze_one (ze_or (ze_cmp (op_eqD hr.units) oz_eq (ze_var (i := 4) rfl (.inl rfl)) (ze_gint rfl T.c_FILE) (nomark _)) (ze_one (ze_not (ze_meth T.hf_World (ze_var (i := 0) rfl (.inl rfl)) T.sc_World T.me_World_is_within (G_World_is_within) (hr.mono (by decide)) (bd_World_is_within T.F_World_is_within) (za_cons (ze_ix (ze_var (i := 3) rfl (.inl rfl)) ze_int) (za_cons (ze_var (i := 4) rfl (.inl rfl)) za_nil))))))))))))))))

theorem ok_World_do (T : Tx P w K mg F)  : FnOk P w K mg base CX0 1 T.a_World_do T.d_World_do ["self", "deed"] (spZ K F 2 m_World_do) := by
  refine ok_zD T.F_World_do sc_World_do rfl fun cdv A outer s H E hr => ?_
  exact (zss_cons (zs_par (i := 2) (j := 3) rfl sc_World_do.nd rfl rfl (by decide) rfl rfl (ze_ix (ze_var (i := 1) rfl (.inl rfl)) ze_int) (ze_slice (ze_var (i := 1) rfl (.inl rfl)) (zo_some ze_int) zo_none) (by rfl))
      (zss_one (zs_if (zt_cmp (op_eqD hr.units) oz_eq (ze_var (i := 2) rfl (.inl rfl)) (ze_gstr 7 rfl T.c_PUT (lit_at T.hL rfl)) (nomark _)) (zss_one (zs_asg (T := []) (ze_gint rfl T.c_FILE) (zg_dx ⟨T.hP, T.hw⟩ hr.units (ze_attr T.hf_World T.sc_World T.sl_World_own_places.choose_spec (ze_var (i := 0) rfl (.inl rfl))) (ze_var (i := 3) rfl (.inl rfl))))) (zss_one (zs_if (zt_cmp (op_eqD hr.units) oz_eq (ze_var (i := 2) rfl (.inl rfl)) (ze_gstr 5 rfl T.c_MAKE (lit_at T.hL rfl)) (nomark _)) (zss_cons (zs_asg (T := []) (ze_attr T.hf_World T.sc_World T.sl_World_own_next.choose_spec (ze_var (i := 0) rfl (.inl rfl))) (zg_dx ⟨T.hP, T.hw⟩ hr.units (ze_attr T.hf_World T.sc_World T.sl_World_own_places.choose_spec (ze_var (i := 0) rfl (.inl rfl))) (ze_var (i := 3) rfl (.inl rfl))))
      (zss_one (zs_attrAug T.hf_World T.sc_World T.sl_World_own_next.choose_spec (ze_var (i := 0) rfl (.inl rfl)) ze_int in_add oz_addI))) (zss_cons (zs_set (i := 4) sc_World_do.nd rfl (.inl rfl) (ze_mt (tz_dct ⟨T.hP, T.hw⟩) (mz_dpop ⟨T.hP, T.hw⟩) ty_dctZ PySem.F.plainAttrs_dict PySem.F.slot_dict_pop PySem.F.type_dict_pop (mt_dpopZ hr.units) (ze_attr T.hf_World T.sc_World T.sl_World_own_places.choose_spec (ze_var (i := 0) rfl (.inl rfl))) (za_cons (ze_slice (ze_var (i := 3) rfl (.inl rfl)) zo_none (zo_some ze_int)) za_nil)))
      (zss_one (zs_if (zt_cmp (op_eqD hr.units) oz_eq (ze_var (i := 2) rfl (.inl rfl)) (ze_gstr 6 rfl T.c_MOVE (lit_at T.hL rfl)) (nomark _)) (zss_one (zs_asg (T := []) (ze_var (i := 4) rfl (.inl rfl)) (zg_dx ⟨T.hP, T.hw⟩ hr.units (ze_attr T.hf_World T.sc_World T.sl_World_own_places.choose_spec (ze_var (i := 0) rfl (.inl rfl))) (ze_slice (ze_var (i := 3) rfl (.inl rfl)) (zo_some ze_int) zo_none)))) zss_nil))))))))

theorem ok_World_path_of (T : Tx P w K mg F) (G_World_folders : FnOk P w K mg base CX0 1 T.a_World_folders T.d_World_folders ["self"] (spZ K F 1 m_World_folders)) (G_World_place_of : FnOk P w K mg base CX0 1 T.a_World_place_of T.d_World_place_of ["self", "folder"] (spZ K F 2 m_World_place_of)) : FnOk P w K mg base CX0 2 T.a_World_path_of T.d_World_path_of ["self", "folder"] (spZ K F 2 m_World_path_of) := by
  refine ok_zD T.F_World_path_of sc_World_path_of rfl fun cdv A outer s H E hr => ?_
  exact (zss_cons (zs_set (i := 2) sc_World_path_of.nd rfl (.inl rfl) (ze_tup za_nil))
      (zss_cons (zs_if (zt_cmp (op_notIn2 hr.u65) (oz_notIn2 ⟨T.hP, T.hw⟩) (ze_var (i := 1) rfl (.inl rfl)) (ze_meth0 T.hf_World (ze_var (i := 0) rfl (.inl rfl)) T.sc_World T.me_World_folders (G_World_folders) (hr.mono (by decide)) (bd_World_folders T.F_World_folders)) (by rfl)) (zss_one (zs_ret ze_non)) zss_nil)
      (zss_cons (zs_while PassesOwn.never (zt_cmp (op_neD hr.units) oz_ne (ze_var (i := 1) rfl (.inl rfl)) (ze_gint rfl T.c_ROOT) (nomark _)) (zss_cons (zs_asg (T := [1, 3]) (ze_meth T.hf_World (ze_var (i := 0) rfl (.inl rfl)) T.sc_World T.me_World_place_of (G_World_place_of) (hr.mono (by decide)) (bd_World_place_of T.F_World_place_of) (za_cons (ze_var (i := 1) rfl (.inl rfl)) za_nil)) (zg_tup rfl (zgs_cons (zg_name (i := 1) sc_World_path_of.nd rfl (.inl rfl)) (zgs_cons (zg_name (i := 3) sc_World_path_of.nd rfl (.inl rfl)) zgs_nil))))
      (zss_one (zs_set (i := 2) sc_World_path_of.nd rfl (.inl rfl) (ze_op (L2.OpR.or op_add (L2.OpR.or op_catA op_cat)) oz_add (ze_tup (za_cons (ze_var (i := 3) rfl (.inl rfl)) za_nil)) (ze_var (i := 2) rfl (.inl rfl)))))))
      (zss_one (zs_ret (ze_var (i := 2) rfl (.inl rfl)))))))

theorem ok__law_cells (T : Tx P w K mg F)  : FnOk P w K mg base CX0 1 T.a__law_cells T.d__law_cells ["_law_script", "_law_most"] (spZ K F 2 m__law_cells) := by
  refine ok_zD T.F__law_cells sc__law_cells rfl fun cdv A outer s H E hr => ?_
  exact (zss_cons (zs_set (i := 2) sc__law_cells.nd rfl (.inl rfl) (ze_or (ze_callTy cz_list call_list_of rfl T.n_list (by decide +kernel) (za_cons (ze_slice (ze_var (i := 0) rfl (.inl rfl)) zo_none (zo_some (ze_var (i := 1) rfl (.inl rfl)))) za_nil)) (ze_one (ze_lst (za_cons ze_int za_nil)))))
      (zss_cons (zs_for (T := [3, 4]) PassesOwn.never rfl (zi_enum rfl T.n_enumerate (ze_slice (ze_var (i := 0) rfl (.inl rfl)) (zo_some (ze_var (i := 1) rfl (.inl rfl))) (zo_some ze_int))) (zg_tup rfl (zgs_cons (zg_name (i := 3) sc__law_cells.nd rfl (.inl rfl)) (zgs_cons (zg_name (i := 4) sc__law_cells.nd rfl (.inl rfl)) zgs_nil))) (zss_cons (zs_set (i := 5) sc__law_cells.nd rfl (.inl rfl) (ze_op op_modN oz_mod (ze_callTy cz_int call_int1 rfl T.n_int (by decide +kernel) (za_cons (ze_var (i := 3) rfl (.inl rfl)) za_nil)) (ze_var (i := 1) rfl (.inl rfl))))
      (zss_one (zs_asg (T := []) (ze_op (L2.OpR.or op_add (L2.OpR.or op_catA op_cat)) oz_add (ze_ix (ze_var (i := 2) rfl (.inl rfl)) (ze_var (i := 5) rfl (.inl rfl))) (ze_op (L2.OpR.or op_mul (L2.OpR.or op_repT op_rep)) oz_mul (ze_var (i := 4) rfl (.inl rfl)) (ze_op (L2.OpR.or op_add (L2.OpR.or op_catA op_cat)) oz_add (ze_var (i := 3) rfl (.inl rfl)) ze_int))) (zg_ix (ze_var (i := 2) rfl (.inl rfl)) (ze_var (i := 5) rfl (.inl rfl)))))))
      (zss_one (zs_ret (ze_var (i := 2) rfl (.inl rfl))))))

theorem ok_tupled (T : Tx P w K mg F)  : ∀ n, FnOk P w K mg base CX0 (n + 1) T.a_tupled T.d_tupled ["thing"] (spZ K F 1 (m_tupled n))
  | 0 => ok_none
  | n + 1 => by
    have G_tupled := ok_tupled T  n
    refine ok_zD T.F_tupled sc_tupled rfl fun cdv A outer s H E hr => ?_
    exact (zss_one (zs_ret (ze_if (zt_truth (ze_isi2 (T := .list) (U := .tuple) (ze_var (i := 0) rfl (.inl rfl)) rfl T.n_isinstance rfl T.n_list (by decide +kernel) rfl T.n_tuple (by decide +kernel))) (ze_callTy cz_tuple call_tuple_of rfl T.n_tuple (by decide +kernel) (za_cons (ze_lc (own := [("part", 1)]) (T := [1]) rfl sc_tupled.nd (zi_val (ze_var (i := 0) rfl (.inl rfl))) (blkOk_by (own := [("part", 1)]) (N := N_tupled) (sc := defScope s_tupled) (by decide +kernel)) rfl (fun _ _ _ _ _ => (zg_name (i := 1) sc_tupled.nd rfl (.inl rfl))) (fun _ _ _ _ _ => zts_nil) (fun _ _ _ _ _ => (ze_call G_tupled hr rfl T.g_tupled T.F_tupled.kp (bd_tupled T.F_tupled) (za_cons (ze_var (i := 1) rfl (.inl rfl)) za_nil)))) za_nil)) (ze_var (i := 0) rfl (.inl rfl)))))

theorem ok_is_tuple (T : Tx P w K mg F)  : FnOk P w K mg base CX0 1 T.a_is_tuple T.d_is_tuple ["thing", "many"] (spZ K F 2 m_is_tuple) := by
  refine ok_zD T.F_is_tuple sc_is_tuple rfl fun cdv A outer s H E hr => ?_
  exact (zss_one (zs_ret (ze_and (ze_isi (T := .tuple) (ze_var (i := 0) rfl (.inl rfl)) rfl T.n_isinstance rfl T.n_tuple (by decide +kernel)) (ze_one (ze_cmp (op_eqD hr.units) oz_eq (ze_callB cz_len call_len rfl T.n_len (by decide +kernel) (za_cons (ze_var (i := 0) rfl (.inl rfl)) za_nil)) (ze_var (i := 1) rfl (.inl rfl)) (nomark _))))))

end
end Z13

set_option Elab.async false
set_option linter.all false
set_option maxRecDepth 100000
set_option maxHeartbeats 4000000
namespace Z13
open PySem PySem.Spec PyProof.Rows L2 Z
section
variable {P : Program} {w : World} {K : PySem.W.Frag} {mg : Str → Option Value} {base : Heap} {F : Fx}
theorem ok_is_form (T : Tx P w K mg F) (G_is_name : FnOk P w K mg base CX0 1 T.a_is_name T.d_is_name ["thing"] (spZ K F 1 m_is_name)) (G_is_number : FnOk P w K mg base CX0 1 T.a_is_number T.d_is_number ["thing", "bottom"] (spZ K F 2 m_is_number)) : FnOk P w K mg base CX0 2 T.a_is_form T.d_is_form ["thing"] (spZ K F 1 m_is_form) := by
  refine ok_zD T.F_is_form sc_is_form rfl fun cdv A outer s H E hr => ?_
  exact (zss_cons (zs_if (PW.pt (zw_or (zt_not (zt_truth (ze_isi (T := .tuple) (ze_var (i := 0) rfl (.inl rfl)) rfl T.n_isinstance rfl T.n_tuple (by decide +kernel)))) (zw_or (zt_cmp (op_eqD hr.units) oz_eq (ze_callB cz_len call_len rfl T.n_len (by decide +kernel) (za_cons (ze_var (i := 0) rfl (.inl rfl)) za_nil)) ze_int (nomark _)) (zw_or1 (zt_not (zt_truth (ze_isi (T := .str) (ze_ix (ze_var (i := 0) rfl (.inl rfl)) ze_int) rfl T.n_isinstance rfl T.n_str (by decide +kernel)))))))) (zss_one (zs_ret ze_bl)) zss_nil)
      (zss_cons (zs_if (zt_cmp (op_in2 hr.u65) (oz_in2 ⟨T.hP, T.hw⟩) (ze_ix (ze_var (i := 0) rfl (.inl rfl)) ze_int) (ze_tup (za_cons (ze_gstr 9 rfl T.c_STOP (lit_at T.hL rfl)) (za_cons (ze_gstr 8 rfl T.c_START (lit_at T.hL rfl)) za_nil))) (by rfl)) (zss_one (zs_ret (ze_cmp (op_eqD hr.units) oz_eq (ze_callB cz_len call_len rfl T.n_len (by decide +kernel) (za_cons (ze_var (i := 0) rfl (.inl rfl)) za_nil)) ze_int (nomark _)))) zss_nil)
      (zss_cons (zs_if (zt_cmp (op_in2 hr.u65) (oz_in2 ⟨T.hP, T.hw⟩) (ze_ix (ze_var (i := 0) rfl (.inl rfl)) ze_int) (ze_tup (za_cons (ze_gstr 5 rfl T.c_MAKE (lit_at T.hL rfl)) (za_cons (ze_gstr 7 rfl T.c_PUT (lit_at T.hL rfl)) (za_cons (ze_gstr 3 rfl T.c_DROP (lit_at T.hL rfl)) za_nil)))) (by rfl)) (zss_one (zs_ret (ze_and (ze_cmp (op_eqD hr.units) oz_eq (ze_callB cz_len call_len rfl T.n_len (by decide +kernel) (za_cons (ze_var (i := 0) rfl (.inl rfl)) za_nil)) (ze_gint rfl T.c_SHORT_PARTS) (nomark _)) (ze_and (ze_call (G_is_number) (hr.mono (by decide)) rfl T.g_is_number T.F_is_number.kp (bd_is_number T.F_is_number) (za_cons (ze_ix (ze_var (i := 0) rfl (.inl rfl)) ze_int) (za_cons (ze_gint rfl T.c_ROOT) za_nil))) (ze_one (ze_call (G_is_name) (hr.mono (by decide)) rfl T.g_is_name T.F_is_name.kp (bd_is_name T.F_is_name) (za_cons (ze_ix (ze_var (i := 0) rfl (.inl rfl)) ze_int) za_nil))))))) zss_nil)
      (zss_cons (zs_if (PW.pt (zw_or (zt_cmp (op_neD hr.units) oz_ne (ze_ix (ze_var (i := 0) rfl (.inl rfl)) ze_int) (ze_gstr 6 rfl T.c_MOVE (lit_at T.hL rfl)) (nomark _)) (zw_or1 (zt_cmp (op_neD hr.units) oz_ne (ze_callB cz_len call_len rfl T.n_len (by decide +kernel) (za_cons (ze_var (i := 0) rfl (.inl rfl)) za_nil)) (ze_gint rfl T.c_LONG_PARTS) (nomark _))))) (zss_one (zs_ret ze_bl)) zss_nil)
      (zss_one (zs_ret (ze_callB cz_all (cr_all rfl) rfl T.n_all (by decide +kernel) (za_cons (ze_lc (own := [("folder", 1), ("name", 2)]) (T := [1, 2]) rfl sc_is_form.nd (zi_val (ze_tup (za_cons (ze_slice (ze_var (i := 0) rfl (.inl rfl)) (zo_some ze_int) (zo_some ze_int)) (za_cons (ze_slice (ze_var (i := 0) rfl (.inl rfl)) (zo_some ze_int) zo_none) za_nil)))) (blkOk_by (own := [("folder", 1), ("name", 2)]) (N := N_is_form) (sc := defScope s_is_form) (by decide +kernel)) rfl (fun _ _ _ _ _ => (zg_tup rfl (zgs_cons (zg_name (i := 1) sc_is_form.nd rfl (.inl rfl)) (zgs_cons (zg_name (i := 2) sc_is_form.nd rfl (.inl rfl)) zgs_nil)))) (fun _ _ _ _ _ => zts_nil) (fun _ _ _ _ _ => (ze_and (ze_call (G_is_number) (hr.mono (by decide)) rfl T.g_is_number T.F_is_number.kp (bd_is_number T.F_is_number) (za_cons (ze_var (i := 1) rfl (.inl rfl)) (za_cons (ze_gint rfl T.c_ROOT) za_nil))) (ze_one (ze_call (G_is_name) (hr.mono (by decide)) rfl T.g_is_name T.F_is_name.kp (bd_is_name T.F_is_name) (za_cons (ze_var (i := 2) rfl (.inl rfl)) za_nil)))))) za_nil))))))))

theorem ok_has_no_ring (T : Tx P w K mg F)  : FnOk P w K mg base CX0 1 T.a_has_no_ring T.d_has_no_ring ["tree"] (spZ K F 1 m_has_no_ring) := by
  refine ok_zD T.F_has_no_ring sc_has_no_ring rfl fun cdv A outer s H E hr => ?_
  exact (zss_cons (zs_setDc (i := 1) (own := [("folder", 2), ("name", 5), ("what", 6)]) (T := [2, 5, 6]) ⟨T.hP, T.hw⟩ hr.units rfl sc_has_no_ring.nd rfl rfl (sw_trueD rfl rfl rfl (by decide +kernel)) (zi_val (ze_var (i := 0) rfl (.inl rfl))) (blkOk_by (own := [("folder", 2), ("name", 5), ("what", 6)]) (N := N_has_no_ring) (sc := defScope s_has_no_ring) (by decide +kernel)) rfl (fun _ _ _ _ _ => (zg_tup rfl (zgs_cons (zg_name (i := 2) sc_has_no_ring.nd rfl (.inl rfl)) (zgs_cons (zg_name (i := 5) sc_has_no_ring.nd rfl (.inl rfl)) (zgs_cons (zg_name (i := 6) sc_has_no_ring.nd rfl (.inl rfl)) zgs_nil))))) (fun _ _ _ _ _ => (zts_one (zt_cmp (op_neD hr.units) oz_ne (ze_var (i := 6) rfl (.inl rfl)) (ze_gint rfl T.c_FILE) (nomark _)))) (fun _ _ _ _ _ => (ze_var (i := 6) rfl (.inl rfl))) (fun _ _ _ _ _ => (ze_var (i := 2) rfl (.inl rfl))))
      (zss_cons (zs_lock (ma := (vVar 1)) (zs_for (T := [2]) PassesOwn.never rfl (zi_dk ⟨T.hP, T.hw⟩ (ze_var (i := 1) rfl (.inl rfl))) (zg_name (i := 2) sc_has_no_ring.nd rfl (.inl rfl)) (zss_cons (zs_par (i := 3) (j := 4) rfl sc_has_no_ring.nd rfl rfl (by decide) rfl rfl (ze_var (i := 2) rfl (.inl rfl)) ze_int (by rfl))
      (zss_cons (zs_while PassesOwn.never (PW.pt (zw_and (zt_cmp (op_neD hr.units) oz_ne (ze_var (i := 3) rfl (.inl rfl)) (ze_gint rfl T.c_ROOT) (nomark _)) (zw_and1 (zt_cmp op_le oz_ib (ze_var (i := 4) rfl (.inl rfl)) (ze_callB (cz_or cz_len (cz_lenD ⟨T.hP, T.hw⟩)) (Z.CallR.or call_len call_lenDZ) rfl T.n_len (by decide +kernel) (za_cons (ze_var (i := 1) rfl (.inl rfl)) za_nil)) (nomark _))))) (zss_one (zs_par (i := 3) (j := 4) rfl sc_has_no_ring.nd rfl rfl (by decide) rfl rfl (ze_dget ⟨T.hP, T.hw⟩ hr.units (ze_var (i := 1) rfl (.inl rfl)) (ze_var (i := 3) rfl (.inl rfl))) (ze_op (L2.OpR.or op_add (L2.OpR.or op_catA op_cat)) oz_add (ze_var (i := 4) rfl (.inl rfl)) ze_int) (by rfl))))
      (zss_one (zs_if (zt_cmp (op_neD hr.units) oz_ne (ze_var (i := 3) rfl (.inl rfl)) (ze_gint rfl T.c_ROOT) (nomark _)) (zss_one (zs_ret ze_bl)) zss_nil))))))
      (zss_one (zs_ret ze_bl))))

theorem ok_World___init__ (T : Tx P w K mg F)  : FnOk P w K mg base CX0 1 T.a_World___init__ T.d_World___init__ ["self", "tree"] (spZ K F 2 m_World___init__) := by
  refine ok_zD T.F_World___init__ sc_World___init__ rfl fun cdv A outer s H E hr => ?_
  exact (zss_cons (zs_attr T.hf_World T.sc_World T.sl_World_own_places.choose_spec (ze_var (i := 0) rfl (.inl rfl)) (ze_dc (own := [("folder", 2), ("name", 3), ("what", 4)]) (T := [2, 3, 4]) ⟨T.hP, T.hw⟩ hr.units rfl sc_World___init__.nd (zi_val (ze_var (i := 1) rfl (.inl rfl))) (blkOk_by (own := [("folder", 2), ("name", 3), ("what", 4)]) (N := N_World___init__) (sc := defScope s_World___init__) (by decide +kernel)) rfl (fun _ _ _ _ _ => (zg_tup rfl (zgs_cons (zg_name (i := 2) sc_World___init__.nd rfl (.inl rfl)) (zgs_cons (zg_name (i := 3) sc_World___init__.nd rfl (.inl rfl)) (zgs_cons (zg_name (i := 4) sc_World___init__.nd rfl (.inl rfl)) zgs_nil))))) (fun _ _ _ _ _ => zts_nil) (fun _ _ _ _ _ => (ze_tup (za_cons (ze_var (i := 2) rfl (.inl rfl)) (za_cons (ze_var (i := 3) rfl (.inl rfl)) za_nil)))) (fun _ _ _ _ _ => (ze_var (i := 4) rfl (.inl rfl)))))
      (zss_one (zs_attr T.hf_World T.sc_World T.sl_World_own_next.choose_spec (ze_var (i := 0) rfl (.inl rfl)) (ze_op (L2.OpR.or op_add (L2.OpR.or op_catA op_cat)) oz_add ze_int (ze_callBK cz_maxZ (cr_maxZ rfl hr.units) rfl T.n_max (by decide +kernel) (za_cons (ze_lc (own := [("folder", 2), ("name", 3), ("what", 4)]) (T := [2, 3, 4]) rfl sc_World___init__.nd (zi_val (ze_var (i := 1) rfl (.inl rfl))) (blkOk_by (own := [("folder", 2), ("name", 3), ("what", 4)]) (N := N_World___init__) (sc := defScope s_World___init__) (by decide +kernel)) rfl (fun _ _ _ _ _ => (zg_tup rfl (zgs_cons (zg_name (i := 2) sc_World___init__.nd rfl (.inl rfl)) (zgs_cons (zg_name (i := 3) sc_World___init__.nd rfl (.inl rfl)) (zgs_cons (zg_name (i := 4) sc_World___init__.nd rfl (.inl rfl)) zgs_nil))))) (fun _ _ _ _ _ => (zts_one (zt_cmp (op_neD hr.units) oz_ne (ze_var (i := 4) rfl (.inl rfl)) (ze_gint rfl T.c_FILE) (nomark _)))) (fun _ _ _ _ _ => (ze_var (i := 4) rfl (.inl rfl)))) za_nil) (zk_cons (ze_gint rfl T.c_ROOT) zk_nil))))))

theorem ok_World_entries (T : Tx P w K mg F)  : FnOk P w K mg base CX0 1 T.a_World_entries T.d_World_entries ["self"] (spZ K F 1 m_World_entries) := by
  refine ok_zD T.F_World_entries sc_World_entries rfl fun cdv A outer s H E hr => ?_
  exact (zss_one (zs_ret (ze_callTy cz_tuple call_tuple_of rfl T.n_tuple (by decide +kernel) (za_cons (ze_lc (own := [("place", 1)]) (T := [1]) rfl sc_World_entries.nd (zi_val (ze_callB (cz_sortedD ⟨T.hP, T.hw⟩ rfl hr.units) cr_sortedG rfl T.n_sorted (by decide +kernel) (za_cons (ze_attr T.hf_World T.sc_World T.sl_World_own_places.choose_spec (ze_var (i := 0) rfl (.inr (.inl rfl)))) za_nil))) (blkOk_by (own := [("place", 1)]) (N := N_World_entries) (sc := defScope s_World_entries) (by decide +kernel)) rfl (fun _ _ _ _ _ => (zg_name (i := 1) sc_World_entries.nd rfl (.inl rfl))) (fun _ _ _ _ _ => zts_nil) (fun _ _ _ _ _ => (ze_op (L2.OpR.or op_add (L2.OpR.or op_catA op_cat)) oz_add (ze_var (i := 1) rfl (.inl rfl)) (ze_tup (za_cons (ze_dget ⟨T.hP, T.hw⟩ hr.units (ze_attr T.hf_World T.sc_World T.sl_World_own_places.choose_spec (ze_var (i := 0) rfl (.inr (.inl rfl)))) (ze_var (i := 1) rfl (.inl rfl))) za_nil))))) za_nil))))

theorem ok_World_place_of (T : Tx P w K mg F)  : FnOk P w K mg base CX0 1 T.a_World_place_of T.d_World_place_of ["self", "folder"] (spZ K F 2 m_World_place_of) := by
  refine ok_zD T.F_World_place_of sc_World_place_of rfl fun cdv A outer s H E hr => ?_
  exact (zss_one (zs_ret (ze_ix (ze_lock (ma := (mAttr 1 1 (vVar 0))) (ze_lc (own := [("place", 2), ("what", 3)]) (T := [2, 3]) rfl sc_World_place_of.nd (zi_di ⟨T.hP, T.hw⟩ (ze_attr T.hf_World T.sc_World T.sl_World_own_places.choose_spec (ze_var (i := 0) rfl (.inl rfl)))) (blkOk_by (own := [("place", 2), ("what", 3)]) (N := N_World_place_of) (sc := defScope s_World_place_of) (by decide +kernel)) rfl (fun _ _ _ _ _ => (zg_tup rfl (zgs_cons (zg_name (i := 2) sc_World_place_of.nd rfl (.inl rfl)) (zgs_cons (zg_name (i := 3) sc_World_place_of.nd rfl (.inl rfl)) zgs_nil)))) (fun _ _ _ _ _ => (zts_one (zt_cmp (op_eqD hr.units) oz_eq (ze_var (i := 3) rfl (.inl rfl)) (ze_var (i := 1) rfl (.inr (.inl rfl))) (nomark _)))) (fun _ _ _ _ _ => (ze_var (i := 2) rfl (.inl rfl))))) ze_int)))

theorem ok_Course___init__ (T : Tx P w K mg F) (G_World___init__ : FnOk P w K mg base CX0 1 T.a_World___init__ T.d_World___init__ ["self", "tree"] (spZ K F 2 m_World___init__)) : FnOk P w K mg base CX0 3 T.a_Course___init__ T.d_Course___init__ ["self", "tree"] (spZ K F 2 m_Course___init__) := by
  refine ok_zD T.F_Course___init__ sc_Course___init__ rfl fun cdv A outer s H E hr => ?_
  exact (zss_cons (zs_attr T.hf_Course T.sc_Course T.sl_Course_own_world.choose_spec (ze_var (i := 0) rfl (.inl rfl)) (ze_make T.hf_World T.mk_World (G_World___init__) (hr.mono (by decide)) rfl T.g_World (bd_World___init__ T.F_World___init__) (za_cons (ze_var (i := 1) rfl (.inl rfl)) za_nil)))
      (zss_one (zs_attr T.hf_Course T.sc_Course T.sl_Course_own_stopped.choose_spec (ze_var (i := 0) rfl (.inl rfl)) ze_bl)))

end
end Z13

set_option Elab.async false
set_option linter.all false
set_option maxRecDepth 100000
set_option maxHeartbeats 4000000
namespace Z13
open PySem PySem.Spec PyProof.Rows L2 Z
section
variable {P : Program} {w : World} {K : PySem.W.Frag} {mg : Str → Option Value} {base : Heap} {F : Fx}
theorem ok_is_tree (T : Tx P w K mg F) (G_has_no_ring : FnOk P w K mg base CX0 1 T.a_has_no_ring T.d_has_no_ring ["tree"] (spZ K F 1 m_has_no_ring)) (G_is_entry : FnOk P w K mg base CX0 2 T.a_is_entry T.d_is_entry ["thing"] (spZ K F 1 m_is_entry)) : FnOk P w K mg base CX0 3 T.a_is_tree T.d_is_tree ["thing"] (spZ K F 1 m_is_tree) := by
  refine ok_zD T.F_is_tree sc_is_tree rfl fun cdv A outer s H E hr => ?_
  exact (zss_cons (zs_if (PW.pt (zw_or (zt_not (zt_truth (ze_isi (T := .tuple) (ze_var (i := 0) rfl (.inl rfl)) rfl T.n_isinstance rfl T.n_tuple (by decide +kernel)))) (zw_or1 (zt_not (zt_truth (ze_callB cz_all (cr_all rfl) rfl T.n_all (by decide +kernel) (za_cons (ze_lc (own := [("part", 3)]) (T := [3]) rfl sc_is_tree.nd (zi_val (ze_var (i := 0) rfl (.inl rfl))) (blkOk_by (own := [("part", 3)]) (N := N_is_tree) (sc := defScope s_is_tree) (by decide +kernel)) rfl (fun _ _ _ _ _ => (zg_name (i := 3) sc_is_tree.nd rfl (.inl rfl))) (fun _ _ _ _ _ => zts_nil) (fun _ _ _ _ _ => (ze_call (G_is_entry) (hr.mono (by decide)) rfl T.g_is_entry T.F_is_entry.kp (bd_is_entry T.F_is_entry) (za_cons (ze_var (i := 3) rfl (.inl rfl)) za_nil)))) za_nil))))))) (zss_one (zs_ret ze_bl)) zss_nil)
      (zss_cons (zs_setLc (i := 1) (own := [("part", 3)]) (T := [3]) rfl sc_is_tree.nd rfl rfl (sw_true rfl rfl rfl (by decide +kernel)) (zi_val (ze_var (i := 0) rfl (.inl rfl))) (blkOk_by (own := [("part", 3)]) (N := N_is_tree) (sc := defScope s_is_tree) (by decide +kernel)) rfl (fun _ _ _ _ _ => (zg_name (i := 3) sc_is_tree.nd rfl (.inl rfl))) (fun _ _ _ _ _ => zts_nil) (fun _ _ _ _ _ => (ze_slice (ze_var (i := 3) rfl (.inl rfl)) zo_none (zo_some ze_int))))
      (zss_cons (zs_set (i := 2) sc_is_tree.nd rfl (.inr rfl) (ze_callB (cz_sorted hr.units) cr_sortedZ rfl T.n_sorted (by decide +kernel) (za_cons (ze_lc (own := [("part", 3)]) (T := [3]) rfl sc_is_tree.nd (zi_val (ze_var (i := 0) rfl (.inl rfl))) (blkOk_by (own := [("part", 3)]) (N := N_is_tree) (sc := defScope s_is_tree) (by decide +kernel)) rfl (fun _ _ _ _ _ => (zg_name (i := 3) sc_is_tree.nd rfl (.inl rfl))) (fun _ _ _ _ _ => (zts_one (zt_cmp (op_neD hr.units) oz_ne (ze_ix (ze_var (i := 3) rfl (.inl rfl)) ze_int) (ze_gint rfl T.c_FILE) (nomark _)))) (fun _ _ _ _ _ => (ze_ix (ze_var (i := 3) rfl (.inl rfl)) ze_int))) za_nil)))
      (zss_cons (zs_if (PW.pt (zw_or (zt_cmp (op_neD hr.units) oz_ne (ze_var (i := 1) rfl (.inl rfl)) (ze_sortSet rfl hr.units rfl T.n_sorted (by decide +kernel) rfl T.n_set (by decide +kernel) (ze_var (i := 1) rfl (.inl rfl))) (nomark _)) (zw_or1 (zt_cmp (op_neD hr.units) oz_ne (ze_var (i := 2) rfl (.inr (.inl rfl))) (ze_listRg rfl rfl T.n_list rfl T.n_range ze_int (ze_op (L2.OpR.or op_add (L2.OpR.or op_catA op_cat)) oz_add (ze_callB cz_len call_len rfl T.n_len (by decide +kernel) (za_cons (ze_var (i := 2) rfl (.inr (.inl rfl))) za_nil)) ze_int)) (nomark _))))) (zss_one (zs_ret ze_bl)) zss_nil)
      (zss_one (zs_ret (ze_and (ze_callB cz_all (cr_all rfl) rfl T.n_all (by decide +kernel) (za_cons (ze_lc (own := [("part", 3)]) (T := [3]) rfl sc_is_tree.nd (zi_val (ze_var (i := 0) rfl (.inl rfl))) (blkOk_by (own := [("part", 3)]) (N := N_is_tree) (sc := defScope s_is_tree) (by decide +kernel)) rfl (fun _ _ _ _ _ => (zg_name (i := 3) sc_is_tree.nd rfl (.inl rfl))) (fun _ _ _ _ _ => zts_nil) (fun _ _ _ _ _ => (ze_cmp op_le oz_ib (ze_ix (ze_var (i := 3) rfl (.inl rfl)) ze_int) (ze_callB cz_len call_len rfl T.n_len (by decide +kernel) (za_cons (ze_var (i := 2) rfl (.inr (.inl rfl))) za_nil)) (nomark _)))) za_nil)) (ze_one (ze_call (G_has_no_ring) (hr.mono (by decide)) rfl T.g_has_no_ring T.F_has_no_ring.kp (bd_has_no_ring T.F_has_no_ring) (za_cons (ze_var (i := 0) rfl (.inl rfl)) za_nil))))))))))

theorem ok_is_plan (T : Tx P w K mg F) (G_Course___init__ : FnOk P w K mg base CX0 3 T.a_Course___init__ T.d_Course___init__ ["self", "tree"] (spZ K F 2 m_Course___init__)) (G_Course_can : FnOk P w K mg base CX0 4 T.a_Course_can T.d_Course_can ["self", "deed"] (spZ K F 2 m_Course_can)) (G_Course_do : FnOk P w K mg base CX0 2 T.a_Course_do T.d_Course_do ["self", "deed"] (spZ K F 2 m_Course_do)) (G_Course_is_stopped : FnOk P w K mg base CX0 1 T.a_Course_is_stopped T.d_Course_is_stopped ["self"] (spZ K F 1 m_Course_is_stopped)) (G_is_tree : FnOk P w K mg base CX0 3 T.a_is_tree T.d_is_tree ["thing"] (spZ K F 1 m_is_tree)) (G_is_tuple : FnOk P w K mg base CX0 1 T.a_is_tuple T.d_is_tuple ["thing", "many"] (spZ K F 2 m_is_tuple)) : FnOk P w K mg base CX0 5 T.a_is_plan T.d_is_plan ["thing"] (spZ K F 1 m_is_plan) := by
  refine ok_zD T.F_is_plan sc_is_plan rfl fun cdv A outer s H E hr => ?_
  exact (zss_cons (zs_if (PW.pt (zw_or (zt_not (zt_truth (ze_call (G_is_tuple) (hr.mono (by decide)) rfl T.g_is_tuple T.F_is_tuple.kp (bd_is_tuple T.F_is_tuple) (za_cons (ze_var (i := 0) rfl (.inl rfl)) (za_cons ze_int za_nil))))) (zw_or (zt_not (zt_truth (ze_call (G_is_tree) (hr.mono (by decide)) rfl T.g_is_tree T.F_is_tree.kp (bd_is_tree T.F_is_tree) (za_cons (ze_ix (ze_var (i := 0) rfl (.inl rfl)) ze_int) za_nil)))) (zw_or1 (zt_not (zt_truth (ze_isi (T := .tuple) (ze_ix (ze_var (i := 0) rfl (.inl rfl)) ze_int) rfl T.n_isinstance rfl T.n_tuple (by decide +kernel)))))))) (zss_one (zs_ret ze_bl)) zss_nil)
      (zss_cons (zs_set (i := 1) sc_is_plan.nd rfl (.inl rfl) (ze_make T.hf_Course T.mk_Course (G_Course___init__) (hr.mono (by decide)) rfl T.g_Course (bd_Course___init__ T.F_Course___init__) (za_cons (ze_ix (ze_var (i := 0) rfl (.inl rfl)) ze_int) za_nil)))
      (zss_cons (zs_for (T := [2]) PassesOwn.never rfl (zi_val (ze_ix (ze_var (i := 0) rfl (.inl rfl)) ze_int)) (zg_name (i := 2) sc_is_plan.nd rfl (.inl rfl)) (zss_cons (zs_if (zt_not (zt_truth (ze_meth T.hf_Course (ze_var (i := 1) rfl (.inl rfl)) T.sc_Course T.me_Course_can (G_Course_can) (hr.mono (by decide)) (bd_Course_can T.F_Course_can) (za_cons (ze_var (i := 2) rfl (.inl rfl)) za_nil)))) (zss_one (zs_ret ze_bl)) zss_nil)
      (zss_one (zs_expr (ze_meth T.hf_Course (ze_var (i := 1) rfl (.inl rfl)) T.sc_Course T.me_Course_do (G_Course_do) (hr.mono (by decide)) (bd_Course_do T.F_Course_do) (za_cons (ze_var (i := 2) rfl (.inl rfl)) za_nil))))))
      (zss_one (zs_ret (ze_not (ze_meth0 T.hf_Course (ze_var (i := 1) rfl (.inl rfl)) T.sc_Course T.me_Course_is_stopped (G_Course_is_stopped) (hr.mono (by decide)) (bd_Course_is_stopped T.F_Course_is_stopped))))))))

theorem ok_paths (T : Tx P w K mg F) (G_World_folders : FnOk P w K mg base CX0 1 T.a_World_folders T.d_World_folders ["self"] (spZ K F 1 m_World_folders)) (G_World_path_of : FnOk P w K mg base CX0 2 T.a_World_path_of T.d_World_path_of ["self", "folder"] (spZ K F 2 m_World_path_of)) (G_world_behind : FnOk P w K mg base CX0 8 T.a_world_behind T.d_world_behind ["plan", "many"] (spZ K F 2 m_world_behind)) : FnOk P w K mg base CX0 9 T.a_paths T.d_paths ["plan", "many"] (spZ K F 2 m_paths) := by
  refine ok_zD T.F_paths sc_paths rfl fun cdv A outer s H E hr => ?_
  exact (zss_cons (zs_set (i := 2) sc_paths.nd rfl (.inr rfl) (ze_call (G_world_behind) (hr.mono (by decide)) rfl T.g_world_behind T.F_world_behind.kp (bd_world_behind T.F_world_behind) (za_cons (ze_var (i := 0) rfl (.inl rfl)) (za_cons (ze_var (i := 1) rfl (.inl rfl)) za_nil))))
      (zss_one (zs_ret (ze_callB (cz_sorted hr.units) cr_sortedZ rfl T.n_sorted (by decide +kernel) (za_cons (ze_lc (own := [("folder", 3)]) (T := [3]) rfl sc_paths.nd (zi_val (ze_meth0 T.hf_World (ze_var (i := 2) rfl (.inr (.inl rfl))) T.sc_World T.me_World_folders (G_World_folders) (hr.mono (by decide)) (bd_World_folders T.F_World_folders))) (blkOk_by (own := [("folder", 3)]) (N := N_paths) (sc := defScope s_paths) (by decide +kernel)) rfl (fun _ _ _ _ _ => (zg_name (i := 3) sc_paths.nd rfl (.inl rfl))) (fun _ _ _ _ _ => zts_nil) (fun _ _ _ _ _ => (ze_tup (za_cons (ze_meth T.hf_World (ze_var (i := 2) rfl (.inr (.inl rfl))) T.sc_World T.me_World_path_of (G_World_path_of) (hr.mono (by decide)) (bd_World_path_of T.F_World_path_of) (za_cons (ze_var (i := 3) rfl (.inl rfl)) za_nil)) (za_cons (ze_var (i := 3) rfl (.inl rfl)) za_nil))))) za_nil)))))

theorem ok_Course_can (T : Tx P w K mg F) (G_World_can : FnOk P w K mg base CX0 3 T.a_World_can T.d_World_can ["self", "deed"] (spZ K F 2 m_World_can)) : FnOk P w K mg base CX0 4 T.a_Course_can T.d_Course_can ["self", "deed"] (spZ K F 2 m_Course_can) := by
  refine ok_zD T.F_Course_can sc_Course_can rfl fun cdv A outer s H E hr => ?_
  exact (zss_cons (zs_if (zt_cmp (op_in2 hr.u65) (oz_in2 ⟨T.hP, T.hw⟩) (ze_var (i := 1) rfl (.inl rfl)) (ze_tup (za_cons (ze_tup (za_cons (ze_gstr 9 rfl T.c_STOP (lit_at T.hL rfl)) za_nil)) (za_cons (ze_tup (za_cons (ze_gstr 8 rfl T.c_START (lit_at T.hL rfl)) za_nil)) za_nil))) (by rfl)) (zss_one (zs_ret (ze_cmp (op_eqD hr.units) oz_eq (ze_attr T.hf_Course T.sc_Course T.sl_Course_own_stopped.choose_spec (ze_var (i := 0) rfl (.inl rfl))) (ze_cmp (op_eqD hr.units) oz_eq (ze_var (i := 1) rfl (.inl rfl)) (ze_tup (za_cons (ze_gstr 8 rfl T.c_START (lit_at T.hL rfl)) za_nil)) (nomark _)) (nomark _)))) zss_nil)
      (zss_one (zs_ret (ze_meth T.hf_World (ze_attr T.hf_Course T.sc_Course T.sl_Course_own_world.choose_spec (ze_var (i := 0) rfl (.inl rfl))) T.sc_World T.me_World_can (G_World_can) (hr.mono (by decide)) (bd_World_can T.F_World_can) (za_cons (ze_var (i := 1) rfl (.inl rfl)) za_nil)))))

theorem ok_World_folders (T : Tx P w K mg F)  : FnOk P w K mg base CX0 1 T.a_World_folders T.d_World_folders ["self"] (spZ K F 1 m_World_folders) := by
  refine ok_zD T.F_World_folders sc_World_folders rfl fun cdv A outer s H E hr => ?_
  exact (zss_one (zs_ret (ze_op (L2.OpR.or op_add (L2.OpR.or op_catA op_cat)) oz_add (ze_lst (za_cons (ze_gint rfl T.c_ROOT) za_nil)) (ze_callB (cz_sorted hr.units) cr_sortedZ rfl T.n_sorted (by decide +kernel) (za_cons (ze_lc (own := [("what", 1)]) (T := [1]) rfl sc_World_folders.nd (zi_val (ze_listVals ⟨T.hP, T.hw⟩ rfl rfl T.n_list (by decide +kernel) (ze_attr T.hf_World T.sc_World T.sl_World_own_places.choose_spec (ze_var (i := 0) rfl (.inl rfl))))) (blkOk_by (own := [("what", 1)]) (N := N_World_folders) (sc := defScope s_World_folders) (by decide +kernel)) rfl (fun _ _ _ _ _ => (zg_name (i := 1) sc_World_folders.nd rfl (.inl rfl))) (fun _ _ _ _ _ => (zts_one (zt_cmp (op_neD hr.units) oz_ne (ze_var (i := 1) rfl (.inl rfl)) (ze_gint rfl T.c_FILE) (nomark _)))) (fun _ _ _ _ _ => (ze_var (i := 1) rfl (.inl rfl)))) za_nil)))))

theorem ok_World_what (T : Tx P w K mg F)  : FnOk P w K mg base CX0 1 T.a_World_what T.d_World_what ["self", "folder", "name"] (spZ K F 3 m_World_what) := by
  refine ok_zD T.F_World_what sc_World_what rfl fun cdv A outer s H E hr => ?_
  exact (zss_one (zs_ret (ze_mt (tz_dct ⟨T.hP, T.hw⟩) (mz_dget ⟨T.hP, T.hw⟩) ty_dctZ PySem.F.plainAttrs_dict PySem.F.slot_dict_get PySem.F.type_dict_get (mt_dgetZ hr.units) (ze_attr T.hf_World T.sc_World T.sl_World_own_places.choose_spec (ze_var (i := 0) rfl (.inl rfl))) (za_cons (ze_tup (za_cons (ze_var (i := 1) rfl (.inl rfl)) (za_cons (ze_var (i := 2) rfl (.inl rfl)) za_nil))) za_nil))))

end
end Z13

set_option Elab.async false
set_option linter.all false
set_option maxRecDepth 100000
set_option maxHeartbeats 4000000
namespace Z13
open PySem PySem.Spec PyProof.Rows L2 Z
section
variable {P : Program} {w : World} {K : PySem.W.Frag} {mg : Str → Option Value} {base : Heap} {F : Fx}
theorem ok__law_take (T : Tx P w K mg F)  : FnOk P w K mg base CX0 1 T.a__law_take T.d__law_take ["_law_box_here", "_law_below"] (spZ K F 2 m__law_take) := by
  refine ok_zD T.F__law_take sc__law_take rfl fun cdv A outer s H E hr => ?_
  exact (zss_cons (zs_if (zt_cmp op_gt oz_ib (ze_ix (ze_var (i := 0) rfl (.inl rfl)) ze_int) ze_int (nomark _)) (zss_cons (zs_set (i := 2) sc__law_take.nd rfl (.inl rfl) (ze_op op_modN oz_mod (ze_callTy cz_int call_int1 rfl T.n_int (by decide +kernel) (za_cons (ze_ix (ze_var (i := 0) rfl (.inl rfl)) ze_int) za_nil)) (ze_var (i := 1) rfl (.inl rfl))))
      (zss_cons (zs_asg (T := []) (ze_op op_fdivN oz_div (ze_ix (ze_var (i := 0) rfl (.inl rfl)) ze_int) (ze_var (i := 1) rfl (.inl rfl))) (zg_ix (ze_var (i := 0) rfl (.inl rfl)) ze_int))
      (zss_one (zs_ret (ze_var (i := 2) rfl (.inl rfl)))))) zss_nil)
      (zss_cons (zs_asg (T := []) (ze_op (L2.OpR.or op_add (L2.OpR.or op_catA op_cat)) oz_add (ze_ix (ze_var (i := 0) rfl (.inl rfl)) ze_int) ze_int) (zg_ix (ze_var (i := 0) rfl (.inl rfl)) ze_int))
      (zss_cons (zs_set (i := 3) sc__law_take.nd rfl (.inl rfl) (ze_op op_modN oz_mod (ze_callTy cz_int call_int1 rfl T.n_int (by decide +kernel) (za_cons (ze_op (L2.OpR.or op_mul (L2.OpR.or op_repT op_rep)) oz_mul (ze_op (L2.OpR.or op_add (L2.OpR.or op_catA op_cat)) oz_add (ze_ix (ze_var (i := 0) rfl (.inl rfl)) ze_int) (ze_op (L2.OpR.or op_mul (L2.OpR.or op_repT op_rep)) oz_mul ze_int (ze_ix (ze_var (i := 0) rfl (.inl rfl)) ze_int))) (ze_op (L2.OpR.or op_add (L2.OpR.or op_catA op_cat)) oz_add ze_int (ze_ix (ze_var (i := 0) rfl (.inl rfl)) ze_int))) za_nil)) ze_int))
      (zss_cons (zs_set (i := 4) sc__law_take.nd rfl (.inl rfl) (ze_op (L2.OpR.or op_add (L2.OpR.or op_catA op_cat)) oz_add (ze_op op_modN oz_mod (ze_callTy cz_int call_int1 rfl T.n_int (by decide +kernel) (za_cons (ze_var (i := 3) rfl (.inl rfl)) za_nil)) ze_int) ze_int))
      (zss_cons (zs_set (i := 5) sc__law_take.nd rfl (.inl rfl) (ze_op op_modN oz_mod (ze_callTy cz_int call_int1 rfl T.n_int (by decide +kernel) (za_cons (ze_op (L2.OpR.or op_mul (L2.OpR.or op_repT op_rep)) oz_mul (ze_op (L2.OpR.or op_add (L2.OpR.or op_catA op_cat)) oz_add (ze_op (L2.OpR.or op_add (L2.OpR.or op_catA op_cat)) oz_add (ze_var (i := 3) rfl (.inl rfl)) (ze_ix (ze_var (i := 0) rfl (.inl rfl)) ze_int)) (ze_op op_fdivN oz_div (ze_ix (ze_var (i := 0) rfl (.inl rfl)) ze_int) ze_int)) (ze_var (i := 4) rfl (.inl rfl))) za_nil)) ze_int))
      (zss_one (zs_ret (ze_op op_modN oz_mod (ze_callTy cz_int call_int1 rfl T.n_int (by decide +kernel) (za_cons (ze_op op_fdivN oz_div (ze_op op_modN oz_mod (ze_callTy cz_int call_int1 rfl T.n_int (by decide +kernel) (za_cons (ze_op (L2.OpR.or op_add (L2.OpR.or op_catA op_cat)) oz_add (ze_op (L2.OpR.or op_mul (L2.OpR.or op_repT op_rep)) oz_mul (ze_var (i := 5) rfl (.inl rfl)) ze_int) (ze_var (i := 3) rfl (.inl rfl))) za_nil)) ze_int) ze_int) za_nil)) (ze_var (i := 1) rfl (.inl rfl))))))))))

theorem ok__law_right (T : Tx P w K mg F) (G__law_moves_right : FnOk P w K mg base CX0 10 T.a__law_moves_right T.d__law_moves_right ["_law_a", "_law_b", "_law_c", "_law_d"] (spZ K F 4 (fYes4 POOL))) (G__law_numbers_right : FnOk P w K mg base CX0 10 T.a__law_numbers_right T.d__law_numbers_right ["_law_a", "_law_b", "_law_c", "_law_d"] (spZ K F 4 (fYes4 POOL))) (G__law_take : FnOk P w K mg base CX0 1 T.a__law_take T.d__law_take ["_law_box_here", "_law_below"] (spZ K F 2 fTake)) : FnOk P w K mg base CX0 11 T.a__law_right T.d__law_right ["_law_box_here"] (spZ K F 1 m__law_right) := by
  refine ok_zD T.F__law_right sc__law_right rfl fun cdv A outer s H E hr => ?_
  exact (zss_cons (zs_set (i := 1) sc__law_right.nd rfl (.inr rfl) (ze_lst (za_cons (ze_str 0 (lit_at T.hL rfl)) (za_cons (ze_str 1 (lit_at T.hL rfl)) (za_cons (ze_str 2 (lit_at T.hL rfl)) (za_cons (ze_str 4 (lit_at T.hL rfl)) (za_cons (ze_str 5 (lit_at T.hL rfl)) (za_cons (ze_str 9 (lit_at T.hL rfl)) (za_cons (ze_str 10 (lit_at T.hL rfl)) (za_cons (ze_str 11 (lit_at T.hL rfl)) za_nil))))))))))
      (zss_cons (zs_set (i := 2) sc__law_right.nd rfl (.inl rfl) (ze_callB (cz_sorted hr.units) cr_sortedZ rfl T.n_sorted (by decide +kernel) (za_cons (ze_lc (own := [("_law_turn", 3)]) (T := [3]) rfl sc__law_right.nd (zi_range1 rfl T.n_range ze_int) (blkOk_by (own := [("_law_turn", 3)]) (N := N__law_right) (sc := defScope s__law_right) (by decide +kernel)) rfl (fun _ _ _ _ _ => (zg_name (i := 3) sc__law_right.nd rfl (.inl rfl))) (fun _ _ _ _ _ => zts_nil) (fun _ _ _ _ _ => (ze_mt tz_list mz_popAt ty_list PySem.F.plainAttrs_list PySem.F.slot_list_pop PySem.F.type_list_pop mt_popAt (ze_var (i := 1) rfl (.inr (.inl rfl))) (za_cons (ze_call (G__law_take) (hr.mono (by decide)) rfl T.g__law_take T.F__law_take.kp (bd__law_take T.F__law_take) (za_cons (ze_var (i := 0) rfl (.inr (.inl rfl))) (za_cons (ze_callB cz_len call_len rfl T.n_len (by decide +kernel) (za_cons (ze_var (i := 1) rfl (.inr (.inl rfl))) za_nil)) za_nil))) za_nil)))) za_nil)))
      (zss_one (zs_ret (ze_and (ze_call (G__law_numbers_right) (hr.mono (by decide)) rfl T.g__law_numbers_right T.F__law_numbers_right.kp (bd__law_numbers_right T.F__law_numbers_right) (za_cons (ze_ix (ze_var (i := 2) rfl (.inl rfl)) ze_int) (za_cons (ze_ix (ze_var (i := 2) rfl (.inl rfl)) ze_int) (za_cons (ze_ix (ze_var (i := 2) rfl (.inl rfl)) ze_int) (za_cons (ze_ix (ze_var (i := 2) rfl (.inl rfl)) ze_int) za_nil))))) (ze_one (ze_call (G__law_moves_right) (hr.mono (by decide)) rfl T.g__law_moves_right T.F__law_moves_right.kp (bd__law_moves_right T.F__law_moves_right) (za_cons (ze_ix (ze_var (i := 2) rfl (.inl rfl)) ze_int) (za_cons (ze_ix (ze_var (i := 2) rfl (.inl rfl)) ze_int) (za_cons (ze_ix (ze_var (i := 2) rfl (.inl rfl)) ze_int) (za_cons (ze_ix (ze_var (i := 2) rfl (.inl rfl)) ze_int) za_nil)))))))))))

theorem ok_world_behind (T : Tx P w K mg F) (G_Course___init__ : FnOk P w K mg base CX0 3 T.a_Course___init__ T.d_Course___init__ ["self", "tree"] (spZ K F 2 m_Course___init__)) (G_Course_do : FnOk P w K mg base CX0 2 T.a_Course_do T.d_Course_do ["self", "deed"] (spZ K F 2 m_Course_do)) (G_Course_world : FnOk P w K mg base CX0 1 T.a_Course_world T.d_Course_world ["self"] (spZ K F 1 m_Course_world)) (G_tupled : FnOk P w K mg base CX0 7 T.a_tupled T.d_tupled ["thing"] (spZ K F 1 (m_tupled 6))) : FnOk P w K mg base CX0 8 T.a_world_behind T.d_world_behind ["plan", "many"] (spZ K F 2 m_world_behind) := by
  refine ok_zD T.F_world_behind sc_world_behind rfl fun cdv A outer s H E hr => ?_
  exact (zss_cons (zs_asg (T := [2, 3]) (ze_call (G_tupled) (hr.mono (by decide)) rfl T.g_tupled T.F_tupled.kp (bd_tupled T.F_tupled) (za_cons (ze_var (i := 0) rfl (.inl rfl)) za_nil)) (zg_tup rfl (zgs_cons (zg_name (i := 2) sc_world_behind.nd rfl (.inl rfl)) (zgs_cons (zg_name (i := 3) sc_world_behind.nd rfl (.inl rfl)) zgs_nil))))
      (zss_cons (zs_if (zt_not (zt_chain op_le oz_ib op_le oz_ib ze_int (ze_var (i := 1) rfl (.inl rfl)) (ze_callB cz_len call_len rfl T.n_len (by decide +kernel) (za_cons (ze_var (i := 3) rfl (.inl rfl)) za_nil)))) (zss_one zs_bad) zss_nil)
      (zss_cons (zs_set (i := 4) sc_world_behind.nd rfl (.inl rfl) (ze_make T.hf_Course T.mk_Course (G_Course___init__) (hr.mono (by decide)) rfl T.g_Course (bd_Course___init__ T.F_Course___init__) (za_cons (ze_var (i := 2) rfl (.inl rfl)) za_nil)))
      (zss_cons (zs_for (T := [5]) PassesOwn.never rfl (zi_val (ze_slice (ze_var (i := 3) rfl (.inl rfl)) zo_none (zo_some (ze_var (i := 1) rfl (.inl rfl))))) (zg_name (i := 5) sc_world_behind.nd rfl (.inl rfl)) (zss_one (zs_expr (ze_meth T.hf_Course (ze_var (i := 4) rfl (.inl rfl)) T.sc_Course T.me_Course_do (G_Course_do) (hr.mono (by decide)) (bd_Course_do T.F_Course_do) (za_cons (ze_var (i := 5) rfl (.inl rfl)) za_nil)))))
      (zss_one (zs_ret (ze_meth0 T.hf_Course (ze_var (i := 4) rfl (.inl rfl)) T.sc_Course T.me_Course_world (G_Course_world) (hr.mono (by decide)) (bd_Course_world T.F_Course_world))))))))

theorem ok__law_box (T : Tx P w K mg F)  : FnOk P w K mg base CX0 1 T.a__law_box T.d__law_box ["_law_script", "_law_k"] (spZ K F 2 m__law_box) := by
  refine ok_zD T.F__law_box sc__law_box rfl fun cdv A outer s H E hr => ?_
  exact (zss_cons (zs_set (i := 2) sc__law_box.nd rfl (.inl rfl) (ze_if (zt_cmp op_lt oz_ib (ze_var (i := 1) rfl (.inl rfl)) (ze_callB cz_len call_len rfl T.n_len (by decide +kernel) (za_cons (ze_var (i := 0) rfl (.inl rfl)) za_nil)) (nomark _)) (ze_ix (ze_var (i := 0) rfl (.inl rfl)) (ze_var (i := 1) rfl (.inl rfl))) ze_int))
      (zss_one (zs_ret (ze_lst (za_cons (ze_op (L2.OpR.or op_mul (L2.OpR.or op_repT op_rep)) oz_mul (ze_callB cz_abs call_abs rfl T.n_abs (by decide +kernel) (za_cons (ze_var (i := 2) rfl (.inl rfl)) za_nil)) (ze_callTy cz_int call_int1 rfl T.n_int (by decide +kernel) (za_cons (ze_cmp op_ge oz_ib (ze_callB cz_abs call_abs rfl T.n_abs (by decide +kernel) (za_cons (ze_var (i := 2) rfl (.inl rfl)) za_nil)) (ze_op op_pow oz_pow ze_int ze_int) (nomark _)) za_nil))) (za_cons (ze_op (L2.OpR.or op_add (L2.OpR.or op_catA op_cat)) oz_add (ze_op (L2.OpR.or op_add (L2.OpR.or op_catA op_cat)) oz_add (ze_op op_modN oz_mod (ze_callTy cz_int call_int1 rfl T.n_int (by decide +kernel) (za_cons (ze_var (i := 2) rfl (.inl rfl)) za_nil)) ze_int) (ze_op (L2.OpR.or op_mul (L2.OpR.or op_repT op_rep)) oz_mul ze_int (ze_var (i := 1) rfl (.inl rfl)))) ze_int) (za_cons ze_int za_nil)))))))

theorem ok_World_is_within (T : Tx P w K mg F) (G_World_place_of : FnOk P w K mg base CX0 1 T.a_World_place_of T.d_World_place_of ["self", "folder"] (spZ K F 2 m_World_place_of)) : FnOk P w K mg base CX0 2 T.a_World_is_within T.d_World_is_within ["self", "folder", "other"] (spZ K F 3 m_World_is_within) := by
  refine ok_zD T.F_World_is_within sc_World_is_within rfl fun cdv A outer s H E hr => ?_
  exact (zss_cons (zs_while PassesOwn.never (zt_cmp (op_notIn2 hr.u65) (oz_notIn2 ⟨T.hP, T.hw⟩) (ze_var (i := 1) rfl (.inl rfl)) (ze_tup (za_cons (ze_gint rfl T.c_ROOT) (za_cons (ze_var (i := 2) rfl (.inl rfl)) za_nil))) (by rfl)) (zss_one (zs_set (i := 1) sc_World_is_within.nd rfl (.inl rfl) (ze_ix (ze_meth T.hf_World (ze_var (i := 0) rfl (.inl rfl)) T.sc_World T.me_World_place_of (G_World_place_of) (hr.mono (by decide)) (bd_World_place_of T.F_World_place_of) (za_cons (ze_var (i := 1) rfl (.inl rfl)) za_nil)) ze_int))))
      (zss_one (zs_ret (ze_cmp (op_eqD hr.units) oz_eq (ze_var (i := 1) rfl (.inl rfl)) (ze_var (i := 2) rfl (.inl rfl)) (nomark _)))))

theorem ok_is_number (T : Tx P w K mg F)  : FnOk P w K mg base CX0 1 T.a_is_number T.d_is_number ["thing", "bottom"] (spZ K F 2 m_is_number) := by
  refine ok_zD T.F_is_number sc_is_number rfl fun cdv A outer s H E hr => ?_
  exact (zss_one (zs_ret (ze_and (ze_isi (T := .int) (ze_var (i := 0) rfl (.inl rfl)) rfl T.n_isinstance rfl T.n_int (by decide +kernel)) (ze_and (ze_not (ze_isi (T := .bool) (ze_var (i := 0) rfl (.inl rfl)) rfl T.n_isinstance rfl T.n_bool (by decide +kernel))) (ze_one (ze_cmp op_ge oz_ib (ze_var (i := 0) rfl (.inl rfl)) (ze_var (i := 1) rfl (.inl rfl)) (nomark _)))))))

end
end Z13

set_option Elab.async false
set_option linter.all false
set_option maxRecDepth 100000
set_option maxHeartbeats 0
namespace Z13
open PySem PySem.Spec PyProof.Rows L2 Z

theorem ev_numbers : isTrueM (m__law_numbers_right n4 ⟨0, .nil⟩) = true := by kernel_rfl
theorem ev_moves : isTrueM (m__law_moves_right n4 ⟨0, .nil⟩) = true := by kernel_rfl
def drawsAt (r : Nat) (ms : List Nat) : List (List (Nat × Nat)) := (allDraws ms).map fun ds => (8, r) :: ds
def okAt (fb r : Nat) : Bool := (drawsAt r [7, 6, 5]).all fun ds => isTrueB fb (m__law_right [.ref 0] (L1 (.box fb ds)))
theorem r_0_0 : okAt 0 0 = true := by kernel_rfl
theorem r_0_1 : okAt 0 1 = true := by kernel_rfl
theorem r_0_2 : okAt 0 2 = true := by kernel_rfl
theorem r_0_3 : okAt 0 3 = true := by kernel_rfl
theorem r_0_4 : okAt 0 4 = true := by kernel_rfl
theorem r_0_5 : okAt 0 5 = true := by kernel_rfl
theorem r_0_6 : okAt 0 6 = true := by kernel_rfl
theorem r_0_7 : okAt 0 7 = true := by kernel_rfl
theorem r_0 : ∀ r, r < 8 → okAt 0 r = true
  | 0, _ => r_0_0
  | 1, _ => r_0_1
  | 2, _ => r_0_2
  | 3, _ => r_0_3
  | 4, _ => r_0_4
  | 5, _ => r_0_5
  | 6, _ => r_0_6
  | 7, _ => r_0_7
  | r + 8, h => absurd h (by omega)
theorem right_at {fb : Nat} (h : ∀ r, r < 8 → okAt fb r = true) : ∀ ds ∈ allDraws [8, 7, 6, 5], isTrueB fb (m__law_right [.ref 0] (L1 (.box fb ds))) = true := by
  intro ds hd
  obtain ⟨r, hr, hd⟩ := List.mem_flatMap.mp (show ds ∈ (List.range 8).flatMap fun r => (allDraws [7, 6, 5]).map fun ds => (8, r) :: ds from hd)
  exact List.all_eq_true.mp (h r (List.mem_range.mp hr)) ds hd
theorem right_true : ∀ fb ∈ ([0] : List Nat), ∀ ds ∈ allDraws [8, 7, 6, 5], isTrueB fb (m__law_right [.ref 0] (L1 (.box fb ds))) = true := by
  intro fb h
  simp only [List.mem_cons, List.not_mem_nil, or_false] at h
  subst h
  exact right_at r_0
theorem law1 (xs : List W) : isTrueM (endM (rest_law ([some (.fz xs), some (.ref 0)] ++ List.replicate 1 none) ((⟨0, .nil⟩ : LH).add (.cel 1)))) = true := by kernel_rfl
theorem law2 (xs : List W) : isTrueM (endM (rest_law ([some (.fz xs), some (.ref 0)] ++ List.replicate 1 none) ((⟨0, .nil⟩ : LH).add (.cel 2)))) = true := by kernel_rfl
theorem law3 (xs : List W) : isTrueM (endM (rest_law ([some (.fz xs), some (.ref 0)] ++ List.replicate 1 none) ((⟨0, .nil⟩ : LH).add (.cel 3)))) = true := by kernel_rfl
theorem law_true (ns : List Int) (h : ns.length ≤ 63) : ∃ L', m_law [.fz (ns.map W.int)] ⟨0, .nil⟩ = some (.bl true, L') := by
  refine law_by (most := 3) (r := 2) (rest := rest_law) (fun xs => rfl) (by decide) (by decide) (by decide) (fun xs n h1 h2 => ?_) ns h
  match n, h1, h2 with
  | 1, _, _ => exact law1 xs
  | 2, _, _ => exact law2 xs
  | 3, _, _ => exact law3 xs
  | n + 4, _, h2 => exact absurd h2 (by omega)
end Z13

set_option Elab.async false
set_option linter.all false
set_option maxRecDepth 100000
set_option maxHeartbeats 0
namespace Z13
open PySem PySem.Spec PyProof.Rows L2 Z
/-! ### the head: facts by names, the run -/
def dD__law_box : He.DefD := ⟨("_law_box", none), "_law_box", "_law_box", defArgs s__law_box, defBody s__law_box, defScope s__law_box, [], []⟩
def dD__law_cells : He.DefD := ⟨("_law_cells", none), "_law_cells", "_law_cells", defArgs s__law_cells, defBody s__law_cells, defScope s__law_cells, [], []⟩
def dD__law_same : He.DefD := ⟨("_law_same", none), "_law_same", "_law_same", defArgs s__law_same, defBody s__law_same, defScope s__law_same, [], []⟩
def dD_World_entries : He.DefD := ⟨("World", some "entries"), "entries", "World.entries", defArgs s_World_entries, defBody s_World_entries, defScope s_World_entries, [], []⟩
def dD_World___init__ : He.DefD := ⟨("World", some "__init__"), "__init__", "World.__init__", defArgs s_World___init__, defBody s_World___init__, defScope s_World___init__, [], []⟩
def dD_Course___init__ : He.DefD := ⟨("Course", some "__init__"), "__init__", "Course.__init__", defArgs s_Course___init__, defBody s_Course___init__, defScope s_Course___init__, [], []⟩
def dD_World_do : He.DefD := ⟨("World", some "do"), "do", "World.do", defArgs s_World_do, defBody s_World_do, defScope s_World_do, [], []⟩
def dD_Course_do : He.DefD := ⟨("Course", some "do"), "do", "Course.do", defArgs s_Course_do, defBody s_Course_do, defScope s_Course_do, [], []⟩
def dD_Course_world : He.DefD := ⟨("Course", some "world"), "world", "Course.world", defArgs s_Course_world, defBody s_Course_world, defScope s_Course_world, [], []⟩
def dD_tupled : He.DefD := ⟨("tupled", none), "tupled", "tupled", defArgs s_tupled, defBody s_tupled, defScope s_tupled, [], []⟩
def dD_world_behind : He.DefD := ⟨("world_behind", none), "world_behind", "world_behind", defArgs s_world_behind, defBody s_world_behind, defScope s_world_behind, [], []⟩
def dD_entries : He.DefD := ⟨("entries", none), "entries", "entries", defArgs s_entries, defBody s_entries, defScope s_entries, [], []⟩
def dD_World_folders : He.DefD := ⟨("World", some "folders"), "folders", "World.folders", defArgs s_World_folders, defBody s_World_folders, defScope s_World_folders, [], []⟩
def dD_World_is_free : He.DefD := ⟨("World", some "is_free"), "is_free", "World.is_free", defArgs s_World_is_free, defBody s_World_is_free, defScope s_World_is_free, [], []⟩
def dD_World_place_of : He.DefD := ⟨("World", some "place_of"), "place_of", "World.place_of", defArgs s_World_place_of, defBody s_World_place_of, defScope s_World_place_of, [], []⟩
def dD_World_is_within : He.DefD := ⟨("World", some "is_within"), "is_within", "World.is_within", defArgs s_World_is_within, defBody s_World_is_within, defScope s_World_is_within, [], []⟩
def dD_World_names : He.DefD := ⟨("World", some "names"), "names", "World.names", defArgs s_World_names, defBody s_World_names, defScope s_World_names, [], []⟩
def dD_World_what : He.DefD := ⟨("World", some "what"), "what", "World.what", defArgs s_World_what, defBody s_World_what, defScope s_World_what, [], []⟩
def dD_is_name : He.DefD := ⟨("is_name", none), "is_name", "is_name", defArgs s_is_name, defBody s_is_name, defScope s_is_name, [], []⟩
def dD_is_number : He.DefD := ⟨("is_number", none), "is_number", "is_number", defArgs s_is_number, defBody s_is_number, defScope s_is_number, [], []⟩
def dD_is_form : He.DefD := ⟨("is_form", none), "is_form", "is_form", defArgs s_is_form, defBody s_is_form, defScope s_is_form, [], []⟩
def dD_World_can : He.DefD := ⟨("World", some "can"), "can", "World.can", defArgs s_World_can, defBody s_World_can, defScope s_World_can, [], []⟩
def dD_Course_can : He.DefD := ⟨("Course", some "can"), "can", "Course.can", defArgs s_Course_can, defBody s_Course_can, defScope s_Course_can, [], []⟩
def dD_Course_is_stopped : He.DefD := ⟨("Course", some "is_stopped"), "is_stopped", "Course.is_stopped", defArgs s_Course_is_stopped, defBody s_Course_is_stopped, defScope s_Course_is_stopped, [], []⟩
def dD_has_no_ring : He.DefD := ⟨("has_no_ring", none), "has_no_ring", "has_no_ring", defArgs s_has_no_ring, defBody s_has_no_ring, defScope s_has_no_ring, [], []⟩
def dD_is_tuple : He.DefD := ⟨("is_tuple", none), "is_tuple", "is_tuple", defArgs s_is_tuple, defBody s_is_tuple, defScope s_is_tuple, [], []⟩
def dD_is_entry : He.DefD := ⟨("is_entry", none), "is_entry", "is_entry", defArgs s_is_entry, defBody s_is_entry, defScope s_is_entry, [], []⟩
def dD_is_tree : He.DefD := ⟨("is_tree", none), "is_tree", "is_tree", defArgs s_is_tree, defBody s_is_tree, defScope s_is_tree, [], []⟩
def dD_is_plan : He.DefD := ⟨("is_plan", none), "is_plan", "is_plan", defArgs s_is_plan, defBody s_is_plan, defScope s_is_plan, [], []⟩
def dD_World_path_of : He.DefD := ⟨("World", some "path_of"), "path_of", "World.path_of", defArgs s_World_path_of, defBody s_World_path_of, defScope s_World_path_of, [], []⟩
def dD_paths : He.DefD := ⟨("paths", none), "paths", "paths", defArgs s_paths, defBody s_paths, defScope s_paths, [], []⟩
def dD__law_moves_right : He.DefD := ⟨("_law_moves_right", none), "_law_moves_right", "_law_moves_right", defArgs s__law_moves_right, defBody s__law_moves_right, defScope s__law_moves_right, [], []⟩
def dD__law_numbers_right : He.DefD := ⟨("_law_numbers_right", none), "_law_numbers_right", "_law_numbers_right", defArgs s__law_numbers_right, defBody s__law_numbers_right, defScope s__law_numbers_right, [], []⟩
def dD__law_take : He.DefD := ⟨("_law_take", none), "_law_take", "_law_take", defArgs s__law_take, defBody s__law_take, defScope s__law_take, [], []⟩
def dD__law_right : He.DefD := ⟨("_law_right", none), "_law_right", "_law_right", defArgs s__law_right, defBody s__law_right, defScope s__law_right, [], []⟩
def dD_law : He.DefD := ⟨("law", none), "law", "law", defArgs s_law, defBody s_law, defScope s_law, [], []⟩
def fn : List He.DefD := [dD__law_box, dD__law_cells, dD__law_same, dD_World_entries, dD_World___init__, dD_Course___init__, dD_World_do, dD_Course_do, dD_Course_world, dD_tupled, dD_world_behind, dD_entries, dD_World_folders, dD_World_is_free, dD_World_place_of, dD_World_is_within, dD_World_names, dD_World_what, dD_is_name, dD_is_number, dD_is_form, dD_World_can, dD_Course_can, dD_Course_is_stopped, dD_has_no_ring, dD_is_tuple, dD_is_entry, dD_is_tree, dD_is_plan, dD_World_path_of, dD_paths, dD__law_moves_right, dD__law_numbers_right, dD__law_take, dD__law_right, dD_law]
def fa : List He.Fa := [.glo "_law_box", .glo "_law_cells", .glo "_law_same", .glo "tupled", .glo "world_behind", .glo "entries", .glo "is_name", .glo "is_number", .glo "is_form", .glo "has_no_ring", .glo "is_tuple", .glo "is_entry", .glo "is_tree", .glo "is_plan", .glo "paths", .glo "_law_moves_right", .glo "_law_numbers_right", .glo "_law_take", .glo "_law_right", .glo "law", .free "abs", .free "all", .free "bool", .free "dict", .free "enumerate", .free "int", .free "isinstance", .free "len", .free "list", .free "max", .free "range", .free "set", .free "sorted", .free "str", .free "tuple", .free "zip", .str "DROP" "drop", .int "FILE" (-1), .str "LETTERS" "abcdefghijklmnopqrstuvwxyz", .int "LONG_PARTS" (5), .str "MAKE" "make", .int "MOST_LETTERS" (8), .str "MOVE" "move", .str "PUT" "put", .int "ROOT" (0), .int "SHORT_PARTS" (3), .str "START" "start", .str "STOP" "stop", .glo "World", .meth "World" "entries", .mkr "World", .meth "World" "do", .meth "World" "folders", .meth "World" "is_free", .meth "World" "place_of", .meth "World" "is_within", .meth "World" "names", .meth "World" "what", .meth "World" "can", .meth "World" "path_of", .glo "Course", .mkr "Course", .meth "Course" "do", .meth "Course" "world", .meth "Course" "can", .meth "Course" "is_stopped"]
def ts : List He.Tab := []
def xs : List (PySem.W.Frag → Bool) := [fun K => sclsB K "World", fun K => slotB K "World" "own_next" 0, fun K => slotB K "World" "own_places" 1, fun K => sclsB K "Course", fun K => slotB K "Course" "own_stopped" 0, fun K => slotB K "Course" "own_world" 1]
abbrev R : PySem.W.OpenRow := PySem.W.OpenLaw.row PySem.Challenge.rw_watchlost_k13_known_plans
abbrev hk : PySem.W.Hook := hookZ 4 fa fn ts xs
def ob (s : PySem.W.SharedT) : AlZ := obsZG 4 fa fn ts xs (HandSHeadRun.getT s)
theorem ob_eq (s : PySem.W.SharedT) : ob s = hk.obs s.abs := obsZG_eq (HandSHeadRun.getT_eq s)
theorem run_false (w : World) : HandSHeadRun.RunEq R (PySem.W.view R.prog [39]) hk ob 20000 ("_wall" :: "NoDeed" :: "tupled" :: "is_name" :: "is_number" :: "is_tuple" :: "is_entry" :: "is_form" :: "World" :: "is_tree" :: "has_no_ring" :: "is_plan" :: "Course" :: "world_behind" :: "entries" :: "paths" :: "_law_box" :: "_law_take" :: "_law_cells" :: "_law_same" :: "_law_numbers_right" :: "_law_moves_right" :: "_law_right" :: "LETTERS" :: "MOST_LETTERS" :: "ROOT" :: "FILE" :: "MAKE" :: "PUT" :: "DROP" :: "MOVE" :: "STOP" :: "START" :: "SHORT_PARTS" :: "LONG_PARTS" :: [] : List Str) (w.withFollow "special-get-raises" false) := by
  intro os
  kernel_rfl
theorem run_true (w : World) : HandSHeadRun.RunEq R (PySem.W.view R.prog [39]) hk ob 20000 ("_wall" :: "NoDeed" :: "tupled" :: "is_name" :: "is_number" :: "is_tuple" :: "is_entry" :: "is_form" :: "World" :: "is_tree" :: "has_no_ring" :: "is_plan" :: "Course" :: "world_behind" :: "entries" :: "paths" :: "_law_box" :: "_law_take" :: "_law_cells" :: "_law_same" :: "_law_numbers_right" :: "_law_moves_right" :: "_law_right" :: "LETTERS" :: "MOST_LETTERS" :: "ROOT" :: "FILE" :: "MAKE" :: "PUT" :: "DROP" :: "MOVE" :: "STOP" :: "START" :: "SHORT_PARTS" :: "LONG_PARTS" :: [] : List Str) (w.withFollow "special-get-raises" true) := by
  intro os
  kernel_rfl
theorem run (w : World) : HandSHeadRun.RunEq R (PySem.W.view R.prog [39]) hk ob 20000 ("_wall" :: "NoDeed" :: "tupled" :: "is_name" :: "is_number" :: "is_tuple" :: "is_entry" :: "is_form" :: "World" :: "is_tree" :: "has_no_ring" :: "is_plan" :: "Course" :: "world_behind" :: "entries" :: "paths" :: "_law_box" :: "_law_take" :: "_law_cells" :: "_law_same" :: "_law_numbers_right" :: "_law_moves_right" :: "_law_right" :: "LETTERS" :: "MOST_LETTERS" :: "ROOT" :: "FILE" :: "MAKE" :: "PUT" :: "DROP" :: "MOVE" :: "STOP" :: "START" :: "SHORT_PARTS" :: "LONG_PARTS" :: [] : List Str) w := PySem.W.byRow2 "special-get-raises" (P := fun w => HandSHeadRun.RunEq R (PySem.W.view R.prog [39]) hk ob 20000 ("_wall" :: "NoDeed" :: "tupled" :: "is_name" :: "is_number" :: "is_tuple" :: "is_entry" :: "is_form" :: "World" :: "is_tree" :: "has_no_ring" :: "is_plan" :: "Course" :: "world_behind" :: "entries" :: "paths" :: "_law_box" :: "_law_take" :: "_law_cells" :: "_law_same" :: "_law_numbers_right" :: "_law_moves_right" :: "_law_right" :: "LETTERS" :: "MOST_LETTERS" :: "ROOT" :: "FILE" :: "MAKE" :: "PUT" :: "DROP" :: "MOVE" :: "STOP" :: "START" :: "SHORT_PARTS" :: "LONG_PARTS" :: [] : List Str) w) run_false run_true w
def FX (P : Program) (w : World) (K : PySem.W.Frag) : Fx := ⟨LITS, fun n => match n with | 1 => He.ga K "World" | 2 => He.ga K "Course" | _ => 0, fun n => match n with | _ => none, P, w⟩
theorem facts {P : Program} {w : World} {K : PySem.W.Frag} {h : Heap} {mg : Str → Option Value} {f : Addr} (X : K.In h) (G : h.Ns mainGlobals mg) (hfa : mg ("law" : Str) = some (.ref f)) (cz : SaysZ fa fn ts xs w K) :
    ∃ T : Tx P w K mg (FX P w K), T.a_law = f := by
  have c := cz.t.d
  obtain ⟨d__law_box, F__law_box⟩ := c.def_ 0 (d := dD__law_box) rfl
  obtain ⟨d__law_cells, F__law_cells⟩ := c.def_ 1 (d := dD__law_cells) rfl
  obtain ⟨d__law_same, F__law_same⟩ := c.def_ 2 (d := dD__law_same) rfl
  obtain ⟨d_World_entries, F_World_entries⟩ := c.def_ 3 (d := dD_World_entries) rfl
  obtain ⟨d_World___init__, F_World___init__⟩ := c.def_ 4 (d := dD_World___init__) rfl
  obtain ⟨d_Course___init__, F_Course___init__⟩ := c.def_ 5 (d := dD_Course___init__) rfl
  obtain ⟨d_World_do, F_World_do⟩ := c.def_ 6 (d := dD_World_do) rfl
  obtain ⟨d_Course_do, F_Course_do⟩ := c.def_ 7 (d := dD_Course_do) rfl
  obtain ⟨d_Course_world, F_Course_world⟩ := c.def_ 8 (d := dD_Course_world) rfl
  obtain ⟨d_tupled, F_tupled⟩ := c.def_ 9 (d := dD_tupled) rfl
  obtain ⟨d_world_behind, F_world_behind⟩ := c.def_ 10 (d := dD_world_behind) rfl
  obtain ⟨d_entries, F_entries⟩ := c.def_ 11 (d := dD_entries) rfl
  obtain ⟨d_World_folders, F_World_folders⟩ := c.def_ 12 (d := dD_World_folders) rfl
  obtain ⟨d_World_is_free, F_World_is_free⟩ := c.def_ 13 (d := dD_World_is_free) rfl
  obtain ⟨d_World_place_of, F_World_place_of⟩ := c.def_ 14 (d := dD_World_place_of) rfl
  obtain ⟨d_World_is_within, F_World_is_within⟩ := c.def_ 15 (d := dD_World_is_within) rfl
  obtain ⟨d_World_names, F_World_names⟩ := c.def_ 16 (d := dD_World_names) rfl
  obtain ⟨d_World_what, F_World_what⟩ := c.def_ 17 (d := dD_World_what) rfl
  obtain ⟨d_is_name, F_is_name⟩ := c.def_ 18 (d := dD_is_name) rfl
  obtain ⟨d_is_number, F_is_number⟩ := c.def_ 19 (d := dD_is_number) rfl
  obtain ⟨d_is_form, F_is_form⟩ := c.def_ 20 (d := dD_is_form) rfl
  obtain ⟨d_World_can, F_World_can⟩ := c.def_ 21 (d := dD_World_can) rfl
  obtain ⟨d_Course_can, F_Course_can⟩ := c.def_ 22 (d := dD_Course_can) rfl
  obtain ⟨d_Course_is_stopped, F_Course_is_stopped⟩ := c.def_ 23 (d := dD_Course_is_stopped) rfl
  obtain ⟨d_has_no_ring, F_has_no_ring⟩ := c.def_ 24 (d := dD_has_no_ring) rfl
  obtain ⟨d_is_tuple, F_is_tuple⟩ := c.def_ 25 (d := dD_is_tuple) rfl
  obtain ⟨d_is_entry, F_is_entry⟩ := c.def_ 26 (d := dD_is_entry) rfl
  obtain ⟨d_is_tree, F_is_tree⟩ := c.def_ 27 (d := dD_is_tree) rfl
  obtain ⟨d_is_plan, F_is_plan⟩ := c.def_ 28 (d := dD_is_plan) rfl
  obtain ⟨d_World_path_of, F_World_path_of⟩ := c.def_ 29 (d := dD_World_path_of) rfl
  obtain ⟨d_paths, F_paths⟩ := c.def_ 30 (d := dD_paths) rfl
  obtain ⟨d__law_moves_right, F__law_moves_right⟩ := c.def_ 31 (d := dD__law_moves_right) rfl
  obtain ⟨d__law_numbers_right, F__law_numbers_right⟩ := c.def_ 32 (d := dD__law_numbers_right) rfl
  obtain ⟨d__law_take, F__law_take⟩ := c.def_ 33 (d := dD__law_take) rfl
  obtain ⟨d__law_right, F__law_right⟩ := c.def_ 34 (d := dD__law_right) rfl
  obtain ⟨d_law, F_law⟩ := c.def_ 35 (d := dD_law) rfl
  have g_law := He.glo_ok X G (c.fact 19 (f := .glo "law") rfl)
  have e := hfa.symm.trans g_law
  cases e
  exact ⟨{ hP := rfl, hw := rfl, hL := rfl, a__law_box := _, d__law_box := _, F__law_box := F__law_box, g__law_box := He.glo_ok X G (c.fact 0 (f := .glo "_law_box") rfl), a__law_cells := _, d__law_cells := _, F__law_cells := F__law_cells, g__law_cells := He.glo_ok X G (c.fact 1 (f := .glo "_law_cells") rfl), a__law_same := _, d__law_same := _, F__law_same := F__law_same, g__law_same := He.glo_ok X G (c.fact 2 (f := .glo "_law_same") rfl), a_World_entries := _, d_World_entries := _, F_World_entries := F_World_entries, a_World___init__ := _, d_World___init__ := _, F_World___init__ := F_World___init__, a_Course___init__ := _, d_Course___init__ := _, F_Course___init__ := F_Course___init__, a_World_do := _, d_World_do := _, F_World_do := F_World_do, a_Course_do := _, d_Course_do := _, F_Course_do := F_Course_do, a_Course_world := _, d_Course_world := _, F_Course_world := F_Course_world, a_tupled := _, d_tupled := _, F_tupled := F_tupled, g_tupled := He.glo_ok X G (c.fact 3 (f := .glo "tupled") rfl), a_world_behind := _, d_world_behind := _, F_world_behind := F_world_behind, g_world_behind := He.glo_ok X G (c.fact 4 (f := .glo "world_behind") rfl), a_entries := _, d_entries := _, F_entries := F_entries, g_entries := He.glo_ok X G (c.fact 5 (f := .glo "entries") rfl), a_World_folders := _, d_World_folders := _, F_World_folders := F_World_folders, a_World_is_free := _, d_World_is_free := _, F_World_is_free := F_World_is_free, a_World_place_of := _, d_World_place_of := _, F_World_place_of := F_World_place_of, a_World_is_within := _, d_World_is_within := _, F_World_is_within := F_World_is_within, a_World_names := _, d_World_names := _, F_World_names := F_World_names, a_World_what := _, d_World_what := _, F_World_what := F_World_what, a_is_name := _, d_is_name := _, F_is_name := F_is_name, g_is_name := He.glo_ok X G (c.fact 6 (f := .glo "is_name") rfl), a_is_number := _, d_is_number := _, F_is_number := F_is_number, g_is_number := He.glo_ok X G (c.fact 7 (f := .glo "is_number") rfl), a_is_form := _, d_is_form := _, F_is_form := F_is_form, g_is_form := He.glo_ok X G (c.fact 8 (f := .glo "is_form") rfl), a_World_can := _, d_World_can := _, F_World_can := F_World_can, a_Course_can := _, d_Course_can := _, F_Course_can := F_Course_can, a_Course_is_stopped := _, d_Course_is_stopped := _, F_Course_is_stopped := F_Course_is_stopped, a_has_no_ring := _, d_has_no_ring := _, F_has_no_ring := F_has_no_ring, g_has_no_ring := He.glo_ok X G (c.fact 9 (f := .glo "has_no_ring") rfl), a_is_tuple := _, d_is_tuple := _, F_is_tuple := F_is_tuple, g_is_tuple := He.glo_ok X G (c.fact 10 (f := .glo "is_tuple") rfl), a_is_entry := _, d_is_entry := _, F_is_entry := F_is_entry, g_is_entry := He.glo_ok X G (c.fact 11 (f := .glo "is_entry") rfl), a_is_tree := _, d_is_tree := _, F_is_tree := F_is_tree, g_is_tree := He.glo_ok X G (c.fact 12 (f := .glo "is_tree") rfl), a_is_plan := _, d_is_plan := _, F_is_plan := F_is_plan, g_is_plan := He.glo_ok X G (c.fact 13 (f := .glo "is_plan") rfl), a_World_path_of := _, d_World_path_of := _, F_World_path_of := F_World_path_of, a_paths := _, d_paths := _, F_paths := F_paths, g_paths := He.glo_ok X G (c.fact 14 (f := .glo "paths") rfl), a__law_moves_right := _, d__law_moves_right := _, F__law_moves_right := F__law_moves_right, g__law_moves_right := He.glo_ok X G (c.fact 15 (f := .glo "_law_moves_right") rfl), a__law_numbers_right := _, d__law_numbers_right := _, F__law_numbers_right := F__law_numbers_right, g__law_numbers_right := He.glo_ok X G (c.fact 16 (f := .glo "_law_numbers_right") rfl), a__law_take := _, d__law_take := _, F__law_take := F__law_take, g__law_take := He.glo_ok X G (c.fact 17 (f := .glo "_law_take") rfl), a__law_right := _, d__law_right := _, F__law_right := F__law_right, g__law_right := He.glo_ok X G (c.fact 18 (f := .glo "_law_right") rfl), a_law := _, d_law := _, F_law := F_law, g_law := He.glo_ok X G (c.fact 19 (f := .glo "law") rfl), g_World := He.glo_ok X G (c.fact 48 (f := .glo "World") rfl), hf_World := rfl, sc_World := sclsB_ok (cz.x 0), sl_World_own_next := slotB_ok (cz.x 1), sl_World_own_places := slotB_ok (cz.x 2), me_World_entries := He.meth_ok (c.fact 49 (f := .meth "World" "entries") rfl), mk_World := He.mkr_ok (c.fact 50 (f := .mkr "World") rfl), me_World_do := He.meth_ok (c.fact 51 (f := .meth "World" "do") rfl), me_World_folders := He.meth_ok (c.fact 52 (f := .meth "World" "folders") rfl), me_World_is_free := He.meth_ok (c.fact 53 (f := .meth "World" "is_free") rfl), me_World_place_of := He.meth_ok (c.fact 54 (f := .meth "World" "place_of") rfl), me_World_is_within := He.meth_ok (c.fact 55 (f := .meth "World" "is_within") rfl), me_World_names := He.meth_ok (c.fact 56 (f := .meth "World" "names") rfl), me_World_what := He.meth_ok (c.fact 57 (f := .meth "World" "what") rfl), me_World_can := He.meth_ok (c.fact 58 (f := .meth "World" "can") rfl), me_World_path_of := He.meth_ok (c.fact 59 (f := .meth "World" "path_of") rfl), g_Course := He.glo_ok X G (c.fact 60 (f := .glo "Course") rfl), hf_Course := rfl, sc_Course := sclsB_ok (cz.x 3), sl_Course_own_stopped := slotB_ok (cz.x 4), sl_Course_own_world := slotB_ok (cz.x 5), mk_Course := He.mkr_ok (c.fact 61 (f := .mkr "Course") rfl), me_Course_do := He.meth_ok (c.fact 62 (f := .meth "Course" "do") rfl), me_Course_world := He.meth_ok (c.fact 63 (f := .meth "Course" "world") rfl), me_Course_can := He.meth_ok (c.fact 64 (f := .meth "Course" "can") rfl), me_Course_is_stopped := He.meth_ok (c.fact 65 (f := .meth "Course" "is_stopped") rfl), n_abs := He.free_ok X G (c.fact 20 (f := .free "abs") rfl), n_all := He.free_ok X G (c.fact 21 (f := .free "all") rfl), n_bool := He.free_ok X G (c.fact 22 (f := .free "bool") rfl), n_dict := He.free_ok X G (c.fact 23 (f := .free "dict") rfl), n_enumerate := He.free_ok X G (c.fact 24 (f := .free "enumerate") rfl), n_int := He.free_ok X G (c.fact 25 (f := .free "int") rfl), n_isinstance := He.free_ok X G (c.fact 26 (f := .free "isinstance") rfl), n_len := He.free_ok X G (c.fact 27 (f := .free "len") rfl), n_list := He.free_ok X G (c.fact 28 (f := .free "list") rfl), n_max := He.free_ok X G (c.fact 29 (f := .free "max") rfl), n_range := He.free_ok X G (c.fact 30 (f := .free "range") rfl), n_set := He.free_ok X G (c.fact 31 (f := .free "set") rfl), n_sorted := He.free_ok X G (c.fact 32 (f := .free "sorted") rfl), n_str := He.free_ok X G (c.fact 33 (f := .free "str") rfl), n_tuple := He.free_ok X G (c.fact 34 (f := .free "tuple") rfl), n_zip := He.free_ok X G (c.fact 35 (f := .free "zip") rfl), c_DROP := He.str_ok X G (c.fact 36 (f := .str "DROP" "drop") rfl), c_FILE := He.int_ok X G (c.fact 37 (f := .int "FILE" (-1)) rfl), c_LETTERS := He.str_ok X G (c.fact 38 (f := .str "LETTERS" "abcdefghijklmnopqrstuvwxyz") rfl), c_LONG_PARTS := He.int_ok X G (c.fact 39 (f := .int "LONG_PARTS" (5)) rfl), c_MAKE := He.str_ok X G (c.fact 40 (f := .str "MAKE" "make") rfl), c_MOST_LETTERS := He.int_ok X G (c.fact 41 (f := .int "MOST_LETTERS" (8)) rfl), c_MOVE := He.str_ok X G (c.fact 42 (f := .str "MOVE" "move") rfl), c_PUT := He.str_ok X G (c.fact 43 (f := .str "PUT" "put") rfl), c_ROOT := He.int_ok X G (c.fact 44 (f := .int "ROOT" (0)) rfl), c_SHORT_PARTS := He.int_ok X G (c.fact 45 (f := .int "SHORT_PARTS" (3)) rfl), c_START := He.str_ok X G (c.fact 46 (f := .str "START" "start") rfl), c_STOP := He.str_ok X G (c.fact 47 (f := .str "STOP" "stop") rfl) }, rfl⟩
end Z13

set_option Elab.async false
set_option linter.all false
set_option maxRecDepth 100000
set_option maxHeartbeats 0
namespace Z13
open PySem PySem.Spec PyProof.Rows L2 Z
theorem fx_ok {P : Program} {w : World} {K : PySem.W.Frag} : En.Ok (FX P w K) ⟨[], []⟩ := by
  have h1 : LITS.Pairwise fun x y => x.cps.toList < y.cps.toList := by decide +kernel
  have h2 : ∀ x ∈ LITS, x.length ≤ 1000 ∧ x.length ≠ 0 := by decide +kernel
  have h3 : ∀ x ∈ LITS, PyData.strOk x = true := by decide +kernel
  exact ⟨h1, h2, h3, .nil, fun _ h => (by cases h), fun _ h => (by cases h), fun _ h => (by cases h), fun _ h => (by cases h)⟩
theorem pool_ok {P : Program} {w : World} {K : PySem.W.Frag} : ∀ i ∈ POOL, i < 1000 ∧ ∃ x, (FX P w K).lits[i]? = some x ∧ isNm x = true := by
  have h : POOL.all (fun i => Nat.blt i 1000 && match LITS[i]? with | some x => isNm x | none => false) = true := by decide +kernel
  intro i hi
  have q := List.all_eq_true.mp h i hi
  rw [Bool.and_eq_true] at q
  refine ⟨Nat.le_of_ble_eq_true q.1, ?_⟩
  cases e : LITS[i]? with
  | none => rw [e] at q; cases q.2
  | some x => rw [e] at q; exact ⟨x, e, q.2⟩
theorem ok_top {P : Program} {w : World} {K : PySem.W.Frag} {mg : Str → Option Value} {base : Heap} (T : Tx P w K mg (FX P w K)) : FnOk P w K mg base CX0 12 T.a_law T.d_law ["_law_script"] (spZ K (FX P w K) 1 m_law) := by
  have G__law_box : FnOk P w K mg base CX0 1 T.a__law_box T.d__law_box ["_law_script", "_law_k"] (spZ K (FX P w K) 2 (fBoxN 4)) := ok_boxN (ok__law_box T)
  have G__law_cells : FnOk P w K mg base CX0 1 T.a__law_cells T.d__law_cells ["_law_script", "_law_most"] (spZ K (FX P w K) 2 fCells) := ok_cells (ok__law_cells T)
  have G__law_same : FnOk P w K mg base CX0 9 T.a__law_same T.d__law_same ["_law_found", "_law_due"] (spZ K (FX P w K) 2 (m__law_same 8)) := ok__law_same T 8
  have G_World_entries : FnOk P w K mg base CX0 1 T.a_World_entries T.d_World_entries ["self"] (spZ K (FX P w K) 1 m_World_entries) := ok_World_entries T
  have G_World___init__ : FnOk P w K mg base CX0 1 T.a_World___init__ T.d_World___init__ ["self", "tree"] (spZ K (FX P w K) 2 m_World___init__) := ok_World___init__ T
  have G_Course___init__ : FnOk P w K mg base CX0 3 T.a_Course___init__ T.d_Course___init__ ["self", "tree"] (spZ K (FX P w K) 2 m_Course___init__) := ok_Course___init__ T G_World___init__
  have G_World_do : FnOk P w K mg base CX0 1 T.a_World_do T.d_World_do ["self", "deed"] (spZ K (FX P w K) 2 m_World_do) := ok_World_do T
  have G_Course_do : FnOk P w K mg base CX0 2 T.a_Course_do T.d_Course_do ["self", "deed"] (spZ K (FX P w K) 2 m_Course_do) := ok_Course_do T G_World_do
  have G_Course_world : FnOk P w K mg base CX0 1 T.a_Course_world T.d_Course_world ["self"] (spZ K (FX P w K) 1 m_Course_world) := ok_Course_world T
  have G_tupled : FnOk P w K mg base CX0 7 T.a_tupled T.d_tupled ["thing"] (spZ K (FX P w K) 1 (m_tupled 6)) := ok_tupled T 6
  have G_world_behind : FnOk P w K mg base CX0 8 T.a_world_behind T.d_world_behind ["plan", "many"] (spZ K (FX P w K) 2 m_world_behind) := ok_world_behind T G_Course___init__ G_Course_do G_Course_world G_tupled
  have G_entries : FnOk P w K mg base CX0 9 T.a_entries T.d_entries ["plan", "many"] (spZ K (FX P w K) 2 m_entries) := ok_entries T G_World_entries G_world_behind
  have G_World_folders : FnOk P w K mg base CX0 1 T.a_World_folders T.d_World_folders ["self"] (spZ K (FX P w K) 1 m_World_folders) := ok_World_folders T
  have G_World_is_free : FnOk P w K mg base CX0 2 T.a_World_is_free T.d_World_is_free ["self", "folder", "name"] (spZ K (FX P w K) 3 m_World_is_free) := ok_World_is_free T G_World_folders
  have G_World_place_of : FnOk P w K mg base CX0 1 T.a_World_place_of T.d_World_place_of ["self", "folder"] (spZ K (FX P w K) 2 m_World_place_of) := ok_World_place_of T
  have G_World_is_within : FnOk P w K mg base CX0 2 T.a_World_is_within T.d_World_is_within ["self", "folder", "other"] (spZ K (FX P w K) 3 m_World_is_within) := ok_World_is_within T G_World_place_of
  have G_World_names : FnOk P w K mg base CX0 1 T.a_World_names T.d_World_names ["self", "folder"] (spZ K (FX P w K) 2 m_World_names) := ok_World_names T
  have G_World_what : FnOk P w K mg base CX0 1 T.a_World_what T.d_World_what ["self", "folder", "name"] (spZ K (FX P w K) 3 m_World_what) := ok_World_what T
  have G_is_name : FnOk P w K mg base CX0 1 T.a_is_name T.d_is_name ["thing"] (spZ K (FX P w K) 1 m_is_name) := ok_is_name T
  have G_is_number : FnOk P w K mg base CX0 1 T.a_is_number T.d_is_number ["thing", "bottom"] (spZ K (FX P w K) 2 m_is_number) := ok_is_number T
  have G_is_form : FnOk P w K mg base CX0 2 T.a_is_form T.d_is_form ["thing"] (spZ K (FX P w K) 1 m_is_form) := ok_is_form T G_is_name G_is_number
  have G_World_can : FnOk P w K mg base CX0 3 T.a_World_can T.d_World_can ["self", "deed"] (spZ K (FX P w K) 2 m_World_can) := ok_World_can T G_World_is_free G_World_is_within G_World_names G_World_what G_is_form
  have G_Course_can : FnOk P w K mg base CX0 4 T.a_Course_can T.d_Course_can ["self", "deed"] (spZ K (FX P w K) 2 m_Course_can) := ok_Course_can T G_World_can
  have G_Course_is_stopped : FnOk P w K mg base CX0 1 T.a_Course_is_stopped T.d_Course_is_stopped ["self"] (spZ K (FX P w K) 1 m_Course_is_stopped) := ok_Course_is_stopped T
  have G_has_no_ring : FnOk P w K mg base CX0 1 T.a_has_no_ring T.d_has_no_ring ["tree"] (spZ K (FX P w K) 1 m_has_no_ring) := ok_has_no_ring T
  have G_is_tuple : FnOk P w K mg base CX0 1 T.a_is_tuple T.d_is_tuple ["thing", "many"] (spZ K (FX P w K) 2 m_is_tuple) := ok_is_tuple T
  have G_is_entry : FnOk P w K mg base CX0 2 T.a_is_entry T.d_is_entry ["thing"] (spZ K (FX P w K) 1 m_is_entry) := ok_is_entry T G_is_name G_is_number G_is_tuple
  have G_is_tree : FnOk P w K mg base CX0 3 T.a_is_tree T.d_is_tree ["thing"] (spZ K (FX P w K) 1 m_is_tree) := ok_is_tree T G_has_no_ring G_is_entry
  have G_is_plan : FnOk P w K mg base CX0 5 T.a_is_plan T.d_is_plan ["thing"] (spZ K (FX P w K) 1 m_is_plan) := ok_is_plan T G_Course___init__ G_Course_can G_Course_do G_Course_is_stopped G_is_tree G_is_tuple
  have G_World_path_of : FnOk P w K mg base CX0 2 T.a_World_path_of T.d_World_path_of ["self", "folder"] (spZ K (FX P w K) 2 m_World_path_of) := ok_World_path_of T G_World_folders G_World_place_of
  have G_paths : FnOk P w K mg base CX0 9 T.a_paths T.d_paths ["plan", "many"] (spZ K (FX P w K) 2 m_paths) := ok_paths T G_World_folders G_World_path_of G_world_behind
  have G__law_moves_right : FnOk P w K mg base CX0 10 T.a__law_moves_right T.d__law_moves_right ["_law_a", "_law_b", "_law_c", "_law_d"] (spZ K (FX P w K) 4 (fYes4 POOL)) := ok_yes4 pool_ok ev_moves (ok__law_moves_right T G__law_same G_entries G_is_plan G_paths)
  have G__law_numbers_right : FnOk P w K mg base CX0 10 T.a__law_numbers_right T.d__law_numbers_right ["_law_a", "_law_b", "_law_c", "_law_d"] (spZ K (FX P w K) 4 (fYes4 POOL)) := ok_yes4 pool_ok ev_numbers (ok__law_numbers_right T G__law_same G_entries G_is_plan G_paths)
  have G__law_take : FnOk P w K mg base CX0 1 T.a__law_take T.d__law_take ["_law_box_here", "_law_below"] (spZ K (FX P w K) 2 fTake) := ok_take (ok__law_take T)
  have G__law_right : FnOk P w K mg base CX0 11 T.a__law_right T.d__law_right ["_law_box_here"] (spZ K (FX P w K) 1 (fRightB 4 [0])) := ok_rightB (ms := [8, 7, 6, 5]) (fs := [0]) (by decide) right_true (ok__law_right T G__law_moves_right G__law_numbers_right G__law_take)
  exact ok_law T G__law_box G__law_cells G__law_right
end Z13
open PySem PySem.W PySem.Calls PyProof.Rows
theorem PySem.Challenge.cw_watchlost_k13_known_plans_holds : PySem.Challenge.rw_watchlost_k13_known_plans.Holds := by
  w_on; o_law
  refine HandSHeadRun.head_any (r := OpenLaw.row PySem.Challenge.rw_watchlost_k13_known_plans) (q := view (OpenLaw.row PySem.Challenge.rw_watchlost_k13_known_plans).prog [39]) (H := Z13.hk) (ob := Z13.ob) (M := 20000) (loose := ("_wall" :: "NoDeed" :: "tupled" :: "is_name" :: "is_number" :: "is_tuple" :: "is_entry" :: "is_form" :: "World" :: "is_tree" :: "has_no_ring" :: "is_plan" :: "Course" :: "world_behind" :: "entries" :: "paths" :: "_law_box" :: "_law_take" :: "_law_cells" :: "_law_same" :: "_law_numbers_right" :: "_law_moves_right" :: "_law_right" :: "LETTERS" :: "MOST_LETTERS" :: "ROOT" :: "FILE" :: "MAKE" :: "PUT" :: "DROP" :: "MOVE" :: "STOP" :: "START" :: "SHORT_PARTS" :: "LONG_PARTS" :: [] : List Str)) (d := HandSHeadRun.topDef (OpenLaw.row PySem.Challenge.rw_watchlost_k13_known_plans).prog 39) (kwd := []) Z13.ob_eq
    (by kernel_rfl) (fun s => by kernel_rfl) Z13.run (by kernel_rfl) (by kernel_rfl) (by kernel_rfl) (by rfl) (by first | assumption | decide +kernel) (by decide +kernel) ⟨rfl, rfl, rfl, rfl, rfl, by decide +kernel⟩ ?hw ?hc
  case hw => w_witness2
  case hc =>
    refine L2.walk_ofE (l := PySem.Challenge.rw_watchlost_k13_known_plans) (n := 63) (k := 12) (x := "_law_script") (CX := L2.CX0) rfl (by decide) (by kernel_rfl) ⟨rfl, by decide, by decide⟩ ?F (fun _ _ _ _ z => z)
    intro w mg fa h Y G hmg0
    obtain ⟨K, KX, c⟩ := Y
    have hmg : mg ("law" : PySem.Str) = some (.ref fa) := by
      have e : (HandSHeadRun.topDef (OpenLaw.row PySem.Challenge.rw_watchlost_k13_known_plans).prog 39).name = ("law" : PySem.Str) := by kernel_rfl
      rw [← e]
      exact hmg0
    obtain ⟨T, hT⟩ := Z13.facts (P := (PySem.Challenge.rw_watchlost_k13_known_plans).prog) (w := w) KX G hmg c
    subst hT
    refine ⟨K, T.d_law, Z.spZ K (Z13.FX (PySem.Challenge.rw_watchlost_k13_known_plans).prog w K) 1 Z13.m_law, KX, ?_, ?_, ?_⟩
    · have b := L2.FunD.bindsA (ps := ["_law_script"]) T.F_law fun _ _ _ _ _ _ us hl => match us, hl with | [_], _ => rfl
      exact fun s v => b s [v] rfl
    · exact fun H a ns hl hO hS => Z.top_z Z13.fx_ok (Z13.law_true ns hl) hO hS
    · exact fun base _ _ => Z13.ok_top T
#print axioms PySem.Challenge.cw_watchlost_k13_known_plans_holds

