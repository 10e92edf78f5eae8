import PyProof.Rows.All
import Wide.All
import OpenK.AllK
import Wide.FinOn
import HandS.ForMost
import HandS.More
import HandS.SlotsVar
import HandS.Flow
import HandS.IsInst
import HandS.TupAny
import KE.SortData
import HandS.NoneIn
import HandS.TupLe
import HandS.TupMul
import HandS.Defaults
import KE.KStateDown
import HandS.Head0
import HandS.Head1
import HandS.Head2
import HandS.HeadEnd
import HandS.HeadHook1
import HandS.HeadHook2
import PySem.Challenge.RW_watchlost_k16_which_rules_are_safe
set_option Elab.async false
set_option linter.all false
set_option maxRecDepth 100000
/-! Z: computable combinators over the hand layer: a logical heap with logical addresses, tuples by value, texts as atoms. -/
namespace Z
abbrev St := L2.St
open PySem PySem.Spec PyProof.Rows L2

/-! ### logical values, objects, heaps -/
inductive W where
  | non | bl (b : Bool) | int (i : Int) | ia (k : Nat) | str (k : Nat) | tup (xs : List W) | ref (n : Nat) | fz (xs : List W)
inductive LO where
  | lst (xs : List W) | dct (kvs : List (W × W)) | ins (c : Nat) (fs : List (Option W)) | any | box (ds : List (Nat × Nat))
inductive Tr where
  | nil | nd (l : Tr) (o : Option LO) (r : Tr)
def Tr.l : Tr → Tr
  | .nil => .nil
  | .nd l _ _ => l
def Tr.r : Tr → Tr
  | .nil => .nil
  | .nd _ _ r => r
def Tr.o : Tr → Option LO
  | .nil => none
  | .nd _ o _ => o
def Tr.get : Tr → Nat → Option LO
  | .nil, _ => none
  | .nd l o r, n => match n with
    | 0 => o
    | n + 1 => cond (Nat.beq (n % 2) 0) (l.get (n / 2)) (r.get (n / 2))
def Tr.set : Nat → Tr → Nat → LO → Tr
  | 0, t, _, _ => t
  | f + 1, t, n, x => match n with
    | 0 => .nd t.l (some x) t.r
    | n + 1 => cond (Nat.beq (n % 2) 0) (.nd (t.l.set f (n / 2) x) t.o t.r) (.nd t.l t.o (t.r.set f (n / 2) x))

theorem Tr.l_nd (l : Tr) (o : Option LO) (r : Tr) : (Tr.nd l o r).l = l := rfl
theorem Tr.r_nd (l : Tr) (o : Option LO) (r : Tr) : (Tr.nd l o r).r = r := rfl
theorem Tr.o_nd (l : Tr) (o : Option LO) (r : Tr) : (Tr.nd l o r).o = o := rfl
theorem Tr.get_zero (t : Tr) : t.get 0 = t.o := by cases t <;> rfl
theorem Tr.get_succ (t : Tr) (n : Nat) : t.get (n + 1) = cond (Nat.beq (n % 2) 0) (t.l.get (n / 2)) (t.r.get (n / 2)) := by
  cases t with
  | nil => cases h : Nat.beq (n % 2) 0 <;> simp [Tr.get, Tr.l, Tr.r]
  | nd l o r => rfl
theorem Tr.get_set : ∀ (f : Nat) (t : Tr) (n m : Nat) (x : LO), n + 1 < 2 ^ f → (Tr.set f t n x).get m = if m = n then some x else t.get m
  | 0, t, n, m, x, h => by simp at h
  | f + 1, t, n, m, x, h => by
    cases n with
    | zero =>
      cases m with
      | zero => simp [Tr.set, Tr.get]
      | succ m => rw [if_neg (by omega), Tr.get_succ, Tr.get_succ]; simp [Tr.set, Tr.l, Tr.r]
    | succ n =>
      have hf : n / 2 + 1 < 2 ^ f := by
        have : 2 ^ (f + 1) = 2 * 2 ^ f := by rw [Nat.pow_succ]; omega
        omega
      have ih1 := fun m => Tr.get_set f t.l (n / 2) m x hf
      have ih2 := fun m => Tr.get_set f t.r (n / 2) m x hf
      cases hb : Nat.beq (n % 2) 0 with
      | true =>
        have hb' : n % 2 = 0 := Nat.eq_of_beq_eq_true hb
        cases m with
        | zero => rw [if_neg (by omega), Tr.get_zero, Tr.get_zero]; simp only [Tr.set, hb, cond, Tr.o_nd]
        | succ m =>
          rw [Tr.get_succ, Tr.get_succ]
          simp only [Tr.set, hb, cond, Tr.l_nd, Tr.r_nd]
          cases hc : Nat.beq (m % 2) 0 with
          | true =>
            have hc' : m % 2 = 0 := Nat.eq_of_beq_eq_true hc
            simp only [ih1]
            by_cases e : m = n
            · subst e; simp
            · rw [if_neg (by omega), if_neg (by omega)]
          | false =>
            have hc' : m % 2 ≠ 0 := Nat.ne_of_beq_eq_false hc
            rw [if_neg (by omega)]
      | false =>
        have hb' : n % 2 ≠ 0 := Nat.ne_of_beq_eq_false hb
        cases m with
        | zero => rw [if_neg (by omega), Tr.get_zero, Tr.get_zero]; simp only [Tr.set, hb, cond, Tr.o_nd]
        | succ m =>
          rw [Tr.get_succ, Tr.get_succ]
          simp only [Tr.set, hb, cond, Tr.l_nd, Tr.r_nd]
          cases hc : Nat.beq (m % 2) 0 with
          | true =>
            have hc' : m % 2 = 0 := Nat.eq_of_beq_eq_true hc
            rw [if_neg (by omega)]
          | false =>
            have hc' : m % 2 ≠ 0 := Nat.ne_of_beq_eq_false hc
            simp only [ih2]
            by_cases e : m = n
            · subst e; simp
            · rw [if_neg (by omega), if_neg (by omega)]

structure LH where
  n : Nat
  t : Tr
def LH.get (L : LH) (i : Nat) : Option LO := L.t.get i
/-- at most 2^39 objects -/
def top : Nat := 549755813000
def LH.set (L : LH) (i : Nat) (o : LO) : LH := ⟨L.n, L.t.set 40 i o⟩
def LH.add (L : LH) (o : LO) : LH := ⟨L.n + 1, L.t.set 40 L.n o⟩
theorem LH.get_set {L : LH} {i j : Nat} {o : LO} (h : i < top) : (L.set i o).get j = if j = i then some o else L.get j :=
  Tr.get_set 40 L.t i j o (by unfold top at h; omega)
theorem LH.get_add {L : LH} {j : Nat} {o : LO} (h : L.n < top) : (L.add o).get j = if j = L.n then some o else L.get j :=
  Tr.get_set 40 L.t L.n j o (by unfold top at h; omega)

/-! ### what is fixed for a program; what a run chooses -/
structure Fx where
  lits : List Str
  C : Nat → Addr
  fld : Nat → Option (List Str)
structure En where
  nms : List Str
  nums : List Int
/-- the text of an atom: below 1000 a literal of the program, beyond it a drawn name -/
def sOf (F : Fx) (e : En) (k : Nat) : Option Str := if k < 1000 then F.lits[k]? else e.nms[k - 1000]?
structure En.Ok (F : Fx) (e : En) : Prop where
  lits : F.lits.Nodup
  len : ∀ x ∈ F.lits, x.length ≤ 1000 ∧ x.length ≠ 0
  lok : ∀ x ∈ F.lits, PyData.strOk x = true
  names : e.nms.Pairwise fun x y => x.cps.toList < y.cps.toList
  nlen : ∀ x ∈ e.nms, x.length ≤ 1000 ∧ x.length ≠ 0
  nok : ∀ x ∈ e.nms, PyData.strOk x = true
  nums : ∀ i ∈ e.nums, 2 ≤ i

/-- a list that is read alone: known to the object, or of the written part -/
def FzL (K : PySem.W.Frag) (H : Hp) (a : Addr) (xs : List V) : Prop := (∃ o, H a = some (.frz o (.lst xs))) ∨
  ∃ (o : Obj) (its : Array Value) (n : Nat), K.lookup a = some o ∧ o.cls = .type "list" ∧ o.dict = none ∧ o.data = .seq its n ∧ its.size ≤ sizeLine ∧ Vals xs its.toList
theorem FzL.sq {K : PySem.W.Frag} {H : Hp} {a : Addr} {xs : List V} (h : FzL K H a xs) : SqL K H a xs := by
  rcases h with h | h
  · exact .inl (.inr h)
  · exact .inr h
/-- what stays readable -/
structure Kp (K : PySem.W.Frag) (H H' : Hp) : Prop where
  t : ∀ a xs, SqT K H a xs → SqT K H' a xs
  z : ∀ a xs, FzL K H a xs → FzL K H' a xs
theorem Kp.refl {K : PySem.W.Frag} {H : Hp} : Kp K H H := ⟨fun _ _ h => h, fun _ _ h => h⟩
mutual
def RelW (K : PySem.W.Frag) (F : Fx) (e : En) (H : Hp) (ρ : List Addr) : W → V → Prop
  | .non, v => v = .non
  | .bl b, v => v = .bl b
  | .int i, v => v = .int i
  | .ia k, v => ∃ i, e.nums[k]? = some i ∧ v = .int i
  | .str k, v => ∃ x, sOf F e k = some x ∧ v = .str x
  | .tup ws, v => ∃ a xs, v = .ref a ∧ SqT K H a xs ∧ RelWs K F e H ρ ws xs
  | .ref n, v => ∃ a, v = .ref a ∧ ρ[n]? = some a
  | .fz ws, v => ∃ a xs, v = .ref a ∧ FzL K H a xs ∧ RelWs K F e H ρ ws xs
def RelWs (K : PySem.W.Frag) (F : Fx) (e : En) (H : Hp) (ρ : List Addr) : List W → List V → Prop
  | [], vs => vs = []
  | w :: ws, vs => ∃ v vr, vs = v :: vr ∧ RelW K F e H ρ w v ∧ RelWs K F e H ρ ws vr
end
section
variable {K : PySem.W.Frag} {F : Fx} {e : En} {H H' : Hp} {ρ ρ' : List Addr}
mutual
theorem RelW.mono (hT : Kp K H H') (hρ : ∀ (n : Nat) (a : Addr), ρ[n]? = some a → ρ'[n]? = some a) : ∀ (w : W) (v : V), RelW K F e H ρ w v → RelW K F e H' ρ' w v
  | .non, v, h => h
  | .bl b, v, h => h
  | .int i, v, h => h
  | .ia k, v, h => h
  | .str k, v, h => h
  | .tup ws, v, h => by
    unfold RelW at h ⊢
    obtain ⟨a, xs, e1, s, r⟩ := h
    exact ⟨a, xs, e1, hT.t a xs s, RelWs.mono hT hρ ws xs r⟩
  | .ref n, v, h => by
    unfold RelW at h ⊢
    obtain ⟨a, e1, s⟩ := h
    exact ⟨a, e1, hρ n a s⟩
  | .fz ws, v, h => by
    unfold RelW at h ⊢
    obtain ⟨a, xs, e1, s, r⟩ := h
    exact ⟨a, xs, e1, hT.z a xs s, RelWs.mono hT hρ ws xs r⟩
theorem RelWs.mono (hT : Kp K H H') (hρ : ∀ (n : Nat) (a : Addr), ρ[n]? = some a → ρ'[n]? = some a) : ∀ (ws : List W) (vs : List V), RelWs K F e H ρ ws vs → RelWs K F e H' ρ' ws vs
  | [], vs, h => h
  | w :: ws, vs, h => by
    unfold RelWs at h ⊢
    obtain ⟨v, vr, e1, r1, r2⟩ := h
    exact ⟨v, vr, e1, RelW.mono hT hρ w v r1, RelWs.mono hT hρ ws vr r2⟩
end
theorem RelWs.length : ∀ {ws : List W} {vs : List V}, RelWs K F e H ρ ws vs → vs.length = ws.length
  | [], vs, h => by unfold RelWs at h; rw [h]; rfl
  | w :: ws, vs, h => by
    unfold RelWs at h
    obtain ⟨v, vr, e1, _, r2⟩ := h
    rw [e1, List.length_cons, List.length_cons, RelWs.length r2]
theorem RelWs.get : ∀ {ws : List W} {vs : List V} {i : Nat} {w : W}, RelWs K F e H ρ ws vs → ws[i]? = some w → ∃ v, vs[i]? = some v ∧ RelW K F e H ρ w v
  | [], vs, i, w, h, q => by simp at q
  | w0 :: ws, vs, 0, w, h, q => by
    unfold RelWs at h
    obtain ⟨v, vr, e1, r1, r2⟩ := h
    have : w0 = w := by simpa using q
    subst this
    exact ⟨v, by rw [e1]; rfl, r1⟩
  | w0 :: ws, vs, i + 1, w, h, q => by
    unfold RelWs at h
    obtain ⟨v, vr, e1, r1, r2⟩ := h
    obtain ⟨v', e2, r⟩ := RelWs.get (i := i) r2 (by simpa using q)
    exact ⟨v', by rw [e1]; simpa using e2, r⟩
theorem RelWs.append : ∀ {ws us : List W} {vs ys : List V}, RelWs K F e H ρ ws vs → RelWs K F e H ρ us ys → RelWs K F e H ρ (ws ++ us) (vs ++ ys)
  | [], us, vs, ys, h, q => by unfold RelWs at h; rw [h]; exact q
  | w :: ws, us, vs, ys, h, q => by
    unfold RelWs at h
    obtain ⟨v, vr, e1, r1, r2⟩ := h
    rw [e1]
    show RelWs K F e H ρ (w :: (ws ++ us)) (v :: (vr ++ ys))
    unfold RelWs
    exact ⟨v, vr ++ ys, rfl, r1, RelWs.append r2 q⟩
theorem RelWs.cons {w : W} {ws : List W} {v : V} {vs : List V} (h : RelW K F e H ρ w v) (q : RelWs K F e H ρ ws vs) : RelWs K F e H ρ (w :: ws) (v :: vs) := by
  unfold RelWs
  exact ⟨v, vs, rfl, h, q⟩
theorem RelWs.nil : RelWs K F e H ρ [] [] := by unfold RelWs; rfl
theorem RelWs.uncons {w : W} {ws : List W} {vs : List V} (q : RelWs K F e H ρ (w :: ws) vs) : ∃ v vr, vs = v :: vr ∧ RelW K F e H ρ w v ∧ RelWs K F e H ρ ws vr := by
  unfold RelWs at q
  exact q
theorem RelWs.take : ∀ {ws : List W} {vs : List V} (n : Nat), RelWs K F e H ρ ws vs → RelWs K F e H ρ (ws.take n) (vs.take n)
  | [], vs, n, h => by unfold RelWs at h; rw [h]; simpa using RelWs.nil
  | w :: ws, vs, 0, h => by simpa using RelWs.nil
  | w :: ws, vs, n + 1, h => by
    obtain ⟨v, vr, e1, r1, r2⟩ := h.uncons
    rw [e1]
    exact .cons r1 (RelWs.take n r2)
theorem RelWs.drop : ∀ {ws : List W} {vs : List V} (n : Nat), RelWs K F e H ρ ws vs → RelWs K F e H ρ (ws.drop n) (vs.drop n)
  | [], vs, n, h => by unfold RelWs at h; rw [h]; simpa using RelWs.nil
  | w :: ws, vs, 0, h => by simpa using h
  | w :: ws, vs, n + 1, h => by
    obtain ⟨v, vr, e1, r1, r2⟩ := h.uncons
    rw [e1]
    exact RelWs.drop n r2
theorem RelWs.set : ∀ {ws : List W} {vs : List V} {w : W} {v : V} (i : Nat), RelWs K F e H ρ ws vs → RelW K F e H ρ w v → RelWs K F e H ρ (ws.set i w) (vs.set i v)
  | [], vs, w, v, i, h, r => by unfold RelWs at h; rw [h]; simpa using RelWs.nil
  | w0 :: ws, vs, w, v, 0, h, r => by
    obtain ⟨v0, vr, e1, r1, r2⟩ := h.uncons
    rw [e1]
    exact .cons r r2
  | w0 :: ws, vs, w, v, i + 1, h, r => by
    obtain ⟨v0, vr, e1, r1, r2⟩ := h.uncons
    rw [e1]
    exact .cons r1 (RelWs.set i r2 r)
end

/-! ### the heap's relation, what a step leaves -/
structure Fm (ρ ρ' : List Addr) (H H' : Hp) : Prop where
  pre : ∀ (n : Nat) (a : Addr), ρ[n]? = some a → ρ'[n]? = some a
  new : ∀ a, a ∈ ρ' → a ∈ ρ ∨ H a = none
  keep : ∀ a o, H a = some o → a ∉ ρ → H' a = some o
  there : ∀ a o, H a = some o → ∃ o', H' a = some o'
  tup : ∀ a xs, Rd H a (.tup xs) → Rd H' a (.tup xs)
  frz : ∀ a o u, H a = some (.frz o u) → H' a = some (.frz o u)
theorem Fm.refl {ρ : List Addr} {H : Hp} : Fm ρ ρ H H := ⟨fun _ _ h => h, fun _ h => .inl h, fun _ _ h _ => h, fun _ o h => ⟨o, h⟩, fun _ _ h => h, fun _ _ _ h => h⟩
theorem Fm.trans {ρ ρ1 ρ2 : List Addr} {H H1 H2 : Hp} (a : Fm ρ ρ1 H H1) (b : Fm ρ1 ρ2 H1 H2) : Fm ρ ρ2 H H2 where
  pre := fun n x h => b.pre n x (a.pre n x h)
  new := fun x h => by
    rcases b.new x h with q | q
    · exact a.new x q
    · refine .inr ?_
      cases r : H x with
      | none => rfl
      | some o =>
        obtain ⟨o', e⟩ := a.there x o r
        rw [e] at q; cases q
  keep := fun x o h n => b.keep x o (a.keep x o h n) fun z => by
    rcases a.new x z with q | q
    · exact n q
    · rw [q] at h; cases h
  there := fun x o h => by
    obtain ⟨o', e⟩ := a.there x o h
    exact b.there x o' e
  tup := fun x xs h => b.tup x xs (a.tup x xs h)
  frz := fun x o u h => b.frz x o u (a.frz x o u h)
theorem Fm.sqT {K : PySem.W.Frag} {ρ ρ' : List Addr} {H H' : Hp} (f : Fm ρ ρ' H H') (a : Addr) (xs : List V) (h : SqT K H a xs) : SqT K H' a xs := by
  rcases h with h | h
  · exact .inl (f.tup a xs h)
  · exact .inr h
theorem Fm.kp {K : PySem.W.Frag} {ρ ρ' : List Addr} {H H' : Hp} (f : Fm ρ ρ' H H') : Kp K H H' := ⟨f.sqT, fun a xs h => by
  rcases h with ⟨o, h⟩ | h
  · exact .inl ⟨o, f.frz a o _ h⟩
  · exact .inr h⟩
theorem Fm.rel {K : PySem.W.Frag} {F : Fx} {e : En} {ρ ρ' : List Addr} {H H' : Hp} (f : Fm ρ ρ' H H') {w : W} {v : V} (h : RelW K F e H ρ w v) : RelW K F e H' ρ' w v := RelW.mono f.kp f.pre w v h
theorem Fm.rels {K : PySem.W.Frag} {F : Fx} {e : En} {ρ ρ' : List Addr} {H H' : Hp} (f : Fm ρ ρ' H H') {w : List W} {v : List V} (h : RelWs K F e H ρ w v) : RelWs K F e H' ρ' w v := RelWs.mono f.kp f.pre w v h

abbrev Sl := List (Option W)
structure RelSl (K : PySem.W.Frag) (F : Fx) (e : En) (H : Hp) (ρ : List Addr) (sl : Sl) (σ : St) : Prop where
  len : σ.length = sl.length
  at_ : ∀ (i : Nat) (w : W), sl[i]? = some (some w) → ∃ v, σ[i]? = some (some v) ∧ RelW K F e H ρ w v
theorem Fm.relSl {K : PySem.W.Frag} {F : Fx} {e : En} {ρ ρ' : List Addr} {H H' : Hp} (f : Fm ρ ρ' H H') {sl : Sl} {σ : St} (h : RelSl K F e H ρ sl σ) : RelSl K F e H' ρ' sl σ :=
  ⟨h.len, fun i w q => let ⟨v, q1, q2⟩ := h.at_ i w q; ⟨v, q1, f.rel q2⟩⟩
theorem RelSl.set {K : PySem.W.Frag} {F : Fx} {e : En} {ρ : List Addr} {H : Hp} {sl : Sl} {σ : St} (h : RelSl K F e H ρ sl σ) (i : Nat) {w : W} {v : V} (r : RelW K F e H ρ w v) : RelSl K F e H ρ (sl.set i (some w)) (σ.set i (some v)) := by
  refine ⟨by simpa using h.len, fun j u q => ?_⟩
  by_cases hj : j = i
  · subst hj
    have hl : j < sl.length := by
      have := (List.getElem?_eq_some_iff.mp q).1
      simpa using this
    rw [List.getElem?_set_self hl] at q
    cases q
    exact ⟨v, List.getElem?_set_self (by rw [h.len]; exact hl), r⟩
  · rw [List.getElem?_set_ne (Ne.symm hj)] at q
    obtain ⟨v', q1, q2⟩ := h.at_ j u q
    exact ⟨v', by rw [List.getElem?_set_ne (Ne.symm hj)]; exact q1, q2⟩
end Z

set_option Elab.async false
set_option linter.all false
set_option maxRecDepth 100000
namespace Z
open PySem PySem.Spec PyProof.Rows L2

/-! ### the source of draws: what the law's own take does to the three numbers of its box -/
def draw (x y z m : Int) : Int × Int × Int × Int :=
  if 0 < x then (x.fmod m, x.fdiv m, y, z) else
    let z' := z + 1
    let once := ((y + 48271 * z') * (39373 + z')).fmod 2147483647
    let far := once.fmod 40009 + 7
    let twice := ((once + z' + y.fdiv 1000003) * far).fmod 2147483629
    ((((twice * 48271 + once).fmod 2147483587).fdiv 64).fmod m, x, y, z')
/-- the draws to come: with these moduli these results -/
def Draws : Int → Int → Int → List (Nat × Nat) → Prop
  | _, _, _, [] => True
  | x, y, z, (m, r) :: ds => 1 ≤ m ∧ m ≤ 1000 ∧ (draw x y z m).1 = (r : Nat) ∧ Draws (draw x y z m).2.1 (draw x y z m).2.2.1 (draw x y z m).2.2.2 ds
structure BoxOk (x y z : Int) (n : Nat) : Prop where
  x0 : 0 ≤ x
  y0 : 0 ≤ y
  y1 : y < 2 ^ 62
  z0 : 0 ≤ z
  z1 : z + n ≤ 1000000
/-! ### objects -/
def RelFs (K : PySem.W.Frag) (F : Fx) (e : En) (H : Hp) (ρ : List Addr) (fs : List (Option W)) (vs : List (Option V)) : Prop :=
  ∀ (i : Nat) (w : W), fs[i]? = some (some w) → ∃ v, vs[i]? = some (some v) ∧ RelW K F e H ρ w v
def RelO (K : PySem.W.Frag) (F : Fx) (e : En) (H : Hp) (ρ : List Addr) : LO → Addr → Prop
  | .lst ws, a => ∃ xs, H a = some (.lst xs) ∧ RelWs K F e H ρ ws xs
  | .dct _, _ => False
  | .any, a => ∃ h, H a = some h ∧ Mut (some h)
  | .box ds, a => ∃ x y z, H a = some (.lst [.int x, .int y, .int z]) ∧ BoxOk x y z ds.length ∧ Draws x y z ds
  | .ins c fs, a => match F.fld c with
    | none => ∃ dx vs, SlAt H a (F.C c) dx vs ∧ RelFs K F e H ρ fs vs
    | some names => ∃ dx ps, H a = some (.ins (F.C c) dx ps) ∧ ps.length ≤ names.length ∧ names.length < 1000 ∧ (∀ f, f ∉ names → ps.lookup f = none) ∧
        ∀ (i : Nat) (w : W), fs[i]? = some (some w) → ∃ f v, names[i]? = some f ∧ ps.lookup f = some v ∧ RelW K F e H ρ w v
section
variable {K : PySem.W.Frag} {F : Fx} {e : En} {H H' : Hp} {ρ ρ' : List Addr}
theorem RelO.stay {a : Addr} (hT : Kp K H H') (hρ : ∀ (n : Nat) (a : Addr), ρ[n]? = some a → ρ'[n]? = some a) (ha : H' a = H a) (ho : ∀ d, H d = some (.own a) → H' d = some (.own a)) :
    ∀ o : LO, RelO K F e H ρ o a → RelO K F e H' ρ' o a
  | .lst ws, h => by
    obtain ⟨xs, e1, r⟩ := h
    exact ⟨xs, by rw [ha]; exact e1, RelWs.mono hT hρ _ _ r⟩
  | .dct kvs, h => h.elim
  | .any, h => by
    obtain ⟨x, e1, m⟩ := h
    exact ⟨x, by rw [ha]; exact e1, m⟩
  | .box ds, h => by
    obtain ⟨x, y, z, e1, b, d⟩ := h
    exact ⟨x, y, z, by rw [ha]; exact e1, b, d⟩
  | .ins c fs, h => by
    unfold RelO at h ⊢
    cases q : F.fld c with
    | none =>
      simp only [q] at h ⊢
      obtain ⟨dx, vs, ⟨s1, s2, s3⟩, r⟩ := h
      refine ⟨dx, vs, ⟨ho dx s1, s2, by rw [ha]; exact s3⟩, fun i w q => ?_⟩
      obtain ⟨v, e1, e2⟩ := r i w q
      exact ⟨v, e1, RelW.mono hT hρ _ _ e2⟩
    | some names =>
      simp only [q] at h ⊢
      obtain ⟨dx, ps, s1, s2, s3, s4, r⟩ := h
      refine ⟨dx, ps, by rw [ha]; exact s1, s2, s3, s4, fun i w q => ?_⟩
      obtain ⟨f, v, e1, e2, e3⟩ := r i w q
      exact ⟨f, v, e1, e2, RelW.mono hT hρ _ _ e3⟩
/-- a tracked object of ours is one that may be written -/
theorem RelO.mut {a : Addr} : ∀ {o : LO}, RelO K F e H ρ o a → ∃ h, H a = some h ∧ Mut (some h)
  | .lst ws, h => by obtain ⟨xs, e1, r⟩ := h; exact ⟨_, e1, trivial⟩
  | .dct kvs, h => h.elim
  | .any, h => h
  | .box ds, h => by obtain ⟨x, y, z, e1, _, _⟩ := h; exact ⟨_, e1, trivial⟩
  | .ins c fs, h => by
    unfold RelO at h
    cases q : F.fld c with
    | none =>
      simp only [q] at h
      obtain ⟨dx, vs, ⟨s1, s2, s3⟩, r⟩ := h
      rcases s3 with s3 | ⟨_, s3⟩
      · exact ⟨_, s3, trivial⟩
      · exact ⟨_, s3, trivial⟩
    | some names =>
      simp only [q] at h
      obtain ⟨dx, ps, s1, s2, s3, s4, r⟩ := h
      exact ⟨_, s1, trivial⟩
end
structure RH (K : PySem.W.Frag) (F : Fx) (e : En) (H : Hp) (ρ : List Addr) (L : LH) : Prop where
  len : ρ.length = L.n
  nd : ρ.Nodup
  ob : ∀ (n : Nat) (a : Addr), ρ[n]? = some a → ∃ o, L.get n = some o ∧ RelO K F e H ρ o a
  fit : ∀ (n : Nat) (o : LO), L.get n = some o → n < L.n
section
variable {K : PySem.W.Frag} {F : Fx} {e : En} {H H' : Hp} {ρ ρ' : List Addr} {L L' : LH}
theorem nd_ix {ρ : List Addr} (h : ρ.Nodup) {i j : Nat} {a : Addr} (h1 : ρ[i]? = some a) (h2 : ρ[j]? = some a) : i = j := by
  obtain ⟨q1, e1⟩ := List.getElem?_eq_some_iff.mp h1
  obtain ⟨q2, e2⟩ := List.getElem?_eq_some_iff.mp h2
  exact (List.getElem_inj h).mp (e1.trans e2.symm)
theorem RH.at_ (R : RH K F e H ρ L) {n : Nat} {o : LO} (h : L.get n = some o) : ∃ a, ρ[n]? = some a ∧ RelO K F e H ρ o a := by
  have hn := R.fit n o h
  rw [← R.len] at hn
  obtain ⟨o', h1, h2⟩ := R.ob n ρ[n] (by simp [hn])
  rw [h] at h1; cases h1
  exact ⟨ρ[n], by simp [hn], h2⟩
theorem RH.mut (R : RH K F e H ρ L) {a : Addr} (h : a ∈ ρ) : ∃ h, H a = some h ∧ Mut (some h) := by
  obtain ⟨n, hn⟩ := List.mem_iff_getElem?.mp h
  obtain ⟨o, _, r⟩ := R.ob n a hn
  exact r.mut
theorem RH.lst (R : RH K F e H ρ L) {n : Nat} {ws : List W} (h : L.get n = some (.lst ws)) : ∃ a xs, ρ[n]? = some a ∧ H a = some (.lst xs) ∧ RelWs K F e H ρ ws xs := by
  obtain ⟨a, h1, h2⟩ := R.at_ h
  obtain ⟨xs, h3, h4⟩ := h2
  exact ⟨a, xs, h1, h3, h4⟩
/-- what is not of ours changes (a new object, an object of another's) -/
theorem fm_new {p : Addr} {o : HO} (hp : H p = none) : Fm ρ ρ H (upd H p o) :=
  ⟨fun _ _ h => h, fun _ h => .inl h, fun a o' h _ => by rw [upd_ne (ne_of_none h hp)]; exact h, fun a o' h => ⟨o', by rw [upd_ne (ne_of_none h hp)]; exact h⟩, fun a xs h => by
    rcases h with h | ⟨ob, h⟩
    · exact .inl (by rw [upd_ne (ne_of_none h hp)]; exact h)
    · exact .inr ⟨ob, by rw [upd_ne (ne_of_none h hp)]; exact h⟩, fun a ob u h => by rw [upd_ne (ne_of_none h hp)]; exact h⟩
theorem RH.new (R : RH K F e H ρ L) {p : Addr} {o : HO} (hp : H p = none) : RH K F e (upd H p o) ρ L := by
  have f : Fm ρ ρ H (upd H p o) := fm_new hp
  refine ⟨R.len, R.nd, fun n a h => ?_, R.fit⟩
  obtain ⟨ob, h1, h2⟩ := R.ob n a h
  obtain ⟨ho, h3, _⟩ := h2.mut
  exact ⟨ob, h1, h2.stay f.kp f.pre (upd_ne (ne_of_none h3 hp)) fun d hd => by rw [upd_ne (ne_of_none hd hp)]; exact hd⟩
/-- a new object of ours -/
theorem fm_add (R : RH K F e H ρ L) {p : Addr} {h' : HO} (hp : H p = none) : Fm ρ (ρ ++ [p]) H (upd H p h') := by
  have f : Fm ρ ρ H (upd H p h') := fm_new hp
  refine ⟨fun n a h => ?_, fun a h => ?_, f.keep, f.there, f.tup, f.frz⟩
  · rw [List.getElem?_append_left (List.getElem?_eq_some_iff.mp h).1]; exact h
  · rcases List.mem_append.mp h with q | q
    · exact .inl q
    · have : a = p := by simpa using q
      subst this
      exact .inr hp
theorem RH.add (R : RH K F e H ρ L) {p : Addr} {h' : HO} {o : LO} (hp : H p = none) (hn : L.n < top) (ho : RelO K F e (upd H p h') (ρ ++ [p]) o p) : RH K F e (upd H p h') (ρ ++ [p]) (L.add o) := by
  have f := fm_add (h' := h') R hp
  have hpρ : p ∉ ρ := fun z => by obtain ⟨_, q, _⟩ := R.mut z; rw [hp] at q; cases q
  refine ⟨by simp [R.len, LH.add], ?_, fun n a h => ?_, fun n ob h => ?_⟩
  · exact List.nodup_append.mpr ⟨R.nd, by simp, fun a ha b hb z => by
      rw [List.mem_singleton] at hb
      rw [z, hb] at ha
      exact hpρ ha⟩
  · rw [LH.get_add hn]
    by_cases hl : n < ρ.length
    · rw [List.getElem?_append_left hl] at h
      rw [if_neg (by rw [← R.len]; omega)]
      obtain ⟨ob, h1, h2⟩ := R.ob n a h
      obtain ⟨ho, h3, _⟩ := h2.mut
      exact ⟨ob, h1, h2.stay f.kp f.pre (upd_ne (ne_of_none h3 hp)) fun d hd => by rw [upd_ne (ne_of_none hd hp)]; exact hd⟩
    · have hl2 : n = ρ.length := by
        have := (List.getElem?_eq_some_iff.mp h).1
        simp at this
        omega
      subst hl2
      have : p = a := by simpa using h
      subst this
      rw [if_pos R.len]
      exact ⟨o, rfl, ho⟩
  · rw [LH.get_add hn] at h
    show n < L.n + 1
    split at h
    · omega
    · have := R.fit n ob h; omega
/-- an object of ours is written -/
theorem fm_put (R : RH K F e H ρ L) {n : Nat} {a : Addr} {h' : HO} (ha : ρ[n]? = some a) : Fm ρ ρ H (upd H a h') := by
  have ma : a ∈ ρ := List.mem_iff_getElem?.mpr ⟨n, ha⟩
  obtain ⟨q, hq, mu⟩ := R.mut ma
  refine ⟨fun _ _ h => h, fun _ h => .inl h, fun b o h hb => ?_, fun b o h => ?_, fun b xs h => ?_, fun b ob u h => ?_⟩
  · have hba : b ≠ a := fun z => hb (by rw [z]; exact ma)
    rw [upd_ne hba]; exact h
  · by_cases z : b = a
    · exact ⟨h', by rw [z, upd_same]⟩
    · exact ⟨o, by rw [upd_ne z]; exact h⟩
  · rcases h with h | ⟨ob, h⟩
    · refine .inl ?_
      rw [upd_ne (fun z => by subst z; rw [h] at hq; cases hq; exact mu)]; exact h
    · refine .inr ⟨ob, ?_⟩
      rw [upd_ne (fun z => by subst z; rw [h] at hq; cases hq; exact mu)]; exact h
  · rw [upd_ne (fun z => by subst z; rw [h] at hq; cases hq; exact mu)]; exact h
theorem RH.put (R : RH K F e H ρ L) {n : Nat} {a : Addr} {h' : HO} {o : LO} (ha : ρ[n]? = some a) (hn : L.n < top) (ho : RelO K F e (upd H a h') ρ o a) : RH K F e (upd H a h') ρ (L.set n o) := by
  have f := fm_put (h' := h') R ha
  have ma : a ∈ ρ := List.mem_iff_getElem?.mpr ⟨n, ha⟩
  obtain ⟨q, hq, mu⟩ := R.mut ma
  have hnl : n < L.n := by rw [← R.len]; exact (List.getElem?_eq_some_iff.mp ha).1
  refine ⟨R.len, R.nd, fun m b h => ?_, fun m ob h => ?_⟩
  · rw [LH.get_set (by omega)]
    by_cases hm : m = n
    · subst hm
      rw [ha] at h; cases h
      exact ⟨o, by rw [if_pos rfl], ho⟩
    · rw [if_neg hm]
      obtain ⟨ob, h1, h2⟩ := R.ob m b h
      have hb : b ≠ a := fun z => hm (nd_ix R.nd h (by rw [z]; exact ha))
      exact ⟨ob, h1, h2.stay f.kp f.pre (upd_ne hb) fun d hd => by rw [upd_ne (fun z => by subst z; rw [hd] at hq; cases hq; exact mu)]; exact hd⟩
  · rw [LH.get_set (by omega)] at h
    show m < L.n
    split at h
    · omega
    · exact R.fit m ob h
end

/-! ### expressions -/
abbrev Ex := Sl → LH → Option (W × LH)
abbrev Et := Sl → LH → Option (Bool × LH)
abbrev Ea := Sl → LH → Option (List W × LH)
def TZ (K : PySem.W.Frag) (F : Fx) (m : Ex) : TE := fun σ H Q => ∃ e ρ sl L w L', En.Ok F e ∧ RelSl K F e H ρ sl σ ∧ RH K F e H ρ L ∧ m sl L = some (w, L') ∧
  ∀ ρ' H' v, Fm ρ ρ' H H' → RH K F e H' ρ' L' → RelW K F e H' ρ' w v → Q v H'
def TTZ (K : PySem.W.Frag) (F : Fx) (m : Et) : TT := fun σ H Q => ∃ e ρ sl L b L', En.Ok F e ∧ RelSl K F e H ρ sl σ ∧ RH K F e H ρ L ∧ m sl L = some (b, L') ∧
  ∀ ρ' H', Fm ρ ρ' H H' → RH K F e H' ρ' L' → Q b H'
def TAZ (K : PySem.W.Frag) (F : Fx) (m : Ea) : TA := fun σ H Q => ∃ e ρ sl L ws L', En.Ok F e ∧ RelSl K F e H ρ sl σ ∧ RH K F e H ρ L ∧ m sl L = some (ws, L') ∧
  ∀ ρ' H' vs, Fm ρ ρ' H H' → RH K F e H' ρ' L' → RelWs K F e H' ρ' ws vs → Q vs H'

theorem PE.imp {X : Cx} {x : Expr} {t t' : TE} (h : PE X x t) (q : ∀ σ H Q, t' σ H Q → t σ H Q) : PE X x t' := ⟨fun pins s σ H Q I k => h.run pins s σ H Q I (q σ H Q k)⟩
theorem PT.imp {X : Cx} {x : Expr} {t t' : TT} (h : PT X x t) (q : ∀ σ H Q, t' σ H Q → t σ H Q) : PT X x t' := ⟨fun pins s σ H Q I k => h.run pins s σ H Q I (q σ H Q k)⟩
theorem PW.imp {X : Cx} {x : Expr} {t t' : TT} (h : PW X x t) (q : ∀ σ H Q, t' σ H Q → t σ H Q) : PW X x t' := ⟨fun wh pins s σ H Q I k => h.run wh pins s σ H Q I (q σ H Q k)⟩
theorem PA.imp {X : Cx} {x : List Expr} {t t' : TA} (h : PA X x t) (q : ∀ σ H Q, t' σ H Q → t σ H Q) : PA X x t' := ⟨fun pos pins s σ H Q I k => h.run pos pins s σ H Q I (q σ H Q k)⟩
theorem PS.imp {X : Cx} {x : Stmt} {t t' : TS} (h : PS X x t) (q : ∀ D σ H, t' D σ H → t D σ H) : PS X x t' := ⟨fun pins s σ H D I k => h.run pins s σ H D I (q D σ H k)⟩
theorem PSs.imp {X : Cx} {x : List Stmt} {t t' : TS} (h : PSs X x t) (q : ∀ D σ H, t' D σ H → t D σ H) : PSs X x t' := ⟨fun pins s σ H D I k => h.run pins s σ H D I (q D σ H k)⟩

/-! values -/
def vC (w : W) : Ex := fun _ L => some (w, L)
def vVar (i : Nat) : Ex := fun sl L => match sl[i]? with
  | some (some w) => some (w, L)
  | _ => none
def mBin (f : W → W → LH → Option (W × LH)) (a b : Ex) : Ex := fun sl L => match a sl L with
  | none => none
  | some (x, L1) => match b sl L1 with
    | none => none
    | some (y, L2) => f x y L2
def mUn (f : W → LH → Option (W × LH)) (a : Ex) : Ex := fun sl L => match a sl L with
  | none => none
  | some (x, L1) => f x L1
def mTest (a : Ex) : Et := fun sl L => match a sl L with
  | some (.bl b, L1) => some (b, L1)
  | _ => none
def mNil : Ea := fun _ L => some ([], L)
def mCons (a : Ex) (r : Ea) : Ea := fun sl L => match a sl L with
  | none => none
  | some (x, L1) => match r sl L1 with
    | none => none
    | some (xs, L2) => some (x :: xs, L2)
def mApp (f : List W → LH → Option (W × LH)) (r : Ea) : Ex := fun sl L => match r sl L with
  | none => none
  | some (xs, L1) => f xs L1

section
variable {X : Cx} {F : Fx} {ma mb : Ex} {a b : Expr} {pos : Pos}
theorem ze_var {i : Nat} {x : Str} (hN : X.N[i]? = some x) (hv : Vis X.env.scope x) (hd : (x == ("__debug__" : Str)) = false := by decide) (hcd : (x == ("__classdict__" : Str)) = false := by decide) : PE X (.Name x pos) (TZ X.K F (vVar i)) := by
  refine PE.imp (pe_var hN hv hd hcd) ?_
  rintro σ H Q ⟨e, ρ, sl, L, w, L', he, hs, hh, hm, k⟩
  unfold vVar at hm
  split at hm
  · rename_i w' hw
    cases hm
    obtain ⟨v, h1, h2⟩ := hs.at_ i _ hw
    exact ⟨v, h1, k ρ H v .refl hh h2⟩
  · cases hm
theorem ze_int {i : Int} {j : Nat} : PE X (.Constant (.int i) j pos) (TZ X.K F (vC (.int i))) := by
  refine PE.imp pe_int ?_
  rintro σ H Q ⟨e, ρ, sl, L, w, L', he, hs, hh, hm, k⟩
  cases hm
  exact k ρ H _ .refl hh rfl
theorem ze_bl {i : Bool} {j : Nat} : PE X (.Constant (.bool i) j pos) (TZ X.K F (vC (.bl i))) := by
  refine PE.imp pe_bl ?_
  rintro σ H Q ⟨e, ρ, sl, L, w, L', he, hs, hh, hm, k⟩
  cases hm
  exact k ρ H _ .refl hh rfl
theorem ze_non {j : Nat} : PE X (.Constant .none j pos) (TZ X.K F (vC .non)) := by
  refine PE.imp pe_non ?_
  rintro σ H Q ⟨e, ρ, sl, L, w, L', he, hs, hh, hm, k⟩
  cases hm
  exact k ρ H _ .refl hh rfl
theorem sOf_lit {F : Fx} {e : En} {n : Nat} {x : Str} (h : F.lits[n]? = some x) (hn : n < 1000) : sOf F e n = some x := by unfold sOf; rw [if_pos hn]; exact h
theorem ze_str {x : Str} {j : Nat} (n : Nat) (h : F.lits[n]? = some x) (hn : n < 1000 := by decide) : PE X (.Constant (.str x) j pos) (TZ X.K F (vC (.str n))) := by
  refine PE.imp pe_str ?_
  rintro σ H Q ⟨e, ρ, sl, L, w, L', he, hs, hh, hm, k⟩
  cases hm
  exact k ρ H _ .refl hh ⟨x, sOf_lit h hn, rfl⟩

/-- an operator by values -/
def OpZ (K : PySem.W.Frag) (F : Fx) (r : R2) (f : W → W → LH → Option (W × LH)) : Prop := ∀ (e : En) (ρ : List Addr) (H : Hp) (L : LH) (x y : W) (vx vy : V) (w : W) (L' : LH) (Q : VK), En.Ok F e → RH K F e H ρ L →
  RelW K F e H ρ x vx → RelW K F e H ρ y vy → f x y L = some (w, L') → (∀ ρ' H' v, Fm ρ ρ' H H' → RH K F e H' ρ' L' → RelW K F e H' ρ' w v → Q v H') → r vx vy H Q
theorem tz_bin {K : PySem.W.Frag} {r : R2} {f : W → W → LH → Option (W × LH)} (hz : OpZ K F r f) {σ : St} {H : Hp} {Q : VK} (h : TZ K F (mBin f ma mb) σ H Q) : tOp r (TZ K F ma) (TZ K F mb) σ H Q := by
  obtain ⟨e, ρ, sl, L, w, L', he, hs, hh, hm, k⟩ := h
  unfold mBin at hm
  split at hm
  · cases hm
  rename_i x L1 h1
  split at hm
  · cases hm
  rename_i y L2 h2
  refine ⟨e, ρ, sl, L, x, L1, he, hs, hh, h1, fun ρ1 H1 vx f1 r1 w1 => ?_⟩
  refine ⟨e, ρ1, sl, L1, y, L2, he, f1.relSl hs, r1, h2, fun ρ2 H2 vy f2 r2 w2 => ?_⟩
  exact hz e ρ2 H2 L2 x y vx vy w L' Q he r2 (f2.rel w1) w2 hm fun ρ' H' v f3 r3 w3 => k ρ' H' v ((f1.trans f2).trans f3) r3 w3
theorem ze_op {op : Operator} {r : R2} {f : W → W → LH → Option (W × LH)} (ho : OpR X (binaryOp op) r) (hz : OpZ X.K F r f) (ha : PE X a (TZ X.K F ma)) (hb : PE X b (TZ X.K F mb)) : PE X (.BinOp a op b pos) (TZ X.K F (mBin f ma mb)) :=
  PE.imp (pe_op ho ha hb) fun _ _ _ h => tz_bin hz h
theorem ze_cmp {op : CmpOp} {r : R2} {f : W → W → LH → Option (W × LH)} (ho : OpR X (compareOp op) r) (hz : OpZ X.K F r f) (ha : PE X a (TZ X.K F ma)) (hb : PE X b (TZ X.K F mb)) (hm : behindInMarks op b = false) : PE X (.Compare a [op] [b] pos) (TZ X.K F (mBin f ma mb)) :=
  PE.imp (pe_cmpR ho ha hb hm) fun _ _ _ h => tz_bin hz h
/-- a comparison as a test -/
theorem zt_cmp {op : CmpOp} {r : R2} {f : W → W → LH → Option (W × LH)} (ho : OpR X (compareOp op) r) (hz : OpZ X.K F r f) (ha : PE X a (TZ X.K F ma)) (hb : PE X b (TZ X.K F mb)) (hm : behindInMarks op b = false) : PT X (.Compare a [op] [b] pos) (TTZ X.K F (mTest (mBin f ma mb))) := by
  refine PT.imp (pt_cmpR ho ha hb hm) ?_
  rintro σ H Q ⟨e, ρ, sl, L, w, L', he, hs, hh, hm, k⟩
  unfold mTest at hm
  split at hm
  · rename_i b' L1 h1
    cases hm
    refine tz_bin hz ⟨e, ρ, sl, L, _, _, he, hs, hh, h1, fun ρ' H' v f1 r1 w1 => ?_⟩
    exact ⟨_, w1, k ρ' H' f1 r1⟩
  · cases hm

theorem za_nil : PA X [] (TAZ X.K F mNil) := by
  refine PA.imp pa_nil ?_
  rintro σ H Q ⟨e, ρ, sl, L, w, L', he, hs, hh, hm, k⟩
  cases hm
  exact k ρ H [] .refl hh .nil
theorem za_cons {es : List Expr} {mr : Ea} (ha : PE X a (TZ X.K F ma)) (hr : PA X es (TAZ X.K F mr)) (hs : starEach (a :: es) X.env = (false, eval a X.env) :: starEach es X.env := by rfl) : PA X (a :: es) (TAZ X.K F (mCons ma mr)) := by
  refine PA.imp (pa_cons ha hr hs) ?_
  rintro σ H Q ⟨e, ρ, sl, L, w, L', he, hs, hh, hm, k⟩
  unfold mCons at hm
  split at hm
  · cases hm
  rename_i x L1 h1
  split at hm
  · cases hm
  rename_i y L2 h2
  cases hm
  refine ⟨e, ρ, sl, L, x, L1, he, hs, hh, h1, fun ρ1 H1 vx f1 r1 w1 => ?_⟩
  refine ⟨e, ρ1, sl, L1, y, _, he, f1.relSl hs, r1, h2, fun ρ2 H2 vy f2 r2 w2 => ?_⟩
  exact k ρ2 H2 _ (f1.trans f2) r2 (.cons (f2.rel w1) w2)
end

/-! displays -/
def fTup : List W → LH → Option (W × LH) := fun xs L => cond (Nat.ble xs.length 1000000) (some (.tup xs, L)) none
def fLst : List W → LH → Option (W × LH) := fun xs L => cond (Nat.ble xs.length 1000000 && Nat.blt L.n top) (some (.ref L.n, L.add (.lst xs))) none
theorem line_ok {n : Nat} (h : n ≤ 1000000) : n ≤ sizeLine := by rw [sizeLine_eq]; omega
theorem fLst_spec {xs : List W} {L L' : LH} {w : W} (h : fLst xs L = some (w, L')) : xs.length ≤ sizeLine ∧ L.n < top ∧ w = .ref L.n ∧ L' = L.add (.lst xs) := by
  unfold fLst at h
  cases q : (Nat.ble xs.length 1000000 && Nat.blt L.n top) with
  | false => rw [q] at h; cases h
  | true =>
    rw [q] at h
    cases h
    rw [Bool.and_eq_true] at q
    exact ⟨line_ok (Nat.le_of_ble_eq_true q.1), Nat.le_of_ble_eq_true q.2, rfl, rfl⟩
section
variable {K : PySem.W.Frag} {F : Fx} {e : En} {H H' : Hp} {ρ ρ' : List Addr} {L L' : LH}
/-- a new list -/
theorem new_lst (R : RH K F e H ρ L) {p : Addr} {ws : List W} {xs : List V} (hp : H p = none) (hn : L.n < top) (r : RelWs K F e H ρ ws xs) :
    Fm ρ (ρ ++ [p]) H (upd H p (.lst xs)) ∧ RH K F e (upd H p (.lst xs)) (ρ ++ [p]) (L.add (.lst ws)) ∧ RelW K F e (upd H p (.lst xs)) (ρ ++ [p]) (.ref L.n) (.ref p) := by
  have f := fm_add (h' := .lst xs) R hp
  refine ⟨f, R.add hp hn ⟨xs, upd_same, f.rels r⟩, ?_⟩
  unfold RelW
  exact ⟨p, rfl, by rw [← R.len]; simp⟩
/-- a new tuple -/
theorem new_tup (R : RH K F e H ρ L) {p : Addr} {ws : List W} {xs : List V} (hp : H p = none) (r : RelWs K F e H ρ ws xs) :
    Fm ρ ρ H (upd H p (.tup xs)) ∧ RH K F e (upd H p (.tup xs)) ρ L ∧ RelW K F e (upd H p (.tup xs)) ρ (.tup ws) (.ref p) := by
  have f : Fm ρ ρ H (upd H p (.tup xs)) := fm_new hp
  refine ⟨f, R.new hp, ?_⟩
  unfold RelW
  exact ⟨p, xs, rfl, SqT.of upd_same, f.rels r⟩
end
section
variable {X : Cx} {F : Fx} {ma mb : Ex} {a b : Expr} {pos : Pos} {es : List Expr} {mr : Ea}
theorem ze_tup {k : Nat} (h : PA X es (TAZ X.K F mr)) : PE X (.Tuple es k pos) (TZ X.K F (mApp fTup mr)) := by
  refine PE.imp (pe_tup h) ?_
  rintro σ H Q ⟨e, ρ, sl, L, w, L', he, hs, hh, hm, k⟩
  unfold mApp at hm
  split at hm
  · cases hm
  rename_i xs L1 h1
  unfold fTup at hm
  cases q : Nat.ble xs.length 1000000 with
  | false => rw [q] at hm; cases hm
  | true =>
    rw [q] at hm
    cases hm
    refine ⟨e, ρ, sl, L, _, _, he, hs, hh, h1, fun ρ1 H1 vs f1 r1 w1 => ⟨?_, fun p hp => ?_⟩⟩
    · rw [w1.length]; exact line_ok (Nat.le_of_ble_eq_true q)
    · obtain ⟨f2, r2, w2⟩ := new_tup r1 hp w1
      exact k _ _ _ (f1.trans f2) r2 w2
theorem ze_lst (h : PA X es (TAZ X.K F mr)) : PE X (.List es pos) (TZ X.K F (mApp fLst mr)) := by
  refine PE.imp (pe_lst h) ?_
  rintro σ H Q ⟨e, ρ, sl, L, w, L', he, hs, hh, hm, k⟩
  unfold mApp at hm
  split at hm
  · cases hm
  rename_i xs L1 h1
  obtain ⟨h2, h3, rfl, rfl⟩ := fLst_spec hm
  refine ⟨e, ρ, sl, L, _, _, he, hs, hh, h1, fun ρ1 H1 vs f1 r1 w1 => ⟨by rw [w1.length]; exact h2, fun p hp => ?_⟩⟩
  obtain ⟨f2, r2, w2⟩ := new_lst r1 hp h3 w1
  exact k _ _ _ (f1.trans f2) r2 w2
end
end Z

set_option Elab.async false
set_option linter.all false
set_option maxRecDepth 100000
namespace Z
open PySem PySem.Spec PyProof.Rows L2

/-! ### truth -/
def truth (L : LH) : W → Option Bool
  | .non => some false
  | .bl b => some b
  | .int i => some (i != 0)
  | .ia _ => some true
  | .str _ => some true
  | .tup xs => some (!xs.isEmpty)
  | .fz xs => some (!xs.isEmpty)
  | .ref n => match L.get n with
    | some (.lst xs) => some (!xs.isEmpty)
    | _ => none
theorem sOf_ok {F : Fx} {e : En} (he : En.Ok F e) {k : Nat} {x : Str} (h : sOf F e k = some x) : x.length ≤ 1000 ∧ x.length ≠ 0 := by
  unfold sOf at h
  split at h
  · exact he.len x (List.mem_of_getElem? h)
  · exact he.nlen x (List.mem_of_getElem? h)
theorem isEmpty_len {α β : Type} {xs : List α} {ys : List β} (h : xs.length = ys.length) : (!xs.isEmpty) = !ys.isEmpty := by
  cases xs with
  | nil => cases ys with
    | nil => rfl
    | cons _ _ => simp at h
  | cons _ _ => cases ys with
    | nil => simp at h
    | cons _ _ => rfl
theorem truth_ok {K : PySem.W.Frag} {F : Fx} {e : En} {H : Hp} {ρ : List Addr} {L : LH} (he : En.Ok F e) (R : RH K F e H ρ L) {v : V} {k : Bool} : ∀ {w : W}, RelW K F e H ρ w v → truth L w = some k → TruV K v H k
  | .non, r, h => by cases r; cases h; rfl
  | .bl b, r, h => by cases r; cases h; rfl
  | .int i, r, h => by cases r; cases h; rfl
  | .ia j, r, h => by
    obtain ⟨i, q, rfl⟩ := r
    cases h
    have := he.nums i (List.mem_of_getElem? q)
    show true = (i != 0)
    rw [eq_comm, bne_iff_ne]
    omega
  | .str j, r, h => by
    obtain ⟨x, q, rfl⟩ := r
    cases h
    have := sOf_ok he q
    refine ⟨line_ok (by omega), ?_⟩
    rw [eq_comm, bne_iff_ne]
    omega
  | .tup xs, r, h => by
    unfold RelW at r
    obtain ⟨a, vs, rfl, s, r⟩ := r
    cases h
    exact .inr (.inl ⟨vs, s, isEmpty_len r.length.symm⟩)
  | .fz xs, r, h => by
    unfold RelW at r
    obtain ⟨a, vs, rfl, s, r⟩ := r
    cases h
    exact .inl ⟨vs, s.sq, isEmpty_len r.length.symm⟩
  | .ref n, r, h => by
    unfold RelW at r
    obtain ⟨a, rfl, ha⟩ := r
    simp only [truth] at h
    split at h
    · rename_i xs hl
      cases h
      obtain ⟨a', vs, h1, h2, h3⟩ := R.lst hl
      rw [ha] at h1; cases h1
      exact .inl ⟨vs, SqL.of h2, isEmpty_len h3.length.symm⟩
    · cases h

def mTruth (a : Ex) : Et := fun sl L => match a sl L with
  | none => none
  | some (x, L1) => match truth L1 x with
    | some b => some (b, L1)
    | none => none
def tAndM (a b : Et) : Et := fun sl L => match a sl L with
  | some (true, L1) => b sl L1
  | some (false, L1) => some (false, L1)
  | none => none
def tOrM (a b : Et) : Et := fun sl L => match a sl L with
  | some (true, L1) => some (true, L1)
  | some (false, L1) => b sl L1
  | none => none
def tNotM (a : Et) : Et := fun sl L => match a sl L with
  | some (b, L1) => some (!b, L1)
  | none => none
def vAndM (a b : Ex) : Ex := fun sl L => match a sl L with
  | none => none
  | some (x, L1) => match truth L1 x with
    | some true => b sl L1
    | some false => some (x, L1)
    | none => none
def vOrM (a b : Ex) : Ex := fun sl L => match a sl L with
  | none => none
  | some (x, L1) => match truth L1 x with
    | some true => some (x, L1)
    | some false => b sl L1
    | none => none
def vNotM (a : Ex) : Ex := fun sl L => match a sl L with
  | none => none
  | some (x, L1) => match truth L1 x with
    | some b => some (.bl (!b), L1)
    | none => none
def vIfM (t : Et) (a b : Ex) : Ex := fun sl L => match t sl L with
  | some (true, L1) => a sl L1
  | some (false, L1) => b sl L1
  | none => none
section
variable {X : Cx} {F : Fx} {ma mb : Ex} {ta tb : Et} {a b c : Expr} {pos : Pos} {es : List Expr} {rest : List Expr}
theorem zt_truth (ha : PE X a (TZ X.K F ma)) (he : ∀ whole, isTrue a X.env whole = (do let v ← whole; standAt a.pos; holding [v] (truthy v)) := by intro _; rfl) : PT X a (TTZ X.K F (mTruth ma)) := by
  refine PT.imp (pt_truth ha he) ?_
  rintro σ H Q ⟨e, ρ, sl, L, w, L', he, hs, hh, hm, k⟩
  unfold mTruth at hm
  split at hm
  · cases hm
  rename_i x L1 h1
  split at hm
  · rename_i b' h2
    cases hm
    exact ⟨e, ρ, sl, L, _, _, he, hs, hh, h1, fun ρ1 H1 v f1 r1 w1 => ⟨_, truth_ok he r1 w1 h2, k ρ1 H1 f1 r1⟩⟩
  · cases hm
theorem zt_not (ha : PT X a (TTZ X.K F ta)) : PT X (.UnaryOp .Not a pos) (TTZ X.K F (tNotM ta)) := by
  refine PT.imp (pt_not ha) ?_
  rintro σ H Q ⟨e, ρ, sl, L, w, L', he, hs, hh, hm, k⟩
  unfold tNotM at hm
  split at hm
  · rename_i b' L1 h1
    cases hm
    exact ⟨e, ρ, sl, L, _, _, he, hs, hh, h1, k⟩
  · cases hm
theorem zw_and1 (ha : PT X a (TTZ X.K F ta)) : PW X (.BoolOp .And [a] pos) (TTZ X.K F ta) := pw_and1 ha
theorem zw_or1 (ha : PT X a (TTZ X.K F ta)) : PW X (.BoolOp .Or [a] pos) (TTZ X.K F ta) := pw_or1 ha
theorem zw_and (ha : PT X a (TTZ X.K F ta)) (hb : PW X (.BoolOp .And (b :: rest) pos) (TTZ X.K F tb)) : PW X (.BoolOp .And (a :: b :: rest) pos) (TTZ X.K F (tAndM ta tb)) := by
  refine PW.imp (pw_and ha hb) ?_
  rintro σ H Q ⟨e, ρ, sl, L, w, L', he, hs, hh, hm, k⟩
  unfold tAndM at hm
  split at hm
  · rename_i L1 h1
    refine ⟨e, ρ, sl, L, _, _, he, hs, hh, h1, fun ρ1 H1 f1 r1 => ?_⟩
    refine iteT ?_
    exact ⟨e, ρ1, sl, L1, _, _, he, f1.relSl hs, r1, hm, fun ρ2 H2 f2 r2 => k ρ2 H2 (f1.trans f2) r2⟩
  · rename_i L1 h1
    cases hm
    refine ⟨e, ρ, sl, L, _, _, he, hs, hh, h1, fun ρ1 H1 f1 r1 => ?_⟩
    refine iteF ?_
    exact k ρ1 H1 f1 r1
  · cases hm
theorem zw_or (ha : PT X a (TTZ X.K F ta)) (hb : PW X (.BoolOp .Or (b :: rest) pos) (TTZ X.K F tb)) : PW X (.BoolOp .Or (a :: b :: rest) pos) (TTZ X.K F (tOrM ta tb)) := by
  refine PW.imp (pw_or ha hb) ?_
  rintro σ H Q ⟨e, ρ, sl, L, w, L', he, hs, hh, hm, k⟩
  unfold tOrM at hm
  split at hm
  · rename_i L1 h1
    cases hm
    refine ⟨e, ρ, sl, L, _, _, he, hs, hh, h1, fun ρ1 H1 f1 r1 => ?_⟩
    refine iteT ?_
    exact k ρ1 H1 f1 r1
  · rename_i L1 h1
    refine ⟨e, ρ, sl, L, _, _, he, hs, hh, h1, fun ρ1 H1 f1 r1 => ?_⟩
    refine iteF ?_
    exact ⟨e, ρ1, sl, L1, _, _, he, f1.relSl hs, r1, hm, fun ρ2 H2 f2 r2 => k ρ2 H2 (f1.trans f2) r2⟩
  · cases hm
theorem ze_and (ha : PE X a (TZ X.K F ma)) (hb : PE X (.BoolOp .And (b :: rest) pos) (TZ X.K F mb)) : PE X (.BoolOp .And (a :: b :: rest) pos) (TZ X.K F (vAndM ma mb)) := by
  refine PE.imp (pe_andT ha hb) ?_
  rintro σ H Q ⟨e, ρ, sl, L, w, L', he, hs, hh, hm, k⟩
  unfold vAndM at hm
  split at hm
  · cases hm
  rename_i x L1 h1
  refine ⟨e, ρ, sl, L, _, _, he, hs, hh, h1, fun ρ1 H1 v f1 r1 w1 => ?_⟩
  split at hm
  · rename_i h2
    refine ⟨true, truth_ok he r1 w1 h2, ?_⟩
    refine iteT ?_
    exact ⟨e, ρ1, sl, L1, _, _, he, f1.relSl hs, r1, hm, fun ρ2 H2 v2 f2 r2 w2 => k ρ2 H2 v2 (f1.trans f2) r2 w2⟩
  · rename_i h2
    cases hm
    refine ⟨false, truth_ok he r1 w1 h2, ?_⟩
    refine iteF ?_
    exact k ρ1 H1 v f1 r1 w1
  · cases hm
theorem ze_or (ha : PE X a (TZ X.K F ma)) (hb : PE X (.BoolOp .Or (b :: rest) pos) (TZ X.K F mb)) : PE X (.BoolOp .Or (a :: b :: rest) pos) (TZ X.K F (vOrM ma mb)) := by
  refine PE.imp (pe_orT ha hb) ?_
  rintro σ H Q ⟨e, ρ, sl, L, w, L', he, hs, hh, hm, k⟩
  unfold vOrM at hm
  split at hm
  · cases hm
  rename_i x L1 h1
  refine ⟨e, ρ, sl, L, _, _, he, hs, hh, h1, fun ρ1 H1 v f1 r1 w1 => ?_⟩
  split at hm
  · rename_i h2
    cases hm
    refine ⟨true, truth_ok he r1 w1 h2, ?_⟩
    refine iteT ?_
    exact k ρ1 H1 v f1 r1 w1
  · rename_i h2
    refine ⟨false, truth_ok he r1 w1 h2, ?_⟩
    refine iteF ?_
    exact ⟨e, ρ1, sl, L1, _, _, he, f1.relSl hs, r1, hm, fun ρ2 H2 v2 f2 r2 w2 => k ρ2 H2 v2 (f1.trans f2) r2 w2⟩
  · cases hm
theorem ze_one {op : BoolOp} (h : PE X a (TZ X.K F ma)) : PE X (.BoolOp op [a] pos) (TZ X.K F ma) := pe_one h
theorem ze_not (ha : PE X a (TZ X.K F ma)) : PE X (.UnaryOp .Not a pos) (TZ X.K F (vNotM ma)) := by
  refine PE.imp (pe_notT ha) ?_
  rintro σ H Q ⟨e, ρ, sl, L, w, L', he, hs, hh, hm, k⟩
  unfold vNotM at hm
  split at hm
  · cases hm
  rename_i x L1 h1
  refine ⟨e, ρ, sl, L, _, _, he, hs, hh, h1, fun ρ1 H1 v f1 r1 w1 => ?_⟩
  split at hm
  · rename_i b' h2
    cases hm
    exact ⟨b', truth_ok he r1 w1 h2, k ρ1 H1 _ f1 r1 rfl⟩
  · cases hm
theorem ze_if (hc : PT X c (TTZ X.K F ta)) (ha : PE X a (TZ X.K F ma)) (hb : PE X b (TZ X.K F mb)) : PE X (.IfExp c a b pos) (TZ X.K F (vIfM ta ma mb)) := by
  refine PE.imp (pe_ifExp hc ha hb) ?_
  rintro σ H Q ⟨e, ρ, sl, L, w, L', he, hs, hh, hm, k⟩
  unfold vIfM at hm
  split at hm
  · rename_i L1 h1
    refine ⟨e, ρ, sl, L, _, _, he, hs, hh, h1, fun ρ1 H1 f1 r1 => ?_⟩
    refine iteT ?_
    exact ⟨e, ρ1, sl, L1, _, _, he, f1.relSl hs, r1, hm, fun ρ2 H2 v f2 r2 w2 => k ρ2 H2 v (f1.trans f2) r2 w2⟩
  · rename_i L1 h1
    refine ⟨e, ρ, sl, L, _, _, he, hs, hh, h1, fun ρ1 H1 f1 r1 => ?_⟩
    refine iteF ?_
    exact ⟨e, ρ1, sl, L1, _, _, he, f1.relSl hs, r1, hm, fun ρ2 H2 v f2 r2 w2 => k ρ2 H2 v (f1.trans f2) r2 w2⟩
  · cases hm
end

/-! ### statements -/
inductive Out where
  | nx | rt (w : W) | bk | ct
abbrev Sm := Sl → LH → Option (Out × Sl × LH)
def EndZ (K : PySem.W.Frag) (F : Fx) (e : En) (D : Ends) (o : Out) (σ : St) (H : Hp) (ρ : List Addr) : Prop := match o with
  | .nx => D.nx σ H
  | .bk => D.bk σ H
  | .ct => D.ct σ H
  | .rt w => ∀ v, RelW K F e H ρ w v → D.rt v H
def SZ (K : PySem.W.Frag) (F : Fx) (m : Sm) : TS := fun D σ H => ∃ e ρ sl L o sl' L', En.Ok F e ∧ RelSl K F e H ρ sl σ ∧ RH K F e H ρ L ∧ m sl L = some (o, sl', L') ∧
  ∀ ρ' H' σ', Fm ρ ρ' H H' → RH K F e H' ρ' L' → RelSl K F e H' ρ' sl' σ' → EndZ K F e D o σ' H' ρ'
def sNil : Sm := fun sl L => some (.nx, sl, L)
def sSeq (a b : Sm) : Sm := fun sl L => match a sl L with
  | some (.nx, sl1, L1) => b sl1 L1
  | r => r
def sRet (a : Ex) : Sm := fun sl L => match a sl L with
  | some (w, L1) => some (.rt w, sl, L1)
  | none => none
def sRetN : Sm := fun sl L => some (.rt .non, sl, L)
def sExpr (a : Ex) : Sm := fun sl L => match a sl L with
  | some (_, L1) => some (.nx, sl, L1)
  | none => none
def sIf (t : Et) (a b : Sm) : Sm := fun sl L => match t sl L with
  | some (true, L1) => a sl L1
  | some (false, L1) => b sl L1
  | none => none
def sBrk : Sm := fun sl L => some (.bk, sl, L)
def sCnt : Sm := fun sl L => some (.ct, sl, L)
def sSet (i : Nat) (a : Ex) : Sm := fun sl L => match a sl L with
  | some (w, L1) => some (.nx, sl.set i (some w), L1)
  | none => none
def sPar (i j : Nat) (a b : Ex) : Sm := fun sl L => match a sl L with
  | none => none
  | some (x, L1) => match b sl L1 with
    | some (y, L2) => some (.nx, (sl.set i (some x)).set j (some y), L2)
    | none => none
section
variable {X : Cx} {F : Fx} {ma mb : Ex} {ta tb : Et} {a b c : Expr} {pos : Pos} {st : Stmt} {sts us : List Stmt} {m1 m2 : Sm}
theorem zss_nil : PSs X [] (SZ X.K F sNil) := by
  refine PSs.imp pss_nil ?_
  rintro D σ H ⟨e, ρ, sl, L, o, sl', L', he, hs, hh, hm, k⟩
  cases hm
  exact k ρ H σ .refl hh hs
theorem zss_one (h : PS X st (SZ X.K F m1)) : PSs X [st] (SZ X.K F m1) := pss_one h
theorem zss_cons (h1 : PS X st (SZ X.K F m1)) (h2 : PSs X sts (SZ X.K F m2)) : PSs X (st :: sts) (SZ X.K F (sSeq m1 m2)) := by
  refine PSs.imp (pss_cons h1 h2) ?_
  rintro D σ H ⟨e, ρ, sl, L, o, sl', L', he, hs, hh, hm, k⟩
  unfold sSeq at hm
  split at hm
  · rename_i sl1 L1 h1
    refine ⟨e, ρ, sl, L, _, _, _, he, hs, hh, h1, fun ρ1 H1 σ1 f1 r1 s1 => ?_⟩
    exact ⟨e, ρ1, sl1, L1, _, _, _, he, s1, r1, hm, fun ρ2 H2 σ2 f2 r2 s2 => k ρ2 H2 σ2 (f1.trans f2) r2 s2⟩
  · rename_i hne
    refine ⟨e, ρ, sl, L, _, _, _, he, hs, hh, hm, fun ρ1 H1 σ1 f1 r1 s1 => ?_⟩
    have q := k ρ1 H1 σ1 f1 r1 s1
    cases o with
    | nx => exact absurd hm (hne sl' L')
    | bk => exact q
    | ct => exact q
    | rt w => exact q
theorem zs_ret (ha : PE X a (TZ X.K F ma)) : PS X (.Return (some a) pos) (SZ X.K F (sRet ma)) := by
  refine PS.imp (ps_ret ha) ?_
  rintro D σ H ⟨e, ρ, sl, L, o, sl', L', he, hs, hh, hm, k⟩
  unfold sRet at hm
  split at hm
  · rename_i w L1 h1
    cases hm
    exact ⟨e, ρ, sl, L, _, _, he, hs, hh, h1, fun ρ1 H1 v f1 r1 w1 => k ρ1 H1 σ f1 r1 (f1.relSl hs) v w1⟩
  · cases hm
theorem zs_retN : PS X (.Return none pos) (SZ X.K F sRetN) := by
  refine PS.imp ps_retN ?_
  rintro D σ H ⟨e, ρ, sl, L, o, sl', L', he, hs, hh, hm, k⟩
  cases hm
  exact k ρ H σ .refl hh hs .non rfl
theorem zs_expr (ha : PE X a (TZ X.K F ma)) (hs : swapsWith a none pos.line X.env = pure false := by rfl) : PS X (.Expr a pos) (SZ X.K F (sExpr ma)) := by
  refine PS.imp (ps_expr ha hs) ?_
  rintro D σ H ⟨e, ρ, sl, L, o, sl', L', he, hs, hh, hm, k⟩
  unfold sExpr at hm
  split at hm
  · rename_i w L1 h1
    cases hm
    exact ⟨e, ρ, sl, L, _, _, he, hs, hh, h1, fun ρ1 H1 v f1 r1 w1 => k ρ1 H1 σ f1 r1 (f1.relSl hs)⟩
  · cases hm
theorem zs_if {as bs : List Stmt} (hc : PT X c (TTZ X.K F ta)) (h1 : PSs X as (SZ X.K F m1)) (h2 : PSs X bs (SZ X.K F m2)) : PS X (.If c as bs pos) (SZ X.K F (sIf ta m1 m2)) := by
  refine PS.imp (ps_if hc h1 h2) ?_
  rintro D σ H ⟨e, ρ, sl, L, o, sl', L', he, hs, hh, hm, k⟩
  unfold sIf at hm
  split at hm
  · rename_i L1 h1
    refine ⟨e, ρ, sl, L, _, _, he, hs, hh, h1, fun ρ1 H1 f1 r1 => ?_⟩
    refine iteT ?_
    exact ⟨e, ρ1, sl, L1, _, _, _, he, f1.relSl hs, r1, hm, fun ρ2 H2 σ2 f2 r2 s2 => k ρ2 H2 σ2 (f1.trans f2) r2 s2⟩
  · rename_i L1 h1
    refine ⟨e, ρ, sl, L, _, _, he, hs, hh, h1, fun ρ1 H1 f1 r1 => ?_⟩
    refine iteF ?_
    exact ⟨e, ρ1, sl, L1, _, _, _, he, f1.relSl hs, r1, hm, fun ρ2 H2 σ2 f2 r2 s2 => k ρ2 H2 σ2 (f1.trans f2) r2 s2⟩
  · cases hm
theorem zs_pass : PS X (.Pass pos) (SZ X.K F sNil) := by
  refine PS.imp ps_pass ?_
  rintro D σ H ⟨e, ρ, sl, L, o, sl', L', he, hs, hh, hm, k⟩
  cases hm
  exact k ρ H σ .refl hh hs
theorem zs_break : PS X (.Break pos) (SZ X.K F sBrk) := by
  refine PS.imp ps_break ?_
  rintro D σ H ⟨e, ρ, sl, L, o, sl', L', he, hs, hh, hm, k⟩
  cases hm
  exact k ρ H σ .refl hh hs
theorem zs_continue : PS X (.Continue pos) (SZ X.K F sCnt) := by
  refine PS.imp ps_continue ?_
  rintro D σ H ⟨e, ρ, sl, L, o, sl', L', he, hs, hh, hm, k⟩
  cases hm
  exact k ρ H σ .refl hh hs
theorem zs_set {i : Nat} {x : Str} {pos' : Pos} (hN : X.N.Nodup) (hi : X.N[i]? = some x) (hx : Loc X.env.scope x) (ha : PE X a (TZ X.K F ma)) (hs : swapsWith a (some (.Name x pos')) pos.line X.env = pure false := by rfl) (hf : X.fn x = true ∨ X.env.scope.names.lookup x = some .local := by first | exact .inl rfl | exact .inr rfl | assumption) :
    PS X (.Assign [.Name x pos'] a pos) (SZ X.K F (sSet i ma)) := by
  refine PS.imp (ps_set hN hi hx ha hs hf) ?_
  rintro D σ H ⟨e, ρ, sl, L, o, sl', L', he, hs, hh, hm, k⟩
  unfold sSet at hm
  split at hm
  · rename_i w L1 h1
    cases hm
    exact ⟨e, ρ, sl, L, _, _, he, hs, hh, h1, fun ρ1 H1 v f1 r1 w1 => k ρ1 H1 _ f1 r1 ((f1.relSl hs).set i w1)⟩
  · cases hm
theorem zs_par {i j : Nat} {x y : Str} {px py pt : Pos} {kt k2 : Nat} {pt2 : Pos} (hc : X.calm = true) (hN : X.N.Nodup) (hi : X.N[i]? = some x) (hj : X.N[j]? = some y) (hij : i ≠ j)
    (hx : X.env.scope.names.lookup x = some .local) (hy : X.env.scope.names.lookup y = some .local) (ha : PE X a (TZ X.K F ma)) (hb : PE X b (TZ X.K F mb))
    (hw : swappedStores [.Tuple [.Name x px, .Name y py] kt pt] (.Tuple [a, b] k2 pt2) X.env = pure (some [x, y]))
    (hs : swapsWithSole [.Tuple [.Name x px, .Name y py] kt pt] (.Tuple [a, b] k2 pt2) pos.line X.env = pure false := by rfl)
    (hs1 : starEach [a, b] X.env = (false, eval a X.env) :: starEach [b] X.env := by rfl) (hs2 : starEach [b] X.env = (false, eval b X.env) :: starEach [] X.env := by rfl) :
    PS X (.Assign [.Tuple [.Name x px, .Name y py] kt pt] (.Tuple [a, b] k2 pt2) pos) (SZ X.K F (sPar i j ma mb)) := by
  refine PS.imp (ps_par hc hN hi hj hij hx hy (pa_cons ha (pa_cons hb pa_nil hs2) hs1) hw hs) ?_
  rintro D σ H ⟨e, ρ, sl, L, o, sl', L', he, hs, hh, hm, k⟩
  unfold sPar at hm
  split at hm
  · cases hm
  rename_i x L1 h1
  split at hm
  · rename_i y L2 h2
    cases hm
    refine ⟨e, ρ, sl, L, _, _, he, hs, hh, h1, fun ρ1 H1 v f1 r1 w1 => ?_⟩
    refine ⟨e, ρ1, sl, L1, _, _, he, f1.relSl hs, r1, h2, fun ρ2 H2 v2 f2 r2 w2 => ?_⟩
    exact ⟨v, v2, rfl, k ρ2 H2 _ (f1.trans f2) r2 ((((f1.trans f2).relSl hs).set i (f2.rel w1)).set j w2)⟩
  · cases hm
end
end Z

set_option Elab.async false
set_option linter.all false
set_option maxRecDepth 100000
namespace Z
open PySem PySem.Spec PyProof.Rows L2

/-! ### what is walked -/
inductive Src where
  | vals (xs : List W) | obj (n : Nat) | zip (s t : Src) | enum (s : Src)
def Src.item (L : LH) (i : Nat) : Src → Option (Option W)
  | .vals xs => some xs[i]?
  | .obj n => match L.get n with
    | some (.lst xs) => some xs[i]?
    | _ => none
  | .zip s t => match s.item L i with
    | none => none
    | some none => match t.item L i with
      | none => none
      | some _ => some none
    | some (some x) => match t.item L i with
      | none => none
      | some none => some none
      | some (some y) => some (some (.tup [x, y]))
  | .enum s => match s.item L i with
    | none => none
    | some none => some none
    | some (some x) => some (some (.tup [.int (i : Nat), x]))
structure ItOk (K : PySem.W.Frag) (F : Fx) (e : En) (src : Src) (J : It) (ρ : List Addr) (H : Hp) : Prop where
  go : ∀ (ρ' : List Addr) (H' : Hp) (L : LH) (i : Nat) (w : W), Fm ρ ρ' H H' → RH K F e H' ρ' L → src.item L i = some (some w) →
    J.go i H' ∧ ∀ x H'', J.yld i H' x H'' → Fm ρ' ρ' H' H'' ∧ RH K F e H'' ρ' L ∧ RelW K F e H'' ρ' w x
  stop : ∀ (ρ' : List Addr) (H' : Hp) (L : LH) (i : Nat), Fm ρ ρ' H H' → RH K F e H' ρ' L → src.item L i = some none → J.stop i H'
abbrev Ei := Sl → LH → Option (Src × LH)
def IZ (K : PySem.W.Frag) (F : Fx) (m : Ei) : TI := fun σ H R => ∃ e ρ sl L src L', En.Ok F e ∧ RelSl K F e H ρ sl σ ∧ RH K F e H ρ L ∧ m sl L = some (src, L') ∧
  ∀ ρ' H' J, Fm ρ ρ' H H' → RH K F e H' ρ' L' → ItOk K F e src J ρ' H' → R J H'
theorem PI.imp {X : Cx} {tg x : Expr} {t t' : TI} (h : PI X tg x t) (q : ∀ σ H R, t' σ H R → t σ H R) : PI X tg x t' := ⟨fun pins s σ H R I k => h.run pins s σ H R I (q σ H R k)⟩
theorem PI.or {X : Cx} {tg x : Expr} {t t' : TI} (h : PI X tg x t) (h' : PI X tg x t') : PI X tg x (fun σ H R => t σ H R ∨ t' σ H R) := ⟨fun pins s σ H R I k => by
  rcases k with k | k
  · exact h.run pins s σ H R I k
  · exact h'.run pins s σ H R I k⟩
/-- a value that is walked: a tuple, a list -/
def srcOf (L : LH) : W → Option Src
  | .tup xs => some (.vals xs)
  | .ref n => match L.get n with
    | some (.lst _) => some (.obj n)
    | _ => none
  | _ => none
def iVal (a : Ex) : Ei := fun sl L => match a sl L with
  | none => none
  | some (x, L1) => match srcOf L1 x with
    | some s => some (s, L1)
    | none => none
section
variable {K : PySem.W.Frag} {F : Fx} {e : En} {H H' : Hp} {ρ ρ' : List Addr} {L L' : LH}
/-- each tracked list, tuple is one row alone -/
structure Sole (K : PySem.W.Frag) (H : Hp) (ρ : List Addr) : Prop where
  x : True
theorem it_tup {a : Addr} {xs : List V} {ws : List W} (hs : SqT K H a xs) (r : RelWs K F e H ρ ws xs) : ItOk K F e (.vals ws) (Itt K a) ρ H := by
  refine ⟨fun ρ' H' L i w f R h => ?_, fun ρ' H' L i f R h => ?_⟩
  · have h' : ws[i]? = some w := by simpa [Src.item] using h
    obtain ⟨v, h1, h2⟩ := (f.rels r).get h'
    refine ⟨⟨xs, v, f.sqT _ _ hs, h1⟩, ?_⟩
    rintro x H'' ⟨rfl, q⟩
    have q' := q xs (f.sqT _ _ hs)
    rw [h1] at q'; cases q'
    exact ⟨.refl, R, h2⟩
  · have h' : ws[i]? = none := by simpa [Src.item] using h
    refine ⟨xs, f.sqT _ _ hs, ?_⟩
    rw [(r).length]
    exact List.getElem?_eq_none_iff.mp h'
theorem it_lst {n : Nat} {a : Addr} (ha : ρ[n]? = some a) : ItOk K F e (.obj n) (Itl K a) ρ H := by
  refine ⟨fun ρ' H' L i w f R h => ?_, fun ρ' H' L i f R h => ?_⟩
  · unfold Src.item at h
    split at h
    · rename_i ws hl
      have h' : ws[i]? = some w := by simpa using h
      obtain ⟨a', xs, h1, h2, h3⟩ := R.lst hl
      rw [f.pre n a ha] at h1; cases h1
      obtain ⟨v, h4, h5⟩ := h3.get h'
      refine ⟨⟨xs, v, SqL.of h2, h4⟩, ?_⟩
      rintro x H'' ⟨rfl, q⟩
      have q' := q xs (SqL.of h2)
      rw [h4] at q'; cases q'
      exact ⟨.refl, R, h5⟩
    · cases h
  · unfold Src.item at h
    split at h
    · rename_i ws hl
      have h' : ws[i]? = none := by simpa using h
      obtain ⟨a', xs, h1, h2, h3⟩ := R.lst hl
      rw [f.pre n a ha] at h1; cases h1
      refine ⟨xs, SqL.of h2, ?_⟩
      rw [h3.length]
      exact List.getElem?_eq_none_iff.mp h'
    · cases h
theorem it_rng {lo : Int} {n : Nat} : ItOk K F e (.vals ((List.range n).map fun i => W.int (lo + (i : Nat)))) (Itr lo n) ρ H := by
  refine ⟨fun ρ' H' L i w f R h => ?_, fun ρ' H' L i f R h => ?_⟩
  · have h' : ((List.range n).map fun i => W.int (lo + (i : Nat)))[i]? = some w := by simpa [Src.item] using h
    rw [List.getElem?_map] at h'
    cases q : (List.range n)[i]? with
    | none => rw [q] at h'; cases h'
    | some j =>
      rw [q] at h'
      have hj := List.getElem?_eq_some_iff.mp q
      obtain ⟨hl, e1⟩ := hj
      rw [List.getElem_range] at e1
      rw [List.length_range] at hl
      subst e1
      have : W.int (lo + (i : Nat)) = w := Option.some.inj h'
      subst this
      refine ⟨hl, ?_⟩
      rintro x H'' ⟨rfl, rfl⟩
      exact ⟨.refl, R, rfl⟩
  · have h' : ((List.range n).map fun i => W.int (lo + (i : Nat)))[i]? = none := by simpa [Src.item] using h
    have := List.getElem?_eq_none_iff.mp h'
    show n ≤ i
    simpa using this
theorem it_zip {m n : Nat} {a b : Addr} (ha : ρ[m]? = some a) (hb : ρ[n]? = some b) : ItOk K F e (.zip (.obj m) (.obj n)) (Itz K a b) ρ H := by
  have A := it_lst (K := K) (F := F) (e := e) (H := H) ha
  have B := it_lst (K := K) (F := F) (e := e) (H := H) hb
  refine ⟨fun ρ' H' L i w f R h => ?_, fun ρ' H' L i f R h => ?_⟩
  · simp only [Src.item] at h
    split at h
    · cases h
    · split at h <;> cases h
    rename_i x hx
    split at h
    · cases h
    · cases h
    rename_i y hy
    have : W.tup [x, y] = w := Option.some.inj (Option.some.inj h)
    subst this
    obtain ⟨⟨xs, vx, s1, g1⟩, q1⟩ := A.go ρ' H' L i x f R hx
    obtain ⟨⟨ys, vy, s2, g2⟩, q2⟩ := B.go ρ' H' L i y f R hy
    refine ⟨⟨xs, ys, vx, vy, s1, s2, g1, g2⟩, ?_⟩
    rintro v H'' ⟨T, x', y', rfl, hT, rfl, e1, e2⟩
    obtain ⟨_, _, r1⟩ := q1 x' H' ⟨rfl, e1⟩
    obtain ⟨_, _, r2⟩ := q2 y' H' ⟨rfl, e2⟩
    obtain ⟨f3, r3, w3⟩ := new_tup R hT (.cons r1 (.cons r2 .nil))
    exact ⟨f3, r3, w3⟩
  · simp only [Src.item] at h
    split at h
    · cases h
    · rename_i hx
      obtain ⟨xs, s1, l1⟩ := A.stop ρ' H' L i f R hx
      split at h
      · cases h
      rename_i o ho
      cases o with
      | none =>
        obtain ⟨ys, s2, l2⟩ := B.stop ρ' H' L i f R ho
        exact ⟨xs, ys, s1, s2, .inl l1⟩
      | some y =>
        obtain ⟨⟨ys, vy, s2, g2⟩, q2⟩ := B.go ρ' H' L i y f R ho
        exact ⟨xs, ys, s1, s2, .inl l1⟩
    · rename_i x hx
      split at h
      · cases h
      · rename_i hy
        obtain ⟨⟨xs, vx, s1, g1⟩, q1⟩ := A.go ρ' H' L i x f R hx
        obtain ⟨ys, s2, l2⟩ := B.stop ρ' H' L i f R hy
        exact ⟨xs, ys, s1, s2, .inr l2⟩
      · cases h
theorem it_enum {m : Nat} {a : Addr} (ha : ρ[m]? = some a) : ItOk K F e (.enum (.obj m)) (Ite K a) ρ H := by
  have A := it_lst (K := K) (F := F) (e := e) (H := H) ha
  refine ⟨fun ρ' H' L i w f R h => ?_, fun ρ' H' L i f R h => ?_⟩
  · simp only [Src.item] at h
    split at h
    · cases h
    · cases h
    rename_i x hx
    have : W.tup [.int (i : Nat), x] = w := Option.some.inj (Option.some.inj h)
    subst this
    obtain ⟨⟨xs, vx, s1, g1⟩, q1⟩ := A.go ρ' H' L i x f R hx
    refine ⟨⟨xs, vx, s1, g1⟩, ?_⟩
    rintro v H'' ⟨T, x', rfl, hT, rfl, e1⟩
    obtain ⟨_, _, r1⟩ := q1 x' H' ⟨rfl, e1⟩
    obtain ⟨f3, r3, w3⟩ := new_tup R hT (.cons (w := .int (i : Nat)) (v := .int (i : Nat)) rfl (.cons r1 .nil))
    exact ⟨f3, r3, w3⟩
  · simp only [Src.item] at h
    split at h
    · cases h
    · rename_i hx
      exact A.stop ρ' H' L i f R hx
    · cases h
end
section
variable {X : Cx} {F : Fx} {ma mb : Ex} {ta tb : Et} {a b c tg : Expr} {pos p : Pos}
/-- for .. in a list or a tuple -/
theorem zi_val (ha : PE X a (TZ X.K F ma)) : PI X tg a (IZ X.K F (iVal ma)) := by
  refine PI.imp (PI.or (pi_list ha) (pi_tup ha)) ?_
  rintro σ H R ⟨e, ρ, sl, L, src, L', he, hs, hh, hm, k⟩
  unfold iVal at hm
  split at hm
  · cases hm
  rename_i x L1 h1
  split at hm
  · rename_i s hs'
    cases hm
    cases x with
    | tup ws =>
      cases hs'
      refine .inr ⟨e, ρ, sl, L, _, _, he, hs, hh, h1, fun ρ1 H1 v f1 r1 w1 => ?_⟩
      unfold RelW at w1
      obtain ⟨a, xs, rfl, s1, q⟩ := w1
      exact ⟨a, rfl, ⟨xs, s1⟩, k ρ1 H1 _ f1 r1 (it_tup s1 q)⟩
    | ref n =>
      simp only [srcOf] at hs'
      split at hs'
      · rename_i ws hl
        cases hs'
        refine .inl ⟨e, ρ, sl, L, _, _, he, hs, hh, h1, fun ρ1 H1 v f1 r1 w1 => ?_⟩
        unfold RelW at w1
        obtain ⟨a, rfl, ha⟩ := w1
        obtain ⟨a', xs, h2, h3, h4⟩ := r1.lst hl
        rw [ha] at h2; cases h2
        exact ⟨a, rfl, ⟨xs, SqL.of h3⟩, k ρ1 H1 _ f1 r1 (it_lst ha)⟩
      · cases hs'
    | non => cases hs'
    | bl _ => cases hs'
    | int _ => cases hs'
    | ia _ => cases hs'
    | str _ => cases hs'
    | fz _ => cases hs'
  · cases hm
def rngOk (i : Int) : Bool := decide (-1000000 ≤ i) && decide (i ≤ 1000000)
theorem rngOk_of {i : Int} (h : rngOk i = true) : -(2 ^ 62) ≤ i ∧ i < 2 ^ 62 := by
  unfold rngOk at h
  rw [Bool.and_eq_true, decide_eq_true_eq, decide_eq_true_eq] at h
  omega
def iRange1 (a : Ex) : Ei := fun sl L => match a sl L with
  | some (.int j, L1) => cond (rngOk j) (some (.vals ((List.range j.toNat).map fun i => W.int (0 + (i : Nat))), L1)) none
  | _ => none
def iRange2 (a b : Ex) : Ei := fun sl L => match a sl L with
  | some (.int i, L1) => match b sl L1 with
    | some (.int j, L2) => cond (rngOk i && rngOk j) (some (.vals ((List.range (j - i).toNat).map fun k => W.int (i + (k : Nat))), L2)) none
    | _ => none
  | _ => none
theorem zi_range1 (hg : Gl X "range") (hm : X.mg "range" = none) (ha : PE X a (TZ X.K F ma)) (hs : starEach [a] X.env = [(false, eval a X.env)] := by rfl) : PI X tg (.Call (.Name "range" p) [a] [] pos) (IZ X.K F (iRange1 ma)) := by
  refine PI.imp (pi_range1 hg hm (pa_cons ha pa_nil hs) hs) ?_
  rintro σ H R ⟨e, ρ, sl, L, src, L', he, hs, hh, hm, k⟩
  unfold iRange1 at hm
  split at hm
  · rename_i j L1 h1
    cases q : rngOk j with
    | false => rw [q] at hm; cases hm
    | true =>
      rw [q] at hm
      cases hm
      refine ⟨e, ρ, sl, L, _, _, he, hs, hh, h1, fun ρ1 H1 v f1 r1 w1 => ?_⟩
      cases w1
      exact ⟨j, rfl, (rngOk_of q).1, (rngOk_of q).2, k ρ1 H1 _ f1 r1 it_rng⟩
  · cases hm
theorem zi_range2 (hg : Gl X "range") (hm : X.mg "range" = none) (ha : PE X a (TZ X.K F ma)) (hb : PE X b (TZ X.K F mb)) (hs : starEach [a, b] X.env = [(false, eval a X.env), (false, eval b X.env)] := by rfl) (hs2 : starEach [b] X.env = [(false, eval b X.env)] := by rfl) : PI X tg (.Call (.Name "range" p) [a, b] [] pos) (IZ X.K F (iRange2 ma mb)) := by
  refine PI.imp (pi_range2 hg hm (pa_cons ha (pa_cons hb pa_nil hs2) (hs.trans (by rw [hs2]))) hs hs2) ?_
  rintro σ H R ⟨e, ρ, sl, L, src, L', he, hs, hh, hm, k⟩
  unfold iRange2 at hm
  split at hm
  · rename_i i L1 h1
    split at hm
    · rename_i j L2 h2
      cases q : (rngOk i && rngOk j) with
      | false => rw [q] at hm; cases hm
      | true =>
        rw [q] at hm
        cases hm
        rw [Bool.and_eq_true] at q
        refine ⟨e, ρ, sl, L, _, _, he, hs, hh, h1, fun ρ1 H1 v f1 r1 w1 => ?_⟩
        cases w1
        refine ⟨e, ρ1, sl, L1, _, _, he, f1.relSl hs, r1, h2, fun ρ2 H2 v2 f2 r2 w2 => ?_⟩
        cases w2
        exact ⟨i, j, rfl, ⟨(rngOk_of q.1).1, (rngOk_of q.1).2, (rngOk_of q.2).1, (rngOk_of q.2).2⟩, k ρ2 H2 _ (f1.trans f2) r2 it_rng⟩
    · cases hm
  · cases hm
def isList (L : LH) : W → Option Nat
  | .ref n => match L.get n with
    | some (.lst _) => some n
    | _ => none
  | _ => none
theorem isList_of {L : LH} : ∀ {w : W} {n : Nat}, isList L w = some n → w = .ref n ∧ ∃ ws, L.get n = some (.lst ws)
  | .ref m, n, h => by
    simp only [isList] at h
    split at h
    · rename_i ws q
      cases h
      exact ⟨rfl, ws, q⟩
    · cases h
def iZipM (a b : Ex) : Ei := fun sl L => match a sl L with
  | none => none
  | some (x, L1) => match b sl L1 with
    | none => none
    | some (y, L2) => match isList L2 x, isList L2 y with
      | some m, some n => some (.zip (.obj m) (.obj n), L2)
      | _, _ => none
def iEnumM (a : Ex) : Ei := fun sl L => match a sl L with
  | none => none
  | some (x, L1) => match isList L1 x with
      | some m => some (.enum (.obj m), L1)
      | _ => none
theorem zi_zip {elts : List Expr} {kk : Nat} {tpos : Pos} (hg : Gl X "zip") (hm : X.mg "zip" = none) (ha : PE X a (TZ X.K F ma)) (hb : PE X b (TZ X.K F mb))
    (hs : starEach [a, b] X.env = (false, eval a X.env) :: starEach [b] X.env := by rfl) (hs2 : starEach [b] X.env = (false, eval b X.env) :: starEach [] X.env := by rfl) (hpl : (backTo pos (starEach [b] X.env)).any (·.1) = false := by rfl) :
    PI X (.Tuple elts kk tpos) (.Call (.Name "zip" p) [a, b] [] pos) (IZ X.K F (iZipM ma mb)) := by
  refine PI.imp (pi_zip hg hm (pa_cons ha (pa_cons hb pa_nil hs2) hs) hs hpl) ?_
  rintro σ H R ⟨e, ρ, sl, L, src, L', he, hs, hh, hm, k⟩
  unfold iZipM at hm
  split at hm
  · cases hm
  rename_i x L1 h1
  split at hm
  · cases hm
  rename_i y L2 h2
  split at hm
  · rename_i m n hx hy
    cases hm
    obtain ⟨rfl, wx, gx⟩ := isList_of hx
    obtain ⟨rfl, wy, gy⟩ := isList_of hy
    refine ⟨e, ρ, sl, L, _, _, he, hs, hh, h1, fun ρ1 H1 v f1 r1 w1 => ?_⟩
    refine ⟨e, ρ1, sl, L1, _, _, he, f1.relSl hs, r1, h2, fun ρ2 H2 v2 f2 r2 w2 => ?_⟩
    have w1' := f2.rel w1
    unfold RelW at w1' w2
    obtain ⟨a, rfl, ha⟩ := w1'
    obtain ⟨b, rfl, hb⟩ := w2
    obtain ⟨a', xs, p1, p2, p3⟩ := r2.lst gx
    rw [ha] at p1; cases p1
    obtain ⟨b', ys, q1, q2, q3⟩ := r2.lst gy
    rw [hb] at q1; cases q1
    exact ⟨a, b, xs, ys, rfl, SqL.of p2, SqL.of q2, k ρ2 H2 _ (f1.trans f2) r2 (it_zip ha hb)⟩
  · cases hm
theorem zi_enum {elts : List Expr} {kk : Nat} {tpos : Pos} (hg : Gl X "enumerate") (hm : X.mg "enumerate" = none) (ha : PE X a (TZ X.K F ma)) (hs : starEach [a] X.env = [(false, eval a X.env)] := by rfl) :
    PI X (.Tuple elts kk tpos) (.Call (.Name "enumerate" p) [a] [] pos) (IZ X.K F (iEnumM ma)) := by
  refine PI.imp (pi_enum hg hm (pa_cons ha pa_nil hs) hs) ?_
  rintro σ H R ⟨e, ρ, sl, L, src, L', he, hs, hh, hm, k⟩
  unfold iEnumM at hm
  split at hm
  · cases hm
  rename_i x L1 h1
  split at hm
  · rename_i m hx
    cases hm
    obtain ⟨rfl, wx, gx⟩ := isList_of hx
    refine ⟨e, ρ, sl, L, _, _, he, hs, hh, h1, fun ρ1 H1 v f1 r1 w1 => ?_⟩
    unfold RelW at w1
    obtain ⟨a, rfl, ha⟩ := w1
    obtain ⟨a', xs, p1, p2, p3⟩ := r1.lst gx
    rw [ha] at p1; cases p1
    exact ⟨a, xs, rfl, SqL.of p2, k ρ1 H1 _ f1 r1 (it_enum ha)⟩
  · cases hm
end

/-! ### targets -/
abbrev Eg := W → Sl → LH → Option (Sl × LH)
abbrev Egs := List W → Sl → LH → Option (Sl × LH)
theorem wipe_set {σ : St} {i : Nat} {x : Option V} : ∀ {T : List Nat}, i ∈ T → wipe (σ.set i x) T = wipe σ T
  | [], h => by simp at h
  | t :: T, h => by
    unfold wipe
    by_cases ht : i = t
    · subst ht
      by_cases hT : i ∈ T
      · rw [wipe_set hT]
      · have : ∀ (U : List Nat) (τ : St), i ∉ U → wipe (τ.set i x) U = (wipe τ U).set i x := by
          intro U
          induction U with
          | nil => intro τ _; rfl
          | cons u U ih =>
            intro τ hu
            have h1 : u ≠ i := fun e => hu (by rw [e]; exact List.mem_cons_self)
            have h2 : i ∉ U := fun m => hu (List.mem_cons_of_mem _ m)
            unfold wipe
            rw [ih τ h2, List.set_comm _ _ h1.symm]
        rw [this T σ hT, List.set_set]
    · have hT : i ∈ T := by
        rcases List.mem_cons.mp h with e | m
        · exact absurd e ht
        · exact m
      rw [wipe_set hT]
theorem wipe_none (σ : St) {i : Nat} : ∀ {T : List Nat}, i ∈ T → i < σ.length → (wipe σ T)[i]? = some none
  | [], h, _ => by simp at h
  | t :: T, h, hl => by
    unfold wipe
    by_cases ht : t = i
    · subst ht
      exact List.getElem?_set_self (by rw [wipe_length]; exact hl)
    · have hT : i ∈ T := by
        rcases List.mem_cons.mp h with e | m
        · exact absurd e.symm ht
        · exact m
      rw [List.getElem?_set_ne ht]
      exact wipe_none σ hT hl
theorem wipe_wipe (σ : St) (T : List Nat) : wipe (wipe σ T) T = wipe σ T := by
  apply List.ext_getElem?
  intro i
  by_cases hT : i ∈ T
  · by_cases hl : i < σ.length
    · rw [wipe_none _ hT (by rw [wipe_length]; exact hl), wipe_none _ hT hl]
    · rw [List.getElem?_eq_none_iff.mpr (by rw [wipe_length, wipe_length]; omega), List.getElem?_eq_none_iff.mpr (by rw [wipe_length]; omega)]
  · rw [wipe_out hT]
/-- T: the slots that the target may store -/
def GZ (K : PySem.W.Frag) (F : Fx) (T : List Nat) (m : Eg) : TG := fun v σ H Q => ∃ e ρ sl L w sl' L', En.Ok F e ∧ RelSl K F e H ρ sl σ ∧ RH K F e H ρ L ∧ RelW K F e H ρ w v ∧ m w sl L = some (sl', L') ∧
  ∀ ρ' H' σ', Fm ρ ρ' H H' → RH K F e H' ρ' L' → RelSl K F e H' ρ' sl' σ' → wipe σ' T = wipe σ T → Q σ' H'
def GZs (K : PySem.W.Frag) (F : Fx) (T : List Nat) (m : Egs) : TGs := fun vs σ H Q => ∃ e ρ sl L ws sl' L', En.Ok F e ∧ RelSl K F e H ρ sl σ ∧ RH K F e H ρ L ∧ RelWs K F e H ρ ws vs ∧ m ws sl L = some (sl', L') ∧
  ∀ ρ' H' σ', Fm ρ ρ' H H' → RH K F e H' ρ' L' → RelSl K F e H' ρ' sl' σ' → wipe σ' T = wipe σ T → Q σ' H'
theorem PG.imp {X : Cx} {x : Expr} {t t' : TG} (h : PG X x t) (q : ∀ v σ H Q, t' v σ H Q → t v σ H Q) : PG X x t' := ⟨fun pins s σ H v u Q I r k => h.run pins s σ H v u Q I r (q v σ H Q k)⟩
theorem PG.or {X : Cx} {x : Expr} {t t' : TG} (h : PG X x t) (h' : PG X x t') : PG X x (fun v σ H Q => t v σ H Q ∨ t' v σ H Q) := ⟨fun pins s σ H v u Q I r k => by
  rcases k with k | k
  · exact h.run pins s σ H v u Q I r k
  · exact h'.run pins s σ H v u Q I r k⟩
theorem PGs.imp {X : Cx} {x : List Expr} {t t' : TGs} (h : PGs X x t) (q : ∀ v σ H Q, t' v σ H Q → t v σ H Q) : PGs X x t' := ⟨fun pins s σ H v u Q I r k => h.run pins s σ H v u Q I r (q v σ H Q k)⟩
def gSet (i : Nat) : Eg := fun w sl L => some (sl.set i (some w), L)
def gNilM : Egs := fun ws sl L => match ws with
  | [] => some (sl, L)
  | _ => none
def gConsM (g : Eg) (r : Egs) : Egs := fun ws sl L => match ws with
  | [] => none
  | w :: ws => match g w sl L with
    | some (sl1, L1) => r ws sl1 L1
    | none => none
def gTupM (n : Nat) (gs : Egs) : Eg := fun w sl L => match w with
  | .tup ws => cond (Nat.beq ws.length n) (gs ws sl L) none
  | .ref i => match L.get i with
    | some (.lst ws) => cond (Nat.beq ws.length n) (gs ws sl L) none
    | _ => none
  | _ => none
section
variable {X : Cx} {F : Fx} {T : List Nat} {g : Eg} {gs : Egs} {a b c tg : Expr} {es : List Expr} {pos p : Pos}
theorem zg_name {i : Nat} {x : Str} (hN : X.N.Nodup) (hi : X.N[i]? = some x) (hx : Loc X.env.scope x) (hT : i ∈ T := by decide) (hf : X.fn x = true ∨ X.env.scope.names.lookup x = some .local := by first | exact .inl rfl | exact .inr rfl | assumption) : PG X (.Name x pos) (GZ X.K F T (gSet i)) := by
  refine PG.imp (pg_name hN hi hx hf) ?_
  rintro v σ H Q ⟨e, ρ, sl, L, w, sl', L', he, hs, hh, hw, hm, k⟩
  cases hm
  exact k ρ H _ .refl hh (hs.set i hw) (wipe_set hT)
theorem zgs_nil : PGs X [] (GZs X.K F T gNilM) := by
  refine PGs.imp pgs_nil ?_
  rintro v σ H Q ⟨e, ρ, sl, L, ws, sl', L', he, hs, hh, hw, hm, k⟩
  unfold gNilM at hm
  split at hm
  · cases hm
    unfold RelWs at hw
    exact ⟨hw, k ρ H σ .refl hh hs rfl⟩
  · cases hm
theorem zgs_cons (h1 : PG X a (GZ X.K F T g)) (h2 : PGs X es (GZs X.K F T gs)) (hs : (assignEach (a :: es) X.env).map (·.2) = assign a X.env :: (assignEach es X.env).map (·.2) := by rfl) : PGs X (a :: es) (GZs X.K F T (gConsM g gs)) := by
  refine PGs.imp (pgs_cons h1 h2 hs) ?_
  rintro v σ H Q ⟨e, ρ, sl, L, ws, sl', L', he, hs, hh, hw, hm, k⟩
  unfold gConsM at hm
  split at hm
  · cases hm
  rename_i w ws
  split at hm
  · rename_i sl1 L1 q1
    obtain ⟨v, vr, rfl, r1, r2⟩ := hw.uncons
    refine ⟨v, vr, rfl, e, ρ, sl, L, w, _, _, he, hs, hh, r1, q1, fun ρ1 H1 σ1 f1 h1 s1 e1 => ?_⟩
    exact ⟨e, ρ1, sl1, L1, ws, _, _, he, s1, h1, f1.rels r2, hm, fun ρ2 H2 σ2 f2 h2 s2 e2 => k ρ2 H2 σ2 (f1.trans f2) h2 s2 (e2.trans e1)⟩
  · cases hm
theorem zg_tup {kk n : Nat} (hc : X.calm = true) (h : PGs X es (GZs X.K F T gs)) (hn : (assignEach es X.env).length = n := by rfl) (hst : (assignEach es X.env).findIdx? (·.1) = none := by rfl) : PG X (.Tuple es kk pos) (GZ X.K F T (gTupM n gs)) := by
  refine PG.imp (PG.or (pg_tup hc h hn hst) (pg_unl hc h hn hst)) ?_
  rintro v σ H Q ⟨e, ρ, sl, L, w, sl', L', he, hs, hh, hw, hm, k⟩
  unfold gTupM at hm
  split at hm
  · rename_i ws
    cases q : Nat.beq ws.length n with
    | false => rw [q] at hm; cases hm
    | true =>
      rw [q] at hm
      unfold RelW at hw
      obtain ⟨a, xs, rfl, s1, r1⟩ := hw
      refine .inl ⟨a, xs, rfl, s1, ?_, ?_⟩
      · rw [r1.length]; exact Nat.eq_of_beq_eq_true q
      · exact ⟨e, ρ, sl, L, ws, _, _, he, hs, hh, r1, hm, k⟩
  · rename_i i
    split at hm
    · rename_i ws hl
      cases q : Nat.beq ws.length n with
      | false => rw [q] at hm; cases hm
      | true =>
        rw [q] at hm
        unfold RelW at hw
        obtain ⟨a, rfl, ha⟩ := hw
        obtain ⟨a', xs, p1, p2, p3⟩ := hh.lst hl
        rw [ha] at p1; cases p1
        refine .inr ⟨a, xs, rfl, SqL.of p2, ?_, ?_⟩
        · rw [p3.length]; exact Nat.eq_of_beq_eq_true q
        · exact ⟨e, ρ, sl, L, ws, _, _, he, hs, hh, p3, hm, k⟩
    · cases hm
  · cases hm
/-- target = value -/
def sAsg (a : Ex) (g : Eg) : Sm := fun sl L => match a sl L with
  | none => none
  | some (w, L1) => match g w sl L1 with
    | some (sl', L2) => some (.nx, sl', L2)
    | none => none
theorem zs_asg {ma : Ex} (ha : PE X a (TZ X.K F ma)) (hg : PG X tg (GZ X.K F T g)) (hs : swapsWithSole [tg] a pos.line X.env = pure false := by rfl) (hw : swappedStores [tg] a X.env = pure none := by rfl)
    (h1 : (assignEach [tg] X.env).map (·.2) = [assign tg X.env] := by rfl) : PS X (.Assign [tg] a pos) (SZ X.K F (sAsg ma g)) := by
  refine PS.imp (ps_asg ha hg hs hw h1) ?_
  rintro D σ H ⟨e, ρ, sl, L, o, sl', L', he, hs, hh, hm, k⟩
  unfold sAsg at hm
  split at hm
  · cases hm
  rename_i w L1 h1
  split at hm
  · rename_i sl2 L2 h2
    cases hm
    refine ⟨e, ρ, sl, L, _, _, he, hs, hh, h1, fun ρ1 H1 v f1 r1 w1 => ?_⟩
    exact ⟨e, ρ1, sl, L1, _, _, _, he, f1.relSl hs, r1, w1, h2, fun ρ2 H2 σ2 f2 h2 s2 _ => k ρ2 H2 σ2 (f1.trans f2) h2 s2⟩
  · cases hm
end

/-! ### for -/
def forL (src : Src) (g : Eg) (b : Sm) : Nat → Nat → Sl → LH → Option (Out × Sl × LH)
  | 0, _, _, _ => none
  | f + 1, i, sl, L => match src.item L i with
    | none => none
    | some none => some (.nx, sl, L)
    | some (some w) => match g w sl L with
      | none => none
      | some (sl1, L1) => match b sl1 L1 with
        | some (.nx, sl2, L2) => forL src g b f (i + 1) sl2 L2
        | some (.ct, sl2, L2) => forL src g b f (i + 1) sl2 L2
        | some (.bk, sl2, L2) => some (.nx, sl2, L2)
        | some (.rt w, sl2, L2) => some (.rt w, sl2, L2)
        | none => none
def lid : Nat := 100000
def sFor (m : Ei) (g : Eg) (b : Sm) : Sm := fun sl L => match m sl L with
  | none => none
  | some (src, L1) => forL src g b lid 0 sl L1
section
variable {X : Cx} {F : Fx} {T : List Nat} {mi : Ei} {g : Eg} {mb : Sm} {iter tg : Expr} {body : List Stmt} {pos : Pos}
theorem zs_for (hp : PassesOwn (model X.prog X.w) X.A X.env X.xe) (hc : X.calm = true) (hi : PI X tg iter (IZ X.K F mi)) (hg : PG X tg (GZ X.K F T g)) (hb : PSs X body (SZ X.K F mb)) (hs : ∀ x, foldedSetIterable iter X.env x = pure x := by intro _; rfl) : PS X (.For tg iter body [] pos) (SZ X.K F (sFor mi g mb)) := by
  refine PS.imp (ps_for hp hc hi hg hb hs) ?_
  rintro D σ H ⟨e, ρ, sl, L, o, sl', L', he, hs, hh, hm, k⟩
  unfold sFor at hm
  split at hm
  · cases hm
  rename_i src L1 h1
  refine ⟨e, ρ, sl, L, _, _, he, hs, hh, h1, fun ρ1 H1 J f1 r1 ok => ?_⟩
  refine ⟨fun i m σ2 H2 => ∃ ρ2 sl2 L2, Fm ρ1 ρ2 H1 H2 ∧ RelSl X.K F e H2 ρ2 sl2 σ2 ∧ RH X.K F e H2 ρ2 L2 ∧ forL src g mb m i sl2 L2 = some (o, sl', L'), ⟨lid, ρ1, sl, L1, .refl, f1.relSl hs, r1, hm⟩, ?_⟩
  rintro i m σ2 H2 ⟨ρ2, sl2, L2, f2, s2, r2, hr⟩
  cases m with
  | zero => cases hr
  | succ m =>
    unfold forL at hr
    split at hr
    · cases hr
    · rename_i hx
      cases hr
      exact .inl ⟨ok.stop ρ2 H2 _ i f2 r2 hx, k ρ2 H2 σ2 (f1.trans f2) r2 s2⟩
    rename_i w hx
    obtain ⟨g1, g2⟩ := ok.go ρ2 H2 L2 i w f2 r2 hx
    refine .inr ⟨g1, fun σ' H' => ∃ ρ' sl3 L3, Fm ρ1 ρ' H1 H' ∧ RelSl X.K F e H' ρ' sl3 σ' ∧ RH X.K F e H' ρ' L3 ∧ forL src g mb m (i + 1) sl3 L3 = some (o, sl', L'), fun σ' H' ⟨ρ', sl3, L3, a1, a2, a3, a4⟩ => ⟨m, by omega, ρ', sl3, L3, a1, a2, a3, a4⟩, fun x H3 hy => ?_⟩
    obtain ⟨f3, r3, w3⟩ := g2 x H3 hy
    split at hr
    · cases hr
    rename_i sl4 L4 hg4
    refine ⟨e, ρ2, sl2, L2, w, _, _, he, f3.relSl s2, r3, w3, hg4, fun ρ4 H4 σ4 f4 r4 s4 _ => ?_⟩
    have fA : Fm ρ1 ρ4 H1 H4 := (f2.trans f3).trans f4
    split at hr
    · rename_i sl5 L5 hb5
      exact ⟨e, ρ4, sl4, L4, _, _, _, he, s4, r4, hb5, fun ρ5 H5 σ5 f5 r5 s5 => ⟨ρ5, sl5, L5, fA.trans f5, s5, r5, hr⟩⟩
    · rename_i sl5 L5 hb5
      exact ⟨e, ρ4, sl4, L4, _, _, _, he, s4, r4, hb5, fun ρ5 H5 σ5 f5 r5 s5 => ⟨ρ5, sl5, L5, fA.trans f5, s5, r5, hr⟩⟩
    · rename_i sl5 L5 hb5
      cases hr
      exact ⟨e, ρ4, sl4, L4, _, _, _, he, s4, r4, hb5, fun ρ5 H5 σ5 f5 r5 s5 => k ρ5 H5 σ5 (f1.trans (fA.trans f5)) r5 s5⟩
    · rename_i w5 sl5 L5 hb5
      cases hr
      exact ⟨e, ρ4, sl4, L4, _, _, _, he, s4, r4, hb5, fun ρ5 H5 σ5 f5 r5 s5 => k ρ5 H5 σ5 (f1.trans (fA.trans f5)) r5 s5⟩
    · cases hr
end
/-! ### while -/
def whileL (t : Et) (b : Sm) : Nat → Sl → LH → Option (Out × Sl × LH)
  | 0, _, _ => none
  | f + 1, sl, L => match t sl L with
    | none => none
    | some (false, L1) => some (.nx, sl, L1)
    | some (true, L1) => match b sl L1 with
      | some (.nx, sl2, L2) => whileL t b f sl2 L2
      | some (.ct, sl2, L2) => whileL t b f sl2 L2
      | some (.bk, sl2, L2) => some (.nx, sl2, L2)
      | some (.rt w, sl2, L2) => some (.rt w, sl2, L2)
      | none => none
def sWhile (t : Et) (b : Sm) : Sm := fun sl L => whileL t b lid sl L
section
variable {X : Cx} {F : Fx} {t : Et} {mb : Sm} {c : Expr} {body : List Stmt} {pos : Pos}
theorem zs_while (hp : PassesOwn (model X.prog X.w) X.A X.env X.xe) (hc : PT X c (TTZ X.K F t)) (hb : PSs X body (SZ X.K F mb)) : PS X (.While c body [] pos) (SZ X.K F (sWhile t mb)) := by
  refine PS.imp (ps_while hp hc hb) ?_
  rintro D σ H ⟨e, ρ, sl, L, o, sl', L', he, hs, hh, hm, k⟩
  refine ⟨fun m σ2 H2 => ∃ ρ2 sl2 L2, Fm ρ ρ2 H H2 ∧ RelSl X.K F e H2 ρ2 sl2 σ2 ∧ RH X.K F e H2 ρ2 L2 ∧ whileL t mb m sl2 L2 = some (o, sl', L'), ⟨lid, ρ, sl, L, .refl, hs, hh, hm⟩, ?_⟩
  rintro m σ2 H2 ⟨ρ2, sl2, L2, f2, s2, r2, hr⟩
  cases m with
  | zero => cases hr
  | succ m =>
    unfold whileL at hr
    split at hr
    · cases hr
    · rename_i L3 h3
      cases hr
      refine ⟨e, ρ2, _, L2, _, _, he, s2, r2, h3, fun ρ3 H3 f3 r3 => ?_⟩
      refine iteF ?_
      exact k ρ3 H3 σ2 (f2.trans f3) r3 (f3.relSl s2)
    · rename_i L3 h3
      refine ⟨e, ρ2, sl2, L2, _, _, he, s2, r2, h3, fun ρ3 H3 f3 r3 => ?_⟩
      refine iteT ?_
      refine ⟨fun σ' H' => ∃ ρ' sl3 L3, Fm ρ ρ' H H' ∧ RelSl X.K F e H' ρ' sl3 σ' ∧ RH X.K F e H' ρ' L3 ∧ whileL t mb m sl3 L3 = some (o, sl', L'), fun σ' H' ⟨ρ', sl3, L3, a1, a2, a3, a4⟩ => ⟨m, by omega, ρ', sl3, L3, a1, a2, a3, a4⟩, ?_⟩
      have fA : Fm ρ ρ3 H H3 := f2.trans f3
      split at hr
      · rename_i sl5 L5 hb5
        exact ⟨e, ρ3, sl2, L3, _, _, _, he, f3.relSl s2, r3, hb5, fun ρ5 H5 σ5 f5 r5 s5 => ⟨ρ5, sl5, L5, fA.trans f5, s5, r5, hr⟩⟩
      · rename_i sl5 L5 hb5
        exact ⟨e, ρ3, sl2, L3, _, _, _, he, f3.relSl s2, r3, hb5, fun ρ5 H5 σ5 f5 r5 s5 => ⟨ρ5, sl5, L5, fA.trans f5, s5, r5, hr⟩⟩
      · rename_i sl5 L5 hb5
        cases hr
        exact ⟨e, ρ3, sl2, L3, _, _, _, he, f3.relSl s2, r3, hb5, fun ρ5 H5 σ5 f5 r5 s5 => k ρ5 H5 σ5 (fA.trans f5) r5 s5⟩
      · rename_i w5 sl5 L5 hb5
        cases hr
        exact ⟨e, ρ3, sl2, L3, _, _, _, he, f3.relSl s2, r3, hb5, fun ρ5 H5 σ5 f5 r5 s5 => k ρ5 H5 σ5 (fA.trans f5) r5 s5⟩
      · cases hr
end
end Z

set_option Elab.async false
set_option linter.all false
set_option maxRecDepth 100000
namespace Z
open PySem PySem.Spec PyProof.Rows L2

/-! ### list comprehensions -/
def lcL (src : Src) (g : Eg) (t : Et) (m : Ex) (slw : Sl) : Nat → Nat → List W → LH → Option (List W × LH)
  | 0, _, _, _ => none
  | f + 1, i, acc, L => match src.item L i with
    | none => none
    | some none => some (acc.reverse, L)
    | some (some w) => match g w slw L with
      | none => none
      | some (sl1, L1) => match t sl1 L1 with
        | none => none
        | some (false, L2) => lcL src g t m slw f (i + 1) acc L2
        | some (true, L2) => match m sl1 L2 with
          | none => none
          | some (y, L3) => lcL src g t m slw f (i + 1) (y :: acc) L3
def wipeSl (sl : Sl) : List Nat → Sl
  | [] => sl
  | t :: T => (wipeSl sl T).set t none
def tYesM : Et := fun _ L => some (true, L)
def vLc (mi : Ei) (T : List Nat) (g : Eg) (t : Et) (m : Ex) : Ex := fun sl L => match mi sl L with
  | none => none
  | some (src, L1) => match lcL src g t m (wipeSl sl T) lid 0 [] L1 with
    | some (ws, L2) => fLst ws L2
    | none => none
theorem wipeSl_length (sl : Sl) : ∀ T : List Nat, (wipeSl sl T).length = sl.length
  | [] => rfl
  | t :: T => by unfold wipeSl; rw [List.length_set, wipeSl_length sl T]
theorem wipeSl_some {sl : Sl} {i : Nat} {w : W} : ∀ {T : List Nat}, (wipeSl sl T)[i]? = some (some w) → sl[i]? = some (some w) ∧ i ∉ T
  | [], h => ⟨h, by simp⟩
  | t :: T, h => by
    unfold wipeSl at h
    by_cases e : t = i
    · subst e
      by_cases hl : t < (wipeSl sl T).length
      · rw [List.getElem?_set_self hl] at h; cases h
      · rw [List.getElem?_eq_none_iff.mpr (by rw [List.length_set]; omega)] at h; cases h
    · rw [List.getElem?_set_ne e] at h
      obtain ⟨h1, h2⟩ := wipeSl_some h
      exact ⟨h1, fun m => by
        rcases List.mem_cons.mp m with q | q
        · exact e q.symm
        · exact h2 q⟩
section
variable {K : PySem.W.Frag} {F : Fx} {e : En} {H H' H1 : Hp} {ρ ρ' : List Addr} {L L' : LH} {D : Addr} {xs ys : List V}
theorem RelSl.wipe {sl : Sl} {σ : St} (h : RelSl K F e H ρ sl σ) (T : List Nat) : RelSl K F e H ρ (wipeSl sl T) (L2.wipe σ T) := by
  refine ⟨by rw [wipe_length, wipeSl_length, h.len], fun i w q => ?_⟩
  obtain ⟨q1, q2⟩ := wipeSl_some q
  obtain ⟨v, v1, v2⟩ := h.at_ i w q1
  exact ⟨v, by rw [wipe_out q2]; exact v1, v2⟩
theorem kp_lst (h : H D = some (.lst xs)) : Kp K H (upd H D (.lst ys)) := by
  refine ⟨fun a zs q => ?_, fun a zs q => ?_⟩
  · rcases q with q | q
    · refine .inl ?_
      rcases q with q | ⟨o, q⟩
      · exact .inl (by rw [upd_ne (ne_of q h (by intro z; cases z))]; exact q)
      · exact .inr ⟨o, by rw [upd_ne (ne_of q h (by intro z; cases z))]; exact q⟩
    · exact .inr q
  · rcases q with ⟨o, q⟩ | q
    · exact .inl ⟨o, by rw [upd_ne (ne_of q h (by intro z; cases z))]; exact q⟩
    · exact .inr q
theorem sqT_lst (h : H D = some (.lst xs)) (a : Addr) (zs : List V) (q : SqT K H a zs) : SqT K (upd H D (.lst ys)) a zs := by
  rcases q with q | q
  · refine .inl ?_
    rcases q with q | ⟨o, q⟩
    · exact .inl (by rw [upd_ne (ne_of q h (by intro z; cases z))]; exact q)
    · exact .inr ⟨o, by rw [upd_ne (ne_of q h (by intro z; cases z))]; exact q⟩
  · exact .inr q
/-- a list of another's grows -/
theorem RH.other (R : RH K F e H ρ L) (h : H D = some (.lst xs)) (hD : D ∉ ρ) : RH K F e (upd H D (.lst ys)) ρ L := by
  refine ⟨R.len, R.nd, fun n a q => ?_, R.fit⟩
  obtain ⟨o, h1, h2⟩ := R.ob n a q
  have ha : a ≠ D := fun z => hD (by rw [← z]; exact List.mem_iff_getElem?.mpr ⟨n, q⟩)
  exact ⟨o, h1, h2.stay (kp_lst h) (fun _ _ z => z) (upd_ne ha) fun d hd => by rw [upd_ne (ne_of hd h (by intro z; cases z))]; exact hd⟩
theorem Fm.patch (f : Fm ρ ρ' H H') (hn : H D = none) (h : H' D = some (.lst xs)) : Fm ρ ρ' H (upd H' D (.lst ys)) := by
  refine ⟨f.pre, f.new, fun a o q n => ?_, fun a o q => ?_, fun a zs q => ?_, fun a ob u q => ?_⟩
  · rw [upd_ne (ne_of_none q hn)]; exact f.keep a o q n
  · rw [upd_ne (ne_of_none q hn)]; exact f.there a o q
  · rcases f.tup a zs q with z | ⟨o, z⟩
    · exact .inl (by rw [upd_ne (ne_of z h (by intro z; cases z))]; exact z)
    · exact .inr ⟨o, by rw [upd_ne (ne_of z h (by intro z; cases z))]; exact z⟩
  · rw [upd_ne (ne_of_none q hn)]; exact f.frz a ob u q
theorem RH.adopt (R : RH K F e H ρ L) {p : Addr} {o : LO} (hpρ : p ∉ ρ) (hn : L.n < top) (ho : RelO K F e H (ρ ++ [p]) o p) : RH K F e H (ρ ++ [p]) (L.add o) := by
  have hpre : ∀ (n : Nat) (a : Addr), ρ[n]? = some a → (ρ ++ [p])[n]? = some a := fun n a h => by
    rw [List.getElem?_append_left (List.getElem?_eq_some_iff.mp h).1]; exact h
  refine ⟨by simp [R.len, LH.add], ?_, fun n a h => ?_, fun n ob h => ?_⟩
  · exact List.nodup_append.mpr ⟨R.nd, by simp, fun a ha b hb z => by
      rw [List.mem_singleton] at hb
      rw [z, hb] at ha
      exact hpρ ha⟩
  · rw [LH.get_add hn]
    by_cases hl : n < ρ.length
    · rw [List.getElem?_append_left hl] at h
      rw [if_neg (by rw [← R.len]; omega)]
      obtain ⟨ob, h1, h2⟩ := R.ob n a h
      exact ⟨ob, h1, h2.stay Kp.refl hpre rfl fun d hd => hd⟩
    · have hl2 : n = ρ.length := by
        have := (List.getElem?_eq_some_iff.mp h).1
        simp at this
        omega
      subst hl2
      have : p = a := by simpa using h
      subst this
      rw [if_pos R.len]
      exact ⟨o, rfl, ho⟩
  · rw [LH.get_add hn] at h
    show n < L.n + 1
    split at h
    · omega
    · have := R.fit n ob h; omega
theorem Fm.adopt (f : Fm ρ ρ' H H') (hn : H D = none) : Fm ρ (ρ' ++ [D]) H H' := by
  refine ⟨fun n a h => ?_, fun a h => ?_, f.keep, f.there, f.tup, f.frz⟩
  · have h2 := f.pre n a h
    rw [List.getElem?_append_left (List.getElem?_eq_some_iff.mp h2).1]; exact h2
  · rcases List.mem_append.mp h with q | q
    · exact f.new a q
    · rw [List.mem_singleton] at q
      rw [q]
      exact .inr hn
theorem lid_line : (lid : Nat) < sizeLine := by rw [sizeLine_eq]; decide
end
theorem tz_lc {K : PySem.W.Frag} {F : Fx} {T : List Nat} {mi : Ei} {g : Eg} {t : Et} {m : Ex} {σ : St} {H : Hp} {Q : VK} (h : TZ K F (vLc mi T g t m) σ H Q) : tLc (IZ K F mi) (GZ K F T g) (TTZ K F t) (TZ K F m) T σ H Q := by
  obtain ⟨e, ρ, sl, L, w, L', he, hs, hh, hm, k⟩ := h
  unfold vLc at hm
  split at hm
  · cases hm
  rename_i src L1 h1
  split at hm
  · rename_i ws Le h2
    obtain ⟨g1, g2, rfl, rfl⟩ := fLst_spec hm
    refine ⟨e, ρ, sl, L, _, _, he, hs, hh, h1, fun ρ1 H1 J f1 r1 ok D hD => ?_⟩
    have fD : Fm ρ1 ρ1 H1 (upd H1 D (.lst [])) := fm_new hD
    have hDρ : D ∉ ρ1 := fun z => by obtain ⟨_, q, _⟩ := r1.mut z; rw [hD] at q; cases q
    have sw := (f1.relSl hs).wipe T
    refine ⟨fun i n H2 => ∃ ρ2 L2 acc accV, Fm ρ1 ρ2 H1 H2 ∧ RH K F e H2 ρ2 L2 ∧ H2 D = some (.lst accV) ∧ D ∉ ρ2 ∧ RelWs K F e H2 ρ2 acc.reverse accV ∧ acc.length ≤ i ∧ i + n = lid ∧ lcL src g t m (wipeSl sl T) n i acc L2 = some (ws, Le),
      ⟨lid, ρ1, L1, [], [], fD, r1.new hD, upd_same, hDρ, .nil, Nat.le_refl _, Nat.zero_add _, h2⟩, ?_⟩
    rintro i n H2 ⟨ρ2, L2, acc, accV, f2, r2, hD2, nD2, ra, hl, hi, hr⟩
    cases n with
    | zero => cases hr
    | succ n =>
      unfold lcL at hr
      split at hr
      · cases hr
      · rename_i hx
        cases hr
        refine .inl ⟨ok.stop ρ2 H2 _ i f2 r2 hx, ?_⟩
        have f3 : Fm ρ1 (ρ2 ++ [D]) H1 H2 := f2.adopt hD
        have hpre : ∀ (n : Nat) (a : Addr), ρ2[n]? = some a → (ρ2 ++ [D])[n]? = some a := fun n a h => by
          rw [List.getElem?_append_left (List.getElem?_eq_some_iff.mp h).1]; exact h
        refine k (ρ2 ++ [D]) H2 (.ref D) (f1.trans f3) (r2.adopt nD2 g2 ⟨accV, hD2, RelWs.mono Kp.refl hpre _ _ ra⟩) ?_
        unfold RelW
        exact ⟨D, rfl, by rw [← r2.len]; simp⟩
      rename_i w hx
      obtain ⟨j1, j2⟩ := ok.go ρ2 H2 L2 i w f2 r2 hx
      refine .inr ⟨j1, fun H' => ∃ ρ2 L2 acc accV, Fm ρ1 ρ2 H1 H' ∧ RH K F e H' ρ2 L2 ∧ H' D = some (.lst accV) ∧ D ∉ ρ2 ∧ RelWs K F e H' ρ2 acc.reverse accV ∧ acc.length ≤ i + 1 ∧ (i + 1) + n = lid ∧ lcL src g t m (wipeSl sl T) n (i + 1) acc L2 = some (ws, Le),
        fun H' q => ⟨n, by omega, q⟩, fun x H3 hy => ?_⟩
      obtain ⟨f3, r3, w3⟩ := j2 x H3 hy
      have hD3 := f3.keep D _ hD2 nD2
      split at hr
      · cases hr
      rename_i sl4 L4 hg4
      refine ⟨e, ρ2, wipeSl sl T, L2, w, _, _, he, (f2.trans f3).relSl sw, r3, w3, hg4, fun ρ4 H4 σ4 f4 r4 s4 e4 => ⟨e4.trans (wipe_wipe σ T), ?_⟩⟩
      have nD4 : D ∉ ρ4 := fun z => by
        rcases f4.new D z with q | q
        · exact nD2 q
        · rw [hD3] at q; cases q
      have hD4 := f4.keep D _ hD3 nD2
      split at hr
      · cases hr
      · rename_i L5 ht
        refine ⟨e, ρ4, sl4, L4, _, _, he, s4, r4, ht, fun ρ5 H5 f5 r5 => ?_⟩
        refine iteF ?_
        have nD5 : D ∉ ρ5 := fun z => by
          rcases f5.new D z with q | q
          · exact nD4 q
          · rw [hD4] at q; cases q
        have fA := ((f3.trans f4).trans f5)
        exact ⟨ρ5, L5, acc, accV, f2.trans fA, r5, f5.keep D _ hD4 nD4, nD5, fA.rels ra, by omega, by omega, hr⟩
      · rename_i L5 ht
        refine ⟨e, ρ4, sl4, L4, _, _, he, s4, r4, ht, fun ρ5 H5 f5 r5 => ?_⟩
        refine iteT ?_
        have nD5 : D ∉ ρ5 := fun z => by
          rcases f5.new D z with q | q
          · exact nD4 q
          · rw [hD4] at q; cases q
        have hD5 := f5.keep D _ hD4 nD4
        split at hr
        · cases hr
        rename_i y L6 hy6
        refine ⟨e, ρ5, sl4, L5, _, _, he, f5.relSl s4, r5, hy6, fun ρ6 H6 v6 f6 r6 w6 => ?_⟩
        have nD6 : D ∉ ρ6 := fun z => by
          rcases f6.new D z with q | q
          · exact nD5 q
          · rw [hD5] at q; cases q
        have hD6 := f6.keep D _ hD5 nD5
        have fA := (((f3.trans f4).trans f5).trans f6)
        have ra6 := fA.rels ra
        have hlen : accV.length = acc.length := by rw [ra.length, List.length_reverse]
        refine ⟨accV, hD6, by rw [hlen]; exact Nat.lt_of_le_of_lt (show acc.length ≤ lid by omega) lid_line, ρ6, L6, y :: acc, accV ++ [v6], (f2.trans fA).patch hD hD6, r6.other hD6 nD6, upd_same, nD6, ?_, by simp; omega, by omega, hr⟩
        rw [List.reverse_cons]
        exact RelWs.mono (kp_lst hD6) (fun _ _ z => z) _ _ (ra6.append (.cons w6 .nil))
  · cases hm
section
variable {X : Cx} {F : Fx} {T : List Nat} {mi : Ei} {g : Eg} {t : Et} {m : Ex} {elt tg iter : Expr} {ifs : List Expr} {scope : Scope} {own : List (Str × Nat)} {pos spos py : Pos}
theorem zts_nil : PTs X [] (TTZ X.K F tYesM) := ⟨fun pins s σ H Q I h => by
  obtain ⟨e, ρ, sl, L, b, L', he, hs, hh, hm, k⟩ := h
  cases hm
  exact pts_nil.run pins s σ H Q I (k ρ H .refl hh)⟩
theorem zts_one {c : Expr} (h : PT X c (TTZ X.K F t)) : PTs X [c] (TTZ X.K F t) := pts_one h
theorem ze_lc (hc : X.calm = true) (hN : X.N.Nodup) (hi : PI X tg iter (IZ X.K F mi)) (ok : BlkOk X.N X.env.scope scope own) (hT : own.map (·.2) = T)
    (hg : ∀ (s : Shared) (H : Hp) (C : Addr) (cl : List (Str × Addr)) (fp : List Addr), PG (X.blk s H scope (compEnvC scope cl C X.env) fp) tg (GZ X.K F T g)) (ht : ∀ (s : Shared) (H : Hp) (C : Addr) (cl : List (Str × Addr)) (fp : List Addr), PTs (X.blk s H scope (compEnvC scope cl C X.env) fp) ifs (TTZ X.K F t))
    (hm : ∀ (s : Shared) (H : Hp) (C : Addr) (cl : List (Str × Addr)) (fp : List Addr), PE (X.blk s H scope (compEnvC scope cl C X.env) fp) elt (TZ X.K F m)) (hs : ∀ x, foldedSetIterable iter X.env x = pure x := by intro _; rfl) :
    PE X (.ListComp elt [⟨tg, iter, ifs, 0⟩] scope pos) (TZ X.K F (vLc mi T g t m)) := by
  subst hT
  exact PE.imp (pe_lc hc hN hi ok hg ht hm hs) fun σ H Q h => tz_lc h
theorem zs_setLc {i : Nat} {y : Str} (hc : X.calm = true) (hN : X.N.Nodup) (hy : X.N[i]? = some y) (hyl : X.env.scope.names.lookup y = some .local)
    (hsw : swapsWith (.ListComp elt [⟨tg, iter, ifs, 0⟩] scope pos) (some (.Name y py)) spos.line X.env = pure true) (hi : PI X tg iter (IZ X.K F mi)) (ok : BlkOk X.N X.env.scope scope own) (hT : own.map (·.2) = T)
    (hg : ∀ (s : Shared) (H : Hp) (C : Addr) (cl : List (Str × Addr)) (fp : List Addr), PG (X.blk s H scope (compEnvC scope cl C X.env) fp) tg (GZ X.K F T g)) (ht : ∀ (s : Shared) (H : Hp) (C : Addr) (cl : List (Str × Addr)) (fp : List Addr), PTs (X.blk s H scope (compEnvC scope cl C X.env) fp) ifs (TTZ X.K F t))
    (hm : ∀ (s : Shared) (H : Hp) (C : Addr) (cl : List (Str × Addr)) (fp : List Addr), PE (X.blk s H scope (compEnvC scope cl C X.env) fp) elt (TZ X.K F m)) (hs : ∀ x, foldedSetIterable iter X.env x = pure x := by intro _; rfl) :
    PS X (.Assign [.Name y py] (.ListComp elt [⟨tg, iter, ifs, 0⟩] scope pos) spos) (SZ X.K F (sSet i (vLc mi T g t m))) := by
  subst hT
  refine PS.imp (ps_setLc hc hN hy hyl hsw hi ok hg ht hm hs) ?_
  rintro D σ H ⟨e, ρ, sl, L, o, sl', L', he, hs, hh, hm, k⟩
  unfold sSet at hm
  split at hm
  · rename_i w L1 h1
    cases hm
    exact tz_lc ⟨e, ρ, sl, L, _, _, he, hs, hh, h1, fun ρ1 H1 v f1 r1 w1 => k ρ1 H1 _ f1 r1 ((f1.relSl hs).set i w1)⟩
  · cases hm
end

/-! ### defs -/
def spZ (K : PySem.W.Frag) (F : Fx) (n : Nat) (m : List W → LH → Option (W × LH)) : Sp := fun vs H Q _ => ∃ e ρ L ws w L', En.Ok F e ∧ RH K F e H ρ L ∧ RelWs K F e H ρ ws vs ∧ ws.length = n ∧ m ws L = some (w, L') ∧
  ∀ ρ' H' v, Fm ρ ρ' H H' → RH K F e H' ρ' L' → RelW K F e H' ρ' w v → Q v H'
/-- a def with n parameters and r further names -/
def fnZ (r : Nat) (b : Sm) : List W → LH → Option (W × LH) := fun ws L => match b (ws.map some ++ List.replicate r none) L with
  | some (.nx, _, L') => some (.non, L')
  | some (.rt w, _, L') => some (w, L')
  | _ => none
theorem relSl_start {K : PySem.W.Frag} {F : Fx} {e : En} {H : Hp} {ρ : List Addr} {ws : List W} {vs : List V} {r : Nat} {N : List Str} (h : RelWs K F e H ρ ws vs) (hN : N.length = ws.length + r) : RelSl K F e H ρ (ws.map some ++ List.replicate r none) (start N vs) := by
  unfold L2.start
  have hl := h.length
  refine ⟨by simp; omega, fun i w q => ?_⟩
  have hi : i < ws.length := by
    rcases Nat.lt_or_ge i ws.length with z | z
    · exact z
    · rw [List.getElem?_append_right (by simpa using z)] at q
      rw [List.getElem?_replicate] at q
      split at q <;> cases q
  rw [List.getElem?_append_left (by simpa using hi), List.getElem?_map] at q
  cases q1 : ws[i]? with
  | none => rw [q1] at q; cases q
  | some w' =>
    rw [q1] at q
    have : w' = w := Option.some.inj (Option.some.inj q)
    subst this
    obtain ⟨v, v1, v2⟩ := h.get q1
    exact ⟨v, by rw [List.getElem?_append_left (by simp; omega), List.getElem?_map, v1]; rfl, v2⟩
section
variable {P : Program} {w : World} {K : PySem.W.Frag} {mg : Str → Option Value} {base : Heap} {F : Fx}
theorem ok_z {x qual : Str} {st : Stmt} {f : Addr} {fd : FuncData} {N ps : List Str} {k : Nat} {b : Sm} {r : Nat} (Fn : Fun K x qual st f fd) (S : FnScope N ps (defScope st)) (hN : N.length = ps.length + r := by rfl)
    (hbody : ∀ (cdv : Value) (A : Around) (outer : List Env) (s : Shared) (H : Hp) (E : XK), Room k (A.deeper (envOfC qual (defScope st) s.heap.objs.size f cdv)) →
      PSs (cxOf CX0 P w K mg base N qual (defScope st) f cdv A outer s H E).nox (defBody st) (SZ K F b)) : FnOk P w K mg base CX0 (k + 1) f fd ps (spZ K F ps.length (fnZ r b)) := by
  refine Fn.ok S (fun vs H Q E h => ?_) (fun cdv A outer s H vs Q E hr h => ⟨_, hbody cdv A outer s H E hr, ?_⟩)
  · obtain ⟨e, ρ, L, ws, w, L', he, hh, hw, hn, hm, k⟩ := h
    rw [hw.length, hn]
  · obtain ⟨e, ρ, L, ws, w, L', he, hh, hw, hn, hm, k⟩ := h
    unfold fnZ at hm
    split at hm
    · rename_i sl1 L1 h1
      cases hm
      exact ⟨e, ρ, _, L, _, _, _, he, relSl_start hw (by rw [hN, hn]), hh, h1, fun ρ1 H1 σ1 f1 r1 s1 => k ρ1 H1 .non f1 r1 rfl⟩
    · rename_i w1 sl1 L1 h1
      cases hm
      exact ⟨e, ρ, _, L, _, _, _, he, relSl_start hw (by rw [hN, hn]), hh, h1, fun ρ1 H1 σ1 f1 r1 s1 v hv => k ρ1 H1 v f1 r1 hv⟩
    · cases hm
end
section
variable {X : Cx} {F : Fx} {k n : Nat} {f : Addr} {fd : FuncData} {ps : List Str} {m : List W → LH → Option (W × LH)} {x : Str} {p pos : Pos} {a : Expr} {es : List Expr} {ma : Ex} {mr : Ea}
/-- a call's arity is checked by the mirror too -/
def fN (n : Nat) (m : List W → LH → Option (W × LH)) : List W → LH → Option (W × LH) := fun ws L => cond (Nat.beq ws.length n) (m ws L) none
theorem tz_call {K : PySem.W.Frag} {σ : St} {H : Hp} {Q : VK} {E : XK} (h : TZ K F (mApp (fN n m) mr) σ H Q) : tCall (spZ K F n m) [] E (TAZ K F mr) σ H Q := by
  obtain ⟨e, ρ, sl, L, w, L', he, hs, hh, hm, k⟩ := h
  unfold mApp at hm
  split at hm
  · cases hm
  rename_i ws L1 h1
  unfold fN at hm
  cases q : Nat.beq ws.length n with
  | false => rw [q] at hm; cases hm
  | true =>
    rw [q] at hm
    refine ⟨e, ρ, sl, L, _, _, he, hs, hh, h1, fun ρ1 H1 vs f1 r1 w1 => ?_⟩
    show spZ K F n m (vs ++ []) H1 Q E
    rw [List.append_nil]
    exact ⟨e, ρ1, L1, ws, w, L', he, r1, w1, Nat.eq_of_beq_eq_true q, hm, fun ρ2 H2 v f2 r2 w2 => k ρ2 H2 v (f1.trans f2) r2 w2⟩
theorem ze_call (G : FnOk X.prog X.w X.K X.mg X.base CX0 k f fd ps (spZ X.K F n m)) (hr : Room k X.A) (hg : Gl X x) (hm : X.mg x = some (.ref f)) (hk : PySem.W.keepIn X.K (.ref f) = true) (hb : Binds X.K fd ps []) (ha : PA X (a :: es) (TAZ X.K F mr))
    (hdb : (x == ("__debug__" : Str)) = false := by decide) (he : starEach (a :: es) X.env = (false, eval a X.env) :: starEach es X.env := by rfl) (hpl : (backTo pos (starEach es X.env)).any (·.1) = false := by rfl) :
    PE X (.Call (.Name x p) (a :: es) [] pos) (TZ X.K F (mApp (fN n m) mr)) :=
  PE.imp (pe_call G hr hg hm hk hb .nil pass0 ha hdb he hpl) fun σ H Q h => tz_call h
theorem ze_call0 (G : FnOk X.prog X.w X.K X.mg X.base CX0 k f fd ps (spZ X.K F n m)) (hr : Room k X.A) (hg : Gl X x) (hm : X.mg x = some (.ref f)) (hk : PySem.W.keepIn X.K (.ref f) = true) (hb : Binds X.K fd ps [])
    (hdb : (x == ("__debug__" : Str)) = false := by decide) : PE X (.Call (.Name x p) [] [] pos) (TZ X.K F (mApp (fN n m) mNil)) := by
  refine PE.imp (pe_call0 G hr hg hm hk hb .nil pass0 hdb) fun σ H Q h => ?_
  have q := tz_call (E := fun _ _ _ => False) h
  obtain ⟨e, ρ, sl, L, w, L', he, hs, hh, hm, k⟩ := q
  cases hm
  exact k ρ H [] .refl hh .nil
end
end Z

set_option Elab.async false
set_option linter.all false
set_option maxRecDepth 100000
namespace Z
open PySem PySem.Spec PyProof.Rows L2

/-! ### data at any depth: == and != -/
def isDat (L : LH) : Nat → W → Bool
  | 0, .tup _ => false
  | 0, .ref _ => false
  | _, .fz _ => false
  | n + 1, .tup xs => xs.all (isDat L n)
  | n + 1, .ref i => match L.get i with
    | some (.lst xs) => xs.all (isDat L n)
    | _ => false
  | _, _ => true
def pyW (F : Fx) (e : En) (L : LH) : Nat → W → PyData
  | _, .non => .none
  | _, .bl b => .bool b
  | _, .int i => .int i
  | _, .ia k => .int ((e.nums[k]?).getD 0)
  | _, .str k => .str ((sOf F e k).getD ⟨#[]⟩)
  | n + 1, .tup xs => .tuple (xs.map (pyW F e L n))
  | n + 1, .ref i => match L.get i with
    | some (.lst xs) => .list (xs.map (pyW F e L n))
    | _ => .none
  | 0, .tup _ => .none
  | 0, .ref _ => .none
  | _, .fz _ => .none
/-- two lists, item by item -/
def eqL (f : W → W → Option Bool) : List W → List W → Option Bool
  | [], [] => some true
  | [], _ :: _ => some false
  | _ :: _, [] => some false
  | x :: xs, y :: ys => match f x y with
    | some true => eqL f xs ys
    | some false => some false
    | none => none
def eqW (L : LH) : Nat → W → W → Option Bool
  | n, x, y => match x, y with
    | .non, .non => some true
    | .bl a, .bl b => some (a == b)
    | .bl a, .int j => some ((if a then 1 else 0) == j)
    | .int i, .bl b => some (i == (if b then 1 else 0))
    | .int i, .int j => some (i == j)
    | .ia i, .ia j => cond (Nat.beq i j) (some true) none
    | .ia _, .int j => cond (decide (j < 2)) (some false) none
    | .int j, .ia _ => cond (decide (j < 2)) (some false) none
    | .ia _, .bl _ => some false
    | .bl _, .ia _ => some false
    | .str i, .str j => cond (Nat.blt i 1000 == Nat.blt j 1000) (some (Nat.beq i j)) none
    | .tup xs, .tup ys => match n with
      | 0 => none
      | n + 1 => eqL (eqW L n) xs ys
    | .ref i, .ref j => match n with
      | 0 => none
      | n + 1 => match L.get i, L.get j with
        | some (.lst xs), some (.lst ys) => eqL (eqW L n) xs ys
        | _, _ => none
    | _, _ => some false

section
variable {K : PySem.W.Frag} {F : Fx} {e : En} {H : Hp} {ρ : List Addr} {L : LH}
theorem sOf_strOk (he : En.Ok F e) {k : Nat} {x : Str} (h : sOf F e k = some x) : PyData.strOk x = true := by
  unfold sOf at h
  split at h
  · exact he.lok x (List.mem_of_getElem? h)
  · exact he.nok x (List.mem_of_getElem? h)
theorem depth_all {f : W → PyData} {n : Nat} : ∀ {xs : List W}, (∀ x ∈ xs, (f x).depth ≤ n) → PyData.depthAll (xs.map f) ≤ n
  | [], _ => by simp [PyData.depthAll]
  | x :: xs, h => by
    simp only [List.map_cons, PyData.depthAll]
    have h1 := h x List.mem_cons_self
    have h2 := depth_all (xs := xs) fun y hy => h y (List.mem_cons_of_mem _ hy)
    omega
theorem lay_all {f : W → PyData} : ∀ {xs : List W}, (∀ x ∈ xs, (f x).canLay0 = true) → PyData.canLayAll0 (xs.map f) = true
  | [], _ => by simp [PyData.canLayAll0]
  | x :: xs, h => by
    simp only [List.map_cons, PyData.canLayAll0, Bool.and_eq_true]
    exact ⟨h x List.mem_cons_self, lay_all fun y hy => h y (List.mem_cons_of_mem _ hy)⟩
theorem dp_all {f : W → PyData} : ∀ {xs : List W} {vs : List V}, (∀ x ∈ xs, ∀ v, RelW K F e H ρ x v → Dp K H v (f x)) → RelWs K F e H ρ xs vs → DpAll K H vs (xs.map f)
  | [], vs, _, r => by unfold RelWs at r; rw [r]; exact .nil
  | x :: xs, vs, h, r => by
    obtain ⟨v, vr, rfl, r1, r2⟩ := r.uncons
    exact .cons (h x List.mem_cons_self v r1) (dp_all (fun y hy => h y (List.mem_cons_of_mem _ hy)) r2)
theorem dat_ok (he : En.Ok F e) (R : RH K F e H ρ L) : ∀ (n : Nat) (w : W), isDat L n w = true → (pyW F e L n w).depth ≤ n ∧ (∀ v, RelW K F e H ρ w v → Dp K H v (pyW F e L n w) ∧ (pyW F e L n w).canLay0 = true)
  | n, .non, _ => ⟨by cases n <;> simp [pyW, PyData.depth], fun v r => by cases r; cases n <;> exact ⟨.non, rfl⟩⟩
  | n, .bl b, _ => ⟨by cases n <;> simp [pyW, PyData.depth], fun v r => by cases r; cases n <;> exact ⟨.bl b, rfl⟩⟩
  | n, .int i, _ => ⟨by cases n <;> simp [pyW, PyData.depth], fun v r => by cases r; cases n <;> exact ⟨.int i, rfl⟩⟩
  | n, .ia k, _ => ⟨by cases n <;> simp [pyW, PyData.depth], fun v r => by
      obtain ⟨i, h1, rfl⟩ := r
      cases n <;> (simp only [pyW, h1, Option.getD_some]; exact ⟨.int i, rfl⟩)⟩
  | n, .str k, _ => ⟨by cases n <;> simp [pyW, PyData.depth], fun v r => by
      obtain ⟨x, h1, rfl⟩ := r
      have h2 := sOf_strOk he h1
      cases n <;> (simp only [pyW, h1, Option.getD_some]; exact ⟨.str x, by simpa [PyData.canLay0] using h2⟩)⟩
  | 0, .fz xs, h => by simp [isDat] at h
  | n + 1, .fz xs, h => by simp [isDat] at h
  | 0, .tup xs, h => by simp [isDat] at h
  | 0, .ref i, h => by simp [isDat] at h
  | n + 1, .tup xs, h => by
    simp only [isDat, List.all_eq_true] at h
    have ih := fun x hx => dat_ok he R n x (h x hx)
    refine ⟨?_, fun v r => ?_⟩
    · simp only [pyW, PyData.depth]
      have := depth_all (n := n) fun x hx => (ih x hx).1
      omega
    · unfold RelW at r
      obtain ⟨a, vs, rfl, s, r⟩ := r
      simp only [pyW]
      exact ⟨.tup s (dp_all (fun x hx v hv => ((ih x hx).2 v hv).1) r), by
        rw [PyData.canLay0]
        refine lay_all fun x hx => ?_
        obtain ⟨i, hi⟩ := List.mem_iff_getElem?.mp hx
        obtain ⟨v, _, hv⟩ := r.get hi
        exact ((ih x hx).2 v hv).2⟩
  | n + 1, .ref i, h => by
    simp only [isDat] at h
    split at h
    · rename_i xs hl
      simp only [List.all_eq_true] at h
      have ih := fun x hx => dat_ok he R n x (h x hx)
      refine ⟨?_, fun v r => ?_⟩
      · simp only [pyW, hl, PyData.depth]
        have := depth_all (n := n) fun x hx => (ih x hx).1
        omega
      · unfold RelW at r
        obtain ⟨a, rfl, ha⟩ := r
        obtain ⟨a', vs, h1, h2, h3⟩ := R.lst hl
        rw [ha] at h1; cases h1
        simp only [pyW, hl]
        exact ⟨.lst (SqL.of h2) (dp_all (fun x hx v hv => ((ih x hx).2 v hv).1) h3), by
          rw [PyData.canLay0]
          refine lay_all fun x hx => ?_
          obtain ⟨i, hi⟩ := List.mem_iff_getElem?.mp hx
          obtain ⟨v, _, hv⟩ := h3.get hi
          exact ((ih x hx).2 v hv).2⟩
    · cases h
theorem eqL_ok {f : W → W → Option Bool} {g h : W → PyData} : ∀ {xs ys : List W} {b : Bool}, (∀ x ∈ xs, ∀ y ∈ ys, ∀ c, f x y = some c → PyData.eqv (g x) (h y) = c) → eqL f xs ys = some b → PyData.eqvAll (xs.map g) (ys.map h) = b
  | [], [], b, _, q => by cases q; rfl
  | [], y :: ys, b, _, q => by cases q; rfl
  | x :: xs, [], b, _, q => by cases q; rfl
  | x :: xs, y :: ys, b, k, q => by
    unfold eqL at q
    simp only [List.map_cons, PyData.eqvAll]
    split at q
    · rename_i h1
      rw [k x List.mem_cons_self y List.mem_cons_self true h1, Bool.true_and]
      exact eqL_ok (fun x hx y hy => k x (List.mem_cons_of_mem _ hx) y (List.mem_cons_of_mem _ hy)) q
    · rename_i h1
      cases q
      rw [k x List.mem_cons_self y List.mem_cons_self false h1, Bool.false_and]
    · cases q
end
theorem nodup_get {α : Type} {l : List α} (h : l.Nodup) {i j : Nat} {x : α} (a : l[i]? = some x) (b : l[j]? = some x) : i = j := by
  obtain ⟨q1, e1⟩ := List.getElem?_eq_some_iff.mp a
  obtain ⟨q2, e2⟩ := List.getElem?_eq_some_iff.mp b
  exact (List.getElem_inj h).mp (e1.trans e2.symm)
theorem names_lt {l : List Str} (h : l.Pairwise fun x y => x.cps.toList < y.cps.toList) {i j : Nat} {x y : Str} (a : l[i]? = some x) (b : l[j]? = some y) (hij : i < j) : x.cps.toList < y.cps.toList := by
  obtain ⟨q1, rfl⟩ := List.getElem?_eq_some_iff.mp a
  obtain ⟨q2, rfl⟩ := List.getElem?_eq_some_iff.mp b
  exact List.pairwise_iff_getElem.mp h i j q1 q2 hij
theorem names_inj {l : List Str} (h : l.Pairwise fun x y => x.cps.toList < y.cps.toList) {i j : Nat} {x : Str} (a : l[i]? = some x) (b : l[j]? = some x) : i = j := by
  rcases Nat.lt_trichotomy i j with q | q | q
  · exact absurd (names_lt h a b q) (List.lt_irrefl _)
  · exact q
  · exact absurd (names_lt h b a q) (List.lt_irrefl _)
theorem str_eq {F : Fx} {e : En} (he : En.Ok F e) {i j : Nat} {x y : Str} (h1 : sOf F e i = some x) (h2 : sOf F e j = some y) (c : (Nat.blt i 1000 == Nat.blt j 1000) = true) : (x == y) = Nat.beq i j := by
  have blt_iff : ∀ m : Nat, Nat.blt m 1000 = decide (m < 1000) := fun m => by
    cases h : Nat.blt m 1000 with
    | true => exact (decide_eq_true (Nat.le_of_ble_eq_true h)).symm
    | false =>
      refine (decide_eq_false fun z => ?_).symm
      have : Nat.blt m 1000 = true := Nat.ble_eq_true_of_le z
      rw [h] at this; cases this
  have hb : (Nat.beq i j) = decide (i = j) := by
    cases q : Nat.beq i j with
    | true => exact (decide_eq_true (Nat.eq_of_beq_eq_true q)).symm
    | false => exact (decide_eq_false (Nat.ne_of_beq_eq_false q)).symm
  rw [hb]
  by_cases hij : i = j
  · subst hij
    rw [h1] at h2; cases h2
    simp
  · rw [decide_eq_false hij]
    rw [beq_eq_false_iff_ne]
    intro z
    subst z
    rw [blt_iff, blt_iff] at c
    unfold sOf at h1 h2
    by_cases hi : i < 1000
    · by_cases hj : j < 1000
      · rw [if_pos hi] at h1
        rw [if_pos hj] at h2
        exact hij (nodup_get he.lits h1 h2)
      · rw [decide_eq_true hi, decide_eq_false hj] at c; cases c
    · by_cases hj : j < 1000
      · rw [decide_eq_false hi, decide_eq_true hj] at c; cases c
      · rw [if_neg hi] at h1
        rw [if_neg hj] at h2
        have := names_inj he.names h1 h2
        omega
end Z

set_option Elab.async false
set_option linter.all false
set_option maxRecDepth 100000
namespace Z
open PySem PySem.Spec PyProof.Rows L2
theorem cond_some {α : Type} {c : Bool} {a b : α} (h : (bif c then some a else none) = some b) : c = true ∧ a = b := by
  cases c with
  | true => exact ⟨rfl, Option.some.inj h⟩
  | false => cases h
theorem cond_opt {α : Type} {c : Bool} {a : Option α} {b : α} (h : (bif c then a else none) = some b) : c = true ∧ a = some b := by
  cases c with
  | true => exact ⟨rfl, h⟩
  | false => cases h
section
variable {K : PySem.W.Frag} {F : Fx} {e : En} {H : Hp} {ρ : List Addr} {L : LH}
/-- scalars -/
def isSc : W → Bool
  | .tup _ => false
  | .ref _ => false
  | .fz _ => false
  | _ => true
theorem eqW_sc (he : En.Ok F e) {n : Nat} {x y : W} {b : Bool} {vx vy : V} (sx : isSc x = true) (sy : isSc y = true) (rx : RelW K F e H ρ x vx) (ry : RelW K F e H ρ y vy) (h : eqW L n x y = some b) : PyData.eqv (pyW F e L n x) (pyW F e L n y) = b := by
  cases x with
  | tup _ => cases sx
  | ref _ => cases sx
  | fz _ => cases sx
  | non => cases y <;> first | (cases sy; done) | (cases n <;> simp [eqW] at h <;> simp [pyW, PyData.eqv, h])
  | bl a => cases y <;> first | (cases sy; done) | (cases n <;> simp [eqW] at h <;> simp [pyW, PyData.eqv, h]; done) | (
      obtain ⟨i, h1, rfl⟩ := ry
      have := he.nums i (List.mem_of_getElem? h1)
      cases n <;> simp [eqW] at h <;> simp only [pyW, PyData.eqv, h1, Option.getD_some] <;> (subst h; rw [beq_eq_false_iff_ne]; split <;> omega))
  | int i => cases y <;> first | (cases sy; done) | (cases n <;> simp [eqW] at h <;> simp [pyW, PyData.eqv, h]; done) | (
      obtain ⟨j, h1, rfl⟩ := ry
      have := he.nums j (List.mem_of_getElem? h1)
      cases n <;> simp only [eqW] at h <;> (
        obtain ⟨q, rfl⟩ := cond_some h
        simp only [pyW, PyData.eqv, h1, Option.getD_some]
        rw [decide_eq_true_eq] at q
        rw [beq_eq_false_iff_ne]
        omega))
  | ia i =>
    obtain ⟨k, h1, rfl⟩ := rx
    have := he.nums k (List.mem_of_getElem? h1)
    cases y with
    | tup _ => cases sy
    | ref _ => cases sy
    | fz _ => cases sy
    | non => cases n <;> simp [eqW] at h <;> simp [pyW, PyData.eqv, h]
    | str _ => cases n <;> simp [eqW] at h <;> simp [pyW, PyData.eqv, h]
    | bl a => cases n <;> simp only [eqW] at h <;> (cases h; simp only [pyW, PyData.eqv, h1, Option.getD_some]; rw [beq_eq_false_iff_ne]; split <;> omega)
    | int j => cases n <;> simp only [eqW] at h <;> (
        obtain ⟨q, rfl⟩ := cond_some h
        simp only [pyW, PyData.eqv, h1, Option.getD_some]
        rw [decide_eq_true_eq] at q
        rw [beq_eq_false_iff_ne]
        omega)
    | ia j => cases n <;> simp only [eqW] at h <;> (
        obtain ⟨q, rfl⟩ := cond_some h
        have := Nat.eq_of_beq_eq_true q
        subst this
        simp [pyW, PyData.eqv])
  | str i =>
    obtain ⟨x, h1, rfl⟩ := rx
    cases y with
    | tup _ => cases sy
    | ref _ => cases sy
    | fz _ => cases sy
    | non => cases n <;> simp [eqW] at h <;> simp [pyW, PyData.eqv, h]
    | bl _ => cases n <;> simp [eqW] at h <;> simp [pyW, PyData.eqv, h]
    | int _ => cases n <;> simp [eqW] at h <;> simp [pyW, PyData.eqv, h]
    | ia _ => cases n <;> simp [eqW] at h <;> simp [pyW, PyData.eqv, h]
    | str j =>
      obtain ⟨y, h2, rfl⟩ := ry
      cases n <;> simp only [eqW] at h <;> (
        obtain ⟨q, rfl⟩ := cond_some h
        simp only [pyW, PyData.eqv, h1, h2, Option.getD_some]
        exact str_eq he h1 h2 q)
theorem eqW_mix {n : Nat} {x y : W} {b : Bool} (hk : isSc x = !isSc y) (dx : isDat L n x = true) (dy : isDat L n y = true) (h : eqW L n x y = some b) : PyData.eqv (pyW F e L n x) (pyW F e L n y) = b := by
  cases n with
  | zero => cases x <;> cases y <;> first | (cases hk; done) | (simp [isDat] at dx; done) | (simp [isDat] at dy; done)
  | succ n =>
    cases x <;> cases y <;> first | (cases hk; done) | (exfalso; simp [isDat] at dx; done) | (exfalso; simp [isDat] at dy; done) | (simp [eqW] at h; subst h; simp [pyW, PyData.eqv]; done) | (
      simp [eqW] at h; subst h
      first
      | (simp only [isDat] at dx; split at dx <;> first | (rename_i hl; simp [pyW, PyData.eqv, hl]; done) | (cases dx; done))
      | (simp only [isDat] at dy; split at dy <;> first | (rename_i hl; simp [pyW, PyData.eqv, hl]; done) | (cases dy; done)))
theorem eqW_ok (he : En.Ok F e) (R : RH K F e H ρ L) : ∀ (n : Nat) (x y : W) (b : Bool) (vx vy : V), isDat L n x = true → isDat L n y = true → RelW K F e H ρ x vx → RelW K F e H ρ y vy → eqW L n x y = some b → PyData.eqv (pyW F e L n x) (pyW F e L n y) = b := by
  intro n
  induction n with
  | zero =>
    intro x y b vx vy dx dy rx ry h
    have sx : isSc x = true := by cases x <;> first | rfl | (simp [isDat] at dx; done)
    have sy : isSc y = true := by cases y <;> first | rfl | (simp [isDat] at dy; done)
    exact eqW_sc he sx sy rx ry h
  | succ n ih =>
    intro x y b vx vy dx dy rx ry h
    by_cases sx : isSc x = true
    · by_cases sy : isSc y = true
      · exact eqW_sc he sx sy rx ry h
      · exact eqW_mix (by rw [sx]; simpa using sy) dx dy h
    · by_cases sy : isSc y = true
      · exact eqW_mix (by rw [sy]; simpa using sx) dx dy h
      · have go : ∀ {xs ys : List W} {us vs : List V} {c : Bool}, xs.all (isDat L n) = true → ys.all (isDat L n) = true → RelWs K F e H ρ xs us → RelWs K F e H ρ ys vs → eqL (eqW L n) xs ys = some c → PyData.eqvAll (xs.map (pyW F e L n)) (ys.map (pyW F e L n)) = c := by
          intro xs ys us vs c h1 h2 r1 r2 h3
          rw [List.all_eq_true] at h1 h2
          refine eqL_ok (fun x hx y hy d hd => ?_) h3
          obtain ⟨i, hi⟩ := List.mem_iff_getElem?.mp hx
          obtain ⟨j, hj⟩ := List.mem_iff_getElem?.mp hy
          obtain ⟨v, _, hv⟩ := r1.get hi
          obtain ⟨u, _, hu⟩ := r2.get hj
          exact ih x y d v u (h1 x hx) (h2 y hy) hv hu hd
        cases x with
        | tup xs =>
          unfold RelW at rx
          obtain ⟨a, us, rfl, s1, r1⟩ := rx
          simp only [isDat] at dx
          cases y with
          | tup ys =>
            unfold RelW at ry
            obtain ⟨a', vs, rfl, s2, r2⟩ := ry
            simp only [isDat] at dy
            simp only [eqW] at h
            simp only [pyW, PyData.eqv]
            exact go dx dy r1 r2 h
          | ref j =>
            simp only [isDat] at dy
            split at dy
            · rename_i ys hl
              simp only [eqW] at h
              cases h
              simp [pyW, PyData.eqv, hl]
            · cases dy
          | non => exact absurd rfl sy
          | bl _ => exact absurd rfl sy
          | int _ => exact absurd rfl sy
          | ia _ => exact absurd rfl sy
          | str _ => exact absurd rfl sy
          | fz _ => simp [isDat] at dy
        | ref i =>
          unfold RelW at rx
          obtain ⟨a, rfl, ha⟩ := rx
          simp only [isDat] at dx
          split at dx
          · rename_i xs hl
            obtain ⟨a', us, p1, p2, p3⟩ := R.lst hl
            cases y with
            | tup ys =>
              simp only [eqW] at h
              cases h
              simp [pyW, PyData.eqv, hl]
            | ref j =>
              unfold RelW at ry
              obtain ⟨a2, rfl, ha2⟩ := ry
              simp only [isDat] at dy
              split at dy
              · rename_i ys hl2
                obtain ⟨a3, vs, q1, q2, q3⟩ := R.lst hl2
                simp only [eqW, hl, hl2] at h
                simp only [pyW, PyData.eqv, hl, hl2]
                exact go dx dy p3 q3 h
              · cases dy
            | non => exact absurd rfl sy
            | bl _ => exact absurd rfl sy
            | int _ => exact absurd rfl sy
            | ia _ => exact absurd rfl sy
            | str _ => exact absurd rfl sy
            | fz _ => simp [isDat] at dy
          · cases dx
        | non => exact absurd rfl sx
        | bl _ => exact absurd rfl sx
        | int _ => exact absurd rfl sx
        | ia _ => exact absurd rfl sx
        | str _ => exact absurd rfl sx
        | fz _ => simp [isDat] at dx
end
/-- how deep data may be -/
def deep : Nat := 16
def fEq : W → W → LH → Option (W × LH) := fun x y L => cond (isDat L deep x && isDat L deep y) (match eqW L deep x y with
  | some b => some (.bl b, L)
  | none => none) none
def fNe : W → W → LH → Option (W × LH) := fun x y L => cond (isDat L deep x && isDat L deep y) (match eqW L deep x y with
  | some b => some (.bl (!b), L)
  | none => none) none
section
variable {K : PySem.W.Frag} {F : Fx}
theorem oz_eq : OpZ K F (rEqD K) fEq := by
  intro e ρ H L x y vx vy w L' Q he R rx ry h k
  unfold fEq at h
  obtain ⟨hd, h⟩ := cond_opt h
  rw [Bool.and_eq_true] at hd
  split at h
  · rename_i b hb
    cases h
    obtain ⟨d1, p1⟩ := dat_ok he R deep x hd.1
    obtain ⟨d2, p2⟩ := dat_ok he R deep y hd.2
    obtain ⟨q1, l1⟩ := p1 vx rx
    obtain ⟨q2, l2⟩ := p2 vy ry
    refine ⟨_, _, q1, q2, ?_, ?_, ?_⟩
    · unfold SeqAt.shaped; rw [l1, decide_eq_true (by have : (deep : Nat) = 16 := rfl; omega)]; rfl
    · unfold SeqAt.shaped; rw [l2, decide_eq_true (by have : (deep : Nat) = 16 := rfl; omega)]; rfl
    · rw [eqW_ok he R deep x y b vx vy hd.1 hd.2 rx ry hb]
      exact k ρ H _ .refl R rfl
  · cases h
theorem oz_ne : OpZ K F (rNeD K) fNe := by
  intro e ρ H L x y vx vy w L' Q he R rx ry h k
  unfold fNe at h
  obtain ⟨hd, h⟩ := cond_opt h
  rw [Bool.and_eq_true] at hd
  split at h
  · rename_i b hb
    cases h
    obtain ⟨d1, p1⟩ := dat_ok he R deep x hd.1
    obtain ⟨d2, p2⟩ := dat_ok he R deep y hd.2
    obtain ⟨q1, l1⟩ := p1 vx rx
    obtain ⟨q2, l2⟩ := p2 vy ry
    refine ⟨_, _, q1, q2, ?_, ?_, ?_⟩
    · unfold SeqAt.shaped; rw [l1, decide_eq_true (by have : (deep : Nat) = 16 := rfl; omega)]; rfl
    · unfold SeqAt.shaped; rw [l2, decide_eq_true (by have : (deep : Nat) = 16 := rfl; omega)]; rfl
    · rw [eqW_ok he R deep x y b vx vy hd.1 hd.2 rx ry hb]
      exact k ρ H _ .refl R rfl
  · cases h
end
end Z

set_option Elab.async false
set_option linter.all false
set_option maxRecDepth 100000
namespace Z
open PySem PySem.Spec PyProof.Rows L2
section
variable {K : PySem.W.Frag} {F : Fx}
theorem oz_or {r r' : R2} {f : W → W → LH → Option (W × LH)} (h : ∀ (e : En) (ρ : List Addr) (H : Hp) (L : LH) (x y : W) (vx vy : V) (w : W) (L' : LH) (Q : VK), En.Ok F e → RH K F e H ρ L →
    RelW K F e H ρ x vx → RelW K F e H ρ y vy → f x y L = some (w, L') → (∀ ρ' H' v, Fm ρ ρ' H H' → RH K F e H' ρ' L' → RelW K F e H' ρ' w v → Q v H') → r vx vy H Q ∨ r' vx vy H Q) : OpZ K F (fun x y H Q => r x y H Q ∨ r' x y H Q) f := h

/-! ### ints -/
def fI (C : Int → Int → Bool) (g : Int → Int → Int) : W → W → LH → Option (W × LH) := fun x y L => match x, y with
  | .int i, .int j => cond (C i j) (some (.int (g i j), L)) none
  | _, _ => none
def fIB (g : Int → Int → Bool) : W → W → LH → Option (W × LH) := fun x y L => match x, y with
  | .int i, .int j => some (.bl (g i j), L)
  | _, _ => none
theorem oz_i {C : Int → Int → Prop} {B : Int → Int → Bool} {g : Int → Int → Int} (hB : ∀ i j, B i j = true → C i j) : OpZ K F (rI C fun i j => .int (g i j)) (fI B g) := by
  intro e ρ H L x y vx vy w L' Q he R rx ry h k
  unfold fI at h
  split at h
  · rename_i i j
    obtain ⟨q, h⟩ := cond_some h
    cases h
    cases rx
    cases ry
    exact ⟨i, j, rfl, rfl, hB i j q, k ρ H _ .refl R rfl⟩
  · cases h
theorem oz_ib {g : Int → Int → Bool} : OpZ K F (rI0 fun i j => .bl (g i j)) (fIB g) := by
  intro e ρ H L x y vx vy w L' Q he R rx ry h k
  unfold fIB at h
  split at h
  · rename_i i j
    cases h
    cases rx
    cases ry
    exact ⟨i, j, rfl, rfl, k ρ H _ .refl R rfl⟩
  · cases h
def fSub : W → W → LH → Option (W × LH) := fun x y L => match x, y with
  | .int i, .int j => some (.int (i - j), L)
  | _, _ => none
theorem oz_sub : OpZ K F (rI0 fun i j => .int (i - j)) fSub := by
  intro e ρ H L x y vx vy w L' Q he R rx ry h k
  unfold fSub at h
  split at h
  · rename_i i j
    cases h
    cases rx
    cases ry
    exact ⟨i, j, rfl, rfl, k ρ H _ .refl R rfl⟩
  · cases h
/-- int + int, tuple + tuple, list + list -/
def fAdd : W → W → LH → Option (W × LH) := fun x y L => match x, y with
  | .int i, .int j => some (.int (i + j), L)
  | .tup xs, .tup ys => cond (Nat.ble (xs.length + ys.length) 1000000) (some (.tup (xs ++ ys), L)) none
  | .ref m, .ref n => match L.get m, L.get n with
    | some (.lst xs), some (.lst ys) => fLst (xs ++ ys) L
    | _, _ => none
  | _, _ => none
abbrev rAddZ (K : PySem.W.Frag) : R2 := fun x y H Q => (rI0 fun i j => .int (i + j)) x y H Q ∨ (fun x y H Q => rCatA K x y H Q ∨ rCat x y H Q) x y H Q
theorem oz_add : OpZ K F (rAddZ K) fAdd := by
  intro e ρ H L x y vx vy w L' Q he R rx ry h k
  unfold fAdd at h
  split at h
  · rename_i i j
    cases h
    cases rx
    cases ry
    exact .inl ⟨i, j, rfl, rfl, k ρ H _ .refl R rfl⟩
  · rename_i xs ys
    obtain ⟨q, h⟩ := cond_some h
    cases h
    unfold RelW at rx ry
    obtain ⟨a, us, rfl, s1, r1⟩ := rx
    obtain ⟨b, vs, rfl, s2, r2⟩ := ry
    refine .inr (.inl ⟨a, b, us, vs, rfl, rfl, s1, s2, ?_, ?_, ?_, ?_⟩)
    · rw [r1.length, r2.length]; exact line_ok (Nat.le_of_ble_eq_true q)
    · intro z
      subst z
      refine k ρ H _ .refl R ?_
      have := r1.append r2
      unfold RelW
      exact ⟨b, vs, rfl, s2, by simpa using this⟩
    · intro _ z
      subst z
      refine k ρ H _ .refl R ?_
      have := r1.append r2
      unfold RelW
      exact ⟨a, us, rfl, s1, by simpa using this⟩
    · intro _ _ p hp
      obtain ⟨f2, r2', w2⟩ := new_tup R hp (r1.append r2)
      exact k _ _ _ f2 r2' w2
  · rename_i m n
    split at h
    · rename_i xs ys g1 g2
      obtain ⟨h2, h3, rfl, rfl⟩ := fLst_spec h
      unfold RelW at rx ry
      obtain ⟨a, rfl, ha⟩ := rx
      obtain ⟨b, rfl, hb⟩ := ry
      obtain ⟨a', us, p1, p2, p3⟩ := R.lst g1
      rw [ha] at p1; cases p1
      obtain ⟨b', vs, q1, q2, q3⟩ := R.lst g2
      rw [hb] at q1; cases q1
      refine .inr (.inr ⟨a, b, us, vs, rfl, rfl, p2, q2, ?_, fun p hp => ?_⟩)
      · rw [p3.length, q3.length, ← List.length_append]; exact h2
      · obtain ⟨f2, r2', w2⟩ := new_lst R hp h3 (p3.append q3)
        exact k _ _ _ f2 r2' w2
    · cases h
  · cases h
theorem RelWs.rep {e : En} {H : Hp} {ρ : List Addr} {ws : List W} {vs : List V} (h : RelWs K F e H ρ ws vs) : ∀ n : Nat, RelWs K F e H ρ (List.replicate n ws).flatten (List.replicate n vs).flatten
  | 0 => .nil
  | n + 1 => by
    rw [List.replicate_succ, List.replicate_succ, List.flatten_cons, List.flatten_cons]
    exact h.append (h.rep n)
/-- int * int, list * int, tuple * int -/
def smallI (i : Int) : Bool := decide (-(2 ^ 64) < i) && decide (i < 2 ^ 64)
def fMul : W → W → LH → Option (W × LH) := fun x y L => match x, y with
  | .int i, .int j => cond (smallI i || smallI j) (some (.int (i * j), L)) none
  | .tup xs, .int k => cond (!xs.isEmpty && decide (2 ≤ k) && decide (k ≤ 1000) && Nat.ble xs.length 1000) (some (.tup (List.replicate k.toNat xs).flatten, L)) none
  | .ref m, .int k => match L.get m with
    | some (.lst xs) => cond (decide (-1000 ≤ k) && decide (k ≤ 1000) && Nat.ble (xs.length * k.toNat) 1000000) (fLst (List.replicate k.toNat xs).flatten L) none
    | _ => none
  | _, _ => none
abbrev rMulZ (K : PySem.W.Frag) : R2 := fun x y H Q => (rI CMul fun i j => .int (i * j)) x y H Q ∨ (fun x y H Q => rRepT K x y H Q ∨ rRep x y H Q) x y H Q
theorem smallI_of {i : Int} (h : smallI i = true) : -(2 ^ 64) < i ∧ i < 2 ^ 64 := by
  unfold smallI at h
  rw [Bool.and_eq_true, decide_eq_true_eq, decide_eq_true_eq] at h
  exact h
theorem flat_len {α : Type} (xs : List α) : ∀ n : Nat, (List.replicate n xs).flatten.length = xs.length * n
  | 0 => by simp
  | n + 1 => by rw [List.replicate_succ, List.flatten_cons, List.length_append, flat_len xs n, Nat.mul_succ, Nat.add_comm]
theorem oz_mul : OpZ K F (rMulZ K) fMul := by
  intro e ρ H L x y vx vy w L' Q he R rx ry h k
  unfold fMul at h
  split at h
  · rename_i i j
    obtain ⟨q, h⟩ := cond_some h
    cases h
    cases rx
    cases ry
    rw [Bool.or_eq_true] at q
    exact .inl ⟨i, j, rfl, rfl, q.imp smallI_of smallI_of, k ρ H _ .refl R rfl⟩
  · rename_i xs j
    obtain ⟨q, h⟩ := cond_some h
    cases h
    unfold RelW at rx
    obtain ⟨a, us, rfl, s1, r1⟩ := rx
    cases ry
    rw [Bool.and_eq_true, Bool.and_eq_true, Bool.and_eq_true, decide_eq_true_eq, decide_eq_true_eq] at q
    obtain ⟨⟨⟨q1, q2⟩, q3⟩, q4⟩ := q
    refine .inr (.inl ⟨a, j, us, rfl, rfl, s1, ?_, q2, q3, ?_, fun p hp => ?_⟩)
    · rintro rfl
      have := r1.length
      cases xs with
      | nil => simp at q1
      | cons _ _ => simp at this
    · rw [r1.length]; exact Nat.le_of_ble_eq_true q4
    · obtain ⟨f2, r2', w2⟩ := new_tup R hp (r1.rep j.toNat)
      exact k _ _ _ f2 r2' w2
  · rename_i m j
    split at h
    · rename_i xs g1
      obtain ⟨q, h⟩ := cond_opt h
      obtain ⟨h2, h3, rfl, rfl⟩ := fLst_spec h
      unfold RelW at rx
      obtain ⟨a, rfl, ha⟩ := rx
      cases ry
      obtain ⟨a', us, p1, p2, p3⟩ := R.lst g1
      rw [ha] at p1; cases p1
      rw [Bool.and_eq_true, Bool.and_eq_true, decide_eq_true_eq, decide_eq_true_eq] at q
      obtain ⟨⟨q2, q3⟩, q4⟩ := q
      refine .inr (.inr ⟨a, j, us, rfl, rfl, p2, by omega, by omega, ?_, fun p hp => ?_⟩)
      · rw [p3.length]; exact line_ok (Nat.le_of_ble_eq_true q4)
      · obtain ⟨f2, r2', w2⟩ := new_lst R hp h3 (p3.rep j.toNat)
        exact k _ _ _ f2 r2' w2
    · cases h
  · cases h

/-! ### is -/
def isNonW : W → Bool
  | .non => true
  | _ => false
def fIsN : W → W → LH → Option (W × LH) := fun x y L => match y with
  | .non => some (.bl (isNonW x), L)
  | _ => none
def fNotN : W → W → LH → Option (W × LH) := fun x y L => match y with
  | .non => some (.bl (!isNonW x), L)
  | _ => none
theorem rel_none {e : En} {H : Hp} {ρ : List Addr} {w : W} {v : V} (r : RelW K F e H ρ w v) : decide (v = .non) = isNonW w := by
  cases w with
  | non => cases r; rfl
  | bl b => cases r; rfl
  | int i => cases r; rfl
  | ia i => obtain ⟨_, _, rfl⟩ := r; rfl
  | str i => obtain ⟨_, _, rfl⟩ := r; rfl
  | tup xs => unfold RelW at r; obtain ⟨_, _, rfl, _⟩ := r; rfl
  | ref n => unfold RelW at r; obtain ⟨_, rfl, _⟩ := r; rfl
  | fz xs => unfold RelW at r; obtain ⟨_, _, rfl, _⟩ := r; rfl
theorem oz_isN : OpZ K F (fun x y H Q => y = .non ∧ Q (.bl (decide (x = .non))) H) fIsN := by
  intro e ρ H L x y vx vy w L' Q he R rx ry h k
  unfold fIsN at h
  split at h
  · cases h
    cases ry
    refine ⟨rfl, ?_⟩
    rw [rel_none rx]
    exact k ρ H _ .refl R rfl
  · cases h
theorem oz_notN : OpZ K F (fun x y H Q => y = .non ∧ Q (.bl (!decide (x = .non))) H) fNotN := by
  intro e ρ H L x y vx vy w L' Q he R rx ry h k
  unfold fNotN at h
  split at h
  · cases h
    cases ry
    refine ⟨rfl, ?_⟩
    rw [rel_none rx]
    exact k ρ H _ .refl R rfl
  · cases h
def fIsB : W → W → LH → Option (W × LH) := fun x y L => match x, y with
  | .bl a, .bl b => some (.bl (a == b), L)
  | _, _ => none
def fNotB : W → W → LH → Option (W × LH) := fun x y L => match x, y with
  | .bl a, .bl b => some (.bl (!(a == b)), L)
  | _, _ => none
theorem oz_isB : OpZ K F (fun x y H Q => ∃ a b, x = .bl a ∧ y = .bl b ∧ Q (.bl (decide (a = b))) H) fIsB := by
  intro e ρ H L x y vx vy w L' Q he R rx ry h k
  unfold fIsB at h
  split at h
  · rename_i a b
    cases h
    cases rx
    cases ry
    refine ⟨a, b, rfl, rfl, ?_⟩
    rw [show decide (a = b) = (a == b) by cases a <;> cases b <;> rfl]
    exact k ρ H _ .refl R rfl
  · cases h
theorem oz_notB : OpZ K F (fun x y H Q => ∃ a b, x = .bl a ∧ y = .bl b ∧ Q (.bl (!decide (a = b))) H) fNotB := by
  intro e ρ H L x y vx vy w L' Q he R rx ry h k
  unfold fNotB at h
  split at h
  · rename_i a b
    cases h
    cases rx
    cases ry
    refine ⟨a, b, rfl, rfl, ?_⟩
    rw [show decide (a = b) = (a == b) by cases a <;> cases b <;> rfl]
    exact k ρ H _ .refl R rfl
  · cases h

/-! ### subscripts -/
def fIx : W → W → LH → Option (W × LH) := fun x y L => match y with
  | .int i => match x with
    | .tup xs => match atI xs i with
      | some w => some (w, L)
      | none => none
    | .fz xs => match atI xs i with
      | some w => some (w, L)
      | none => none
    | .ref n => match L.get n with
      | some (.lst xs) => match atI xs i with
        | some w => some (w, L)
        | none => none
      | _ => none
    | _ => none
  | _ => none
theorem atI_rel {e : En} {H : Hp} {ρ : List Addr} {ws : List W} {vs : List V} {i : Int} {w : W} (r : RelWs K F e H ρ ws vs) (h : atI ws i = some w) : ∃ v, atI vs i = some v ∧ RelW K F e H ρ w v := by
  unfold atI at h ⊢
  rw [r.length]
  cases q : ixN ws.length i with
  | none => rw [q] at h; cases h
  | some j =>
    rw [q] at h
    exact r.get h
theorem oz_ix : OpZ K F (fun x y H Q => rIxL K x y H Q ∨ rIxT K x y H Q) fIx := by
  intro e ρ H L x y vx vy w L' Q he R rx ry h k
  unfold fIx at h
  split at h
  · rename_i i
    cases ry
    split at h
    · rename_i xs
      split at h
      · rename_i w' hw
        cases h
        unfold RelW at rx
        obtain ⟨a, us, rfl, s1, r1⟩ := rx
        obtain ⟨v, v1, v2⟩ := atI_rel r1 hw
        exact .inr ⟨a, us, i, v, rfl, rfl, s1, v1, k ρ H _ .refl R v2⟩
      · cases h
    · rename_i xs
      split at h
      · rename_i w' hw
        cases h
        unfold RelW at rx
        obtain ⟨a, us, rfl, s1, r1⟩ := rx
        obtain ⟨v, v1, v2⟩ := atI_rel r1 hw
        exact .inl ⟨a, us, i, v, rfl, rfl, s1.sq, v1, k ρ H _ .refl R v2⟩
      · cases h
    · rename_i n
      split at h
      · rename_i xs g1
        split at h
        · rename_i w' hw
          cases h
          unfold RelW at rx
          obtain ⟨a, rfl, ha⟩ := rx
          obtain ⟨a', us, p1, p2, p3⟩ := R.lst g1
          rw [ha] at p1; cases p1
          obtain ⟨v, v1, v2⟩ := atI_rel p3 hw
          exact .inl ⟨a, us, i, v, rfl, rfl, SqL.of p2, v1, k ρ H _ .refl R v2⟩
        · cases h
      · cases h
    · cases h
  · cases h
def cutW (xs : List W) (lo hi : Option Int) : List W := (xs.drop (HT.sIx xs.length 0 lo)).take (HT.sIx xs.length xs.length hi - HT.sIx xs.length 0 lo)
theorem cut_rel {e : En} {H : Hp} {ρ : List Addr} {ws : List W} {vs : List V} (r : RelWs K F e H ρ ws vs) (lo hi : Option Int) : RelWs K F e H ρ (cutW ws lo hi) (cutV vs lo hi) := by
  unfold cutW cutV
  rw [r.length]
  exact (r.drop _).take _
abbrev Eo := Sl → LH → Option (Option Int × LH)
def oNone : Eo := fun _ L => some (none, L)
def oSome (a : Ex) : Eo := fun sl L => match a sl L with
  | some (.int i, L1) => some (some i, L1)
  | _ => none
def TOZ (K : PySem.W.Frag) (F : Fx) (m : Eo) : TO := fun σ H Q => ∃ e ρ sl L o L', En.Ok F e ∧ RelSl K F e H ρ sl σ ∧ RH K F e H ρ L ∧ m sl L = some (o, L') ∧ ∀ ρ' H', Fm ρ ρ' H H' → RH K F e H' ρ' L' → Q o H'
def mSlice (a : Ex) (lo hi : Eo) : Ex := fun sl L => match a sl L with
  | none => none
  | some (x, L1) => match lo sl L1 with
    | none => none
    | some (l, L2) => match hi sl L2 with
      | none => none
      | some (h, L3) => match x with
        | .tup xs => some (.tup (cutW xs l h), L3)
        | .fz xs => cond (Nat.blt L3.n top) (some (.ref L3.n, L3.add (.lst (cutW xs l h)))) none
        | .ref n => match L3.get n with
          | some (.lst xs) => cond (Nat.blt L3.n top) (some (.ref L3.n, L3.add (.lst (cutW xs l h)))) none
          | _ => none
        | _ => none
end
section
variable {X : Cx} {F : Fx} {ma mb : Ex} {lo hi : Option Expr} {ml mh : Eo} {a b : Expr} {pos p2 : Pos}
theorem PO.imp {x : Option Expr} {t t' : TO} (h : PO X x t) (q : ∀ σ H Q, t' σ H Q → t σ H Q) : PO X x t' := ⟨fun pins s σ H Q I k => h.run pins s σ H Q I (q σ H Q k)⟩
theorem zo_none : PO X none (TOZ X.K F oNone) := by
  refine PO.imp po_none ?_
  rintro σ H Q ⟨e, ρ, sl, L, o, L', he, hs, hh, hm, k⟩
  cases hm
  exact k ρ H .refl hh
theorem zo_some (ha : PE X a (TZ X.K F ma)) : PO X (some a) (TOZ X.K F (oSome ma)) := by
  refine PO.imp (po_some ha) ?_
  rintro σ H Q ⟨e, ρ, sl, L, o, L', he, hs, hh, hm, k⟩
  unfold oSome at hm
  split at hm
  · rename_i i L1 h1
    cases hm
    exact ⟨e, ρ, sl, L, _, _, he, hs, hh, h1, fun ρ1 H1 v f1 r1 w1 => ⟨i, w1, k ρ1 H1 f1 r1⟩⟩
  · cases hm
theorem ze_slice (ha : PE X a (TZ X.K F ma)) (hl : PO X lo (TOZ X.K F ml)) (hh : PO X hi (TOZ X.K F mh)) : PE X (.Subscript a (.Slice lo hi none p2) pos) (TZ X.K F (mSlice ma ml mh)) := by
  refine PE.imp (pe_slice (sl_tupA.or sl_list) ha hl hh) ?_
  rintro σ H Q ⟨e, ρ, sl, L, w, L', he, hs, hh, hm, k⟩
  unfold mSlice at hm
  split at hm
  · cases hm
  rename_i x L1 h1
  split at hm
  · cases hm
  rename_i l L2 h2
  split at hm
  · cases hm
  rename_i h L3 h3
  refine ⟨e, ρ, sl, L, _, _, he, hs, hh, h1, fun ρ1 H1 v f1 r1 w1 => ?_⟩
  refine ⟨e, ρ1, sl, L1, _, _, he, f1.relSl hs, r1, h2, fun ρ2 H2 f2 r2 => ?_⟩
  refine ⟨e, ρ2, sl, L2, _, _, he, (f1.trans f2).relSl hs, r2, h3, fun ρ3 H3 f3 r3 => ?_⟩
  have w1' := (f2.trans f3).rel w1
  split at hm
  · rename_i xs
    cases hm
    unfold RelW at w1'
    obtain ⟨a, us, rfl, s1, q1⟩ := w1'
    have hc := cut_rel q1 l h
    refine .inl ⟨a, us, rfl, s1, fun z => ?_, fun _ p hp => ?_⟩
    · refine k ρ3 H3 _ ((f1.trans f2).trans f3) r3 ?_
      have e1 : cutV us l h = us := by
        unfold cutV
        rw [z.1, z.2]
        simp
      unfold RelW
      exact ⟨a, us, rfl, s1, by rw [e1] at hc; exact hc⟩
    · obtain ⟨f4, r4, w4⟩ := new_tup r3 hp hc
      exact k _ _ _ (((f1.trans f2).trans f3).trans f4) r4 w4
  · rename_i xs
    obtain ⟨q, hm⟩ := cond_some hm
    cases hm
    unfold RelW at w1'
    obtain ⟨a, us, rfl, s1, q1⟩ := w1'
    refine .inr ⟨a, us, rfl, s1.sq, fun p hp => ?_⟩
    obtain ⟨f4, r4, w4⟩ := new_lst r3 hp (Nat.le_of_ble_eq_true q) (cut_rel q1 l h)
    exact k _ _ _ (((f1.trans f2).trans f3).trans f4) r4 w4
  · rename_i n
    split at hm
    · rename_i xs g1
      obtain ⟨q, hm⟩ := cond_some hm
      cases hm
      unfold RelW at w1'
      obtain ⟨a, rfl, ha⟩ := w1'
      obtain ⟨a', us, p1, p2, p3⟩ := r3.lst g1
      rw [ha] at p1; cases p1
      refine .inr ⟨a, us, rfl, SqL.of p2, fun p hp => ?_⟩
      obtain ⟨f4, r4, w4⟩ := new_lst r3 hp (Nat.le_of_ble_eq_true q) (cut_rel p3 l h)
      exact k _ _ _ (((f1.trans f2).trans f3).trans f4) r4 w4
    · cases hm
  · cases hm
theorem IxR.or {r r' : R2} (h : IxR X r) (h' : IxR X r') : IxR X (fun x y H Q => r x y H Q ∨ r' x y H Q) := by
  intro value slice pins s σ H x y v u Q I rx ry q hs
  rcases q with q | q
  · exact h value slice pins s σ H x y v u Q I rx ry q hs
  · exact h' value slice pins s σ H x y v u Q I rx ry q hs
theorem ze_ix (ha : PE X a (TZ X.K F ma)) (hb : PE X b (TZ X.K F mb)) (hs : PlainIx b := by exact fun _ _ => rfl) : PE X (.Subscript a b pos) (TZ X.K F (mBin fIx ma mb)) :=
  PE.imp (pe_ix (IxR.or ix_list ix_tup) ha hb hs) fun _ _ _ h => tz_bin oz_ix h
/-- xs[i] = v -/
def gIx (a b : Ex) : Eg := fun w sl L => match a sl L with
  | some (.ref n, L1) => match b sl L1 with
    | some (.int i, L2) => match L2.get n with
      | some (.lst xs) => match ixN xs.length i with
        | some j => cond (Nat.blt L2.n top) (some (sl, L2.set n (.lst (xs.set j w)))) none
        | none => none
      | _ => none
    | _ => none
  | _ => none
theorem zg_ix {T : List Nat} (ha : PE X a (TZ X.K F ma)) (hb : PE X b (TZ X.K F mb)) (hs : ∀ v, assign (.Subscript a b pos) X.env v = (do
      let ov ← holding [v] (eval a X.env)
      let iv ← holding [v, ov] (eval b X.env)
      standAt pos
      holding [v, ov, iv] (setItem ov iv v)
      release [v, ov, iv] []) := by intro _; rfl) : PG X (.Subscript a b pos) (GZ X.K F T (gIx ma mb)) := by
  refine PG.imp (pg_sub ha hb set_list hs) ?_
  rintro v σ H Q ⟨e, ρ, sl, L, w, sl', L', he, hs, hh, hw, hm, k⟩
  unfold gIx at hm
  split at hm
  · rename_i n L1 h1
    split at hm
    · rename_i i L2 h2
      split at hm
      · rename_i xs g1
        split at hm
        · rename_i j hj
          obtain ⟨q, hm⟩ := cond_some hm
          cases hm
          refine ⟨e, ρ, sl, L, _, _, he, hs, hh, h1, fun ρ1 H1 v1 f1 r1 w1 => ?_⟩
          refine ⟨e, ρ1, sl, L1, _, _, he, f1.relSl hs, r1, h2, fun ρ2 H2 v2 f2 r2 w2 => ?_⟩
          have w1' := f2.rel w1
          cases w2
          unfold RelW at w1'
          obtain ⟨a, rfl, ha⟩ := w1'
          obtain ⟨a', us, p1, p2, p3⟩ := r2.lst g1
          rw [ha] at p1; cases p1
          refine ⟨a, us, i, j, rfl, rfl, p2, by rw [p3.length]; exact hj, ?_⟩
          have f3 : Fm ρ2 ρ2 H2 (upd H2 a (.lst (us.set j v))) := fm_put r2 ha
          have fA := (f1.trans f2).trans f3
          exact k ρ2 _ σ fA (r2.put ha (Nat.le_of_ble_eq_true q) ⟨_, upd_same, f3.rels (p3.set j ((f1.trans f2).rel hw))⟩) (fA.relSl hs) rfl
        · cases hm
      · cases hm
    · cases hm
  · cases hm
end

/-! ### builtins by values -/
def CallZ (K : PySem.W.Frag) (F : Fx) (r : List V → Hp → VK → Prop) (f : List W → LH → Option (W × LH)) : Prop := ∀ (e : En) (ρ : List Addr) (H : Hp) (L : LH) (xs : List W) (vs : List V) (w : W) (L' : LH) (Q : VK), En.Ok F e → RH K F e H ρ L →
  RelWs K F e H ρ xs vs → f xs L = some (w, L') → (∀ ρ' H' v, Fm ρ ρ' H H' → RH K F e H' ρ' L' → RelW K F e H' ρ' w v → Q v H') → r vs H Q
section
variable {X : Cx} {F : Fx} {r : List V → Hp → VK → Prop} {f : List W → LH → Option (W × LH)} {mr : Ea} {a : Expr} {es : List Expr} {x : Str} {p pos : Pos} {id T : String}
theorem CallR.or {r r' : List V → Hp → VK → Prop} {g : Value} (h : CallR X g r) (h' : CallR X g r') : CallR X g (fun vs H Q => r vs H Q ∨ r' vs H Q) := by
  intro pins s σ H xs us Q I rx q
  rcases q with q | q
  · exact h pins s σ H xs us Q I rx q
  · exact h' pins s σ H xs us Q I rx q
theorem tz_cb {K : PySem.W.Frag} (hz : CallZ K F r f) {σ : St} {H : Hp} {Q : VK} (h : TZ K F (mApp f mr) σ H Q) : tCB r (TAZ K F mr) σ H Q := by
  obtain ⟨e, ρ, sl, L, w, L', he, hs, hh, hm, k⟩ := h
  unfold mApp at hm
  split at hm
  · cases hm
  rename_i xs L1 h1
  refine ⟨e, ρ, sl, L, _, _, he, hs, hh, h1, fun ρ1 H1 vs f1 r1 w1 => ?_⟩
  exact hz e ρ1 H1 L1 xs vs w L' Q he r1 w1 hm fun ρ' H' v f3 r3 w3 => k ρ' H' v (f1.trans f3) r3 w3
theorem ze_callB (hz : CallZ X.K F r f) (hc : CallR X (.builtin id) r) (hg : Gl X x) (hm : X.mg x = none) (hv : bootBuiltins x = some (.builtin id)) (ha : PA X (a :: es) (TAZ X.K F mr)) (hn : x ≠ "__name__" := by decide) (hdb : (x == ("__debug__" : Str)) = false := by decide)
    (he : starEach (a :: es) X.env = (false, eval a X.env) :: starEach es X.env := by rfl) (hpl : (backTo pos (starEach es X.env)).any (·.1) = false := by rfl) : PE X (.Call (.Name x p) (a :: es) [] pos) (TZ X.K F (mApp f mr)) :=
  PE.imp (pe_callB hc hg hm hv ha hn hdb he hpl) fun _ _ _ h => tz_cb hz h
theorem ze_callTy (hz : CallZ X.K F r f) (hc : CallR X (.type T) r) (hg : Gl X x) (hm : X.mg x = none) (hv : bootBuiltins x = some (.type T)) (ha : PA X (a :: es) (TAZ X.K F mr)) (hn : x ≠ "__name__" := by decide) (hdb : (x == ("__debug__" : Str)) = false := by decide)
    (he : starEach (a :: es) X.env = (false, eval a X.env) :: starEach es X.env := by rfl) (hpl : (backTo pos (starEach es X.env)).any (·.1) = false := by rfl) : PE X (.Call (.Name x p) (a :: es) [] pos) (TZ X.K F (mApp f mr)) :=
  PE.imp (pe_callTy hc hg hm hv ha hn hdb he hpl) fun _ _ _ h => tz_cb hz h
end
section
variable {K : PySem.W.Frag} {F : Fx}
theorem rel1 {e : En} {H : Hp} {ρ : List Addr} {x : W} {vs : List V} (r : RelWs K F e H ρ [x] vs) : ∃ v, vs = [v] ∧ RelW K F e H ρ x v := by
  obtain ⟨v, vr, rfl, r1, r2⟩ := r.uncons
  unfold RelWs at r2
  exact ⟨v, by rw [r2], r1⟩
theorem rel2 {e : En} {H : Hp} {ρ : List Addr} {x y : W} {vs : List V} (r : RelWs K F e H ρ [x, y] vs) : ∃ u v, vs = [u, v] ∧ RelW K F e H ρ x u ∧ RelW K F e H ρ y v := by
  obtain ⟨u, vr, rfl, r1, r2⟩ := r.uncons
  obtain ⟨v, rfl, r3⟩ := rel1 r2
  exact ⟨u, v, rfl, r1, r3⟩
/-! len of a list, a tuple -/
def fLen : List W → LH → Option (W × LH) := fun xs L => match xs with
  | [.tup ws] => some (.int (ws.length : Nat), L)
  | [.fz ws] => some (.int (ws.length : Nat), L)
  | [.ref n] => match L.get n with
    | some (.lst ws) => some (.int (ws.length : Nat), L)
    | _ => none
  | _ => none
theorem cz_len : CallZ K F (fun xs H Q => ∃ x n, xs = [x] ∧ LenV K x H n ∧ Q (.int n) H) fLen := by
  intro e ρ H L xs vs w L' Q he R rx h k
  unfold fLen at h
  split at h
  · rename_i ws
    cases h
    obtain ⟨v, rfl, r⟩ := rel1 rx
    unfold RelW at r
    obtain ⟨a, us, rfl, s1, r1⟩ := r
    exact ⟨_, _, rfl, .inr ⟨us, s1, rfl⟩, by rw [r1.length]; exact k ρ H _ .refl R rfl⟩
  · rename_i ws
    cases h
    obtain ⟨v, rfl, r⟩ := rel1 rx
    unfold RelW at r
    obtain ⟨a, us, rfl, s1, r1⟩ := r
    exact ⟨_, _, rfl, .inl ⟨us, s1.sq, rfl⟩, by rw [r1.length]; exact k ρ H _ .refl R rfl⟩
  · rename_i n
    split at h
    · rename_i ws g1
      cases h
      obtain ⟨v, rfl, r⟩ := rel1 rx
      unfold RelW at r
      obtain ⟨a, rfl, ha⟩ := r
      obtain ⟨a', us, p1, p2, p3⟩ := R.lst g1
      rw [ha] at p1; cases p1
      exact ⟨_, _, rfl, .inl ⟨us, SqL.of p2, rfl⟩, by rw [p3.length]; exact k ρ H _ .refl R rfl⟩
    · cases h
  · cases h
/-! all of a list of truths -/
def allB : List W → Option Bool
  | [] => some true
  | .bl b :: r => match allB r with
    | some c => some (b && c)
    | none => none
  | _ => none
def fAll : List W → LH → Option (W × LH) := fun xs L => match xs with
  | [.ref n] => match L.get n with
    | some (.lst ws) => match allB ws with
      | some b => some (.bl b, L)
      | none => none
    | _ => none
  | _ => none
theorem allB_rel {e : En} {H : Hp} {ρ : List Addr} : ∀ {ws : List W} {vs : List V} {b : Bool}, RelWs K F e H ρ ws vs → allB ws = some b → ∃ bs : List Bool, vs = bs.map V.bl ∧ bs.all id = b
  | [], vs, b, r, h => by cases h; unfold RelWs at r; exact ⟨[], r, rfl⟩
  | w :: ws, vs, b, r, h => by
    unfold allB at h
    split at h
    · rename_i heq; cases heq
    · rename_i b0 r0 heq
      cases heq
      split at h
      · rename_i c hc
        cases h
        obtain ⟨v, vr, rfl, r1, r2⟩ := r.uncons
        obtain ⟨bs, e1, e2⟩ := allB_rel r2 hc
        cases r1
        exact ⟨b0 :: bs, by rw [e1]; rfl, by rw [List.all_cons, e2]; rfl⟩
      · cases h
    · cases h
theorem cz_all : CallZ K F (rAll K) fAll := by
  intro e ρ H L xs vs w L' Q he R rx h k
  unfold fAll at h
  split at h
  · rename_i n
    split at h
    · rename_i ws g1
      split at h
      · rename_i b hb
        cases h
        obtain ⟨v, rfl, r⟩ := rel1 rx
        unfold RelW at r
        obtain ⟨a, rfl, ha⟩ := r
        obtain ⟨a', us, p1, p2, p3⟩ := R.lst g1
        rw [ha] at p1; cases p1
        obtain ⟨bs, rfl, e2⟩ := allB_rel p3 hb
        exact ⟨a, bs, rfl, SqL.of p2, by rw [e2]; exact k ρ H _ .refl R rfl⟩
      · cases h
    · cases h
  · cases h
/-! list(x), tuple(x) of a list or a tuple -/
def fList : List W → LH → Option (W × LH) := fun xs L => match xs with
  | [.tup ws] => cond (Nat.blt L.n top) (some (.ref L.n, L.add (.lst ws))) none
  | [.ref n] => match L.get n with
    | some (.lst ws) => cond (Nat.blt L.n top) (some (.ref L.n, L.add (.lst ws))) none
    | _ => none
  | _ => none
theorem cz_list : CallZ K F (fun xs H Q => ∃ p ys, xs = [.ref p] ∧ (SqL K H p ys ∨ SqT K H p ys) ∧ ∀ l, H l = none → Q (.ref l) (upd H l (.lst ys))) fList := by
  intro e ρ H L xs vs w L' Q he R rx h k
  unfold fList at h
  split at h
  · rename_i ws
    obtain ⟨q, h⟩ := cond_some h
    cases h
    obtain ⟨v, rfl, r⟩ := rel1 rx
    unfold RelW at r
    obtain ⟨a, us, rfl, s1, r1⟩ := r
    refine ⟨a, us, rfl, .inr s1, fun p hp => ?_⟩
    obtain ⟨f4, r4, w4⟩ := new_lst R hp (Nat.le_of_ble_eq_true q) r1
    exact k _ _ _ f4 r4 w4
  · rename_i n
    split at h
    · rename_i ws g1
      obtain ⟨q, h⟩ := cond_some h
      cases h
      obtain ⟨v, rfl, r⟩ := rel1 rx
      unfold RelW at r
      obtain ⟨a, rfl, ha⟩ := r
      obtain ⟨a', us, p1, p2, p3⟩ := R.lst g1
      rw [ha] at p1; cases p1
      refine ⟨a, us, rfl, .inl (SqL.of p2), fun p hp => ?_⟩
      obtain ⟨f4, r4, w4⟩ := new_lst R hp (Nat.le_of_ble_eq_true q) p3
      exact k _ _ _ f4 r4 w4
    · cases h
  · cases h
def fTuple : List W → LH → Option (W × LH) := fun xs L => match xs with
  | [.tup ws] => some (.tup ws, L)
  | [.ref n] => match L.get n with
    | some (.lst ws) => some (.tup ws, L)
    | _ => none
  | _ => none
theorem cz_tuple : CallZ K F (fun xs H Q => ∃ p ys, xs = [.ref p] ∧ ((SqL K H p ys ∧ ∀ l, H l = none → Q (.ref l) (upd H l (.tup ys))) ∨ (SqT K H p ys ∧ Q (.ref p) H))) fTuple := by
  intro e ρ H L xs vs w L' Q he R rx h k
  unfold fTuple at h
  split at h
  · rename_i ws
    cases h
    obtain ⟨v, rfl, r⟩ := rel1 rx
    have r0 := r
    unfold RelW at r
    obtain ⟨a, us, rfl, s1, r1⟩ := r
    exact ⟨a, us, rfl, .inr ⟨s1, k ρ H _ .refl R r0⟩⟩
  · rename_i n
    split at h
    · rename_i ws g1
      cases h
      obtain ⟨v, rfl, r⟩ := rel1 rx
      unfold RelW at r
      obtain ⟨a, rfl, ha⟩ := r
      obtain ⟨a', us, p1, p2, p3⟩ := R.lst g1
      rw [ha] at p1; cases p1
      refine ⟨a, us, rfl, .inl ⟨SqL.of p2, fun p hp => ?_⟩⟩
      obtain ⟨f4, r4, w4⟩ := new_tup R hp p3
      exact k _ _ _ f4 r4 w4
    · cases h
  · cases h
end
end Z

set_option Elab.async false
set_option linter.all false
set_option maxRecDepth 100000
namespace Z
open PySem PySem.Spec PyProof.Rows L2

/-! ### isinstance of built-in types -/
inductive Ty where
  | non | bool | int | str | tuple | list | dict
def Ty.name : Ty → String
  | .non => "NoneType"
  | .bool => "bool"
  | .int => "int"
  | .str => "str"
  | .tuple => "tuple"
  | .list => "list"
  | .dict => "dict"
def subT : Ty → Ty → Bool
  | .non, .non => true
  | .bool, .bool => true
  | .bool, .int => true
  | .int, .int => true
  | .str, .str => true
  | .tuple, .tuple => true
  | .list, .list => true
  | .dict, .dict => true
  | _, _ => false
theorem kit_sub {K : PySem.W.Frag} (a b : Ty) : PySem.W.kitOne K (.type a.name) (.type b.name) = some (subT a b) := by
  cases a <;> cases b <;> exact kit_ty (by decide +kernel)
def tyW (L : LH) : W → Option Ty
  | .non => some .non
  | .bl _ => some .bool
  | .int _ => some .int
  | .ia _ => some .int
  | .str _ => some .str
  | .tup _ => some .tuple
  | .fz _ => none
  | .ref n => match L.get n with
    | some (.lst _) => some .list
    | _ => none
theorem ty_ok {K : PySem.W.Frag} {F : Fx} {e : En} {H : Hp} {ρ : List Addr} {L : LH} (R : RH K F e H ρ L) {v : V} {t : Ty} : ∀ {w : W}, RelW K F e H ρ w v → tyW L w = some t → TyX K H v (.type t.name)
  | .non, r, h => by cases r; cases h; exact .base .non
  | .bl b, r, h => by cases r; cases h; exact .base (.bl b)
  | .int i, r, h => by cases r; cases h; exact .base (.int i)
  | .ia j, r, h => by obtain ⟨i, q, rfl⟩ := r; cases h; exact .base (.int i)
  | .str j, r, h => by obtain ⟨x, q, rfl⟩ := r; cases h; exact .base (.str x)
  | .tup xs, r, h => by
    unfold RelW at r
    obtain ⟨a, vs, rfl, s, r⟩ := r
    cases h
    rcases s with (s | ⟨o, s⟩) | ⟨o, its, n, s1, s2, _⟩
    · exact .base (.tup s)
    · exact .fTuple s
    · exact .kTuple s1 s2
  | .fz _, r, h => by cases h
  | .ref n, r, h => by
    unfold RelW at r
    obtain ⟨a, rfl, ha⟩ := r
    simp only [tyW] at h
    split at h
    · rename_i xs hl
      cases h
      obtain ⟨a', vs, h1, h2, h3⟩ := R.lst hl
      rw [ha] at h1; cases h1
      exact .base (.lst h2)
    · cases h
def fIsi (T : Ty) : W → LH → Option (W × LH) := fun x L => match tyW L x with
  | some t => some (.bl (subT t T), L)
  | none => none
def fIsi2 (T U : Ty) : W → LH → Option (W × LH) := fun x L => match tyW L x with
  | some t => some (.bl (subT t T || subT t U), L)
  | none => none
section
variable {X : Cx} {F : Fx} {ma : Ex} {a : Expr} {p pos : Pos} {T U : Ty} {x y : Str} {p1 p2 p3 : Pos} {kk : Nat}
theorem ze_isi (ha : PE X a (TZ X.K F ma)) (hg : Gl X "isinstance") (hm : X.mg "isinstance" = none) (hx : Gl X x) (hmx : X.mg x = none) (hv : bootBuiltins x = some (.type T.name)) (hn : x ≠ "__name__" := by decide) (hd : (x == ("__debug__" : Str)) = false := by decide)
    (hs1 : starEach [a, .Name x p1] X.env = (false, eval a X.env) :: starEach [.Name x p1] X.env := by rfl) (hs2 : starEach [.Name x p1] X.env = (false, eval (.Name x p1) X.env) :: starEach [] X.env := by rfl) (hpl : (backTo pos (starEach [.Name x p1] X.env)).any (·.1) = false := by rfl) :
    PE X (.Call (.Name "isinstance" p) [a, .Name x p1] [] pos) (TZ X.K F (mUn (fIsi T) ma)) := by
  refine PE.imp (pe_callB call_isi hg hm (by decide +kernel) (pa_cons ha (pa_cons (pe_bltn (v := .ty T.name) hx hmx hv rfl hn hd) pa_nil hs2) hs1) (by decide) (by decide) hs1 hpl) ?_
  rintro σ H Q ⟨e, ρ, sl, L, w, L', he, hs, hh, hm, k⟩
  unfold mUn at hm
  split at hm
  · cases hm
  rename_i x1 L1 h1
  unfold fIsi at hm
  split at hm
  · rename_i t ht
    cases hm
    refine ⟨e, ρ, sl, L, _, _, he, hs, hh, h1, fun ρ1 H1 v f1 r1 w1 => ?_⟩
    exact ⟨v, .ty T.name, _, _, _, rfl, .ty _, ty_ok r1 w1 ht, kit_sub t T, k ρ1 H1 _ f1 r1 rfl⟩
  · cases hm
theorem ze_isi2 (ha : PE X a (TZ X.K F ma)) (hg : Gl X "isinstance") (hm : X.mg "isinstance" = none) (hx : Gl X x) (hmx : X.mg x = none) (hv : bootBuiltins x = some (.type T.name)) (hy : Gl X y) (hmy : X.mg y = none) (hvy : bootBuiltins y = some (.type U.name))
    (hn : x ≠ "__name__" := by decide) (hd : (x == ("__debug__" : Str)) = false := by decide) (hn' : y ≠ "__name__" := by decide) (hd' : (y == ("__debug__" : Str)) = false := by decide)
    (hs1 : starEach [a, .Tuple [.Name x p1, .Name y p2] kk p3] X.env = (false, eval a X.env) :: starEach [.Tuple [.Name x p1, .Name y p2] kk p3] X.env := by rfl) (hs2 : starEach [.Tuple [.Name x p1, .Name y p2] kk p3] X.env = (false, eval (.Tuple [.Name x p1, .Name y p2] kk p3) X.env) :: starEach [] X.env := by rfl)
    (hs3 : starEach [.Name x p1, .Name y p2] X.env = (false, eval (.Name x p1) X.env) :: starEach [.Name y p2] X.env := by rfl) (hs4 : starEach [.Name y p2] X.env = (false, eval (.Name y p2) X.env) :: starEach [] X.env := by rfl)
    (hpl : (backTo pos (starEach [.Tuple [.Name x p1, .Name y p2] kk p3] X.env)).any (·.1) = false := by rfl) :
    PE X (.Call (.Name "isinstance" p) [a, .Tuple [.Name x p1, .Name y p2] kk p3] [] pos) (TZ X.K F (mUn (fIsi2 T U) ma)) := by
  refine PE.imp (pe_callB call_isiT hg hm (by decide +kernel) (pa_cons ha (pa_cons (pe_tup (pa_cons (pe_bltn (v := .ty T.name) hx hmx hv rfl hn hd) (pa_cons (pe_bltn (v := .ty U.name) hy hmy hvy rfl hn' hd') pa_nil hs4) hs3)) pa_nil hs2) hs1) (by decide) (by decide) hs1 hpl) ?_
  rintro σ H Q ⟨e, ρ, sl, L, w, L', he, hs, hh, hm, k⟩
  unfold mUn at hm
  split at hm
  · cases hm
  rename_i x1 L1 h1
  unfold fIsi2 at hm
  split at hm
  · rename_i t ht
    cases hm
    refine ⟨e, ρ, sl, L, _, _, he, hs, hh, h1, fun ρ1 H1 v f1 r1 w1 => ?_⟩
    refine ⟨line_ok (show 2 ≤ 1000000 by decide), fun q hq => ?_⟩
    have f2 : Fm ρ1 ρ1 H1 (upd H1 q (.tup [.ty T.name, .ty U.name])) := fm_new hq
    have r2 := r1.new (o := .tup [.ty T.name, .ty U.name]) hq
    refine ⟨v, q, _, _, [.type T.name, .type U.name], _, rfl, upd_same, .cons (.ty _) (.cons (.ty _) .nil), ty_ok r2 (f2.rel w1) ht, ?_, k ρ1 _ _ (f1.trans f2) r2 rfl⟩
    unfold PySem.W.kitAny
    rw [kit_sub t T]
    cases subT t T with
    | true => rfl
    | false =>
      show PySem.W.kitAny X.K _ _ = _
      unfold PySem.W.kitAny
      rw [kit_sub t U]
      cases subT t U <;> rfl
  · cases hm
end

/-! ### calls by keywords -/
def permL {α : Type} (π : List Nat) (xs : List α) : List α := π.filterMap fun i => xs[i]?
/-- p positional values, q by keywords, put in the order π -/
def gK {α : Type} (p q : Nat) (π : List Nat) (us ws : List α) : List α := if us.length = p ∧ ws.length = q then permL π (us ++ ws) else []
theorem vals_filterMap {xs : List V} {us : List Value} (r : Vals xs us) : ∀ π : List Nat, Vals (permL π xs) (permL π us)
  | [] => .nil
  | i :: π => by
    unfold permL
    rw [List.filterMap_cons, List.filterMap_cons]
    cases q : xs[i]? with
    | none => rw [r.none_of q]; exact vals_filterMap r π
    | some x =>
      obtain ⟨u, h1, h2⟩ := r.get q
      rw [h1]
      exact .cons h2 (vals_filterMap r π)
theorem rel_filterMap {K : PySem.W.Frag} {F : Fx} {e : En} {H : Hp} {ρ : List Addr} {ws : List W} {vs : List V} (r : RelWs K F e H ρ ws vs) : ∀ π : List Nat, RelWs K F e H ρ (permL π ws) (permL π vs)
  | [] => .nil
  | i :: π => by
    unfold permL
    rw [List.filterMap_cons, List.filterMap_cons]
    cases q : ws[i]? with
    | none =>
      have : vs[i]? = none := List.getElem?_eq_none_iff.mpr (by rw [r.length]; exact List.getElem?_eq_none_iff.mp q)
      rw [this]; exact rel_filterMap r π
    | some x =>
      obtain ⟨u, h1, h2⟩ := r.get q
      rw [h1]
      exact .cons h2 (rel_filterMap r π)
theorem kb_mk {K : PySem.W.Frag} {fd : FuncData} {ps ks : List Str} {p q : Nat} {π : List Nat} (hp : ps.length ≠ 0)
    (h : ∀ us ws : List Value, us.length = p → ws.length = q → bindArgs fd ⟨us, ks.zip ws⟩ = pure (ps.zip (permL π (us ++ ws)))) : KBinds K fd ps ks (gK p q π) (gK p q π) := by
  refine ⟨fun s us ws X hl => ?_, fun r1 r2 => ?_⟩
  · unfold gK at hl ⊢
    split at hl
    · rename_i c
      rw [if_pos c]
      exact .of_eq (h us ws c.1 c.2)
    · exact absurd hl.symm hp
  · unfold gK
    rw [r1.length, r2.length]
    split
    · exact vals_filterMap (r1.append r2) π
    · exact .nil
section
variable {X : Cx} {F : Fx} {k n : Nat} {f : Addr} {fd : FuncData} {ps ks : List Str} {m : List W → LH → Option (W × LH)} {x : Str} {p pos kpos : Pos} {a : Expr} {es : List Expr} {kws : List Keyword} {ma : Ex} {mr mk : Ea} {pp qq : Nat} {π : List Nat} {nm : Option Str}
theorem PK.imp {x : List Keyword} {t t' : TA} (h : PK X x t) (q : ∀ σ H Q, t' σ H Q → t σ H Q) : PK X x t' := ⟨fun pos pins s σ H Q I k => h.run pos pins s σ H Q I (q σ H Q k)⟩
theorem zk_nil : PK X [] (TAZ X.K F mNil) := by
  refine PK.imp pk_nil ?_
  rintro σ H Q ⟨e, ρ, sl, L, w, L', he, hs, hh, hm, k⟩
  cases hm
  exact k ρ H [] .refl hh .nil
theorem zk_cons (ha : PE X a (TZ X.K F ma)) (hr : PK X kws (TAZ X.K F mr)) : PK X (⟨nm, a, kpos⟩ :: kws) (TAZ X.K F (mCons ma mr)) := by
  refine PK.imp (pk_cons ha hr) ?_
  rintro σ H Q ⟨e, ρ, sl, L, w, L', he, hs, hh, hm, k⟩
  unfold mCons at hm
  split at hm
  · cases hm
  rename_i x L1 h1
  split at hm
  · cases hm
  rename_i y L2 h2
  cases hm
  refine ⟨e, ρ, sl, L, x, L1, he, hs, hh, h1, fun ρ1 H1 vx f1 r1 w1 => ?_⟩
  refine ⟨e, ρ1, sl, L1, y, _, he, f1.relSl hs, r1, h2, fun ρ2 H2 vy f2 r2 w2 => ?_⟩
  exact k ρ2 H2 _ (f1.trans f2) r2 (.cons (f2.rel w1) w2)
theorem pe_callK0 {CX : CXT} {sp : Sp} {E : XK} {tk : TA} {g : List Value → List Value → List Value} {gV : List V → List V → List V} (Fn : FnOk X.prog X.w X.K X.mg X.base CX k f fd ps sp) (hr : Room k X.A) (hg : Gl X x) (hm : X.mg x = some (.ref f)) (hk : PySem.W.keepIn X.K (.ref f) = true) (hb : KBinds X.K fd ps ks g gV) (hx : Passes CX X E)
    (hkw : PK X kws tk) (hall : (backToKw pos (keywordEach kws X.env)).all (·.1.isSome) = true := by rfl) (hks : (backToKw pos (keywordEach kws X.env)).filterMap (·.1) = ks := by rfl)
    (hdb : (x == ("__debug__" : Str)) = false := by decide)
    (hpl : ((backTo pos (starEach [] X.env)).any (·.1) || (backToKw pos (keywordEach kws X.env)).any (·.1.isNone)) = false := by rfl) :
    PE X (.Call (.Name x p) [] kws pos) (tCallK sp gV E tNil tk) := by
  refine ⟨fun pins s σ H Q I h => ?_⟩
  refine wpAny_Call_Name_kw (ld_glob I hg hm ?_ hdb)
  refine PySem.W.callWith_KW0 (h₀ := X.base) I.ok.mod.kin hk hall ?_ hpl
  refine thn (hkw.run pos pins s σ H _ I h) fun ws s2 ⟨zs, H2, I2, rz, q2⟩ => ⟨I2.kIn, ?_⟩
  rw [hks]
  exact run_fnk Fn hr hb hx I2 .nil rz q2
/-- f(k = v, ..) -/
def fK (q : Nat) (π : List Nat) (n : Nat) (m : List W → LH → Option (W × LH)) : List W → LH → Option (W × LH) := fun ws L => cond (Nat.beq ws.length q) (fN n m (permL π ws) L) none
theorem ze_callK0 (G : FnOk X.prog X.w X.K X.mg X.base CX0 k f fd ps (spZ X.K F n m)) (hr : Room k X.A) (hg : Gl X x) (hm : X.mg x = some (.ref f)) (hk : PySem.W.keepIn X.K (.ref f) = true) (hb : KBinds X.K fd ps ks (gK 0 qq π) (gK 0 qq π)) (hkw : PK X kws (TAZ X.K F mk))
    (hall : (backToKw pos (keywordEach kws X.env)).all (·.1.isSome) = true := by rfl) (hks : (backToKw pos (keywordEach kws X.env)).filterMap (·.1) = ks := by rfl) (hdb : (x == ("__debug__" : Str)) = false := by decide)
    (hpl : ((backTo pos (starEach [] X.env)).any (·.1) || (backToKw pos (keywordEach kws X.env)).any (·.1.isNone)) = false := by rfl) :
    PE X (.Call (.Name x p) [] kws pos) (TZ X.K F (mApp (fK qq π n m) mk)) := by
  refine PE.imp (pe_callK0 (E := fun _ _ _ => False) G hr hg hm hk hb pass0 hkw hall hks hdb hpl) ?_
  rintro σ H Q ⟨e, ρ, sl, L, w, L', he, hs, hh, hm, k⟩
  unfold mApp at hm
  split at hm
  · cases hm
  rename_i ws L1 h1
  unfold fK at hm
  obtain ⟨q, hm⟩ := cond_opt hm
  unfold fN at hm
  obtain ⟨q2, hm⟩ := cond_opt hm
  refine ⟨e, ρ, sl, L, _, _, he, hs, hh, h1, fun ρ1 H1 vs f1 r1 w1 => ?_⟩
  have hl : vs.length = qq := by rw [w1.length]; exact Nat.eq_of_beq_eq_true q
  have e1 : gK 0 qq π ([] : List V) vs = permL π vs := by unfold gK; rw [if_pos ⟨rfl, hl⟩]; rfl
  show spZ X.K F n m (gK 0 qq π [] vs) H1 Q _
  rw [e1]
  exact ⟨e, ρ1, L1, _, w, L', he, r1, rel_filterMap w1 π, Nat.eq_of_beq_eq_true q2, hm, fun ρ2 H2 v f2 r2 w2 => k ρ2 H2 v (f1.trans f2) r2 w2⟩
/-- f(a, .., k = v, ..) -/
def mAppK (p q : Nat) (π : List Nat) (n : Nat) (m : List W → LH → Option (W × LH)) (r kw : Ea) : Ex := fun sl L => match r sl L with
  | none => none
  | some (us, L1) => match kw sl L1 with
    | none => none
    | some (ws, L2) => cond (Nat.beq us.length p && Nat.beq ws.length q) (fN n m (permL π (us ++ ws)) L2) none
theorem ze_callK (G : FnOk X.prog X.w X.K X.mg X.base CX0 k f fd ps (spZ X.K F n m)) (hr : Room k X.A) (hg : Gl X x) (hm : X.mg x = some (.ref f)) (hk : PySem.W.keepIn X.K (.ref f) = true) (hb : KBinds X.K fd ps ks (gK pp qq π) (gK pp qq π))
    (ha : PA X (a :: es) (TAZ X.K F mr)) (hkw : PK X kws (TAZ X.K F mk))
    (hall : (backToKw pos (keywordEach kws X.env)).all (·.1.isSome) = true := by rfl) (hks : (backToKw pos (keywordEach kws X.env)).filterMap (·.1) = ks := by rfl)
    (hdb : (x == ("__debug__" : Str)) = false := by decide) (he : starEach (a :: es) X.env = (false, eval a X.env) :: starEach es X.env := by rfl)
    (hpl : ((backTo pos (starEach (a :: es) X.env)).any (·.1) || (backToKw pos (keywordEach kws X.env)).any (·.1.isNone)) = false := by rfl) :
    PE X (.Call (.Name x p) (a :: es) kws pos) (TZ X.K F (mAppK pp qq π n m mr mk)) := by
  refine PE.imp (pe_callK (E := fun _ _ _ => False) G hr hg hm hk hb pass0 ha hkw hall hks hdb he hpl) ?_
  rintro σ H Q ⟨e, ρ, sl, L, w, L', he, hs, hh, hm, k⟩
  unfold mAppK at hm
  split at hm
  · cases hm
  rename_i us L1 h1
  split at hm
  · cases hm
  rename_i ws L2 h2
  obtain ⟨q, hm⟩ := cond_opt hm
  rw [Bool.and_eq_true] at q
  unfold fN at hm
  obtain ⟨q2, hm⟩ := cond_opt hm
  refine ⟨e, ρ, sl, L, _, _, he, hs, hh, h1, fun ρ1 H1 vs f1 r1 w1 => ?_⟩
  refine ⟨e, ρ1, sl, L1, _, _, he, f1.relSl hs, r1, h2, fun ρ2 H2 zs f2 r2 w2 => ?_⟩
  have e1 : gK pp qq π vs zs = permL π (vs ++ zs) := by
    unfold gK
    rw [if_pos ⟨by rw [w1.length]; exact Nat.eq_of_beq_eq_true q.1, by rw [w2.length]; exact Nat.eq_of_beq_eq_true q.2⟩]
  show spZ X.K F n m (gK pp qq π vs zs) H2 Q _
  rw [e1]
  exact ⟨e, ρ2, L2, _, w, L', he, r2, rel_filterMap ((f2.rels w1).append w2) π, Nat.eq_of_beq_eq_true q2, hm, fun ρ3 H3 v f3 r3 w3 => k ρ3 H3 v ((f1.trans f2).trans f3) r3 w3⟩
end
end Z

set_option Elab.async false
set_option linter.all false
set_option maxRecDepth 100000
namespace Z
open PySem PySem.Spec PyProof.Rows L2

/-! ### what is not carried: never reached by a run of the mirror -/
def vBad : Ex := fun _ _ => none
def tBad : Et := fun _ _ => none
def sBad : Sm := fun _ _ => none
def iBad : Ei := fun _ _ => none
def gBad : Eg := fun _ _ _ => none
section
variable {X : Cx} {F : Fx} {a tg : Expr} {st : Stmt} {T : List Nat}
theorem ze_bad : PE X a (TZ X.K F vBad) := ⟨fun pins s σ H Q I h => by obtain ⟨_, _, _, _, _, _, _, _, _, q, _⟩ := h; cases q⟩
theorem zt_bad : PT X a (TTZ X.K F tBad) := ⟨fun pins s σ H Q I h => by obtain ⟨_, _, _, _, _, _, _, _, _, q, _⟩ := h; cases q⟩
theorem zs_bad : PS X st (SZ X.K F sBad) := ⟨fun pins s σ H Q I h => by obtain ⟨_, _, _, _, _, _, _, _, _, _, q, _⟩ := h; cases q⟩
theorem zi_bad : PI X tg a (IZ X.K F iBad) := ⟨fun pins s σ H Q I h => by obtain ⟨_, _, _, _, _, _, _, _, _, q, _⟩ := h; cases q⟩
theorem zg_bad : PG X a (GZ X.K F T gBad) := ⟨fun pins s σ H v u Q I r h => by obtain ⟨_, _, _, _, _, _, _, _, _, _, _, q, _⟩ := h; cases q⟩
end
/-! ### more of ints -/
def fLt : W → W → LH → Option (W × LH) := fIB fun i j => decide (i < j)
def fLe : W → W → LH → Option (W × LH) := fIB fun i j => decide (i ≤ j)
def fGt : W → W → LH → Option (W × LH) := fIB fun i j => decide (j < i)
def fGe : W → W → LH → Option (W × LH) := fIB fun i j => decide (j ≤ i)
def fMod : W → W → LH → Option (W × LH) := fI (fun _ j => j != 0) fun i j => i.fmod j
def fDiv : W → W → LH → Option (W × LH) := fI (fun _ j => j != 0 && decide (j.natAbs < 1073741824)) fun i j => i.fdiv j
def fNeg : W → LH → Option (W × LH) := fun x L => match x with
  | .int i => some (.int (-i), L)
  | _ => none
section
variable {K : PySem.W.Frag} {F : Fx}
theorem oz_mod : OpZ K F (rI (fun _ j => j ≠ 0) fun i j => .int (i.fmod j)) fMod := oz_i fun i j h => by simpa using h
theorem oz_div : OpZ K F (rI CDivN fun i j => .int (i.fdiv j)) fDiv := oz_i fun i j h => by
  rw [Bool.and_eq_true, decide_eq_true_eq] at h
  exact ⟨by simpa using h.1, h.2⟩
end
section
variable {X : Cx} {F : Fx} {ma : Ex} {a : Expr} {pos : Pos} {x : Str}
theorem ze_un {op : UnaryOp} {r : V → Hp → VK → Prop} {f : W → LH → Option (W × LH)} (ho : UnR X (unaryOp op) r) (hz : ∀ (e : En) (ρ : List Addr) (H : Hp) (L : LH) (x : W) (vx : V) (w : W) (L' : LH) (Q : VK), En.Ok F e → RH X.K F e H ρ L →
    RelW X.K F e H ρ x vx → f x L = some (w, L') → (∀ ρ' H' v, Fm ρ ρ' H H' → RH X.K F e H' ρ' L' → RelW X.K F e H' ρ' w v → Q v H') → r vx H Q) (ha : PE X a (TZ X.K F ma)) : PE X (.UnaryOp op a pos) (TZ X.K F (mUn f ma)) := by
  refine PE.imp (pe_un ho ha) ?_
  rintro σ H Q ⟨e, ρ, sl, L, w, L', he, hs, hh, hm, k⟩
  unfold mUn at hm
  split at hm
  · cases hm
  rename_i x1 L1 h1
  exact ⟨e, ρ, sl, L, _, _, he, hs, hh, h1, fun ρ1 H1 v f1 r1 w1 => hz e ρ1 H1 L1 x1 v w L' Q he r1 w1 hm fun ρ' H' v f3 r3 w3 => k ρ' H' v (f1.trans f3) r3 w3⟩
theorem ze_neg (ha : PE X a (TZ X.K F ma)) : PE X (.UnaryOp .USub a pos) (TZ X.K F (mUn fNeg ma)) := by
  refine ze_un un_neg (fun e ρ H L x vx w L' Q he R rx h k => ?_) ha
  unfold fNeg at h
  split at h
  · rename_i i
    cases h
    cases rx
    exact ⟨i, rfl, k ρ H _ .refl R rfl⟩
  · cases h
theorem ze_gint {i : Int} (hg : Gl X x) (hm : ∃ t, X.mg x = some (.int i t)) (hd : (x == ("__debug__" : Str)) = false := by decide) : PE X (.Name x pos) (TZ X.K F (vC (.int i))) := by
  obtain ⟨t, hm⟩ := hm
  refine PE.imp (pe_glob (v := .int i) hg hm ⟨t, rfl⟩ hd) ?_
  rintro σ H Q ⟨e, ρ, sl, L, w, L', he, hs, hh, hm, k⟩
  cases hm
  exact k ρ H _ .refl hh rfl
theorem ze_gstr {z : Str} (n : Nat) (hg : Gl X x) (hm : ∃ t, X.mg x = some (.str z t)) (h : F.lits[n]? = some z) (hn : n < 1000 := by decide) (hd : (x == ("__debug__" : Str)) = false := by decide) : PE X (.Name x pos) (TZ X.K F (vC (.str n))) := by
  obtain ⟨t, hm⟩ := hm
  refine PE.imp (pe_glob (v := .str z) hg hm ⟨t, rfl⟩ hd) ?_
  rintro σ H Q ⟨e, ρ, sl, L, w, L', he, hs, hh, hm, k⟩
  cases hm
  exact k ρ H _ .refl hh ⟨z, sOf_lit h hn, rfl⟩
end
/-! ### abs, int, ** -/
def fPow : W → W → LH → Option (W × LH) := fI (fun i j => decide (0 ≤ j) && decide (j ≤ 1000) && decide (i.natAbs < 1000000)) fun i j => i ^ j.toNat
def fAbs : List W → LH → Option (W × LH) := fun xs L => match xs with
  | [.int i] => some (.int (if i < 0 then -i else i), L)
  | _ => none
def fInt : List W → LH → Option (W × LH) := fun xs L => match xs with
  | [.int i] => some (.int i, L)
  | [.bl b] => some (.int (if b then 1 else 0), L)
  | _ => none
section
variable {K : PySem.W.Frag} {F : Fx}
theorem oz_pow : OpZ K F (rI CPow fun i j => .int (i ^ j.toNat)) fPow := oz_i fun i j h => by
  rw [Bool.and_eq_true, Bool.and_eq_true, decide_eq_true_eq, decide_eq_true_eq, decide_eq_true_eq] at h
  exact ⟨h.1.1, by omega, by omega⟩
theorem cz_abs : CallZ K F (fun xs H Q => ∃ i, xs = [.int i] ∧ Q (.int (if i < 0 then -i else i)) H) fAbs := by
  intro e ρ H L xs vs w L' Q he R rx h k
  unfold fAbs at h
  split at h
  · rename_i i
    cases h
    obtain ⟨v, rfl, r⟩ := rel1 rx
    cases r
    exact ⟨i, rfl, k ρ H _ .refl R rfl⟩
  · cases h
theorem cz_int : CallZ K F (fun xs H Q => (∃ i, xs = [.int i] ∧ Q (.int i) H) ∨ ∃ k, xs = [.bl k] ∧ Q (.int (if k then 1 else 0)) H) fInt := by
  intro e ρ H L xs vs w L' Q he R rx h k
  unfold fInt at h
  split at h
  · rename_i i
    cases h
    obtain ⟨v, rfl, r⟩ := rel1 rx
    cases r
    exact .inl ⟨i, rfl, k ρ H _ .refl R rfl⟩
  · rename_i b
    cases h
    obtain ⟨v, rfl, r⟩ := rel1 rx
    cases r
    exact .inr ⟨b, rfl, k ρ H _ .refl R rfl⟩
  · cases h
end
/-! ### defs by FunD -/
section
variable {P : Program} {w : World} {K : PySem.W.Frag} {mg : Str → Option Value} {base : Heap} {F : Fx}
theorem ok_zD {x qual : Str} {params : Arguments} {body : List Stmt} {scope : Scope} {f : Addr} {fd : FuncData} {N ps : List Str} {k : Nat} {b : Sm} {r : Nat} (Fn : FunD K x qual params body scope [] [] f fd) (S : FnScope N ps scope) (hN : N.length = ps.length + r)
    (hbody : ∀ (cdv : Value) (A : Around) (outer : List Env) (s : Shared) (H : Hp) (E : XK), Room k (A.deeper (envOfC qual scope s.heap.objs.size f cdv)) →
      PSs (cxOf CX0 P w K mg base N qual scope f cdv A outer s H E).nox body (SZ K F b)) : FnOk P w K mg base CX0 (k + 1) f fd ps (spZ K F ps.length (fnZ r b)) := by
  refine Fn.ok S (fun vs H Q E h => ?_) (fun cdv A outer s H vs Q E hr h => ⟨_, (hbody cdv A outer s H E hr).nox, ?_⟩)
  · obtain ⟨e, ρ, L, ws, w, L', he, hh, hw, hn, hm, k⟩ := h
    rw [hw.length, hn]
  · obtain ⟨e, ρ, L, ws, w, L', he, hh, hw, hn, hm, k⟩ := h
    unfold fnZ at hm
    split at hm
    · rename_i sl1 L1 h1
      cases hm
      exact ⟨e, ρ, _, L, _, _, _, he, relSl_start hw (by rw [hN, hn]), hh, h1, fun ρ1 H1 σ1 f1 r1 s1 => k ρ1 H1 .non f1 r1 rfl⟩
    · rename_i w1 sl1 L1 h1
      cases hm
      exact ⟨e, ρ, _, L, _, _, _, he, relSl_start hw (by rw [hN, hn]), hh, h1, fun ρ1 H1 σ1 f1 r1 s1 v hv => k ρ1 H1 v f1 r1 hv⟩
    · cases hm
theorem ok_none {f : Addr} {fd : FuncData} {ps : List Str} {k n : Nat} : FnOk P w K mg base CX0 k f fd ps (spZ K F n fun _ _ => none) :=
  ⟨fun vs H Q E h => (by obtain ⟨_, _, _, _, _, _, _, _, _, _, q, _⟩ := h; cases q), fun A outer s H args us vs Q E _ _ _ _ h => (by obtain ⟨_, _, _, _, _, _, _, _, _, _, q, _⟩ := h; cases q)⟩
end
end Z

set_option Elab.async false
set_option linter.all false
set_option maxRecDepth 100000
set_option maxHeartbeats 4000000
namespace Z
open PySem PySem.Spec PyProof.Rows L2

/-! ### the laws' own helpers: the mirrors as the generator prints them -/
def gb_take : Sm :=
    (sSeq (sIf (mTest (mBin fGt (mBin fIx (vVar 0) (vC (.int 0))) (vC (.int 0)))) (sSeq (sSet 2 (mBin fMod (mApp fInt (mCons (mBin fIx (vVar 0) (vC (.int 0))) mNil)) (vVar 1)))
    (sSeq (sAsg (mBin fDiv (mBin fIx (vVar 0) (vC (.int 0))) (vVar 1)) (gIx (vVar 0) (vC (.int 0))))
    (sRet (vVar 2)))) sNil)
    (sSeq (sAsg (mBin fAdd (mBin fIx (vVar 0) (vC (.int 2))) (vC (.int 1))) (gIx (vVar 0) (vC (.int 2))))
    (sSeq (sSet 3 (mBin fMod (mApp fInt (mCons (mBin fMul (mBin fAdd (mBin fIx (vVar 0) (vC (.int 1))) (mBin fMul (vC (.int 48271)) (mBin fIx (vVar 0) (vC (.int 2))))) (mBin fAdd (vC (.int 39373)) (mBin fIx (vVar 0) (vC (.int 2))))) mNil)) (vC (.int 2147483647))))
    (sSeq (sSet 4 (mBin fAdd (mBin fMod (mApp fInt (mCons (vVar 3) mNil)) (vC (.int 40009))) (vC (.int 7))))
    (sSeq (sSet 5 (mBin fMod (mApp fInt (mCons (mBin fMul (mBin fAdd (mBin fAdd (vVar 3) (mBin fIx (vVar 0) (vC (.int 2)))) (mBin fDiv (mBin fIx (vVar 0) (vC (.int 1))) (vC (.int 1000003)))) (vVar 4)) mNil)) (vC (.int 2147483629))))
    (sRet (mBin fMod (mApp fInt (mCons (mBin fDiv (mBin fMod (mApp fInt (mCons (mBin fAdd (mBin fMul (vVar 5) (vC (.int 48271))) (vVar 3)) mNil)) (vC (.int 2147483587))) (vC (.int 64))) mNil)) (vVar 1))))))))
def g_take : List W → LH → Option (W × LH) := fnZ 4 gb_take
def gb_box : Sm :=
    (sSeq (sSet 2 (vIfM (mTest (mBin fLt (vVar 1) (mApp fLen (mCons (vVar 0) mNil)))) (mBin fIx (vVar 0) (vVar 1)) (vC (.int 0))))
    (sRet (mApp fLst (mCons (mBin fMul (mApp fAbs (mCons (vVar 2) mNil)) (mApp fInt (mCons (mBin fGe (mApp fAbs (mCons (vVar 2) mNil)) (mBin fPow (vC (.int 10)) (vC (.int 18)))) mNil))) (mCons (mBin fAdd (mBin fAdd (mBin fMod (mApp fInt (mCons (vVar 2) mNil)) (vC (.int 2305843009213693951))) (mBin fMul (vC (.int 39373)) (vVar 1))) (vC (.int 179))) (mCons (vC (.int 0)) mNil))))))
def g_box : List W → LH → Option (W × LH) := fnZ 1 gb_box
def gb_cells : Sm :=
    (sSeq (sSet 2 (vOrM (mApp fList (mCons (mSlice (vVar 0) oNone (oSome (vVar 1))) mNil)) (mApp fLst (mCons (vC (.int 0)) mNil))))
    (sSeq (sFor (iEnumM (mSlice (vVar 0) (oSome (vVar 1)) (oSome (vC (.int 63))))) (gTupM 2 (gConsM (gSet 3) (gConsM (gSet 4) gNilM))) (sSeq (sSet 5 (mBin fMod (mApp fInt (mCons (vVar 3) mNil)) (vVar 1)))
    (sAsg (mBin fAdd (mBin fIx (vVar 2) (vVar 5)) (mBin fMul (vVar 4) (mBin fAdd (vVar 3) (vC (.int 2))))) (gIx (vVar 2) (vVar 5)))))
    (sRet (vVar 2))))
def g_cells : List W → LH → Option (W × LH) := fnZ 4 gb_cells

/-! ### one object alone -/
def L1 (o : LO) : LH := ⟨1, .nd .nil (some o) .nil⟩
theorem draw_lt {x y z m : Int} (h : 1 ≤ m) : 0 ≤ (draw x y z m).1 ∧ (draw x y z m).1 < m := by
  unfold draw
  split
  · exact ⟨Int.fmod_nonneg_of_pos _ (by omega), Int.fmod_lt_of_pos _ (by omega)⟩
  · exact ⟨Int.fmod_nonneg_of_pos _ (by omega), Int.fmod_lt_of_pos _ (by omega)⟩
theorem draw_box {x y z m : Int} {n : Nat} (h : 1 ≤ m) (b : BoxOk x y z (n + 1)) : BoxOk (draw x y z m).2.1 (draw x y z m).2.2.1 (draw x y z m).2.2.2 n := by
  obtain ⟨b1, b2, b3, b4, b5⟩ := b
  unfold draw
  split
  · exact ⟨by show 0 ≤ x.fdiv m; exact Int.fdiv_nonneg b1 (by omega), b2, b3, b4, by push_cast at b5; show z + (n : Int) ≤ 1000000; omega⟩
  · exact ⟨b1, b2, b3, by show 0 ≤ z + 1; omega, by push_cast at b5; show z + 1 + (n : Int) ≤ 1000000; omega⟩
theorem smallI_ok {i : Int} (h1 : -(2 ^ 64) < i) (h2 : i < 2 ^ 64) : smallI i = true := by
  unfold smallI
  rw [decide_eq_true h1, decide_eq_true h2]
  rfl
theorem at0 {α : Type} {a b c : α} : atI [a, b, c] 0 = some a := rfl
theorem at1 {α : Type} {a b c : α} : atI [a, b, c] 1 = some b := rfl
theorem at2 {α : Type} {a b c : α} : atI [a, b, c] 2 = some c := rfl
theorem ix0 {α : Type} {a b c : α} : ixN [a, b, c].length 0 = some 0 := rfl
theorem ix2 {α : Type} {a b c : α} : ixN [a, b, c].length 2 = some 2 := rfl
theorem blt_top {n : Nat} (h : n < top) : Nat.blt n top = true := Nat.ble_eq_true_of_le h
theorem set_n (L : LH) (i : Nat) (o : LO) : (L.set i o).n = L.n := rfl
theorem cond_t {α : Type} {a b : α} : (bif true then a else b) = a := rfl
theorem take_eq {L : LH} {i : Nat} {x y z m : Int} {n : Nat} (hL : L.get i = some (.lst [.int x, .int y, .int z])) (hn : L.n < top) (hi : i < top) (b : BoxOk x y z (n + 1)) (h1 : 1 ≤ m) (h2 : m ≤ 1000) :
    g_take [.ref i, .int m] L = some (.int (draw x y z m).1, L.set i (.lst [.int (draw x y z m).2.1, .int (draw x y z m).2.2.1, .int (draw x y z m).2.2.2])) := by
  obtain ⟨b1, b2, b3, b4, b5⟩ := b
  have hm : (m != 0) = true := by rw [bne_iff_ne]; omega
  have hm2 : decide (m.natAbs < 1073741824) = true := decide_eq_true (by omega)
  have s1 : smallI (39373 + (z + 1)) = true := smallI_ok (by omega) (by omega)
  have s2 : smallI 48271 = true := by decide
  have hT := blt_top hn
  by_cases hx : 0 < x
  · have hx' : decide (0 < x) = true := decide_eq_true hx
    unfold draw
    rw [if_pos hx]
    simp only [g_take, gb_take, fnZ, sSeq, sIf, mTest, mBin, vVar, vC, fGt, fIB, fIx, sSet, mApp, mCons, mNil, fInt, fMod, fDiv, fI, sAsg, gIx, sRet, hL, at0, ix0, hx', hm, hm2, hT, cond_t, Bool.and_self, List.map, List.cons_append, List.nil_append, List.getElem?_cons_zero, List.getElem?_cons_succ, List.set, List.replicate]
  · have hx' : decide (0 < x) = false := decide_eq_false hx
    unfold draw
    rw [if_neg hx]
    have hL2 : (L.set i (.lst [.int x, .int y, .int (z + 1)])).get i = some (.lst [.int x, .int y, .int (z + 1)]) := by rw [LH.get_set hi, if_pos rfl]
    have f0 : 0 ≤ (((y + 48271 * (z + 1)) * (39373 + (z + 1))).fmod 2147483647).fmod 40009 := Int.fmod_nonneg_of_pos _ (by omega)
    have f1 : (((y + 48271 * (z + 1)) * (39373 + (z + 1))).fmod 2147483647).fmod 40009 < 40009 := Int.fmod_lt_of_pos _ (by omega)
    have s3 : smallI ((((y + 48271 * (z + 1)) * (39373 + (z + 1))).fmod 2147483647).fmod 40009 + 7) = true := smallI_ok (by omega) (by omega)
    have d1 : ((2147483647 : Int) != 0) = true := by decide
    have d2 : ((40009 : Int) != 0) = true := by decide
    have d3 : ((2147483629 : Int) != 0) = true := by decide
    have d4 : ((2147483587 : Int) != 0) = true := by decide
    have d5 : ((64 : Int) != 0 && decide ((64 : Int).natAbs < 1073741824)) = true := by decide
    have d6 : ((1000003 : Int) != 0 && decide ((1000003 : Int).natAbs < 1073741824)) = true := by decide
    simp only [g_take, gb_take, fnZ, sSeq, sIf, mTest, mBin, vVar, vC, fGt, fIB, fIx, sSet, mApp, mCons, mNil, fInt, fMod, fDiv, fI, fAdd, fMul, sAsg, gIx, sRet, sNil, hL, hL2, at0, at1, at2, ix0, ix2, hx', hm, hm2, hT, set_n, s1, s2, s3, d1, d2, d3, d4, d5, d6, cond_t, Bool.and_self, Bool.or_true, Bool.true_or, List.map, List.cons_append, List.nil_append, List.getElem?_cons_zero, List.getElem?_cons_succ, List.set, List.replicate]

/-! ### one object alone: what is shown of a heap with one object holds in any heap -/
section
variable {K : PySem.W.Frag} {F : Fx} {e : En} {H H' : Hp} {ρ : List Addr} {L : LH} {a : Addr} {n : Nat} {o o0 : LO}
theorem En.Ok.none (he : En.Ok F e) : En.Ok F ⟨[], []⟩ := ⟨he.lits, he.len, he.lok, .nil, fun _ h => (by cases h), fun _ h => (by cases h), fun _ h => (by cases h)⟩
theorem L1_get : (L1 o).get 0 = some o := rfl
theorem RH.one (h : RelO K F e H [a] o a) : RH K F e H [a] (L1 o) := by
  refine ⟨rfl, by simp, fun m b hb => ?_, fun m ob hm => ?_⟩
  · cases m with
    | zero =>
      have : a = b := by simpa using hb
      subst this
      exact ⟨o, rfl, h⟩
    | succ m => simp at hb
  · cases m with
    | zero => exact Nat.lt_succ_self 0
    | succ m =>
      exfalso
      unfold LH.get L1 at hm
      rw [Tr.get_succ] at hm
      cases h : Nat.beq (m % 2) 0 <;> rw [h] at hm <;> simp [Tr.l, Tr.r, Tr.get] at hm
/-- a step that touched a alone, seen from a heap in which a is one of many -/
theorem Fm.wide (R : RH K F e H ρ L) (ha : ρ[n]? = some a) {ρ' : List Addr} (f : Fm [a] ρ' H H') : Fm ρ ρ H H' := by
  have ma : a ∈ ρ := List.mem_iff_getElem?.mpr ⟨n, ha⟩
  refine ⟨fun _ _ h => h, fun _ h => .inl h, fun b o h hb => f.keep b o h fun z => ?_, f.there, f.tup, f.frz⟩
  rw [List.mem_singleton] at z
  exact hb (by rw [z]; exact ma)
theorem RH.repl (R : RH K F e H ρ L) (ha : ρ[n]? = some a) {ρ' : List Addr} (f : Fm [a] ρ' H H') (hn : L.n < top) (ho : RelO K F e H' ρ o a) : RH K F e H' ρ (L.set n o) := by
  have fw := f.wide R ha
  have ma : a ∈ ρ := List.mem_iff_getElem?.mpr ⟨n, ha⟩
  obtain ⟨q, hq, mu⟩ := R.mut ma
  have hnl : n < L.n := by rw [← R.len]; exact (List.getElem?_eq_some_iff.mp ha).1
  have keep : ∀ b o, H b = some o → b ≠ a → H' b = some o := fun b o h hb => f.keep b o h fun z => hb (by simpa using z)
  refine ⟨R.len, R.nd, fun m b h => ?_, fun m ob h => ?_⟩
  · rw [LH.get_set (by omega)]
    by_cases hm : m = n
    · subst hm
      rw [ha] at h; cases h
      exact ⟨o, by rw [if_pos rfl], ho⟩
    · rw [if_neg hm]
      obtain ⟨ob, h1, h2⟩ := R.ob m b h
      have hb : b ≠ a := fun z => hm (nd_ix R.nd h (by rw [z]; exact ha))
      obtain ⟨h3, e3, _⟩ := h2.mut
      exact ⟨ob, h1, h2.stay fw.kp fw.pre (by rw [keep b h3 e3 hb, e3]) fun d hd => keep d _ hd fun z => by
        rw [z, hq] at hd
        cases hd
        exact mu⟩
  · rw [LH.get_set (by omega)] at h
    show m < L.n
    split at h
    · omega
    · exact R.fit m ob h
end
/-- take, with the draws told in advance -/
def fTake : List W → LH → Option (W × LH) := fun ws L => match ws with
  | [.ref n, .int m] => match L.get n with
    | some (.box ((m', r) :: ds)) => cond (decide (m = (m' : Nat)) && Nat.blt L.n top) (some (.int (r : Nat), L.set n (.box ds))) none
    | _ => none
  | _ => none
section
variable {P : Program} {w : World} {K : PySem.W.Frag} {mg : Str → Option Value} {base : Heap} {F : Fx} {f : Addr} {fd : FuncData} {ps : List Str} {k : Nat}
theorem rel3 {e : En} {H : Hp} {ρ : List Addr} {x y z : Int} {vs : List V} (r : RelWs K F e H ρ [.int x, .int y, .int z] vs) : vs = [.int x, .int y, .int z] := by
  obtain ⟨u, vr, rfl, r1, r2⟩ := r.uncons
  obtain ⟨v, z', rfl, r3, r4⟩ := rel2 r2
  cases r1
  cases r3
  cases r4
  rfl
theorem ok_take (G : FnOk P w K mg base CX0 k f fd ps (spZ K F 2 g_take)) : FnOk P w K mg base CX0 k f fd ps (spZ K F 2 fTake) := by
  refine G.imp fun vs H Q E h => ?_
  obtain ⟨e, ρ, L, ws, w, L', he, hh, hw, hn, hm, k⟩ := h
  unfold fTake at hm
  split at hm
  · rename_i n m
    split at hm
    · rename_i m' r ds g1
      obtain ⟨q, hm⟩ := cond_some hm
      cases hm
      rw [Bool.and_eq_true, decide_eq_true_eq] at q
      obtain ⟨rfl, q2⟩ := q
      have q3 : L.n < top := Nat.le_of_ble_eq_true q2
      obtain ⟨u, v, rfl, r1, r2⟩ := rel2 hw
      cases r2
      unfold RelW at r1
      obtain ⟨a, rfl, ha⟩ := r1
      obtain ⟨a', ha', ho⟩ := hh.at_ g1
      rw [ha] at ha'; cases ha'
      obtain ⟨x, y, z, e1, b, d⟩ := ho
      obtain ⟨d1, d2, d3, d4⟩ := d
      refine ⟨⟨[], []⟩, [a], L1 (.lst [.int x, .int y, .int z]), [.ref 0, .int (m' : Nat)], _, _, he.none, RH.one ⟨_, e1, .cons rfl (.cons rfl (.cons rfl .nil))⟩, ?_, rfl, take_eq rfl (show 1 < top by decide) (show 0 < top by decide) b (by omega) (by omega), fun ρ' H' v f1 r1 w1 => ?_⟩
      · refine .cons ?_ (.cons rfl .nil)
        unfold RelW
        exact ⟨a, rfl, rfl⟩
      · have hv : v = .int (draw x y z m').1 := w1
        subst hv
        obtain ⟨a2, xs, p1, p2, p3⟩ := r1.lst (n := 0) (ws := [.int (draw x y z m').2.1, .int (draw x y z m').2.2.1, .int (draw x y z m').2.2.2]) (by rw [LH.get_set (by decide), if_pos rfl])
        rw [f1.pre 0 a rfl] at p1; cases p1
        have p4 := rel3 p3
        subst p4
        have fw := f1.wide hh ha
        refine k ρ H' _ fw (hh.repl ha f1 q3 ?_) (by rw [d3]; rfl)
        exact ⟨_, _, _, p2, draw_box (by omega) b, d4⟩
    · cases hm
  · cases hm
/-! ### a def that asks its box for draws of given moduli, and is True whatever is drawn -/
def allDraws : List Nat → List (List (Nat × Nat))
  | [] => [[]]
  | m :: ms => (List.range m).flatMap fun r => (allDraws ms).map fun ds => (m, r) :: ds
theorem draws_of {ms : List Nat} (hm : ∀ m ∈ ms, 1 ≤ m ∧ m ≤ 1000) : ∀ {x y z : Int}, ∃ ds ∈ allDraws ms, Draws x y z ds ∧ ds.length = ms.length := by
  induction ms with
  | nil => intro x y z; exact ⟨[], by simp [allDraws], trivial, rfl⟩
  | cons m ms ih =>
    intro x y z
    obtain ⟨h1, h2⟩ := hm m List.mem_cons_self
    obtain ⟨d1, d2⟩ := draw_lt (x := x) (y := y) (z := z) (m := (m : Int)) (by omega)
    obtain ⟨ds, i1, i2, i3⟩ := ih (fun m' hm' => hm m' (List.mem_cons_of_mem _ hm')) (x := (draw x y z m).2.1) (y := (draw x y z m).2.2.1) (z := (draw x y z m).2.2.2)
    refine ⟨(m, (draw x y z m).1.toNat) :: ds, ?_, ⟨h1, h2, ?_, i2⟩, by simp [i3]⟩
    · unfold allDraws
      rw [List.mem_flatMap]
      refine ⟨(draw x y z m).1.toNat, ?_, List.mem_map.mpr ⟨ds, i1, rfl⟩⟩
      rw [List.mem_range]
      omega
    · omega
def isTrueM : Option (W × LH) → Bool
  | some (.bl true, _) => true
  | _ => false
theorem isTrueM_of {o : Option (W × LH)} (h : isTrueM o = true) : ∃ L, o = some (.bl true, L) := by
  unfold isTrueM at h
  split at h
  · exact ⟨_, rfl⟩
  · cases h
/-- such a def, seen from outside: True, and the box is not known any more -/
def fRight : List W → LH → Option (W × LH) := fun ws L => match ws with
  | [.ref n] => match L.get n with
    | some (.lst [.int x, .int y, .int z]) => cond (decide (0 ≤ x) && decide (0 ≤ y) && decide (y < 2 ^ 62) && decide (z = 0) && Nat.blt L.n top) (some (.bl true, L.set n .any)) none
    | _ => none
  | _ => none
theorem ok_right {m : List W → LH → Option (W × LH)} {ms : List Nat} (hm : ∀ m ∈ ms, 1 ≤ m ∧ m ≤ 1000) (hl : ms.length ≤ 1000) (hall : ∀ ds ∈ allDraws ms, isTrueM (m [.ref 0] (L1 (.box ds))) = true)
    (G : FnOk P w K mg base CX0 k f fd ps (spZ K F 1 m)) : FnOk P w K mg base CX0 k f fd ps (spZ K F 1 fRight) := by
  refine G.imp fun vs H Q E h => ?_
  obtain ⟨e, ρ, L, ws, w, L', he, hh, hw, hn, hm', k⟩ := h
  unfold fRight at hm'
  split at hm'
  · rename_i n
    split at hm'
    · rename_i x y z g1
      obtain ⟨q, hm'⟩ := cond_some hm'
      cases hm'
      rw [Bool.and_eq_true, Bool.and_eq_true, Bool.and_eq_true, Bool.and_eq_true, decide_eq_true_eq, decide_eq_true_eq, decide_eq_true_eq, decide_eq_true_eq] at q
      obtain ⟨⟨⟨⟨q1, q2⟩, q3⟩, q4⟩, q5⟩ := q
      subst q4
      obtain ⟨v, rfl, r1⟩ := rel1 hw
      unfold RelW at r1
      obtain ⟨a, rfl, ha⟩ := r1
      obtain ⟨a', xs, p1, p2, p3⟩ := hh.lst g1
      rw [ha] at p1; cases p1
      have p4 := rel3 p3
      subst p4
      obtain ⟨ds, i1, i2, i3⟩ := draws_of hm (x := x) (y := y) (z := 0)
      obtain ⟨L2, e2⟩ := isTrueM_of (hall ds i1)
      refine ⟨⟨[], []⟩, [a], L1 (.box ds), [.ref 0], _, _, he.none, RH.one ⟨x, y, 0, p2, ⟨q1, q2, q3, by omega, by omega⟩, i2⟩, ?_, rfl, e2, fun ρ' H' v f1 r1 w1 => ?_⟩
      · refine .cons ?_ .nil
        unfold RelW
        exact ⟨a, rfl, rfl⟩
      · have fw := f1.wide hh ha
        have hv : v = .bl true := w1
        subst hv
        obtain ⟨o, _, ho⟩ := r1.ob 0 a (f1.pre 0 a rfl)
        exact k ρ H' _ fw (hh.repl ha f1 (Nat.le_of_ble_eq_true q5) ho.mut) rfl
    · cases hm'
  · cases hm'
end
end Z

set_option Elab.async false
set_option linter.all false
set_option maxRecDepth 100000
set_option maxHeartbeats 4000000
namespace Z
open PySem PySem.Spec PyProof.Rows L2

theorem atI_map {cs : List Int} {k : Nat} (h : k < cs.length) : atI (cs.map W.int) (k : Int) = some (.int cs[k]) := by
  unfold atI ixN
  rw [List.length_map, if_pos (by omega), if_pos (by omega)]
  show (cs.map W.int)[(k : Int).toNat]? = _
  rw [Int.toNat_natCast, List.getElem?_map, List.getElem?_eq_getElem h]
  rfl
theorem ixN_nat {n k : Nat} (h : k < n) : ixN n (k : Int) = some k := by
  unfold ixN
  rw [if_pos (by omega), if_pos (by omega), Int.toNat_natCast]
theorem ble3 {α : Type} {a b c : α} : Nat.ble [a, b, c].length 1000000 = true := show Nat.ble 3 1000000 = true by decide
theorem ble1 {α : Type} {a : α} : Nat.ble [a].length 1000000 = true := show Nat.ble 1 1000000 = true by decide
theorem box_eq {L : LH} {c k : Nat} {cs : List Int} (hL : L.get c = some (.lst (cs.map W.int))) (hk : k < cs.length) (hk2 : k < 100) (hn : L.n < top) :
    ∃ x y : Int, 0 ≤ x ∧ 0 ≤ y ∧ y < 2 ^ 62 ∧ g_box [.ref c, .int (k : Nat)] L = some (.ref L.n, L.add (.lst [.int x, .int y, .int 0])) := by
  have h1 : decide (((k : Nat) : Int) < ((cs.map W.int).length : Nat)) = true := decide_eq_true (by rw [List.length_map]; omega)
  have h2 := atI_map hk
  have h3 : (decide ((0 : Int) ≤ 18) && decide ((18 : Int) ≤ 1000) && decide ((10 : Int).natAbs < 1000000)) = true := by decide
  have h4 : ((2305843009213693951 : Int) != 0) = true := by decide
  have h5 : smallI 39373 = true := by decide
  have h6 : ∀ b : Bool, smallI (if b = true then 1 else 0) = true := by intro b; cases b <;> decide
  have m0 : 0 ≤ (cs[k]).fmod 2305843009213693951 := Int.fmod_nonneg_of_pos _ (by omega)
  have m1 : (cs[k]).fmod 2305843009213693951 < 2305843009213693951 := Int.fmod_lt_of_pos _ (by omega)
  refine ⟨(if cs[k] < 0 then -cs[k] else cs[k]) * (if decide ((10 : Int) ^ (18 : Int).toNat ≤ if cs[k] < 0 then -cs[k] else cs[k]) = true then 1 else 0), (cs[k]).fmod 2305843009213693951 + 39373 * (k : Nat) + 179, ?_, by omega, by omega, ?_⟩
  · refine Int.mul_nonneg ?_ ?_
    · split <;> omega
    · split <;> omega
  · simp only [g_box, gb_box, fnZ, sSeq, sSet, vIfM, mTest, mBin, mApp, mCons, mNil, vVar, vC, fLt, fIB, fLen, hL, h1, h2, fIx, sRet, fAbs, fInt, fGe, fPow, fI, h3, fMul, h6, fMod, h4, h5, fAdd, fLst, ble3, blt_top hn, cond_t, Bool.and_self, Bool.or_true, Bool.true_or, List.map, List.cons_append, List.nil_append, List.getElem?_cons_zero, List.getElem?_cons_succ, List.set, List.replicate]

def cB : Sm := (sSeq (sSet 5 (mBin fMod (mApp fInt (mCons (vVar 3) mNil)) (vVar 1)))
    (sAsg (mBin fAdd (mBin fIx (vVar 2) (vVar 5)) (mBin fMul (vVar 4) (mBin fAdd (vVar 3) (vC (.int 2))))) (gIx (vVar 2) (vVar 5))))
def cG : Eg := gTupM 2 (gConsM (gSet 3) (gConsM (gSet 4) gNilM))
theorem cells_loop {s c : Nat} {xs : List Int} {most : Nat} {w0 : W} (hm : 1 ≤ most) (hc : c < top) (hsc : s ≠ c) (hx : xs.length ≤ 100) : ∀ (rem i f : Nat) (L : LH) (cs : List Int) (a b d : Option W), i + rem = xs.length → rem < f → L.get s = some (.lst (xs.map W.int)) → L.get c = some (.lst (cs.map W.int)) →
    (xs ≠ [] → cs.length = most) → L.n < top →
    ∃ (sl' : Sl) (L' : LH) (cs' : List Int), forL (.enum (.obj s)) cG cB f i [some w0, some (.int (most : Nat)), some (.ref c), a, b, d] L = some (.nx, sl', L') ∧ sl'[2]? = some (some (.ref c)) ∧ L'.get c = some (.lst (cs'.map W.int)) ∧ cs'.length = cs.length ∧ L'.n = L.n
  | rem, i, 0, L, cs, a, b, d, hi, hf, _, _, _, _ => by omega
  | 0, i, f + 1, L, cs, a, b, d, hi, hf, hs, hcs, hl, hn => by
    refine ⟨[some w0, some (.int (most : Nat)), some (.ref c), a, b, d], L, cs, ?_, rfl, hcs, rfl, rfl⟩
    have e1 : (xs.map W.int)[i]? = none := List.getElem?_eq_none_iff.mpr (by rw [List.length_map]; omega)
    simp only [forL, Src.item, hs, e1]
  | rem + 1, i, f + 1, L, cs, a, b, d, hi, hf, hs, hcs, hl, hn => by
    have hil : i < xs.length := by omega
    have hne : xs ≠ [] := by
      intro z
      rw [z] at hil
      simp at hil
    have hcl := hl hne
    have e1 : (xs.map W.int)[i]? = some (.int xs[i]) := by rw [List.getElem?_map, List.getElem?_eq_getElem hil]; rfl
    have hmz : ((most : Nat) : Int) ≠ 0 := by omega
    have e2 : (((most : Nat) : Int) != 0) = true := by rw [bne_iff_ne]; exact hmz
    have e3 : ((i : Nat) : Int).fmod (most : Nat) = ((i % most : Nat) : Int) := by
      rw [Int.fmod_eq_emod_of_nonneg _ (by omega)]
      rfl
    have hk : i % most < cs.length := by rw [hcl]; exact Nat.mod_lt _ (by omega)
    have e4 := atI_map hk
    have e5 : smallI (((i : Nat) : Int) + 2) = true := smallI_ok (by omega) (by omega)
    have e6 : ixN (cs.map W.int).length ((i % most : Nat) : Int) = some (i % most) := ixN_nat (by rw [List.length_map]; exact hk)
    have e7 : (cs.map W.int).set (i % most) (.int (cs[i % most] + xs[i] * ((i : Nat) + 2))) = (cs.set (i % most) (cs[i % most] + xs[i] * ((i : Nat) + 2))).map W.int := by rw [List.map_set]
    have step : forL (.enum (.obj s)) cG cB (f + 1) i [some w0, some (.int (most : Nat)), some (.ref c), a, b, d] L = forL (.enum (.obj s)) cG cB f (i + 1) [some w0, some (.int (most : Nat)), some (.ref c), some (.int (i : Nat)), some (.int xs[i]), some (.int (i % most : Nat))] (L.set c (.lst ((cs.set (i % most) (cs[i % most] + xs[i] * ((i : Nat) + 2))).map W.int))) := by
      rw [forL]
      simp only [Src.item, hs, e1, cG, cB, gTupM, gConsM, gSet, gNilM, List.length, Nat.beq, cond_t, sSeq, sSet, mBin, mApp, mCons, mNil, vVar, vC, fInt, fMod, fI, e2, e3, sAsg, fAdd, fIx, hcs, e4, fMul, e5, e6, e7, gIx, blt_top hn, Bool.or_true, List.getElem?_cons_zero, List.getElem?_cons_succ, List.set]
    rw [step]
    obtain ⟨sl', L', cs', r1, r2, r3, r4, r5⟩ := cells_loop (w0 := w0) hm hc hsc hx rem (i + 1) f (L.set c (.lst ((cs.set (i % most) (cs[i % most] + xs[i] * ((i : Nat) + 2))).map W.int))) (cs.set (i % most) (cs[i % most] + xs[i] * ((i : Nat) + 2))) _ _ _ (by omega) (by omega)
      (by rw [LH.get_set hc, if_neg hsc]; exact hs) (by rw [LH.get_set hc, if_pos rfl]) (fun h => by rw [List.length_set]; exact hl h) hn
    exact ⟨sl', L', cs', r1, r2, r3, by rw [r4, List.length_set], r5⟩
theorem cutW_map (ns : List Int) (lo hi : Option Int) : cutW (ns.map W.int) lo hi = ((ns.drop (HT.sIx ns.length 0 lo)).take (HT.sIx ns.length ns.length hi - HT.sIx ns.length 0 lo)).map W.int := by
  unfold cutW
  rw [List.length_map, List.map_take, List.map_drop]
theorem cells_eq {L : LH} {ns : List Int} {most : Nat} (hm : 1 ≤ most) (hm2 : most ≤ 63) (hns : ns.length ≤ 63) (hn : L.n + 10 < top) :
    ∃ (c : Nat) (L' : LH) (cs : List Int), g_cells [.fz (ns.map W.int), .int (most : Nat)] L = some (.ref c, L') ∧ L'.get c = some (.lst (cs.map W.int)) ∧ 1 ≤ cs.length ∧ cs.length ≤ most ∧ L'.n ≤ L.n + 5 ∧ c < L'.n := by
  have s1 : HT.sIx ns.length 0 none = 0 := rfl
  have s2 : HT.sIx ns.length ns.length (some (most : Int)) = min most ns.length := HT.sIx_nat _ _ _
  have s3 : HT.sIx ns.length 0 (some (most : Int)) = min most ns.length := HT.sIx_nat _ _ _
  have s4 : HT.sIx ns.length ns.length (some (63 : Int)) = min 63 ns.length := HT.sIx_nat _ _ 63
  obtain ⟨A, hA, lA⟩ : ∃ A : List Int, cutW (ns.map W.int) none (some (most : Int)) = A.map W.int ∧ A.length = min most ns.length := by
    refine ⟨_, cutW_map _ _ _, ?_⟩
    rw [s1, s2, List.length_take, List.length_drop]
    omega
  obtain ⟨B, hB, lB⟩ : ∃ B : List Int, cutW (ns.map W.int) (some (most : Int)) (some 63) = B.map W.int ∧ B.length = min 63 ns.length - min most ns.length := by
    refine ⟨_, cutW_map _ _ _, ?_⟩
    rw [s3, s4, List.length_take, List.length_drop]
    omega
  -- the cells at the start
  obtain ⟨c, Lc, cs, e4, gc, hc, hcl, hcm, hln, hln0⟩ : ∃ (c : Nat) (Lc : LH) (cs : List Int), vOrM (mApp fList (mCons (mSlice (vVar 0) oNone (oSome (vVar 1))) mNil)) (mApp fLst (mCons (vC (.int 0)) mNil)) [some (.fz (ns.map W.int)), some (.int (most : Nat)), none, none, none, none] L = some (.ref c, Lc) ∧
      Lc.get c = some (.lst (cs.map W.int)) ∧ c < Lc.n ∧ 1 ≤ cs.length ∧ cs.length ≤ most ∧ Lc.n ≤ L.n + 3 ∧ (B ≠ [] → cs.length = most) := by
    have t0 : L.n < top := by omega
    obtain ⟨L1, hL1⟩ : ∃ L1, L1 = L.add (.lst (A.map W.int)) := ⟨_, rfl⟩
    have n1 : L1.n = L.n + 1 := by rw [hL1]; rfl
    have g1 : L1.get L.n = some (.lst (A.map W.int)) := by rw [hL1, LH.get_add t0, if_pos rfl]
    have t1 : L1.n < top := by omega
    obtain ⟨L2, hL2⟩ : ∃ L2, L2 = L1.add (.lst (A.map W.int)) := ⟨_, rfl⟩
    have n2 : L2.n = L.n + 2 := by rw [hL2]; show L1.n + 1 = _; omega
    have g2 : L2.get L1.n = some (.lst (A.map W.int)) := by rw [hL2, LH.get_add t1, if_pos rfl]
    have t2 : L2.n < top := by omega
    have e2 : mApp fList (mCons (mSlice (vVar 0) oNone (oSome (vVar 1))) mNil) [some (.fz (ns.map W.int)), some (.int (most : Nat)), none, none, none, none] L = some (.ref L1.n, L2) := by
      simp only [mApp, mCons, mNil, mSlice, oNone, oSome, vVar, hA, blt_top t0, cond_t, ← hL1, fList, g1, blt_top t1, ← hL2, List.getElem?_cons_zero, List.getElem?_cons_succ]
    by_cases hA0 : A = []
    · have u1 : truth L2 (.ref L1.n) = some false := by simp only [truth, g2, hA0]; rfl
      obtain ⟨L3, hL3⟩ : ∃ L3, L3 = L2.add (.lst [.int 0]) := ⟨_, rfl⟩
      have n3 : L3.n = L.n + 3 := by rw [hL3]; show L2.n + 1 = _; omega
      refine ⟨L2.n, L3, [0], ?_, ?_, by omega, by simp, hm, by omega, fun hb => ?_⟩
      · unfold vOrM
        rw [e2]
        simp only [u1, mApp, mCons, mNil, vC, fLst, ble1, blt_top t2, Bool.and_self, cond_t, ← hL3]
      · rw [hL3, LH.get_add t2, if_pos rfl]; rfl
      · exfalso
        rw [hA0] at lA
        apply hb
        have : ns.length = 0 := by simp at lA; omega
        exact List.eq_nil_of_length_eq_zero (by omega)
    · have hA1 : 1 ≤ A.length := by
        cases A with
        | nil => exact absurd rfl hA0
        | cons _ _ => simp
      have u1 : truth L2 (.ref L1.n) = some true := by
        simp only [truth, g2]
        cases A with
        | nil => exact absurd rfl hA0
        | cons _ _ => rfl
      refine ⟨L1.n, L2, A, ?_, g2, by omega, hA1, by omega, by omega, fun hb => ?_⟩
      · simp only [vOrM, e2, u1]
      · have : B.length ≠ 0 := fun z => hb (List.eq_nil_of_length_eq_zero z)
        omega
  have t3 : Lc.n < top := by omega
  obtain ⟨Ld, hLd⟩ : ∃ Ld, Ld = Lc.add (.lst (B.map W.int)) := ⟨_, rfl⟩
  have n4 : Ld.n = Lc.n + 1 := by rw [hLd]; rfl
  have g4 : Ld.get Lc.n = some (.lst (B.map W.int)) := by rw [hLd, LH.get_add t3, if_pos rfl]
  have g5 : Ld.get c = some (.lst (cs.map W.int)) := by rw [hLd, LH.get_add t3, if_neg (by omega)]; exact gc
  obtain ⟨sl', L', cs', r1, r2, r3, r4, r5⟩ := cells_loop (s := Lc.n) (c := c) (xs := B) (most := most) (w0 := .fz (ns.map W.int)) hm (by omega) (by omega) (by omega) B.length 0 lid Ld cs none none none (by omega) (show B.length < 100000 by omega) g4 g5 hln0 (by omega)
  refine ⟨c, L', cs', ?_, r3, by rw [r4]; exact hcl, by rw [r4]; exact hcm, by omega, by omega⟩
  have e5 : sFor (iEnumM (mSlice (vVar 0) (oSome (vVar 1)) (oSome (vC (.int 63))))) cG cB [some (.fz (ns.map W.int)), some (.int (most : Nat)), some (.ref c), none, none, none] Lc = some (.nx, sl', L') := by
    simp only [sFor, iEnumM, mSlice, oSome, vVar, vC, hB, blt_top t3, cond_t, ← hLd, isList, g4, r1, List.getElem?_cons_zero, List.getElem?_cons_succ]
  have e6 : g_cells [.fz (ns.map W.int), .int (most : Nat)] L = (match sSeq (sSet 2 (vOrM (mApp fList (mCons (mSlice (vVar 0) oNone (oSome (vVar 1))) mNil)) (mApp fLst (mCons (vC (.int 0)) mNil)))) (sSeq (sFor (iEnumM (mSlice (vVar 0) (oSome (vVar 1)) (oSome (vC (.int 63))))) cG cB) (sRet (vVar 2))) [some (.fz (ns.map W.int)), some (.int (most : Nat)), none, none, none, none] L with
    | some (.nx, _, L') => some (.non, L')
    | some (.rt w, _, L') => some (w, L')
    | _ => none) := rfl
  rw [e6]
  simp only [sSeq, sSet, e4, List.set, e5, sRet, vVar, r2]
/-! ### the law's own shape: all of _law_right(_law_box(cells, k)) -/
def gb_law (most : Nat) : Sm :=
    (sSeq (sSet 1 (mApp (fN 2 g_cells) (mCons (vVar 0) (mCons (vC (.int (most : Nat))) mNil))))
    (sRet (mApp fAll (mCons (vLc (iRange1 (mApp fLen (mCons (vVar 1) mNil))) [2] (gSet 2) tYesM (mApp (fN 1 fRight) (mCons (mApp (fN 2 g_box) (mCons (vVar 1) (mCons (vVar 2) mNil))) mNil))) mNil))))
def g_law (most : Nat) : List W → LH → Option (W × LH) := fnZ 2 (gb_law most)
theorem law_loop {c : Nat} {cs : List Int} {w0 : W} (hl : cs.length ≤ 63) : ∀ (rem i f : Nat) (L : LH) (acc : List W), i + rem = cs.length → rem < f → L.get c = some (.lst (cs.map W.int)) → c < L.n → L.n + 2 * rem + 2 < top →
    ∃ L', lcL (.vals ((List.range cs.length).map fun i => W.int (0 + (i : Nat)))) (gSet 2) tYesM (mApp (fN 1 fRight) (mCons (mApp (fN 2 g_box) (mCons (vVar 1) (mCons (vVar 2) mNil))) mNil)) [some w0, some (.ref c), none] f i acc L = some (acc.reverse ++ List.replicate rem (.bl true), L') ∧ L'.n ≤ L.n + rem
  | rem, i, 0, L, acc, hi, hf, _, _, _ => by omega
  | 0, i, f + 1, L, acc, hi, hf, hc, hcn, hn => by
    have e1 : ((List.range cs.length).map fun i => W.int (0 + (i : Nat)))[i]? = none := List.getElem?_eq_none_iff.mpr (by rw [List.length_map, List.length_range]; omega)
    exact ⟨L, by simp only [lcL, Src.item, e1, List.replicate, List.append_nil], by omega⟩
  | rem + 1, i, f + 1, L, acc, hi, hf, hc, hcn, hn => by
    have hil : i < cs.length := by omega
    have e1 : ((List.range cs.length).map fun i => W.int (0 + (i : Nat)))[i]? = some (.int (i : Nat)) := by
      rw [List.getElem?_map, List.getElem?_range hil]
      show some (W.int (0 + (i : Int))) = _
      rw [Int.zero_add]
    obtain ⟨x, y, x0, y0, y1, hb⟩ := box_eq (L := L) hc hil (by omega) (by omega)
    obtain ⟨Lb, hLb⟩ : ∃ Lb, Lb = L.add (.lst [.int x, .int y, .int 0]) := ⟨_, rfl⟩
    have nb : Lb.n = L.n + 1 := by rw [hLb]; rfl
    have tb : L.n < top := by omega
    have gb : Lb.get L.n = some (.lst [.int x, .int y, .int 0]) := by rw [hLb, LH.get_add tb, if_pos rfl]
    have d1 : (decide (0 ≤ x) && decide (0 ≤ y) && decide (y < 2 ^ 62) && decide ((0 : Int) = 0) && Nat.blt Lb.n top) = true := by
      rw [decide_eq_true x0, decide_eq_true y0, decide_eq_true y1, blt_top (by omega)]
      rfl
    have hR : fRight [.ref L.n] Lb = some (.bl true, Lb.set L.n .any) := by
      show (match Lb.get L.n with
        | some (.lst [.int x, .int y, .int z]) => cond (decide (0 ≤ x) && decide (0 ≤ y) && decide (y < 2 ^ 62) && decide (z = 0) && Nat.blt Lb.n top) (some (W.bl true, Lb.set L.n .any)) none
        | _ => none) = _
      rw [gb]
      show cond (decide (0 ≤ x) && decide (0 ≤ y) && decide (y < 2 ^ 62) && decide ((0 : Int) = 0) && Nat.blt Lb.n top) (some (W.bl true, Lb.set L.n .any)) none = _
      rw [d1]
      rfl
    have hgc : (Lb.set L.n .any).get c = some (.lst (cs.map W.int)) := by
      rw [LH.get_set tb, if_neg (by omega), hLb, LH.get_add tb, if_neg (by omega)]
      exact hc
    obtain ⟨L', r1, r2⟩ := law_loop (w0 := w0) hl rem (i + 1) f (Lb.set L.n .any) (.bl true :: acc) (by omega) (by omega) hgc (by rw [set_n]; omega) (by rw [set_n]; omega)
    refine ⟨L', ?_, by rw [set_n] at r2; omega⟩
    have b2 : Nat.beq [W.ref c, W.int (i : Nat)].length 2 = true := rfl
    have b1 : Nat.beq [W.ref L.n].length 1 = true := rfl
    simp only [lcL, Src.item, e1, gSet, tYesM, mApp, mCons, mNil, vVar, fN, b2, b1, cond_t, hb, ← hLb, hR, r1, List.set, List.getElem?_cons_zero, List.getElem?_cons_succ, List.reverse_cons, List.append_assoc, List.cons_append, List.nil_append, List.replicate_succ]
theorem allB_rep : ∀ n : Nat, allB (List.replicate n (.bl true)) = some true
  | 0 => rfl
  | n + 1 => by rw [List.replicate_succ, allB, allB_rep n]; rfl
theorem app1 {f : List W → LH → Option (W × LH)} {m : Ex} {sl : Sl} {L L1 : LH} {w : W} {r : Option (W × LH)} (h : m sl L = some (w, L1)) (q : f [w] L1 = r) : mApp f (mCons m mNil) sl L = r := by
  simp only [mApp, mCons, mNil, h, q]
theorem law_eq {L : LH} {ns : List Int} {most : Nat} (hm : 1 ≤ most) (hm2 : most ≤ 63) (hns : ns.length ≤ 63) (hn : L.n + 1000 < top) : ∃ L', g_law most [.fz (ns.map W.int)] L = some (.bl true, L') := by
  obtain ⟨c, Lc, cs, e1, gc, h1, h2, h3, h4⟩ := cells_eq (L := L) hm hm2 hns (by omega)
  obtain ⟨Le, e2, e3⟩ := law_loop (w0 := .fz (ns.map W.int)) (cs := cs) (by omega) cs.length 0 lid Lc [] (by omega) (show cs.length < 100000 by omega) gc h4 (by omega)
  have b2 : Nat.beq [W.fz (ns.map W.int), W.int (most : Nat)].length 2 = true := rfl
  have r1 : rngOk ((cs.map W.int).length : Nat) = true := by
    unfold rngOk
    rw [List.length_map, decide_eq_true (by omega), decide_eq_true (by omega)]
    rfl
  have e0 : iRange1 (mApp fLen (mCons (vVar 1) mNil)) [some (.fz (ns.map W.int)), some (.ref c), none] Lc = some (.vals ((List.range cs.length).map fun i => W.int (0 + (i : Nat))), Lc) := by
    simp only [iRange1, mApp, mCons, mNil, vVar, fLen, gc, r1, cond_t, List.getElem?_cons_zero, List.getElem?_cons_succ]
    rw [List.length_map, Int.toNat_natCast]
  have te : Le.n < top := by omega
  have w2 : wipeSl [some (.fz (ns.map W.int)), some (.ref c), none] [2] = [some (.fz (ns.map W.int)), some (.ref c), none] := rfl
  have l1 : (Nat.ble (([] : List W).reverse ++ List.replicate cs.length (W.bl true)).length 1000000 && Nat.blt Le.n top) = true := by
    rw [blt_top te, Bool.and_true]
    exact Nat.ble_eq_true_of_le (by simp; omega)
  obtain ⟨Lf, hLf⟩ : ∃ Lf, Lf = Le.add (.lst (([] : List W).reverse ++ List.replicate cs.length (W.bl true))) := ⟨_, rfl⟩
  have gf : Lf.get Le.n = some (.lst (List.replicate cs.length (W.bl true))) := by rw [hLf, LH.get_add te, if_pos rfl]; rfl
  refine ⟨Lf, ?_⟩
  have e6 : g_law most [.fz (ns.map W.int)] L = (match sSeq (sSet 1 (mApp (fN 2 g_cells) (mCons (vVar 0) (mCons (vC (.int (most : Nat))) mNil)))) (sRet (mApp fAll (mCons (vLc (iRange1 (mApp fLen (mCons (vVar 1) mNil))) [2] (gSet 2) tYesM (mApp (fN 1 fRight) (mCons (mApp (fN 2 g_box) (mCons (vVar 1) (mCons (vVar 2) mNil))) mNil))) mNil))) [some (.fz (ns.map W.int)), none, none] L with
    | some (.nx, _, L') => some (.non, L')
    | some (.rt w, _, L') => some (w, L')
    | _ => none) := rfl
  have e7 : sSet 1 (mApp (fN 2 g_cells) (mCons (vVar 0) (mCons (vC (.int (most : Nat))) mNil))) [some (.fz (ns.map W.int)), none, none] L = some (.nx, [some (.fz (ns.map W.int)), some (.ref c), none], Lc) := by
    simp only [sSet, mApp, mCons, mNil, vVar, vC, fN, b2, cond_t, e1, List.set, List.getElem?_cons_zero, List.getElem?_cons_succ]
  have e8 : vLc (iRange1 (mApp fLen (mCons (vVar 1) mNil))) [2] (gSet 2) tYesM (mApp (fN 1 fRight) (mCons (mApp (fN 2 g_box) (mCons (vVar 1) (mCons (vVar 2) mNil))) mNil)) [some (.fz (ns.map W.int)), some (.ref c), none] Lc = some (.ref Le.n, Lf) := by
    unfold vLc
    rw [e0, w2]
    simp only [e2, fLst, l1, cond_t, ← hLf]
  rw [e6]
  unfold sSeq
  rw [e7]
  have e9 : mApp fAll (mCons (vLc (iRange1 (mApp fLen (mCons (vVar 1) mNil))) [2] (gSet 2) tYesM (mApp (fN 1 fRight) (mCons (mApp (fN 2 g_box) (mCons (vVar 1) (mCons (vVar 2) mNil))) mNil))) mNil) [some (.fz (ns.map W.int)), some (.ref c), none] Lc = some (.bl true, Lf) := by
    refine app1 e8 ?_
    simp only [fAll, gf, allB_rep]
  simp only [sRet, e9]
end Z

set_option Elab.async false
set_option linter.all false
set_option maxRecDepth 100000
namespace Z
open PySem PySem.Spec PyProof.Rows L2
theorem RH.empty {K : PySem.W.Frag} {F : Fx} {e : En} {H : Hp} : RH K F e H [] ⟨0, .nil⟩ :=
  ⟨rfl, .nil, fun n a h => by simp at h, fun n o h => by simp [LH.get, Tr.get] at h⟩
theorem rel_ints {K : PySem.W.Frag} {F : Fx} {e : En} {H : Hp} {ρ : List Addr} : ∀ ns : List Int, RelWs K F e H ρ (ns.map W.int) (ns.map V.int)
  | [] => .nil
  | n :: ns => .cons rfl (rel_ints ns)
/-- the law's promise by its mirror -/
theorem top_z {K : PySem.W.Frag} {F : Fx} {m : List W → LH → Option (W × LH)} {ns : List Int} {H : Hp} {a : Addr} {E : XK} (hF : En.Ok F ⟨[], []⟩) (hm : ∃ L', m [.fz (ns.map W.int)] ⟨0, .nil⟩ = some (.bl true, L')) (hO : Only H) (hS : SqL K H a (ns.map V.int)) :
    spZ K F 1 m [.ref a] H (fun v _ => v = .bl true) E := by
  obtain ⟨L', e1⟩ := hm
  refine ⟨⟨[], []⟩, [], ⟨0, .nil⟩, [.fz (ns.map W.int)], _, _, hF, RH.empty, ?_, rfl, e1, fun ρ' H' v f r w => w⟩
  refine .cons ?_ .nil
  unfold RelW
  refine ⟨a, ns.map V.int, rfl, ?_, rel_ints ns⟩
  rcases hS with (h | ⟨o, h⟩) | h
  · rcases hO a with q | ⟨o, xs, q⟩
    · rw [q] at h; cases h
    · rw [q] at h; cases h
  · exact .inl ⟨o, h⟩
  · exact .inr h
end Z

set_option Elab.async false
set_option linter.all false
set_option maxRecDepth 100000
set_option maxHeartbeats 4000000
namespace Z16
open PySem PySem.Spec PyProof.Rows L2 Z
def topS (i : Nat) : Stmt := PySem.Challenge.pw_watchlost_k16_which_rules_are_safe.main.body.getD i (.Pass ⟨0, 0, 0, 0⟩)
abbrev s_is_safe : Stmt := topS 1
abbrev s__law_box : Stmt := topS 3
abbrev s__law_take : Stmt := topS 4
abbrev s__law_cells : Stmt := topS 5
abbrev s__law_same : Stmt := topS 6
abbrev s__law_due : Stmt := topS 7
abbrev s__law_right : Stmt := topS 8
abbrev s_law : Stmt := topS 9
def LITS : List Str := []
abbrev N_is_safe : List Str := ["rule", "watch_first", "moves_again", "same_again", "lost_again", "trusts", "doubts", "room", "grain"]
theorem sc_is_safe : FnScope N_is_safe ["rule"] (defScope s_is_safe) := ⟨rfl, rfl, rfl, by decide +kernel, rfl, by decide +kernel, by decide +kernel⟩
abbrev N__law_box : List Str := ["_law_script", "_law_k", "_law_cell"]
theorem sc__law_box : FnScope N__law_box ["_law_script", "_law_k"] (defScope s__law_box) := ⟨rfl, rfl, rfl, by decide +kernel, rfl, by decide +kernel, by decide +kernel⟩
abbrev N__law_take : List Str := ["_law_box_here", "_law_below", "_law_drawn", "_law_once", "_law_far", "_law_twice"]
theorem sc__law_take : FnScope N__law_take ["_law_box_here", "_law_below"] (defScope s__law_take) := ⟨rfl, rfl, rfl, by decide +kernel, rfl, by decide +kernel, by decide +kernel⟩
abbrev N__law_cells : List Str := ["_law_script", "_law_most", "_law_cells_here", "_law_k", "_law_cell", "_law_at_so"]
theorem sc__law_cells : FnScope N__law_cells ["_law_script", "_law_most"] (defScope s__law_cells) := ⟨rfl, rfl, rfl, by decide +kernel, rfl, by decide +kernel, by decide +kernel⟩
abbrev N__law_same : List Str := ["_law_found", "_law_due_here", "_law_mine", "_law_its", "_law_own"]
theorem sc__law_same : FnScope N__law_same ["_law_found", "_law_due_here"] (defScope s__law_same) := ⟨rfl, rfl, rfl, by decide +kernel, rfl, by decide +kernel, by decide +kernel⟩
abbrev N__law_due : List Str := ["_law_rule_so"]
theorem sc__law_due : FnScope N__law_due ["_law_rule_so"] (defScope s__law_due) := ⟨rfl, rfl, rfl, by decide +kernel, rfl, by decide +kernel, by decide +kernel⟩
abbrev N__law_right : List Str := ["_law_box_here", "_law_rooms", "_law_some", "_law_sizes_so", "_law_turn", "_law_held", "_law_grain_so", "_law_row", "_law_rule_so", "_law_told"]
theorem sc__law_right : FnScope N__law_right ["_law_box_here"] (defScope s__law_right) := ⟨rfl, rfl, rfl, by decide +kernel, rfl, by decide +kernel, by decide +kernel⟩
abbrev N_law : List Str := ["_law_script", "_law_cells_here", "_law_k"]
theorem sc_law : FnScope N_law ["_law_script"] (defScope s_law) := ⟨rfl, rfl, rfl, by decide +kernel, rfl, by decide +kernel, by decide +kernel⟩
abbrev FnP (K : PySem.W.Frag) (x q : Str) (st : Stmt) (f : Addr) (fd : FuncData) : Prop := FunD K x q (defArgs st) (defBody st) (defScope st) [] [] f fd
structure Tx (K : PySem.W.Frag) (mg : Str → Option Value) where
  a_is_safe : Addr
  d_is_safe : FuncData
  F_is_safe : FnP K "is_safe" "is_safe" s_is_safe a_is_safe d_is_safe
  g_is_safe : mg "is_safe" = some (.ref a_is_safe)
  a__law_box : Addr
  d__law_box : FuncData
  F__law_box : FnP K "_law_box" "_law_box" s__law_box a__law_box d__law_box
  g__law_box : mg "_law_box" = some (.ref a__law_box)
  a__law_take : Addr
  d__law_take : FuncData
  F__law_take : FnP K "_law_take" "_law_take" s__law_take a__law_take d__law_take
  g__law_take : mg "_law_take" = some (.ref a__law_take)
  a__law_cells : Addr
  d__law_cells : FuncData
  F__law_cells : FnP K "_law_cells" "_law_cells" s__law_cells a__law_cells d__law_cells
  g__law_cells : mg "_law_cells" = some (.ref a__law_cells)
  a__law_same : Addr
  d__law_same : FuncData
  F__law_same : FnP K "_law_same" "_law_same" s__law_same a__law_same d__law_same
  g__law_same : mg "_law_same" = some (.ref a__law_same)
  a__law_due : Addr
  d__law_due : FuncData
  F__law_due : FnP K "_law_due" "_law_due" s__law_due a__law_due d__law_due
  g__law_due : mg "_law_due" = some (.ref a__law_due)
  a__law_right : Addr
  d__law_right : FuncData
  F__law_right : FnP K "_law_right" "_law_right" s__law_right a__law_right d__law_right
  g__law_right : mg "_law_right" = some (.ref a__law_right)
  a_law : Addr
  d_law : FuncData
  F_law : FnP K "law" "law" s_law a_law d_law
  g_law : mg "law" = some (.ref a_law)
  n_abs : mg "abs" = none
  n_all : mg "all" = none
  n_bool : mg "bool" = none
  n_dict : mg "dict" = none
  n_enumerate : mg "enumerate" = none
  n_int : mg "int" = none
  n_isinstance : mg "isinstance" = none
  n_len : mg "len" = none
  n_list : mg "list" = none
  n_range : mg "range" = none
  n_str : mg "str" = none
  n_tuple : mg "tuple" = none
  n_zip : mg "zip" = none
theorem bd_is_safe {K : PySem.W.Frag} {f : Addr} {fd : FuncData} (F : FnP K "is_safe" "is_safe" s_is_safe f fd) : Binds K fd ["rule"] [] := F.bindsN fun _ _ _ _ _ _ us hl => match us, hl with | [_], _ => rfl
theorem bd__law_box {K : PySem.W.Frag} {f : Addr} {fd : FuncData} (F : FnP K "_law_box" "_law_box" s__law_box f fd) : Binds K fd ["_law_script", "_law_k"] [] := F.bindsN fun _ _ _ _ _ _ us hl => match us, hl with | [_, _], _ => rfl
theorem bd__law_take {K : PySem.W.Frag} {f : Addr} {fd : FuncData} (F : FnP K "_law_take" "_law_take" s__law_take f fd) : Binds K fd ["_law_box_here", "_law_below"] [] := F.bindsN fun _ _ _ _ _ _ us hl => match us, hl with | [_, _], _ => rfl
theorem bd__law_cells {K : PySem.W.Frag} {f : Addr} {fd : FuncData} (F : FnP K "_law_cells" "_law_cells" s__law_cells f fd) : Binds K fd ["_law_script", "_law_most"] [] := F.bindsN fun _ _ _ _ _ _ us hl => match us, hl with | [_, _], _ => rfl
theorem bd__law_same {K : PySem.W.Frag} {f : Addr} {fd : FuncData} (F : FnP K "_law_same" "_law_same" s__law_same f fd) : Binds K fd ["_law_found", "_law_due_here"] [] := F.bindsN fun _ _ _ _ _ _ us hl => match us, hl with | [_, _], _ => rfl
theorem bd__law_due {K : PySem.W.Frag} {f : Addr} {fd : FuncData} (F : FnP K "_law_due" "_law_due" s__law_due f fd) : Binds K fd ["_law_rule_so"] [] := F.bindsN fun _ _ _ _ _ _ us hl => match us, hl with | [_], _ => rfl
theorem bd__law_right {K : PySem.W.Frag} {f : Addr} {fd : FuncData} (F : FnP K "_law_right" "_law_right" s__law_right f fd) : Binds K fd ["_law_box_here"] [] := F.bindsN fun _ _ _ _ _ _ us hl => match us, hl with | [_], _ => rfl
theorem bd_law {K : PySem.W.Frag} {f : Addr} {fd : FuncData} (F : FnP K "law" "law" s_law f fd) : Binds K fd ["_law_script"] [] := F.bindsN fun _ _ _ _ _ _ us hl => match us, hl with | [_], _ => rfl
theorem kb_is_safe_0_rule {K : PySem.W.Frag} {f : Addr} {fd : FuncData} (F : FnP K "is_safe" "is_safe" s_is_safe f fd) : KBinds K fd ["rule"] ["rule"] (gK 0 1 [0]) (gK 0 1 [0]) := by
  obtain ⟨oc, od, dV, kV, doc, pm, an, cdv, ct, osl, rfl, lk, hcd, hD, hK⟩ := F.ex
  rcases hD with ⟨_, rfl⟩ | ⟨q, _⟩
  · exact kb_mk (by decide) fun us ws h1 h2 => match us, ws, h1, h2 with | [], [_], _, _ => rfl
  · exact absurd rfl q
section
variable {P : Program} {w : World} {K : PySem.W.Frag} {mg : Str → Option Value} {base : Heap} {F : Fx}
def b_is_safe : Sm :=
    (sSeq (sAsg (vVar 0) (gTupM 8 (gConsM (gSet 1) (gConsM (gSet 2) (gConsM (gSet 3) (gConsM (gSet 4) (gConsM (gSet 5) (gConsM (gSet 6) (gConsM (gSet 7) (gConsM (gSet 8) gNilM))))))))))
    (sSeq (sIf (tOrM (tNotM (mTruth (vVar 1))) (tNotM (mTruth (vVar 2)))) (sRet (vC (.bl false))) sNil)
    (sRet (vAndM (vOrM (mBin fIsN (vVar 7) (vC .non)) (vVar 4)) (vOrM (vNotM (vVar 5)) (vOrM (vVar 6) (mBin fEq (vVar 8) (vC (.int 1)))))))))
def m_is_safe : List W → LH → Option (W × LH) := fnZ 8 b_is_safe
theorem ok_is_safe (T : Tx K mg)  : FnOk P w K mg base CX0 1 T.a_is_safe T.d_is_safe ["rule"] (spZ K F 1 m_is_safe) := by
  refine ok_zD T.F_is_safe sc_is_safe rfl fun cdv A outer s H E hr => ?_
  exact (zss_cons (zs_asg (T := [1, 2, 3, 4, 5, 6, 7, 8]) (ze_var (i := 0) rfl (.inl rfl)) (zg_tup rfl (zgs_cons (zg_name (i := 1) sc_is_safe.nd rfl (.inl rfl)) (zgs_cons (zg_name (i := 2) sc_is_safe.nd rfl (.inl rfl)) (zgs_cons (zg_name (i := 3) sc_is_safe.nd rfl (.inl rfl)) (zgs_cons (zg_name (i := 4) sc_is_safe.nd rfl (.inl rfl)) (zgs_cons (zg_name (i := 5) sc_is_safe.nd rfl (.inl rfl)) (zgs_cons (zg_name (i := 6) sc_is_safe.nd rfl (.inl rfl)) (zgs_cons (zg_name (i := 7) sc_is_safe.nd rfl (.inl rfl)) (zgs_cons (zg_name (i := 8) sc_is_safe.nd rfl (.inl rfl)) zgs_nil))))))))))
      (zss_cons (zs_if (PW.pt (zw_or (zt_not (zt_truth (ze_var (i := 1) rfl (.inl rfl)))) (zw_or1 (zt_not (zt_truth (ze_var (i := 2) rfl (.inl rfl))))))) (zss_one (zs_ret ze_bl)) zss_nil)
      (zss_one (zs_ret (ze_and (ze_or (ze_cmp op_isN oz_isN (ze_var (i := 7) rfl (.inl rfl)) ze_non (nomark _)) (ze_one (ze_var (i := 4) rfl (.inl rfl)))) (ze_one (ze_or (ze_not (ze_var (i := 5) rfl (.inl rfl))) (ze_or (ze_var (i := 6) rfl (.inl rfl)) (ze_one (ze_cmp (op_eqD hr.units) oz_eq (ze_var (i := 8) rfl (.inl rfl)) ze_int (nomark _)))))))))))
def b__law_box : Sm :=
    (sSeq (sSet 2 (vIfM (mTest (mBin fLt (vVar 1) (mApp fLen (mCons (vVar 0) mNil)))) (mBin fIx (vVar 0) (vVar 1)) (vC (.int 0))))
    (sRet (mApp fLst (mCons (mBin fMul (mApp fAbs (mCons (vVar 2) mNil)) (mApp fInt (mCons (mBin fGe (mApp fAbs (mCons (vVar 2) mNil)) (mBin fPow (vC (.int 10)) (vC (.int 18)))) mNil))) (mCons (mBin fAdd (mBin fAdd (mBin fMod (mApp fInt (mCons (vVar 2) mNil)) (vC (.int 2305843009213693951))) (mBin fMul (vC (.int 39373)) (vVar 1))) (vC (.int 179))) (mCons (vC (.int 0)) mNil))))))
def m__law_box : List W → LH → Option (W × LH) := fnZ 1 b__law_box
theorem ok__law_box (T : Tx K mg)  : FnOk P w K mg base CX0 1 T.a__law_box T.d__law_box ["_law_script", "_law_k"] (spZ K F 2 m__law_box) := by
  refine ok_zD T.F__law_box sc__law_box rfl fun cdv A outer s H E hr => ?_
  exact (zss_cons (zs_set (i := 2) sc__law_box.nd rfl (.inl rfl) (ze_if (zt_cmp op_lt oz_ib (ze_var (i := 1) rfl (.inl rfl)) (ze_callB cz_len call_len rfl T.n_len (by decide +kernel) (za_cons (ze_var (i := 0) rfl (.inl rfl)) za_nil)) (nomark _)) (ze_ix (ze_var (i := 0) rfl (.inl rfl)) (ze_var (i := 1) rfl (.inl rfl))) ze_int))
      (zss_one (zs_ret (ze_lst (za_cons (ze_op (OpR.or op_mul (OpR.or op_repT op_rep)) oz_mul (ze_callB cz_abs call_abs rfl T.n_abs (by decide +kernel) (za_cons (ze_var (i := 2) rfl (.inl rfl)) za_nil)) (ze_callTy cz_int call_int1 rfl T.n_int (by decide +kernel) (za_cons (ze_cmp op_ge oz_ib (ze_callB cz_abs call_abs rfl T.n_abs (by decide +kernel) (za_cons (ze_var (i := 2) rfl (.inl rfl)) za_nil)) (ze_op op_pow oz_pow ze_int ze_int) (nomark _)) za_nil))) (za_cons (ze_op (OpR.or op_add (OpR.or op_catA op_cat)) oz_add (ze_op (OpR.or op_add (OpR.or op_catA op_cat)) oz_add (ze_op op_modN oz_mod (ze_callTy cz_int call_int1 rfl T.n_int (by decide +kernel) (za_cons (ze_var (i := 2) rfl (.inl rfl)) za_nil)) ze_int) (ze_op (OpR.or op_mul (OpR.or op_repT op_rep)) oz_mul ze_int (ze_var (i := 1) rfl (.inl rfl)))) ze_int) (za_cons ze_int za_nil)))))))
def b__law_take : Sm :=
    (sSeq (sIf (mTest (mBin fGt (mBin fIx (vVar 0) (vC (.int 0))) (vC (.int 0)))) (sSeq (sSet 2 (mBin fMod (mApp fInt (mCons (mBin fIx (vVar 0) (vC (.int 0))) mNil)) (vVar 1)))
    (sSeq (sAsg (mBin fDiv (mBin fIx (vVar 0) (vC (.int 0))) (vVar 1)) (gIx (vVar 0) (vC (.int 0))))
    (sRet (vVar 2)))) sNil)
    (sSeq (sAsg (mBin fAdd (mBin fIx (vVar 0) (vC (.int 2))) (vC (.int 1))) (gIx (vVar 0) (vC (.int 2))))
    (sSeq (sSet 3 (mBin fMod (mApp fInt (mCons (mBin fMul (mBin fAdd (mBin fIx (vVar 0) (vC (.int 1))) (mBin fMul (vC (.int 48271)) (mBin fIx (vVar 0) (vC (.int 2))))) (mBin fAdd (vC (.int 39373)) (mBin fIx (vVar 0) (vC (.int 2))))) mNil)) (vC (.int 2147483647))))
    (sSeq (sSet 4 (mBin fAdd (mBin fMod (mApp fInt (mCons (vVar 3) mNil)) (vC (.int 40009))) (vC (.int 7))))
    (sSeq (sSet 5 (mBin fMod (mApp fInt (mCons (mBin fMul (mBin fAdd (mBin fAdd (vVar 3) (mBin fIx (vVar 0) (vC (.int 2)))) (mBin fDiv (mBin fIx (vVar 0) (vC (.int 1))) (vC (.int 1000003)))) (vVar 4)) mNil)) (vC (.int 2147483629))))
    (sRet (mBin fMod (mApp fInt (mCons (mBin fDiv (mBin fMod (mApp fInt (mCons (mBin fAdd (mBin fMul (vVar 5) (vC (.int 48271))) (vVar 3)) mNil)) (vC (.int 2147483587))) (vC (.int 64))) mNil)) (vVar 1))))))))
def m__law_take : List W → LH → Option (W × LH) := fnZ 4 b__law_take
theorem ok__law_take (T : Tx K mg)  : FnOk P w K mg base CX0 1 T.a__law_take T.d__law_take ["_law_box_here", "_law_below"] (spZ K F 2 m__law_take) := by
  refine ok_zD T.F__law_take sc__law_take rfl fun cdv A outer s H E hr => ?_
  exact (zss_cons (zs_if (zt_cmp op_gt oz_ib (ze_ix (ze_var (i := 0) rfl (.inl rfl)) ze_int) ze_int (nomark _)) (zss_cons (zs_set (i := 2) sc__law_take.nd rfl (.inl rfl) (ze_op op_modN oz_mod (ze_callTy cz_int call_int1 rfl T.n_int (by decide +kernel) (za_cons (ze_ix (ze_var (i := 0) rfl (.inl rfl)) ze_int) za_nil)) (ze_var (i := 1) rfl (.inl rfl))))
      (zss_cons (zs_asg (T := []) (ze_op op_fdivN oz_div (ze_ix (ze_var (i := 0) rfl (.inl rfl)) ze_int) (ze_var (i := 1) rfl (.inl rfl))) (zg_ix (ze_var (i := 0) rfl (.inl rfl)) ze_int))
      (zss_one (zs_ret (ze_var (i := 2) rfl (.inl rfl)))))) zss_nil)
      (zss_cons (zs_asg (T := []) (ze_op (OpR.or op_add (OpR.or op_catA op_cat)) oz_add (ze_ix (ze_var (i := 0) rfl (.inl rfl)) ze_int) ze_int) (zg_ix (ze_var (i := 0) rfl (.inl rfl)) ze_int))
      (zss_cons (zs_set (i := 3) sc__law_take.nd rfl (.inl rfl) (ze_op op_modN oz_mod (ze_callTy cz_int call_int1 rfl T.n_int (by decide +kernel) (za_cons (ze_op (OpR.or op_mul (OpR.or op_repT op_rep)) oz_mul (ze_op (OpR.or op_add (OpR.or op_catA op_cat)) oz_add (ze_ix (ze_var (i := 0) rfl (.inl rfl)) ze_int) (ze_op (OpR.or op_mul (OpR.or op_repT op_rep)) oz_mul ze_int (ze_ix (ze_var (i := 0) rfl (.inl rfl)) ze_int))) (ze_op (OpR.or op_add (OpR.or op_catA op_cat)) oz_add ze_int (ze_ix (ze_var (i := 0) rfl (.inl rfl)) ze_int))) za_nil)) ze_int))
      (zss_cons (zs_set (i := 4) sc__law_take.nd rfl (.inl rfl) (ze_op (OpR.or op_add (OpR.or op_catA op_cat)) oz_add (ze_op op_modN oz_mod (ze_callTy cz_int call_int1 rfl T.n_int (by decide +kernel) (za_cons (ze_var (i := 3) rfl (.inl rfl)) za_nil)) ze_int) ze_int))
      (zss_cons (zs_set (i := 5) sc__law_take.nd rfl (.inl rfl) (ze_op op_modN oz_mod (ze_callTy cz_int call_int1 rfl T.n_int (by decide +kernel) (za_cons (ze_op (OpR.or op_mul (OpR.or op_repT op_rep)) oz_mul (ze_op (OpR.or op_add (OpR.or op_catA op_cat)) oz_add (ze_op (OpR.or op_add (OpR.or op_catA op_cat)) oz_add (ze_var (i := 3) rfl (.inl rfl)) (ze_ix (ze_var (i := 0) rfl (.inl rfl)) ze_int)) (ze_op op_fdivN oz_div (ze_ix (ze_var (i := 0) rfl (.inl rfl)) ze_int) ze_int)) (ze_var (i := 4) rfl (.inl rfl))) za_nil)) ze_int))
      (zss_one (zs_ret (ze_op op_modN oz_mod (ze_callTy cz_int call_int1 rfl T.n_int (by decide +kernel) (za_cons (ze_op op_fdivN oz_div (ze_op op_modN oz_mod (ze_callTy cz_int call_int1 rfl T.n_int (by decide +kernel) (za_cons (ze_op (OpR.or op_add (OpR.or op_catA op_cat)) oz_add (ze_op (OpR.or op_mul (OpR.or op_repT op_rep)) oz_mul (ze_var (i := 5) rfl (.inl rfl)) ze_int) (ze_var (i := 3) rfl (.inl rfl))) za_nil)) ze_int) ze_int) za_nil)) (ze_var (i := 1) rfl (.inl rfl))))))))))
def b__law_cells : Sm :=
    (sSeq (sSet 2 (vOrM (mApp fList (mCons (mSlice (vVar 0) oNone (oSome (vVar 1))) mNil)) (mApp fLst (mCons (vC (.int 0)) mNil))))
    (sSeq (sFor (iEnumM (mSlice (vVar 0) (oSome (vVar 1)) (oSome (vC (.int 63))))) (gTupM 2 (gConsM (gSet 3) (gConsM (gSet 4) gNilM))) (sSeq (sSet 5 (mBin fMod (mApp fInt (mCons (vVar 3) mNil)) (vVar 1)))
    (sAsg (mBin fAdd (mBin fIx (vVar 2) (vVar 5)) (mBin fMul (vVar 4) (mBin fAdd (vVar 3) (vC (.int 2))))) (gIx (vVar 2) (vVar 5)))))
    (sRet (vVar 2))))
def m__law_cells : List W → LH → Option (W × LH) := fnZ 4 b__law_cells
theorem ok__law_cells (T : Tx K mg)  : FnOk P w K mg base CX0 1 T.a__law_cells T.d__law_cells ["_law_script", "_law_most"] (spZ K F 2 m__law_cells) := by
  refine ok_zD T.F__law_cells sc__law_cells rfl fun cdv A outer s H E hr => ?_
  exact (zss_cons (zs_set (i := 2) sc__law_cells.nd rfl (.inl rfl) (ze_or (ze_callTy cz_list call_list_of rfl T.n_list (by decide +kernel) (za_cons (ze_slice (ze_var (i := 0) rfl (.inl rfl)) zo_none (zo_some (ze_var (i := 1) rfl (.inl rfl)))) za_nil)) (ze_one (ze_lst (za_cons ze_int za_nil)))))
      (zss_cons (zs_for (T := [3, 4]) PassesOwn.never rfl (zi_enum rfl T.n_enumerate (ze_slice (ze_var (i := 0) rfl (.inl rfl)) (zo_some (ze_var (i := 1) rfl (.inl rfl))) (zo_some ze_int))) (zg_tup rfl (zgs_cons (zg_name (i := 3) sc__law_cells.nd rfl (.inl rfl)) (zgs_cons (zg_name (i := 4) sc__law_cells.nd rfl (.inl rfl)) zgs_nil))) (zss_cons (zs_set (i := 5) sc__law_cells.nd rfl (.inl rfl) (ze_op op_modN oz_mod (ze_callTy cz_int call_int1 rfl T.n_int (by decide +kernel) (za_cons (ze_var (i := 3) rfl (.inl rfl)) za_nil)) (ze_var (i := 1) rfl (.inl rfl))))
      (zss_one (zs_asg (T := []) (ze_op (OpR.or op_add (OpR.or op_catA op_cat)) oz_add (ze_ix (ze_var (i := 2) rfl (.inl rfl)) (ze_var (i := 5) rfl (.inl rfl))) (ze_op (OpR.or op_mul (OpR.or op_repT op_rep)) oz_mul (ze_var (i := 4) rfl (.inl rfl)) (ze_op (OpR.or op_add (OpR.or op_catA op_cat)) oz_add (ze_var (i := 3) rfl (.inl rfl)) ze_int))) (zg_ix (ze_var (i := 2) rfl (.inl rfl)) (ze_var (i := 5) rfl (.inl rfl)))))))
      (zss_one (zs_ret (ze_var (i := 2) rfl (.inl rfl))))))
def b__law_same (fl__law_same : List W → LH → Option (W × LH)) : Sm :=
    (sSeq (sIf (mTruth (mUn (fIsi2 .list .tuple) (vVar 1))) (sSeq (sIf (tOrM (mTest (mBin fNe (mUn (fIsi .list) (vVar 0)) (mUn (fIsi .list) (vVar 1)))) (mTest (mBin fNe (mUn (fIsi .tuple) (vVar 0)) (mUn (fIsi .tuple) (vVar 1))))) (sRet (vC (.bl false))) sNil)
    (sRet (vAndM (mBin fEq (mApp fLen (mCons (vVar 0) mNil)) (mApp fLen (mCons (vVar 1) mNil))) (mApp fAll (mCons (vLc (iZipM (vVar 0) (vVar 1)) [2, 3] (gTupM 2 (gConsM (gSet 2) (gConsM (gSet 3) gNilM))) tYesM (mApp (fN 2 fl__law_same) (mCons (vVar 2) (mCons (vVar 3) mNil)))) mNil))))) sNil)
    (sSeq (sIf (mTruth (mUn (fIsi .dict) (vVar 1))) (sSeq (sIf (tOrM (tNotM (mTruth (mUn (fIsi .dict) (vVar 0)))) (mTest (mBin fNe vBad vBad))) (sRet (vC (.bl false))) sNil)
    (sRet (mApp fAll (mCons (vLc (iVal (vVar 1)) [4] (gSet 4) tYesM (mApp (fN 2 fl__law_same) (mCons (mBin fIx (vVar 0) (vVar 4)) (mCons (mBin fIx (vVar 1) (vVar 4)) mNil)))) mNil)))) sNil)
    (sSeq (sIf (tOrM (mTest (mBin fIsN (vVar 1) (vC .non))) (mTruth (mUn (fIsi2 .bool .str) (vVar 1)))) (sRet (vAndM (mBin fEq (vVar 0) (vVar 1)) (vAndM (mBin fEq (mUn (fIsi .bool) (vVar 0)) (mUn (fIsi .bool) (vVar 1))) (mBin fEq (mBin fIsN (vVar 0) (vC .non)) (mBin fIsN (vVar 1) (vC .non)))))) sNil)
    (sRet (vAndM (mUn (fIsi .int) (vVar 0)) (vAndM (vNotM (mUn (fIsi .bool) (vVar 0))) (mBin fEq (vVar 0) (vVar 1))))))))
def m__law_same : Nat → List W → LH → Option (W × LH)
  | 0 => fun _ _ => none
  | n + 1 => fnZ 3 (b__law_same (m__law_same n))
theorem ok__law_same (T : Tx K mg)  : ∀ n, FnOk P w K mg base CX0 (n + 1) T.a__law_same T.d__law_same ["_law_found", "_law_due_here"] (spZ K F 2 (m__law_same n))
  | 0 => ok_none
  | n + 1 => by
    have G__law_same := ok__law_same T  n
    refine ok_zD T.F__law_same sc__law_same rfl fun cdv A outer s H E hr => ?_
    exact (zss_cons (zs_if (zt_truth (ze_isi2 (T := .list) (U := .tuple) (ze_var (i := 1) rfl (.inr (.inl rfl))) rfl T.n_isinstance rfl T.n_list (by decide +kernel) rfl T.n_tuple (by decide +kernel))) (zss_cons (zs_if (PW.pt (zw_or (zt_cmp (op_neD hr.units) oz_ne (ze_isi (T := .list) (ze_var (i := 0) rfl (.inr (.inl rfl))) rfl T.n_isinstance rfl T.n_list (by decide +kernel)) (ze_isi (T := .list) (ze_var (i := 1) rfl (.inr (.inl rfl))) rfl T.n_isinstance rfl T.n_list (by decide +kernel)) (nomark _)) (zw_or1 (zt_cmp (op_neD hr.units) oz_ne (ze_isi (T := .tuple) (ze_var (i := 0) rfl (.inr (.inl rfl))) rfl T.n_isinstance rfl T.n_tuple (by decide +kernel)) (ze_isi (T := .tuple) (ze_var (i := 1) rfl (.inr (.inl rfl))) rfl T.n_isinstance rfl T.n_tuple (by decide +kernel)) (nomark _))))) (zss_one (zs_ret ze_bl)) zss_nil)
      (zss_one (zs_ret (ze_and (ze_cmp (op_eqD hr.units) oz_eq (ze_callB cz_len call_len rfl T.n_len (by decide +kernel) (za_cons (ze_var (i := 0) rfl (.inr (.inl rfl))) za_nil)) (ze_callB cz_len call_len rfl T.n_len (by decide +kernel) (za_cons (ze_var (i := 1) rfl (.inr (.inl rfl))) za_nil)) (nomark _)) (ze_one (ze_callB cz_all (cr_all rfl) rfl T.n_all (by decide +kernel) (za_cons (ze_lc (own := [("_law_mine", 2), ("_law_its", 3)]) (T := [2, 3]) rfl sc__law_same.nd (zi_zip rfl T.n_zip (ze_var (i := 0) rfl (.inr (.inl rfl))) (ze_var (i := 1) rfl (.inr (.inl rfl)))) (blkOk_by (own := [("_law_mine", 2), ("_law_its", 3)]) (N := N__law_same) (sc := defScope s__law_same) (by decide +kernel)) rfl (fun _ _ _ _ _ => (zg_tup rfl (zgs_cons (zg_name (i := 2) sc__law_same.nd rfl (.inl rfl)) (zgs_cons (zg_name (i := 3) sc__law_same.nd rfl (.inl rfl)) zgs_nil)))) (fun _ _ _ _ _ => zts_nil) (fun _ _ _ _ _ => (ze_call G__law_same hr rfl T.g__law_same T.F__law_same.kp (bd__law_same T.F__law_same) (za_cons (ze_var (i := 2) rfl (.inl rfl)) (za_cons (ze_var (i := 3) rfl (.inl rfl)) za_nil))))) za_nil))))))) zss_nil)
      (zss_cons (zs_if (zt_truth (ze_isi (T := .dict) (ze_var (i := 1) rfl (.inr (.inl rfl))) rfl T.n_isinstance rfl T.n_dict (by decide +kernel))) (zss_cons (zs_if (PW.pt (zw_or (zt_not (zt_truth (ze_isi (T := .dict) (ze_var (i := 0) rfl (.inr (.inl rfl))) rfl T.n_isinstance rfl T.n_dict (by decide +kernel)))) (zw_or1 (zt_cmp (op_neD hr.units) oz_ne ze_bad ze_bad (nomark _))))) (zss_one (zs_ret ze_bl)) zss_nil)
      (zss_one (zs_ret (ze_callB cz_all (cr_all rfl) rfl T.n_all (by decide +kernel) (za_cons (ze_lc (own := [("_law_own", 4)]) (T := [4]) rfl sc__law_same.nd (zi_val (ze_var (i := 1) rfl (.inr (.inl rfl)))) (blkOk_by (own := [("_law_own", 4)]) (N := N__law_same) (sc := defScope s__law_same) (by decide +kernel)) rfl (fun _ _ _ _ _ => (zg_name (i := 4) sc__law_same.nd rfl (.inl rfl))) (fun _ _ _ _ _ => zts_nil) (fun _ _ _ _ _ => (ze_call G__law_same hr rfl T.g__law_same T.F__law_same.kp (bd__law_same T.F__law_same) (za_cons (ze_ix (ze_var (i := 0) rfl (.inr (.inl rfl))) (ze_var (i := 4) rfl (.inl rfl))) (za_cons (ze_ix (ze_var (i := 1) rfl (.inr (.inl rfl))) (ze_var (i := 4) rfl (.inl rfl))) za_nil))))) za_nil))))) zss_nil)
      (zss_cons (zs_if (PW.pt (zw_or (zt_cmp op_isN oz_isN (ze_var (i := 1) rfl (.inr (.inl rfl))) ze_non (nomark _)) (zw_or1 (zt_truth (ze_isi2 (T := .bool) (U := .str) (ze_var (i := 1) rfl (.inr (.inl rfl))) rfl T.n_isinstance rfl T.n_bool (by decide +kernel) rfl T.n_str (by decide +kernel)))))) (zss_one (zs_ret (ze_and (ze_cmp (op_eqD hr.units) oz_eq (ze_var (i := 0) rfl (.inr (.inl rfl))) (ze_var (i := 1) rfl (.inr (.inl rfl))) (nomark _)) (ze_and (ze_cmp (op_eqD hr.units) oz_eq (ze_isi (T := .bool) (ze_var (i := 0) rfl (.inr (.inl rfl))) rfl T.n_isinstance rfl T.n_bool (by decide +kernel)) (ze_isi (T := .bool) (ze_var (i := 1) rfl (.inr (.inl rfl))) rfl T.n_isinstance rfl T.n_bool (by decide +kernel)) (nomark _)) (ze_one (ze_cmp (op_eqD hr.units) oz_eq (ze_cmp op_isN oz_isN (ze_var (i := 0) rfl (.inr (.inl rfl))) ze_non (nomark _)) (ze_cmp op_isN oz_isN (ze_var (i := 1) rfl (.inr (.inl rfl))) ze_non (nomark _)) (nomark _))))))) zss_nil)
      (zss_one (zs_ret (ze_and (ze_isi (T := .int) (ze_var (i := 0) rfl (.inr (.inl rfl))) rfl T.n_isinstance rfl T.n_int (by decide +kernel)) (ze_and (ze_not (ze_isi (T := .bool) (ze_var (i := 0) rfl (.inr (.inl rfl))) rfl T.n_isinstance rfl T.n_bool (by decide +kernel))) (ze_one (ze_cmp (op_eqD hr.units) oz_eq (ze_var (i := 0) rfl (.inr (.inl rfl))) (ze_var (i := 1) rfl (.inr (.inl rfl))) (nomark _))))))))))
def b__law_due : Sm :=
    (sSeq (sIf (tOrM (tNotM (mTruth (mBin fIx (vVar 0) (vC (.int 0))))) (tNotM (mTruth (mBin fIx (vVar 0) (vC (.int 1)))))) (sRet (vC (.bl false))) sNil)
    (sSeq (sIf (tAndM (mTest (mBin fNotN (mBin fIx (vVar 0) (vC (.int 6))) (vC .non))) (tNotM (mTruth (mBin fIx (vVar 0) (vC (.int 3)))))) (sRet (vC (.bl false))) sNil)
    (sRet (vOrM (mBin fEq (mBin fIx (vVar 0) (vC (.int 7))) (vC (.int 1))) (vOrM (mBin fIx (vVar 0) (vC (.int 5))) (vNotM (mBin fIx (vVar 0) (vC (.int 4)))))))))
def m__law_due : List W → LH → Option (W × LH) := fnZ 0 b__law_due
theorem ok__law_due (T : Tx K mg)  : FnOk P w K mg base CX0 1 T.a__law_due T.d__law_due ["_law_rule_so"] (spZ K F 1 m__law_due) := by
  refine ok_zD T.F__law_due sc__law_due rfl fun cdv A outer s H E hr => ?_
  exact (zss_cons (zs_if (PW.pt (zw_or (zt_not (zt_truth (ze_ix (ze_var (i := 0) rfl (.inl rfl)) ze_int))) (zw_or1 (zt_not (zt_truth (ze_ix (ze_var (i := 0) rfl (.inl rfl)) ze_int)))))) (zss_one (zs_ret ze_bl)) zss_nil)
      (zss_cons (zs_if (PW.pt (zw_and (zt_cmp op_notN oz_notN (ze_ix (ze_var (i := 0) rfl (.inl rfl)) ze_int) ze_non (nomark _)) (zw_and1 (zt_not (zt_truth (ze_ix (ze_var (i := 0) rfl (.inl rfl)) ze_int)))))) (zss_one (zs_ret ze_bl)) zss_nil)
      (zss_one (zs_ret (ze_or (ze_cmp (op_eqD hr.units) oz_eq (ze_ix (ze_var (i := 0) rfl (.inl rfl)) ze_int) ze_int (nomark _)) (ze_or (ze_ix (ze_var (i := 0) rfl (.inl rfl)) ze_int) (ze_one (ze_not (ze_ix (ze_var (i := 0) rfl (.inl rfl)) ze_int)))))))))
end
/-! ### the three small defs by their answers -/
def seqW (L : LH) : W → Option (List W)
  | .tup xs => some xs
  | .ref n => match L.get n with
    | some (.lst xs) => some xs
    | _ => none
  | _ => none
def isNI : W → Bool
  | .non => true
  | .int _ => true
  | _ => false
def safeB (a b d t u : Bool) (R : W) (g : Int) : Bool := a && b && (isNonW R || d) && (!t || u || (g == 1))
def fSafe : List W → LH → Option (W × LH) := fun ws L => match ws with
  | [x] => match seqW L x with
    | some [.bl a, .bl b, .bl _, .bl d, .bl t, .bl u, R, .int g] => cond (isNI R) (some (.bl (safeB a b d t u R g), L)) none
    | _ => none
  | _ => none
def fDue : List W → LH → Option (W × LH) := fun ws L => match ws with
  | [.tup [.bl a, .bl b, .bl _, .bl d, .bl t, .bl u, R, .int g]] => cond (isNI R) (some (.bl (safeB a b d t u R g), L)) none
  | _ => none
theorem isNI_of {R : W} (h : isNI R = true) : R = .non ∨ ∃ i, R = .int i := by
  cases R with
  | non => exact .inl rfl
  | int i => exact .inr ⟨i, rfl⟩
  | _ => cases h
theorem safe_tup {L : LH} {a b c d t u : Bool} {R : W} {g : Int} (hR : isNI R = true) : m_is_safe [.tup [.bl a, .bl b, .bl c, .bl d, .bl t, .bl u, R, .int g]] L = some (.bl (safeB a b d t u R g), L) := by
  rcases isNI_of hR with rfl | ⟨i, rfl⟩ <;> cases a <;> cases b <;> cases d <;> cases t <;> cases u <;> rfl
theorem safe_ref {L : LH} {n : Nat} {a b c d t u : Bool} {R : W} {g : Int} (h : L.get n = some (.lst [.bl a, .bl b, .bl c, .bl d, .bl t, .bl u, R, .int g])) (hR : isNI R = true) : m_is_safe [.ref n] L = some (.bl (safeB a b d t u R g), L) := by
  simp only [m_is_safe, b_is_safe, fnZ, sSeq, sAsg, vVar, gTupM, gConsM, gSet, gNilM, h, List.map, List.replicate, List.cons_append, List.nil_append, List.getElem?_cons_zero, List.getElem?_cons_succ, List.set, List.length]
  rcases isNI_of hR with rfl | ⟨i, rfl⟩ <;> cases a <;> cases b <;> cases d <;> cases t <;> cases u <;> rfl
theorem due_tup {L : LH} {a b c d t u : Bool} {R : W} : ∀ {g : Int}, isNI R = true → m__law_due [.tup [.bl a, .bl b, .bl c, .bl d, .bl t, .bl u, R, .int g]] L = some (.bl (safeB a b d t u R g), L)
  | .ofNat 0, hR => by rcases isNI_of hR with rfl | ⟨i, rfl⟩ <;> cases a <;> cases b <;> cases d <;> cases t <;> cases u <;> rfl
  | .ofNat 1, hR => by rcases isNI_of hR with rfl | ⟨i, rfl⟩ <;> cases a <;> cases b <;> cases d <;> cases t <;> cases u <;> rfl
  | .ofNat (n + 2), hR => by rcases isNI_of hR with rfl | ⟨i, rfl⟩ <;> cases a <;> cases b <;> cases d <;> cases t <;> cases u <;> rfl
  | .negSucc n, hR => by rcases isNI_of hR with rfl | ⟨i, rfl⟩ <;> cases a <;> cases b <;> cases d <;> cases t <;> cases u <;> rfl
def fSame : List W → LH → Option (W × LH) := fun ws L => match ws with
  | [.ref p, .ref q] => match L.get p, L.get q with
    | some (.lst [.bl a1, .bl a2]), some (.lst [.bl b1, .bl b2]) => cond (Nat.blt L.n top) (some (.bl ((a1 == b1) && (a2 == b2)), L.add (.lst [.bl (a1 == b1), .bl (a2 == b2)]))) none
    | _, _ => none
  | _ => none
theorem same_bl {L : LH} {a b : Bool} (n : Nat) : m__law_same (n + 1) [.bl a, .bl b] L = some (.bl (a == b), L) := by
  cases a <;> cases b <;> rfl
theorem cond_t {α : Type} {a b : α} : (bif true then a else b) = a := rfl
theorem same_eq {L : LH} {p q : Nat} {a1 a2 b1 b2 : Bool} (h1 : L.get p = some (.lst [.bl a1, .bl a2])) (h2 : L.get q = some (.lst [.bl b1, .bl b2])) (hn : L.n < top) :
    m__law_same 3 [.ref p, .ref q] L = some (.bl ((a1 == b1) && (a2 == b2)), L.add (.lst [.bl (a1 == b1), .bl (a2 == b2)])) := by
  have hT : Nat.blt L.n top = true := Nat.ble_eq_true_of_le hn
  have e1 : (L.add (.lst [.bl (a1 == b1), .bl (a2 == b2)])).get L.n = some (.lst [.bl (a1 == b1), .bl (a2 == b2)]) := by rw [LH.get_add hn, if_pos rfl]
  have st : ∀ i f acc L', lcL (.zip (.obj p) (.obj q)) (gTupM 2 (gConsM (gSet 2) (gConsM (gSet 3) gNilM))) tYesM (mApp (fN 2 (m__law_same 2)) (mCons (vVar 2) (mCons (vVar 3) mNil))) [some (.ref p), some (.ref q), none, none, none] (f + 1) i acc L' = match (Src.zip (.obj p) (.obj q)).item L' i with
    | none => none
    | some none => some (acc.reverse, L')
    | some (some w) => match gTupM 2 (gConsM (gSet 2) (gConsM (gSet 3) gNilM)) w [some (.ref p), some (.ref q), none, none, none] L' with
      | none => none
      | some (sl1, L1) => match tYesM sl1 L1 with
        | none => none
        | some (false, L2) => lcL (.zip (.obj p) (.obj q)) (gTupM 2 (gConsM (gSet 2) (gConsM (gSet 3) gNilM))) tYesM (mApp (fN 2 (m__law_same 2)) (mCons (vVar 2) (mCons (vVar 3) mNil))) [some (.ref p), some (.ref q), none, none, none] f (i + 1) acc L2
        | some (true, L2) => match mApp (fN 2 (m__law_same 2)) (mCons (vVar 2) (mCons (vVar 3) mNil)) sl1 L2 with
          | none => none
          | some (y, L3) => lcL (.zip (.obj p) (.obj q)) (gTupM 2 (gConsM (gSet 2) (gConsM (gSet 3) gNilM))) tYesM (mApp (fN 2 (m__law_same 2)) (mCons (vVar 2) (mCons (vVar 3) mNil))) [some (.ref p), some (.ref q), none, none, none] f (i + 1) (y :: acc) L3 := fun _ _ _ _ => rfl
  have i0 : (Src.zip (.obj p) (.obj q)).item L 0 = some (some (.tup [.bl a1, .bl b1])) := by simp only [Src.item, h1, h2, List.getElem?_cons_zero]
  have i1 : (Src.zip (.obj p) (.obj q)).item L 1 = some (some (.tup [.bl a2, .bl b2])) := by simp only [Src.item, h1, h2, List.getElem?_cons_zero, List.getElem?_cons_succ]
  have i2 : (Src.zip (.obj p) (.obj q)).item L 2 = some none := by simp only [Src.item, h1, h2, List.getElem?_cons_zero, List.getElem?_cons_succ, List.getElem?_nil]
  have c1 : ∀ a b, mApp (fN 2 (m__law_same 2)) (mCons (vVar 2) (mCons (vVar 3) mNil)) [some (.ref p), some (.ref q), some (.bl a), some (.bl b), none] L = some (.bl (a == b), L) := by intro a b; cases a <;> cases b <;> rfl
  have e2 : lcL (.zip (.obj p) (.obj q)) (gTupM 2 (gConsM (gSet 2) (gConsM (gSet 3) gNilM))) tYesM (mApp (fN 2 (m__law_same 2)) (mCons (vVar 2) (mCons (vVar 3) mNil))) [some (.ref p), some (.ref q), none, none, none] lid 0 [] L = some ([.bl (a1 == b1), .bl (a2 == b2)], L) := by
    show lcL _ _ _ _ _ (99999 + 1) 0 [] L = _
    rw [st, i0]
    show (match mApp (fN 2 (m__law_same 2)) (mCons (vVar 2) (mCons (vVar 3) mNil)) [some (.ref p), some (.ref q), some (.bl a1), some (.bl b1), none] L with
      | none => none
      | some (y, L3) => lcL (.zip (.obj p) (.obj q)) (gTupM 2 (gConsM (gSet 2) (gConsM (gSet 3) gNilM))) tYesM (mApp (fN 2 (m__law_same 2)) (mCons (vVar 2) (mCons (vVar 3) mNil))) [some (.ref p), some (.ref q), none, none, none] (99998 + 1) 1 [y] L3) = _
    rw [c1]
    show lcL _ _ _ _ _ (99998 + 1) 1 [.bl (a1 == b1)] L = _
    rw [st, i1]
    show (match mApp (fN 2 (m__law_same 2)) (mCons (vVar 2) (mCons (vVar 3) mNil)) [some (.ref p), some (.ref q), some (.bl a2), some (.bl b2), none] L with
      | none => none
      | some (y, L3) => lcL (.zip (.obj p) (.obj q)) (gTupM 2 (gConsM (gSet 2) (gConsM (gSet 3) gNilM))) tYesM (mApp (fN 2 (m__law_same 2)) (mCons (vVar 2) (mCons (vVar 3) mNil))) [some (.ref p), some (.ref q), none, none, none] (99997 + 1) 2 [y, .bl (a1 == b1)] L3) = _
    rw [c1]
    show lcL _ _ _ _ _ (99997 + 1) 2 [.bl (a2 == b2), .bl (a1 == b1)] L = _
    rw [st, i2]
    rfl
  have e3 : vLc (iZipM (vVar 0) (vVar 1)) [2, 3] (gTupM 2 (gConsM (gSet 2) (gConsM (gSet 3) gNilM))) tYesM (mApp (fN 2 (m__law_same 2)) (mCons (vVar 2) (mCons (vVar 3) mNil))) [some (.ref p), some (.ref q), none, none, none] L = some (.ref L.n, L.add (.lst [.bl (a1 == b1), .bl (a2 == b2)])) := by
    have z1 : iZipM (vVar 0) (vVar 1) [some (.ref p), some (.ref q), none, none, none] L = some (.zip (.obj p) (.obj q), L) := by
      simp only [iZipM, vVar, isList, h1, h2, List.getElem?_cons_zero, List.getElem?_cons_succ]
    unfold vLc
    rw [z1]
    show (match lcL (.zip (.obj p) (.obj q)) (gTupM 2 (gConsM (gSet 2) (gConsM (gSet 3) gNilM))) tYesM (mApp (fN 2 (m__law_same 2)) (mCons (vVar 2) (mCons (vVar 3) mNil))) [some (.ref p), some (.ref q), none, none, none] lid 0 [] L with
      | some (ws, L2) => fLst ws L2
      | none => none) = _
    rw [e2]
    show cond (Nat.ble 2 1000000 && Nat.blt L.n top) _ none = _
    rw [hT]
    rfl
  have e4 : mApp fAll (mCons (vLc (iZipM (vVar 0) (vVar 1)) [2, 3] (gTupM 2 (gConsM (gSet 2) (gConsM (gSet 3) gNilM))) tYesM (mApp (fN 2 (m__law_same 2)) (mCons (vVar 2) (mCons (vVar 3) mNil)))) mNil) [some (.ref p), some (.ref q), none, none, none] L = some (.bl ((a1 == b1) && (a2 == b2)), L.add (.lst [.bl (a1 == b1), .bl (a2 == b2)])) := by
    refine app1 e3 ?_
    simp only [fAll, e1, Z.allB, Bool.and_true]
  have t1 : tyW L (.ref p) = some .list := by simp only [tyW, h1]
  have t2 : tyW L (.ref q) = some .list := by simp only [tyW, h2]
  have l1 : fLen [.ref p] L = some (.int 2, L) := by simp only [fLen, h1]; rfl
  have l2 : fLen [.ref q] L = some (.int 2, L) := by simp only [fLen, h2]; rfl
  have y1 : fNe (.bl true) (.bl true) L = some (.bl false, L) := rfl
  have y2 : fNe (.bl false) (.bl false) L = some (.bl false, L) := rfl
  have y3 : fEq (.int 2) (.int 2) L = some (.bl true, L) := rfl
  have x1 : mTruth (mUn (fIsi2 .list .tuple) (vVar 1)) [some (.ref p), some (.ref q), none, none, none] L = some (true, L) := by
    simp only [mTruth, mUn, vVar, fIsi2, t2, subT, truth, List.getElem?_cons_zero, List.getElem?_cons_succ, Bool.or_false]
  have x2 : tOrM (mTest (mBin fNe (mUn (fIsi .list) (vVar 0)) (mUn (fIsi .list) (vVar 1)))) (mTest (mBin fNe (mUn (fIsi .tuple) (vVar 0)) (mUn (fIsi .tuple) (vVar 1)))) [some (.ref p), some (.ref q), none, none, none] L = some (false, L) := by
    simp only [tOrM, mTest, mBin, mUn, vVar, fIsi, t1, t2, subT, y1, y2, List.getElem?_cons_zero, List.getElem?_cons_succ]
  have x3 : mBin fEq (mApp fLen (mCons (vVar 0) mNil)) (mApp fLen (mCons (vVar 1) mNil)) [some (.ref p), some (.ref q), none, none, none] L = some (.bl true, L) := by
    simp only [mBin, mApp, mCons, mNil, vVar, l1, l2, y3, List.getElem?_cons_zero, List.getElem?_cons_succ]
  show fnZ 3 (b__law_same (m__law_same 2)) [.ref p, .ref q] L = _
  unfold fnZ b__law_same
  show (match sSeq _ _ [some (.ref p), some (.ref q), none, none, none] L with
    | some (.nx, _, L') => some (W.non, L')
    | some (.rt w, _, L') => some (w, L')
    | _ => none) = _
  have x4 : ∀ (r : Sm), sSeq (sIf (mTruth (mUn (fIsi2 .list .tuple) (vVar 1))) (sSeq (sIf (tOrM (mTest (mBin fNe (mUn (fIsi .list) (vVar 0)) (mUn (fIsi .list) (vVar 1)))) (mTest (mBin fNe (mUn (fIsi .tuple) (vVar 0)) (mUn (fIsi .tuple) (vVar 1))))) (sRet (vC (.bl false))) sNil)
    (sRet (vAndM (mBin fEq (mApp fLen (mCons (vVar 0) mNil)) (mApp fLen (mCons (vVar 1) mNil))) (mApp fAll (mCons (vLc (iZipM (vVar 0) (vVar 1)) [2, 3] (gTupM 2 (gConsM (gSet 2) (gConsM (gSet 3) gNilM))) tYesM (mApp (fN 2 (m__law_same 2)) (mCons (vVar 2) (mCons (vVar 3) mNil)))) mNil))))) sNil) r [some (.ref p), some (.ref q), none, none, none] L = some (.rt (.bl ((a1 == b1) && (a2 == b2))), [some (.ref p), some (.ref q), none, none, none], L.add (.lst [.bl (a1 == b1), .bl (a2 == b2)])) := by
    intro r
    simp only [sSeq, sIf, x1, x2, sNil, sRet, vAndM, x3, truth, e4]
  rw [x4]

/-! ### .. as promises -/
section
variable {P : Program} {w : World} {K : PySem.W.Frag} {mg : Str → Option Value} {base : Heap} {F : Fx} {f : Addr} {fd : FuncData} {ps : List Str} {k n : Nat} {m m' : List W → LH → Option (W × LH)}
/-- a mirror that says less -/
theorem ok_less (h : ∀ ws L r, m' ws L = some r → m ws L = some r) (G : FnOk P w K mg base CX0 k f fd ps (spZ K F n m)) : FnOk P w K mg base CX0 k f fd ps (spZ K F n m') := by
  refine G.imp fun vs H Q E q => ?_
  obtain ⟨e, ρ, L, ws, w, L', he, hh, hw, hn, hm, k⟩ := q
  exact ⟨e, ρ, L, ws, w, L', he, hh, hw, hn, h ws L _ hm, k⟩
end
theorem less_safe : ∀ ws L r, fSafe ws L = some r → m_is_safe ws L = some r := by
  intro ws L r h
  unfold fSafe at h
  split at h
  · rename_i x
    split at h
    · rename_i a b c d t u R g hx
      obtain ⟨q, h⟩ := cond_some h
      subst h
      cases x with
      | tup xs =>
        have : xs = _ := Option.some.inj hx
        subst this
        exact safe_tup q
      | ref i =>
        simp only [seqW] at hx
        split at hx
        · rename_i xs hl
          have : xs = _ := Option.some.inj hx
          subst this
          exact safe_ref hl q
        · cases hx
      | _ => cases hx
    · cases h
  · cases h
theorem less_due : ∀ ws L r, fDue ws L = some r → m__law_due ws L = some r := by
  intro ws L r h
  unfold fDue at h
  split at h
  · obtain ⟨q, h⟩ := cond_some h
    subst h
    exact due_tup q
  · cases h
theorem less_same : ∀ ws L r, fSame ws L = some r → m__law_same 3 ws L = some r := by
  intro ws L r h
  unfold fSame at h
  split at h
  · split at h
    · rename_i a1 a2 b1 b2 h1 h2
      obtain ⟨q, h⟩ := cond_some h
      subst h
      exact same_eq h1 h2 (Nat.le_of_ble_eq_true q)
    · cases h
  · cases h
section
variable {P : Program} {w : World} {K : PySem.W.Frag} {mg : Str → Option Value} {base : Heap} {F : Fx}
def b__law_right : Sm :=
    (sSeq (sPar 1 2 (mApp fLst (mCons (vC .non) (mCons (vC (.int 1)) (mCons (mBin fAdd (vC (.int 2)) (mApp (fN 2 fTake) (mCons (vVar 0) (mCons (vC (.int 5)) mNil)))) mNil)))) (mApp fLst (mCons (mApp fTup mNil) mNil)))
    (sSeq (sSet 3 (mApp fLst (mCons (vC (.int 1)) (mCons (vC (.int 2)) (mCons (mBin fAdd (vC (.int 3)) (mApp (fN 2 fTake) (mCons (vVar 0) (mCons (vC (.int 20)) mNil)))) mNil)))))
    (sSeq (sFor (iRange1 (vC (.int 6))) (gSet 4) (sSet 2 (mBin fAdd (vLc (iVal (vVar 2)) [7] (gSet 7) tYesM (mBin fAdd (vVar 7) (mApp fTup (mCons (vC (.bl false)) mNil)))) (vLc (iVal (vVar 2)) [7] (gSet 7) tYesM (mBin fAdd (vVar 7) (mApp fTup (mCons (vC (.bl true)) mNil)))))))
    (sSeq (sFor (iVal (vVar 1)) (gSet 5) (sFor (iVal (vVar 3)) (gSet 6) (sFor (iVal (vVar 2)) (gSet 7) (sSeq (sSet 8 (mBin fAdd (vVar 7) (mApp fTup (mCons (vVar 5) (mCons (vVar 6) mNil)))))
    (sSeq (sSet 9 (mApp fLst (mCons (mApp (fN 1 fSafe) (mCons (vVar 8) mNil)) (mCons (mApp (fK 1 [0] 1 fSafe) (mCons (mApp fList (mCons (vVar 8) mNil)) mNil)) mNil))))
    (sIf (tNotM (mTruth (mApp (fN 2 fSame) (mCons (vVar 9) (mCons (mBin fMul (mApp fLst (mCons (mApp (fN 1 fDue) (mCons (vVar 8) mNil)) mNil)) (vC (.int 2))) mNil))))) (sRet (vC (.bl false))) sNil))))))
    (sRet (vC (.bl true)))))))
def m__law_right : List W → LH → Option (W × LH) := fnZ 9 b__law_right
theorem ok__law_right (T : Tx K mg) (G__law_due : FnOk P w K mg base CX0 1 T.a__law_due T.d__law_due ["_law_rule_so"] (spZ K F 1 fDue)) (G__law_same : FnOk P w K mg base CX0 4 T.a__law_same T.d__law_same ["_law_found", "_law_due_here"] (spZ K F 2 fSame)) (G__law_take : FnOk P w K mg base CX0 1 T.a__law_take T.d__law_take ["_law_box_here", "_law_below"] (spZ K F 2 fTake)) (G_is_safe : FnOk P w K mg base CX0 1 T.a_is_safe T.d_is_safe ["rule"] (spZ K F 1 fSafe)) : FnOk P w K mg base CX0 5 T.a__law_right T.d__law_right ["_law_box_here"] (spZ K F 1 m__law_right) := by
  refine ok_zD T.F__law_right sc__law_right rfl fun cdv A outer s H E hr => ?_
  exact (zss_cons (zs_par (i := 1) (j := 2) rfl sc__law_right.nd rfl rfl (by decide) rfl rfl (ze_lst (za_cons ze_non (za_cons ze_int (za_cons (ze_op (OpR.or op_add (OpR.or op_catA op_cat)) oz_add ze_int (ze_call (G__law_take) (hr.mono (by decide)) rfl T.g__law_take T.F__law_take.kp (bd__law_take T.F__law_take) (za_cons (ze_var (i := 0) rfl (.inl rfl)) (za_cons ze_int za_nil)))) za_nil)))) (ze_lst (za_cons (ze_tup za_nil) za_nil)) (by rfl))
      (zss_cons (zs_set (i := 3) sc__law_right.nd rfl (.inl rfl) (ze_lst (za_cons ze_int (za_cons ze_int (za_cons (ze_op (OpR.or op_add (OpR.or op_catA op_cat)) oz_add ze_int (ze_call (G__law_take) (hr.mono (by decide)) rfl T.g__law_take T.F__law_take.kp (bd__law_take T.F__law_take) (za_cons (ze_var (i := 0) rfl (.inl rfl)) (za_cons ze_int za_nil)))) za_nil)))))
      (zss_cons (zs_for (T := [4]) PassesOwn.never rfl (zi_range1 rfl T.n_range ze_int) (zg_name (i := 4) sc__law_right.nd rfl (.inl rfl)) (zss_one (zs_set (i := 2) sc__law_right.nd rfl (.inl rfl) (ze_op (OpR.or op_add (OpR.or op_catA op_cat)) oz_add (ze_lc (own := [("_law_row", 7)]) (T := [7]) rfl sc__law_right.nd (zi_val (ze_var (i := 2) rfl (.inl rfl))) (blkOk_by (own := [("_law_row", 7)]) (N := N__law_right) (sc := defScope s__law_right) (by decide +kernel)) rfl (fun _ _ _ _ _ => (zg_name (i := 7) sc__law_right.nd rfl (.inl rfl))) (fun _ _ _ _ _ => zts_nil) (fun _ _ _ _ _ => (ze_op (OpR.or op_add (OpR.or op_catA op_cat)) oz_add (ze_var (i := 7) rfl (.inl rfl)) (ze_tup (za_cons ze_bl za_nil))))) (ze_lc (own := [("_law_row", 7)]) (T := [7]) rfl sc__law_right.nd (zi_val (ze_var (i := 2) rfl (.inl rfl))) (blkOk_by (own := [("_law_row", 7)]) (N := N__law_right) (sc := defScope s__law_right) (by decide +kernel)) rfl (fun _ _ _ _ _ => (zg_name (i := 7) sc__law_right.nd rfl (.inl rfl))) (fun _ _ _ _ _ => zts_nil) (fun _ _ _ _ _ => (ze_op (OpR.or op_add (OpR.or op_catA op_cat)) oz_add (ze_var (i := 7) rfl (.inl rfl)) (ze_tup (za_cons ze_bl za_nil)))))))))
      (zss_cons (zs_for (T := [5]) PassesOwn.never rfl (zi_val (ze_var (i := 1) rfl (.inl rfl))) (zg_name (i := 5) sc__law_right.nd rfl (.inl rfl)) (zss_one (zs_for (T := [6]) PassesOwn.never rfl (zi_val (ze_var (i := 3) rfl (.inl rfl))) (zg_name (i := 6) sc__law_right.nd rfl (.inl rfl)) (zss_one (zs_for (T := [7]) PassesOwn.never rfl (zi_val (ze_var (i := 2) rfl (.inl rfl))) (zg_name (i := 7) sc__law_right.nd rfl (.inl rfl)) (zss_cons (zs_set (i := 8) sc__law_right.nd rfl (.inl rfl) (ze_op (OpR.or op_add (OpR.or op_catA op_cat)) oz_add (ze_var (i := 7) rfl (.inl rfl)) (ze_tup (za_cons (ze_var (i := 5) rfl (.inl rfl)) (za_cons (ze_var (i := 6) rfl (.inl rfl)) za_nil)))))
      (zss_cons (zs_set (i := 9) sc__law_right.nd rfl (.inl rfl) (ze_lst (za_cons (ze_call (G_is_safe) (hr.mono (by decide)) rfl T.g_is_safe T.F_is_safe.kp (bd_is_safe T.F_is_safe) (za_cons (ze_var (i := 8) rfl (.inl rfl)) za_nil)) (za_cons (ze_callK0 (qq := 1) (π := [0]) (G_is_safe) (hr.mono (by decide)) rfl T.g_is_safe T.F_is_safe.kp (kb_is_safe_0_rule T.F_is_safe) (zk_cons (ze_callTy cz_list call_list_of rfl T.n_list (by decide +kernel) (za_cons (ze_var (i := 8) rfl (.inl rfl)) za_nil)) zk_nil)) za_nil))))
      (zss_one (zs_if (zt_not (zt_truth (ze_call (G__law_same) (hr.mono (by decide)) rfl T.g__law_same T.F__law_same.kp (bd__law_same T.F__law_same) (za_cons (ze_var (i := 9) rfl (.inl rfl)) (za_cons (ze_op (OpR.or op_mul (OpR.or op_repT op_rep)) oz_mul (ze_lst (za_cons (ze_call (G__law_due) (hr.mono (by decide)) rfl T.g__law_due T.F__law_due.kp (bd__law_due T.F__law_due) (za_cons (ze_var (i := 8) rfl (.inl rfl)) za_nil)) za_nil)) ze_int) za_nil))))) (zss_one (zs_ret ze_bl)) zss_nil)))))))))
      (zss_one (zs_ret ze_bl))))))
def b_law : Sm :=
    (sSeq (sSet 1 (mApp (fN 2 g_cells) (mCons (vVar 0) (mCons (vC (.int 2)) mNil))))
    (sRet (mApp fAll (mCons (vLc (iRange1 (mApp fLen (mCons (vVar 1) mNil))) [2] (gSet 2) tYesM (mApp (fN 1 fRight) (mCons (mApp (fN 2 g_box) (mCons (vVar 1) (mCons (vVar 2) mNil))) mNil))) mNil))))
def m_law : List W → LH → Option (W × LH) := fnZ 2 b_law
theorem ok_law (T : Tx K mg) (G__law_box : FnOk P w K mg base CX0 1 T.a__law_box T.d__law_box ["_law_script", "_law_k"] (spZ K F 2 g_box)) (G__law_cells : FnOk P w K mg base CX0 1 T.a__law_cells T.d__law_cells ["_law_script", "_law_most"] (spZ K F 2 g_cells)) (G__law_right : FnOk P w K mg base CX0 5 T.a__law_right T.d__law_right ["_law_box_here"] (spZ K F 1 fRight)) : FnOk P w K mg base CX0 6 T.a_law T.d_law ["_law_script"] (spZ K F 1 m_law) := by
  refine ok_zD T.F_law sc_law rfl fun cdv A outer s H E hr => ?_
  exact (zss_cons (zs_set (i := 1) sc_law.nd rfl (.inr rfl) (ze_call (G__law_cells) (hr.mono (by decide)) rfl T.g__law_cells T.F__law_cells.kp (bd__law_cells T.F__law_cells) (za_cons (ze_var (i := 0) rfl (.inl rfl)) (za_cons ze_int za_nil))))
      (zss_one (zs_ret (ze_callB cz_all (cr_all rfl) rfl T.n_all (by decide +kernel) (za_cons (ze_lc (own := [("_law_k", 2)]) (T := [2]) rfl sc_law.nd (zi_range1 rfl T.n_range (ze_callB cz_len call_len rfl T.n_len (by decide +kernel) (za_cons (ze_var (i := 1) rfl (.inr (.inl rfl))) za_nil))) (blkOk_by (own := [("_law_k", 2)]) (N := N_law) (sc := defScope s_law) (by decide +kernel)) rfl (fun _ _ _ _ _ => (zg_name (i := 2) sc_law.nd rfl (.inl rfl))) (fun _ _ _ _ _ => zts_nil) (fun _ _ _ _ _ => (ze_call (G__law_right) (hr.mono (by decide)) rfl T.g__law_right T.F__law_right.kp (bd__law_right T.F__law_right) (za_cons (ze_call (G__law_box) (hr.mono (by decide)) rfl T.g__law_box T.F__law_box.kp (bd__law_box T.F__law_box) (za_cons (ze_var (i := 1) rfl (.inr (.inl rfl))) (za_cons (ze_var (i := 2) rfl (.inl rfl)) za_nil))) za_nil)))) za_nil)))))
end

end Z16

set_option Elab.async false
set_option linter.all false
set_option maxRecDepth 100000
set_option maxHeartbeats 0
namespace Z16
open PySem PySem.Spec PyProof.Rows L2 Z
/-! ### the head: facts by names, the run -/
def dD_is_safe : He.DefD := ⟨("is_safe", none), "is_safe", "is_safe", defArgs s_is_safe, defBody s_is_safe, defScope s_is_safe, [], []⟩
def dD__law_box : He.DefD := ⟨("_law_box", none), "_law_box", "_law_box", defArgs s__law_box, defBody s__law_box, defScope s__law_box, [], []⟩
def dD__law_take : He.DefD := ⟨("_law_take", none), "_law_take", "_law_take", defArgs s__law_take, defBody s__law_take, defScope s__law_take, [], []⟩
def dD__law_cells : He.DefD := ⟨("_law_cells", none), "_law_cells", "_law_cells", defArgs s__law_cells, defBody s__law_cells, defScope s__law_cells, [], []⟩
def dD__law_same : He.DefD := ⟨("_law_same", none), "_law_same", "_law_same", defArgs s__law_same, defBody s__law_same, defScope s__law_same, [], []⟩
def dD__law_due : He.DefD := ⟨("_law_due", none), "_law_due", "_law_due", defArgs s__law_due, defBody s__law_due, defScope s__law_due, [], []⟩
def dD__law_right : He.DefD := ⟨("_law_right", none), "_law_right", "_law_right", defArgs s__law_right, defBody s__law_right, defScope s__law_right, [], []⟩
def dD_law : He.DefD := ⟨("law", none), "law", "law", defArgs s_law, defBody s_law, defScope s_law, [], []⟩
def fn : List He.DefD := [dD_is_safe, dD__law_box, dD__law_take, dD__law_cells, dD__law_same, dD__law_due, dD__law_right, dD_law]
def fa : List He.Fa := [.glo "is_safe", .glo "_law_box", .glo "_law_take", .glo "_law_cells", .glo "_law_same", .glo "_law_due", .glo "_law_right", .glo "law", .free "abs", .free "all", .free "bool", .free "dict", .free "enumerate", .free "int", .free "isinstance", .free "len", .free "list", .free "range", .free "str", .free "tuple", .free "zip"]
abbrev R : PySem.W.OpenRow := PySem.W.OpenLaw.row PySem.Challenge.rw_watchlost_k16_which_rules_are_safe
abbrev hk : PySem.W.Hook := He.hookD 4 fa fn
def ob (s : PySem.W.SharedT) : He.AlD := He.obsDG 4 fa fn (HandSHeadRun.getT s)
theorem ob_eq (s : PySem.W.SharedT) : ob s = hk.obs s.abs := He.obsDG_eq (HandSHeadRun.getT_eq s)
theorem run (w : World) : HandSHeadRun.RunEq R (PySem.W.view R.prog [9]) hk ob 400 ["is_safe", "_law_box", "_law_take", "_law_cells", "_law_same", "_law_due", "_law_right"] w := by
  intro os
  kernel_rfl
theorem facts {P : Program} {w : World} {K : PySem.W.Frag} {h : Heap} {mg : Str → Option Value} {f : Addr} (X : K.In h) (G : h.Ns mainGlobals mg) (hfa : mg ("law" : Str) = some (.ref f)) (c : He.SaysD fa fn K) :
    ∃ T : Tx K mg, T.a_law = f := by
  obtain ⟨d_is_safe, F_is_safe⟩ := c.def_ 0 (d := dD_is_safe) rfl
  obtain ⟨d__law_box, F__law_box⟩ := c.def_ 1 (d := dD__law_box) rfl
  obtain ⟨d__law_take, F__law_take⟩ := c.def_ 2 (d := dD__law_take) rfl
  obtain ⟨d__law_cells, F__law_cells⟩ := c.def_ 3 (d := dD__law_cells) rfl
  obtain ⟨d__law_same, F__law_same⟩ := c.def_ 4 (d := dD__law_same) rfl
  obtain ⟨d__law_due, F__law_due⟩ := c.def_ 5 (d := dD__law_due) rfl
  obtain ⟨d__law_right, F__law_right⟩ := c.def_ 6 (d := dD__law_right) rfl
  obtain ⟨d_law, F_law⟩ := c.def_ 7 (d := dD_law) rfl
  have g_is_safe := He.glo_ok X G (c.fact 0 (f := .glo "is_safe") rfl)
  have g__law_box := He.glo_ok X G (c.fact 1 (f := .glo "_law_box") rfl)
  have g__law_take := He.glo_ok X G (c.fact 2 (f := .glo "_law_take") rfl)
  have g__law_cells := He.glo_ok X G (c.fact 3 (f := .glo "_law_cells") rfl)
  have g__law_same := He.glo_ok X G (c.fact 4 (f := .glo "_law_same") rfl)
  have g__law_due := He.glo_ok X G (c.fact 5 (f := .glo "_law_due") rfl)
  have g__law_right := He.glo_ok X G (c.fact 6 (f := .glo "_law_right") rfl)
  have g_law := He.glo_ok X G (c.fact 7 (f := .glo "law") rfl)
  have n_abs := He.free_ok X G (c.fact 8 (f := .free "abs") rfl)
  have n_all := He.free_ok X G (c.fact 9 (f := .free "all") rfl)
  have n_bool := He.free_ok X G (c.fact 10 (f := .free "bool") rfl)
  have n_dict := He.free_ok X G (c.fact 11 (f := .free "dict") rfl)
  have n_enumerate := He.free_ok X G (c.fact 12 (f := .free "enumerate") rfl)
  have n_int := He.free_ok X G (c.fact 13 (f := .free "int") rfl)
  have n_isinstance := He.free_ok X G (c.fact 14 (f := .free "isinstance") rfl)
  have n_len := He.free_ok X G (c.fact 15 (f := .free "len") rfl)
  have n_list := He.free_ok X G (c.fact 16 (f := .free "list") rfl)
  have n_range := He.free_ok X G (c.fact 17 (f := .free "range") rfl)
  have n_str := He.free_ok X G (c.fact 18 (f := .free "str") rfl)
  have n_tuple := He.free_ok X G (c.fact 19 (f := .free "tuple") rfl)
  have n_zip := He.free_ok X G (c.fact 20 (f := .free "zip") rfl)
  have e := hfa.symm.trans g_law
  cases e
  exact ⟨⟨_, _, F_is_safe, g_is_safe, _, _, F__law_box, g__law_box, _, _, F__law_take, g__law_take, _, _, F__law_cells, g__law_cells, _, _, F__law_same, g__law_same, _, _, F__law_due, g__law_due, _, _, F__law_right, g__law_right, _, _, F_law, g_law, n_abs, n_all, n_bool, n_dict, n_enumerate, n_int, n_isinstance, n_len, n_list, n_range, n_str, n_tuple, n_zip⟩, rfl⟩
/-! ### what is drawn, and what is told -/
theorem ev0 (r : Nat) : isTrueM (m__law_right [.ref 0] (L1 (.box [(5, r), (20, 0)]))) = true := by kernel_rfl
theorem ev1 (r : Nat) : isTrueM (m__law_right [.ref 0] (L1 (.box [(5, r), (20, 1)]))) = true := by kernel_rfl
theorem ev2 (r : Nat) : isTrueM (m__law_right [.ref 0] (L1 (.box [(5, r), (20, 2)]))) = true := by kernel_rfl
theorem ev3 (r : Nat) : isTrueM (m__law_right [.ref 0] (L1 (.box [(5, r), (20, 3)]))) = true := by kernel_rfl
theorem ev4 (r : Nat) : isTrueM (m__law_right [.ref 0] (L1 (.box [(5, r), (20, 4)]))) = true := by kernel_rfl
theorem ev5 (r : Nat) : isTrueM (m__law_right [.ref 0] (L1 (.box [(5, r), (20, 5)]))) = true := by kernel_rfl
theorem ev6 (r : Nat) : isTrueM (m__law_right [.ref 0] (L1 (.box [(5, r), (20, 6)]))) = true := by kernel_rfl
theorem ev7 (r : Nat) : isTrueM (m__law_right [.ref 0] (L1 (.box [(5, r), (20, 7)]))) = true := by kernel_rfl
theorem ev8 (r : Nat) : isTrueM (m__law_right [.ref 0] (L1 (.box [(5, r), (20, 8)]))) = true := by kernel_rfl
theorem ev9 (r : Nat) : isTrueM (m__law_right [.ref 0] (L1 (.box [(5, r), (20, 9)]))) = true := by kernel_rfl
theorem ev10 (r : Nat) : isTrueM (m__law_right [.ref 0] (L1 (.box [(5, r), (20, 10)]))) = true := by kernel_rfl
theorem ev11 (r : Nat) : isTrueM (m__law_right [.ref 0] (L1 (.box [(5, r), (20, 11)]))) = true := by kernel_rfl
theorem ev12 (r : Nat) : isTrueM (m__law_right [.ref 0] (L1 (.box [(5, r), (20, 12)]))) = true := by kernel_rfl
theorem ev13 (r : Nat) : isTrueM (m__law_right [.ref 0] (L1 (.box [(5, r), (20, 13)]))) = true := by kernel_rfl
theorem ev14 (r : Nat) : isTrueM (m__law_right [.ref 0] (L1 (.box [(5, r), (20, 14)]))) = true := by kernel_rfl
theorem ev15 (r : Nat) : isTrueM (m__law_right [.ref 0] (L1 (.box [(5, r), (20, 15)]))) = true := by kernel_rfl
theorem ev16 (r : Nat) : isTrueM (m__law_right [.ref 0] (L1 (.box [(5, r), (20, 16)]))) = true := by kernel_rfl
theorem ev17 (r : Nat) : isTrueM (m__law_right [.ref 0] (L1 (.box [(5, r), (20, 17)]))) = true := by kernel_rfl
theorem ev18 (r : Nat) : isTrueM (m__law_right [.ref 0] (L1 (.box [(5, r), (20, 18)]))) = true := by kernel_rfl
theorem ev19 (r : Nat) : isTrueM (m__law_right [.ref 0] (L1 (.box [(5, r), (20, 19)]))) = true := by kernel_rfl
theorem right_true : ∀ ds ∈ allDraws [5, 20], isTrueM (m__law_right [.ref 0] (L1 (.box ds))) = true := by
  intro ds h
  simp only [allDraws, List.mem_flatMap, List.mem_map, List.mem_range, List.mem_singleton] at h
  obtain ⟨r, _, d1, ⟨s, hs, d2, rfl, rfl⟩, rfl⟩ := h
  match s, hs with
  | 0, _ => exact ev0 r
  | 1, _ => exact ev1 r
  | 2, _ => exact ev2 r
  | 3, _ => exact ev3 r
  | 4, _ => exact ev4 r
  | 5, _ => exact ev5 r
  | 6, _ => exact ev6 r
  | 7, _ => exact ev7 r
  | 8, _ => exact ev8 r
  | 9, _ => exact ev9 r
  | 10, _ => exact ev10 r
  | 11, _ => exact ev11 r
  | 12, _ => exact ev12 r
  | 13, _ => exact ev13 r
  | 14, _ => exact ev14 r
  | 15, _ => exact ev15 r
  | 16, _ => exact ev16 r
  | 17, _ => exact ev17 r
  | 18, _ => exact ev18 r
  | 19, _ => exact ev19 r
  | s + 20, hs => exact absurd hs (by omega)
def FX : Fx := ⟨LITS, fun _ => 0, fun _ => none⟩
theorem fx_ok : En.Ok FX ⟨[], []⟩ := ⟨.nil, fun _ h => (by cases h), fun _ h => (by cases h), .nil, fun _ h => (by cases h), fun _ h => (by cases h), fun _ h => (by cases h)⟩
theorem ok_top {P : Program} {w : World} {K : PySem.W.Frag} {mg : Str → Option Value} {base : Heap} (T : Tx K mg) : FnOk P w K mg base CX0 6 T.a_law T.d_law ["_law_script"] (spZ K FX 1 (g_law 2)) := by
  have G_safe : FnOk P w K mg base CX0 1 T.a_is_safe T.d_is_safe ["rule"] (spZ K FX 1 fSafe) := ok_less less_safe (ok_is_safe T)
  have G_box : FnOk P w K mg base CX0 1 T.a__law_box T.d__law_box ["_law_script", "_law_k"] (spZ K FX 2 g_box) := ok__law_box T
  have G_take : FnOk P w K mg base CX0 1 T.a__law_take T.d__law_take ["_law_box_here", "_law_below"] (spZ K FX 2 fTake) := ok_take (ok__law_take T)
  have G_cells : FnOk P w K mg base CX0 1 T.a__law_cells T.d__law_cells ["_law_script", "_law_most"] (spZ K FX 2 g_cells) := ok__law_cells T
  have G_same : FnOk P w K mg base CX0 4 T.a__law_same T.d__law_same ["_law_found", "_law_due_here"] (spZ K FX 2 fSame) := ok_less less_same (ok__law_same T 3)
  have G_due : FnOk P w K mg base CX0 1 T.a__law_due T.d__law_due ["_law_rule_so"] (spZ K FX 1 fDue) := ok_less less_due (ok__law_due T)
  have G_right : FnOk P w K mg base CX0 5 T.a__law_right T.d__law_right ["_law_box_here"] (spZ K FX 1 fRight) := ok_right (ms := [5, 20]) (by decide) (by decide) right_true (ok__law_right T G_due G_same G_take G_safe)
  exact ok_law T G_box G_cells G_right
end Z16
open PySem PySem.W PySem.Calls PyProof.Rows
theorem PySem.Challenge.cw_watchlost_k16_which_rules_are_safe_holds : PySem.Challenge.rw_watchlost_k16_which_rules_are_safe.Holds := by
  w_on; o_law
  refine HandSHeadRun.head_any (r := OpenLaw.row PySem.Challenge.rw_watchlost_k16_which_rules_are_safe) (q := view (OpenLaw.row PySem.Challenge.rw_watchlost_k16_which_rules_are_safe).prog [9]) (H := Z16.hk) (ob := Z16.ob) (M := 400) (loose := ["is_safe", "_law_box", "_law_take", "_law_cells", "_law_same", "_law_due", "_law_right"]) (d := HandSHeadRun.topDef (OpenLaw.row PySem.Challenge.rw_watchlost_k16_which_rules_are_safe).prog 9) (kwd := []) Z16.ob_eq
    (by kernel_rfl) (fun s => by kernel_rfl) Z16.run (by kernel_rfl) (by kernel_rfl) (by kernel_rfl) (by rfl) (by first | assumption | decide +kernel) (by decide +kernel) ⟨rfl, rfl, rfl, rfl, rfl, by decide +kernel⟩ ?hw ?hc
  case hw => w_witness2
  case hc =>
    refine L2.walk_ofE (l := PySem.Challenge.rw_watchlost_k16_which_rules_are_safe) (n := 63) (k := 6) (x := "_law_script") (CX := L2.CX0) rfl (by decide) (by kernel_rfl) ⟨rfl, by decide, by decide⟩ ?F (fun _ _ _ _ z => z)
    intro w mg fa h Y G hmg0
    obtain ⟨K, KX, c⟩ := Y
    have hmg : mg ("law" : PySem.Str) = some (.ref fa) := by
      have e : (HandSHeadRun.topDef (OpenLaw.row PySem.Challenge.rw_watchlost_k16_which_rules_are_safe).prog 9).name = ("law" : PySem.Str) := by kernel_rfl
      rw [← e]
      exact hmg0
    obtain ⟨T, hT⟩ := Z16.facts (P := (PySem.Challenge.rw_watchlost_k16_which_rules_are_safe).prog) (w := w) KX G hmg c
    subst hT
    refine ⟨K, T.d_law, Z.spZ K Z16.FX 1 (Z.g_law 2), KX, ?_, ?_, ?_⟩
    · have b := L2.FunD.bindsA (ps := ["_law_script"]) T.F_law fun _ _ _ _ _ _ us hl => match us, hl with | [_], _ => rfl
      exact fun s v => b s [v] rfl
    · exact fun H a ns hl hO hS => Z.top_z Z16.fx_ok (Z.law_eq (by decide) (by decide) hl (by decide)) hO hS
    · exact fun base _ _ => Z16.ok_top T
#print axioms PySem.Challenge.cw_watchlost_k16_which_rules_are_safe_holds

