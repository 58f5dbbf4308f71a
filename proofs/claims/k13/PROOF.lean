import PyProof.Rows.All
import Wide.All
import OpenK.AllK
import Wide.FinOn
import HandS.ForMost
import HandS.WordsExc
import HandS.Lambda
import HandS.EndTab
import HandS.IsInst
import HandS.Wide
import HandS.Zip
import HandS.Flow
import HandS.RaiseMore
import HandS.CallLocal
import HandS.HeadEnd
import HandS.TupAny
import HandS.Style
import HandS.Deep
import KE.GoesNew
import HandS.NestedK
import HandS.HeadWalk
import HandS.HeadHook4
import HandS.Head2
import PySem.Challenge.RW_casetrees_k13_whole_shares_solved_and_go
set_option Elab.async false
set_option linter.all false
set_option maxRecDepth 100000
set_option maxHeartbeats 0
namespace Mp
open PySem PySem.Spec PyProof.Rows L2
abbrev St := L2.St

/-! ## data of the small language -/
inductive D where
  | non | bl (b : Bool) | int (i : Int) | str (s : Str) | tup (l : List D) | ro (l : List D) | ref (n : Nat) | fn (x : Str)
instance : Inhabited D := ⟨.non⟩

mutual
def D.beq : D → D → Bool
  | .non, .non => true
  | .bl a, .bl b => decide (a = b)
  | .int a, .int b => decide (a = b)
  | .str a, .str b => decide (a = b)
  | .tup a, .tup b => D.beqs a b
  | .ro a, .ro b => D.beqs a b
  | .ref a, .ref b => decide (a = b)
  | .fn a, .fn b => decide (a = b)
  | _, _ => false
def D.beqs : List D → List D → Bool
  | [], [] => true
  | a :: as, b :: bs => D.beq a b && D.beqs as bs
  | _, _ => false
end
mutual
theorem D.beq_iff : ∀ a b : D, D.beq a b = true ↔ a = b
  | a, b => by
    cases a <;> cases b <;> simp [D.beq]
    · exact D.beqs_iff _ _
    · exact D.beqs_iff _ _
theorem D.beqs_iff : ∀ a b : List D, D.beqs a b = true ↔ a = b
  | [], [] => by simp [D.beqs]
  | [], _ :: _ => by simp [D.beqs]
  | _ :: _, [] => by simp [D.beqs]
  | a :: as, b :: bs => by simp [D.beqs, D.beq_iff a b, D.beqs_iff as bs]
end
instance : DecidableEq D := fun a b => decidable_of_iff _ (D.beq_iff a b)

/-- a thing that may be changed -/
inductive MO where
  | lst (l : List D)
  deriving DecidableEq
abbrev MH := List MO
abbrev Ev := List (Option D)

inductive Res (α : Type) where
  | ok (a : α) (M : MH) | exc (c : Str) (M : MH) | err
inductive SRes where
  | nx (r : Ev) (M : MH) | rt (d : D) (M : MH) | bk (r : Ev) (M : MH) | ct (r : Ev) (M : MH) | exc (c : Str) (r : Ev) (M : MH) | err
def Res.bind {α β : Type} : Res α → (α → MH → Res β) → Res β
  | .ok a M, k => k a M
  | .exc c M, _ => .exc c M
  | .err, _ => .err
def Res.toS {α : Type} (r : Ev) : Res α → (α → MH → SRes) → SRes
  | .ok a M, k => k a M
  | .exc c M, _ => .exc c r M
  | .err, _ => .err
@[simp] theorem Res.bind_ok {α β : Type} (a : α) (M : MH) (k : α → MH → Res β) : (Res.ok a M).bind k = k a M := rfl
@[simp] theorem Res.bind_exc {α β : Type} (c : Str) (M : MH) (k : α → MH → Res β) : (Res.exc c M : Res α).bind k = .exc c M := rfl
@[simp] theorem Res.bind_err {α β : Type} (k : α → MH → Res β) : (Res.err : Res α).bind k = .err := rfl
@[simp] theorem Res.toS_ok {α : Type} (r : Ev) (a : α) (M : MH) (k : α → MH → SRes) : (Res.ok a M).toS r k = k a M := rfl
@[simp] theorem Res.toS_exc {α : Type} (r : Ev) (c : Str) (M : MH) (k : α → MH → SRes) : (Res.exc c M : Res α).toS r k = .exc c r M := rfl
@[simp] theorem Res.toS_err {α : Type} (r : Ev) (k : α → MH → SRes) : (Res.err : Res α).toS r k = .err := rfl

/-! ## how the data lie in the abstract heap -/
/-- a list that is only read -/
def RoL (K : PySem.W.Frag) (H : Hp) (a : Addr) (vs : List V) : Prop :=
  (∃ o, H a = some (.frz o (.lst vs))) ∨ ∃ (o : Obj) (its : Array Value) (n : Nat), K.lookup a = some o ∧ o.cls = .type "list" ∧ o.dict = none ∧ o.data = .seq its n ∧ its.size ≤ sizeLine ∧ Vals vs its.toList
theorem RoL.seq {K : PySem.W.Frag} {H : Hp} {a : Addr} {vs : List V} (h : RoL K H a vs) : SqL K H a vs := by
  rcases h with ⟨o, h⟩ | h
  · exact .inl (.inr ⟨o, h⟩)
  · exact .inr h

section
variable (K : PySem.W.Frag) (mg : Str → Option Value)
mutual
def RelD (ι : List Addr) (H : Hp) : D → V → Prop
  | .non, v => v = .non
  | .bl b, v => v = .bl b
  | .int i, v => v = .int i
  | .str s, v => v = .str s
  | .tup ds, v => ∃ a vs, v = .ref a ∧ SqT K H a vs ∧ RelDs ι H ds vs
  | .ro ds, v => ∃ a vs, v = .ref a ∧ RoL K H a vs ∧ RelDs ι H ds vs
  | .ref n, v => ∃ a, ι[n]? = some a ∧ v = .ref a
  | .fn x, v => ∃ a, mg x = some (.ref a) ∧ v = .ref a
def RelDs (ι : List Addr) (H : Hp) : List D → List V → Prop
  | [], vs => vs = []
  | d :: ds, vs => ∃ v vr, vs = v :: vr ∧ RelD ι H d v ∧ RelDs ι H ds vr
end
end

/-- what is never written -/
def Fix (o : HO) : Prop := (∃ vs, o = .tup vs) ∨ (∃ ob u, o = .frz ob u)
/-- how the abstract heap grows -/
structure Ext (ι : List Addr) (H : Hp) (ι' : List Addr) (H' : Hp) : Prop where
  pre : ι <+: ι'
  new : ∀ a o, a ∈ ι' → a ∉ ι → H a = some o → ∃ ps, o = .tbl ps
  keep : ∀ a o, a ∉ ι → H a = some o → (∀ ps, o ≠ .tbl ps) → H' a = some o
  fix : ∀ a o, H a = some o → Fix o → H' a = some o
theorem Ext.refl (ι : List Addr) (H : Hp) : Ext ι H ι H := ⟨List.prefix_refl _, fun _ _ h h' => absurd h h', fun _ _ _ h _ => h, fun _ _ h _ => h⟩
theorem Ext.trans {ι ι1 ι2 : List Addr} {H H1 H2 : Hp} (a : Ext ι H ι1 H1) (b : Ext ι1 H1 ι2 H2) : Ext ι H ι2 H2 := by
  have nin : ∀ x o, x ∉ ι → H x = some o → (∀ ps, o ≠ .tbl ps) → x ∉ ι1 := fun x o h1 h2 h3 h4 => by
    obtain ⟨ps, e⟩ := a.new x o h4 h1 h2
    exact h3 ps e
  refine ⟨a.pre.trans b.pre, fun x o h1 h2 h3 => ?_, fun x o h1 h2 h3 => b.keep x o (nin x o h1 h2 h3) (a.keep x o h1 h2 h3) h3, fun x o h1 h2 => b.fix x o (a.fix x o h1 h2) h2⟩
  by_cases h4 : x ∈ ι1
  · exact a.new x o h4 h2 h3
  · by_cases ht : ∃ ps, o = .tbl ps
    · exact ht
    · exact b.new x o h1 h4 (a.keep x o h2 h3 fun ps e => ht ⟨ps, e⟩)

section
variable {K : PySem.W.Frag} {mg : Str → Option Value}
theorem SqT.mono {H H' : Hp} {a : Addr} {vs : List V} (f : ∀ a o, H a = some o → Fix o → H' a = some o) (h : SqT K H a vs) : SqT K H' a vs := by
  rcases h with (h | ⟨o, h⟩) | h
  · exact .inl (.inl (f _ _ h (.inl ⟨_, rfl⟩)))
  · exact .inl (.inr ⟨o, f _ _ h (.inr ⟨_, _, rfl⟩)⟩)
  · exact .inr h
theorem RoL.mono {H H' : Hp} {a : Addr} {vs : List V} (f : ∀ a o, H a = some o → Fix o → H' a = some o) (h : RoL K H a vs) : RoL K H' a vs := by
  rcases h with ⟨o, h⟩ | h
  · exact .inl ⟨o, f _ _ h (.inr ⟨_, _, rfl⟩)⟩
  · exact .inr h
theorem pre_get {ι ι' : List Addr} {n : Nat} {a : Addr} (p : ι <+: ι') (h : ι[n]? = some a) : ι'[n]? = some a := by
  obtain ⟨t, rfl⟩ := p
  have hn : n < ι.length := by
    rcases Nat.lt_or_ge n ι.length with q | q
    · exact q
    · rw [List.getElem?_eq_none q] at h; cases h
  rw [List.getElem?_append_left hn]; exact h
mutual
theorem RelD.mono {ι ι' : List Addr} {H H' : Hp} (p : ι <+: ι') (f : ∀ a o, H a = some o → Fix o → H' a = some o) : ∀ (d : D) (v : V), RelD K mg ι H d v → RelD K mg ι' H' d v
  | .non, v, h => h
  | .bl b, v, h => h
  | .int i, v, h => h
  | .str s, v, h => h
  | .tup ds, v, h => by
    obtain ⟨a, vs, h1, h2, h3⟩ := h
    exact ⟨a, vs, h1, SqT.mono f h2, RelDs.mono p f ds vs h3⟩
  | .ro ds, v, h => by
    obtain ⟨a, vs, h1, h2, h3⟩ := h
    exact ⟨a, vs, h1, RoL.mono f h2, RelDs.mono p f ds vs h3⟩
  | .ref n, v, h => by
    obtain ⟨a, h1, h2⟩ := h
    exact ⟨a, pre_get p h1, h2⟩
  | .fn x, v, h => h
theorem RelDs.mono {ι ι' : List Addr} {H H' : Hp} (p : ι <+: ι') (f : ∀ a o, H a = some o → Fix o → H' a = some o) : ∀ (ds : List D) (vs : List V), RelDs K mg ι H ds vs → RelDs K mg ι' H' ds vs
  | [], vs, h => h
  | d :: ds, vs, h => by
    obtain ⟨v, vr, h1, h2, h3⟩ := h
    exact ⟨v, vr, h1, RelD.mono p f d v h2, RelDs.mono p f ds vr h3⟩
end
theorem RelD.ext {ι ι' : List Addr} {H H' : Hp} (e : Ext ι H ι' H') (d : D) (v : V) (h : RelD K mg ι H d v) : RelD K mg ι' H' d v := RelD.mono e.pre e.fix d v h
theorem RelDs.ext {ι ι' : List Addr} {H H' : Hp} (e : Ext ι H ι' H') (ds : List D) (vs : List V) (h : RelDs K mg ι H ds vs) : RelDs K mg ι' H' ds vs := RelDs.mono e.pre e.fix ds vs h
theorem RelDs.length {ι : List Addr} {H : Hp} : ∀ {ds : List D} {vs : List V}, RelDs K mg ι H ds vs → vs.length = ds.length
  | [], vs, h => by obtain rfl : vs = [] := h; rfl
  | d :: ds, vs, h => by
    obtain ⟨v, vr, rfl, h2, h3⟩ := h
    simp [RelDs.length h3]
theorem RelDs.get {ι : List Addr} {H : Hp} : ∀ {ds : List D} {vs : List V} {i : Nat} {d : D}, RelDs K mg ι H ds vs → ds[i]? = some d → ∃ v, vs[i]? = some v ∧ RelD K mg ι H d v
  | [], _, _, _, _, e => by simp at e
  | d :: ds, vs, 0, d', h, e => by
    obtain ⟨v, vr, rfl, h2, h3⟩ := h
    simp at e; subst e
    exact ⟨v, rfl, h2⟩
  | d :: ds, vs, i + 1, d', h, e => by
    obtain ⟨v, vr, rfl, h2, h3⟩ := h
    obtain ⟨w, h4, h5⟩ := RelDs.get (i := i) h3 (by simpa using e)
    exact ⟨w, by simpa using h4, h5⟩
theorem RelDs.set {ι : List Addr} {H : Hp} {d : D} {v : V} (r : RelD K mg ι H d v) : ∀ {ds : List D} {vs : List V} (i : Nat), RelDs K mg ι H ds vs → RelDs K mg ι H (ds.set i d) (vs.set i v)
  | [], vs, i, h => by obtain rfl : vs = [] := h; rfl
  | d' :: ds, vs, 0, h => by
    obtain ⟨w, vr, rfl, h2, h3⟩ := h
    exact ⟨v, vr, rfl, r, h3⟩
  | d' :: ds, vs, i + 1, h => by
    obtain ⟨w, vr, rfl, h2, h3⟩ := h
    exact ⟨w, vr.set i v, rfl, h2, RelDs.set r i h3⟩
theorem RelDs.append {ι : List Addr} {H : Hp} : ∀ {ds es : List D} {vs ws : List V}, RelDs K mg ι H ds vs → RelDs K mg ι H es ws → RelDs K mg ι H (ds ++ es) (vs ++ ws)
  | [], es, vs, ws, h, h' => by obtain rfl : vs = [] := h; exact h'
  | d :: ds, es, vs, ws, h, h' => by
    obtain ⟨v, vr, rfl, h2, h3⟩ := h
    exact ⟨v, vr ++ ws, rfl, h2, RelDs.append h3 h'⟩
theorem RelDs.take {ι : List Addr} {H : Hp} : ∀ {ds : List D} {vs : List V} (n : Nat), RelDs K mg ι H ds vs → RelDs K mg ι H (ds.take n) (vs.take n)
  | ds, vs, 0, h => rfl
  | [], vs, n + 1, h => by obtain rfl : vs = [] := h; rfl
  | d :: ds, vs, n + 1, h => by
    obtain ⟨v, vr, rfl, h2, h3⟩ := h
    exact ⟨v, vr.take n, rfl, h2, RelDs.take n h3⟩
theorem RelDs.drop {ι : List Addr} {H : Hp} : ∀ {ds : List D} {vs : List V} (n : Nat), RelDs K mg ι H ds vs → RelDs K mg ι H (ds.drop n) (vs.drop n)
  | ds, vs, 0, h => by simpa using h
  | [], vs, n + 1, h => by obtain rfl : vs = [] := h; rfl
  | d :: ds, vs, n + 1, h => by
    obtain ⟨v, vr, rfl, h2, h3⟩ := h
    exact RelDs.drop n h3
theorem RelDs.one {ι : List Addr} {H : Hp} {d : D} {v : V} (h : RelD K mg ι H d v) : RelDs K mg ι H [d] [v] := ⟨v, [], rfl, h, rfl⟩
end

/-- what stands at a changing thing's address -/
def OM (K : PySem.W.Frag) (mg : Str → Option Value) (ι : List Addr) (H : Hp) (a : Addr) : MO → Prop
  | .lst l => ∃ vs, H a = some (.lst vs) ∧ RelDs K mg ι H l vs
/-- the small heap M lies in H, its i-th thing at ι[i]; Tb: the tables of code objects -/
structure RelH (K : PySem.W.Frag) (mg : Str → Option Value) (Tb : List (Addr × Str)) (ι : List Addr) (H : Hp) (M : MH) : Prop where
  len : ι.length = M.length
  nd : ι.Nodup
  ob : ∀ (i : Nat) a mo, ι[i]? = some a → M[i]? = some mo → OM K mg ι H a mo
  tab : LamX.Tabs Tb H
/-- the state: the heap, the names' values -/
structure At (K : PySem.W.Frag) (mg : Str → Option Value) (Tb : List (Addr × Str)) (ι : List Addr) (M : MH) (ρ : Ev) (σ : St) (H : Hp) : Prop where
  h : RelH K mg Tb ι H M
  len : ρ.length = σ.length
  s : ∀ (i : Nat) (d : D), ρ[i]? = some (some d) → ∃ v, σ[i]? = some (some v) ∧ RelD K mg ι H d v
theorem At.ext {K : PySem.W.Frag} {mg : Str → Option Value} {Tb : List (Addr × Str)} {ι ι' : List Addr} {M M' : MH} {ρ : Ev} {σ : St} {H H' : Hp} (a : At K mg Tb ι M ρ σ H) (e : Ext ι H ι' H') (h : RelH K mg Tb ι' H' M') : At K mg Tb ι' M' ρ σ H' :=
  ⟨h, a.len, fun i d q => let ⟨v, h1, h2⟩ := a.s i d q; ⟨v, h1, RelD.ext e d v h2⟩⟩

section
variable {K : PySem.W.Frag} {mg : Str → Option Value} {Tb : List (Addr × Str)} {ι ι' : List Addr} {H H' : Hp} {M M' : MH}
theorem lst_not_fix {vs : List V} : ¬ Fix (.lst vs) := by
  rintro (⟨_, h⟩ | ⟨_, _, h⟩)
  · cases h
  · cases h
/-- a thing that the small heap does not know is laid -/
theorem ext_laid {p : Addr} (hp : H p = none) (o : HO) : Ext ι H ι (upd H p o) := by
  have hne : ∀ a o, H a = some o → a ≠ p := fun a o h => ne_of_none h hp
  exact ⟨List.prefix_refl _, fun _ _ h h' => absurd h h', fun a o _ h _ => by rw [upd_ne (hne a o h)]; exact h, fun a o h _ => by rw [upd_ne (hne a o h)]; exact h⟩
theorem tabs_laid {p : Addr} (hp : H p = none) (o : HO) (t : LamX.Tabs Tb H) : LamX.Tabs Tb (upd H p o) :=
  t.ext fun b u q => by rw [upd_ne (ne_of_none q hp)]; exact q
theorem RelH.laid (r : RelH K mg Tb ι H M) {p : Addr} (hp : H p = none) (o : HO) : Ext ι H ι (upd H p o) ∧ RelH K mg Tb ι (upd H p o) M := by
  have hne : ∀ a o, H a = some o → a ≠ p := fun a o h => ne_of_none h hp
  have e : Ext ι H ι (upd H p o) := ext_laid hp o
  refine ⟨e, r.len, r.nd, fun i a mo h1 h2 => ?_, tabs_laid hp o r.tab⟩
  have q := r.ob i a mo h1 h2
  cases mo with
  | lst l' =>
    obtain ⟨vs', q1, q2⟩ := q
    exact ⟨vs', by rw [upd_ne (hne a _ q1)]; exact q1, RelDs.ext e _ _ q2⟩
/-- a new list -/
theorem RelH.alloc (r : RelH K mg Tb ι H M) {p : Addr} (hp : H p = none) {l : List D} {vs : List V} (rl : RelDs K mg ι H l vs) : Ext ι H (ι ++ [p]) (upd H p (.lst vs)) ∧ RelH K mg Tb (ι ++ [p]) (upd H p (.lst vs)) (M ++ [.lst l]) := by
  have hne : ∀ a o, H a = some o → a ≠ p := fun a o h => ne_of_none h hp
  have e : Ext ι H (ι ++ [p]) (upd H p (.lst vs)) := by
    refine ⟨List.prefix_append _ _, fun a o h1 h2 h3 => ?_, fun a o _ h _ => by rw [upd_ne (hne a o h)]; exact h, fun a o h _ => by rw [upd_ne (hne a o h)]; exact h⟩
    rcases List.mem_append.mp h1 with h | h
    · exact absurd h h2
    · rw [List.mem_singleton.mp h, hp] at h3; cases h3
  have pn : p ∉ ι := fun h => by
    obtain ⟨i, hi, e1⟩ := List.mem_iff_getElem.mp h
    have hi2 : i < M.length := by rw [← r.len]; exact hi
    have q := r.ob i p M[i] (by rw [List.getElem?_eq_getElem hi, e1]) (List.getElem?_eq_getElem hi2)
    cases hm : M[i] with
    | lst l' =>
      rw [hm] at q
      obtain ⟨vs', h1, _⟩ := q
      rw [hp] at h1; cases h1
  refine ⟨e, by simp [r.len], ?_, fun i a mo h1 h2 => ?_, tabs_laid hp _ r.tab⟩
  · rw [List.nodup_append]
    refine ⟨r.nd, by simp, fun x hx y hy z => ?_⟩
    rw [List.mem_singleton.mp hy] at z
    exact pn (z ▸ hx)
  · rcases Nat.lt_or_ge i ι.length with hi | hi
    · rw [List.getElem?_append_left hi] at h1
      rw [List.getElem?_append_left (by rw [← r.len]; exact hi)] at h2
      have q := r.ob i a mo h1 h2
      cases mo with
      | lst l' =>
        obtain ⟨vs', q1, q2⟩ := q
        exact ⟨vs', by rw [upd_ne (hne a _ q1)]; exact q1, RelDs.ext e _ _ q2⟩
    · rw [List.getElem?_append_right hi] at h1
      rw [List.getElem?_append_right (by rw [← r.len]; exact hi)] at h2
      have hi0 : i - ι.length = 0 := by
        rcases Nat.eq_zero_or_pos (i - ι.length) with q | q
        · exact q
        · rw [List.getElem?_eq_none (by simp; omega)] at h1; cases h1
      rw [hi0] at h1
      rw [← r.len, hi0] at h2
      simp at h1 h2
      subst h1 h2
      exact ⟨vs, upd_same, RelDs.ext e _ _ rl⟩
/-- a list is changed -/
theorem RelH.write (r : RelH K mg Tb ι H M) {n : Nat} {a : Addr} (ha : ι[n]? = some a) {l0 l : List D} (hm : M[n]? = some (.lst l0)) {vs : List V} (rl : RelDs K mg ι H l vs) :
    Ext ι H ι (upd H a (.lst vs)) ∧ RelH K mg Tb ι (upd H a (.lst vs)) (M.set n (.lst l)) := by
  obtain ⟨vs0, q0, _⟩ := r.ob n a _ ha hm
  have ain : a ∈ ι := List.mem_of_getElem? ha
  have e : Ext ι H ι (upd H a (.lst vs)) := by
    refine ⟨List.prefix_refl _, fun _ _ h h' => absurd h h', fun b o hb h _ => by rw [upd_ne (fun z => hb (by rw [z]; exact ain))]; exact h, fun b o h hf => ?_⟩
    rw [upd_ne (fun z => ?_)]; exact h
    subst z
    rw [q0] at h; cases h
    exact lst_not_fix hf
  have hn : n < ι.length := by
    rcases Nat.lt_or_ge n ι.length with q | q
    · exact q
    · rw [List.getElem?_eq_none q] at ha; cases ha
  refine ⟨e, by simpa using r.len, r.nd, fun i b mo h1 h2 => ?_, fun p hp => ?_⟩
  · by_cases hi : i = n
    · subst hi
      rw [ha] at h1; cases h1
      rw [List.getElem?_set_self (by rw [← r.len]; exact hn)] at h2
      cases h2
      exact ⟨vs, upd_same, RelDs.ext e _ _ rl⟩
    · rw [List.getElem?_set_ne (Ne.symm hi)] at h2
      have q := r.ob i b mo h1 h2
      have hba : b ≠ a := fun z => by
        subst z
        have hi' : i < ι.length := by
          rcases Nat.lt_or_ge i ι.length with q | q
          · exact q
          · rw [List.getElem?_eq_none q] at h1; cases h1
        have e1 : ι[i] = b := by rw [List.getElem?_eq_getElem hi'] at h1; exact Option.some.inj h1
        have e2 : ι[n] = b := by rw [List.getElem?_eq_getElem hn] at ha; exact Option.some.inj ha
        exact hi ((List.getElem_inj r.nd).mp (e1.trans e2.symm))
      cases mo with
      | lst l' =>
        obtain ⟨vs', q1, q2⟩ := q
        exact ⟨vs', by rw [upd_ne hba]; exact q1, RelDs.ext e _ _ q2⟩
  · obtain ⟨ps, h1, h2, h3⟩ := r.tab p hp
    refine ⟨ps, ?_, h2, fun pos cv hc => ?_⟩
    · rw [upd_ne (fun z => ?_)]; exact h1
      rw [z, q0] at h1; cases h1
    · obtain ⟨c, e1, e2⟩ := h3 pos cv hc
      refine ⟨c, e1, ?_⟩
      rw [upd_ne (fun z => ?_)]; exact e2
      rw [z, q0] at e2
      unfold LamX.CodeO at e2; cases e2
/-- a new tuple -/
theorem RelH.tup (r : RelH K mg Tb ι H M) {p : Addr} (hp : H p = none) {l : List D} {vs : List V} (rl : RelDs K mg ι H l vs) : Ext ι H ι (upd H p (.tup vs)) ∧ RelH K mg Tb ι (upd H p (.tup vs)) M ∧ RelD K mg ι (upd H p (.tup vs)) (.tup l) (.ref p) := by
  obtain ⟨e, h⟩ := r.laid hp (.tup vs)
  exact ⟨e, h, p, vs, rfl, SqT.of upd_same, RelDs.ext e _ _ rl⟩
end
end Mp
namespace Mp
open PySem PySem.Spec PyProof.Rows L2

/-- an exception's class by its name -/
def ClsOf (mg : Str → Option Value) (c : Str) (cls : Value) : Prop := ∃ a, mg c = some (.ref a) ∧ cls = .ref a

section
variable (K : PySem.W.Frag) (mg : Str → Option Value) (Tb : List (Addr × Str))
/-- what a result makes true -/
def out {α β : Type} (Rv : List Addr → Hp → α → β → Prop) (W : WX) (σ : St) (ι : List Addr) (H : Hp) (r : Res α) (Q : β → Hp → Prop) : Prop :=
  match r with
  | .ok a M' => ∀ ι' v H', Ext ι H ι' H' → RelH K mg Tb ι' H' M' → Rv ι' H' a v → Q v H'
  | .exc c M' => ∀ ι' H' cls dd, Ext ι H ι' H' → RelH K mg Tb ι' H' M' → ClsOf mg c cls → W cls dd σ H'
  | .err => False
/-- the reading of an expression of the small language -/
def rd {α β : Type} (Rv : List Addr → Hp → α → β → Prop) (W : WX) (m : Ev → MH → Res α) : St → Hp → (β → Hp → Prop) → Prop := fun σ H Q =>
  ∃ ι M ρ, At K mg Tb ι M ρ σ H ∧ out K mg Tb Rv W σ ι H (m ρ M) Q
abbrev RB : List Addr → Hp → Bool → Bool → Prop := fun _ _ a b => a = b
end
section
variable {K : PySem.W.Frag} {mg : Str → Option Value} {Tb : List (Addr × Str)} {α β γ δ : Type} {Rv : List Addr → Hp → α → β → Prop} {Rw : List Addr → Hp → γ → δ → Prop} {W : WX} {σ : St} {ι ι1 : List Addr} {H H1 : Hp} {M : MH} {ρ : Ev}
theorem out.ext {r : Res α} {Q : β → Hp → Prop} (e : Ext ι H ι1 H1) (h : out K mg Tb Rv W σ ι H r Q) : out K mg Tb Rv W σ ι1 H1 r Q := by
  cases r with
  | ok a M' => exact fun ι' v H' e' => h ι' v H' (e.trans e')
  | exc c M' => exact fun ι' H' cls dd e' => h ι' H' cls dd (e.trans e')
  | err => exact h
theorem out.mono {r : Res α} {Q Q' : β → Hp → Prop} (h : out K mg Tb Rv W σ ι H r Q) (q : ∀ v H', Q v H' → Q' v H') : out K mg Tb Rv W σ ι H r Q' := by
  cases r with
  | ok a M' => exact fun ι' v H' e' r' rv => q _ _ (h ι' v H' e' r' rv)
  | exc c M' => exact h
  | err => exact h
/-- one part first, then the rest -/
theorem rd_bind {m : Ev → MH → Res α} {k : α → MH → Res γ} {Q : δ → Hp → Prop} (a : At K mg Tb ι M ρ σ H) (h : out K mg Tb Rw W σ ι H ((m ρ M).bind k) Q) :
    rd K mg Tb Rv W m σ H (fun v H1 => ∃ ι1 M1 x, Ext ι H ι1 H1 ∧ At K mg Tb ι1 M1 ρ σ H1 ∧ Rv ι1 H1 x v ∧ out K mg Tb Rw W σ ι1 H1 (k x M1) Q) := by
  refine ⟨ι, M, ρ, a, ?_⟩
  cases hm : m ρ M with
  | ok x M1 =>
    rw [hm] at h
    exact fun ι' v H' e r rv => ⟨ι', M1, x, e, a.ext e r, rv, out.ext e h⟩
  | exc c M1 =>
    rw [hm] at h
    exact h
  | err =>
    rw [hm] at h
    exact h
/-- the last part -/
theorem rd_last {m : Ev → MH → Res α} {Q : β → Hp → Prop} (a : At K mg Tb ι M ρ σ H) (h : out K mg Tb Rv W σ ι H (m ρ M) Q) : rd K mg Tb Rv W m σ H Q := ⟨ι, M, ρ, a, h⟩
/-- an answer -/
theorem out.done {x : α} {v : β} {Q : β → Hp → Prop} (h : out K mg Tb Rv W σ ι H (.ok x M) Q) (r : RelH K mg Tb ι H M) (rv : Rv ι H x v) : Q v H := h ι v H (.refl _ _) r rv
theorem out.done' {x : α} {v : β} {Q : β → Hp → Prop} (h : out K mg Tb Rv W σ ι H (.ok x M) Q) (e : Ext ι H ι1 H1) (r : RelH K mg Tb ι1 H1 M) (rv : Rv ι1 H1 x v) : Q v H1 := h ι1 v H1 e r rv
end

theorem _root_.L2.PE.imp {X : Cx} {e : Expr} {t t' : TE} (h : PE X e t) (q : ∀ σ H Q, t' σ H Q → t σ H Q) : PE X e t' := ⟨fun pins s σ H Q I hw => h.run pins s σ H Q I (q σ H Q hw)⟩
theorem _root_.L2.PT.imp {X : Cx} {e : Expr} {t t' : TT} (h : PT X e t) (q : ∀ σ H Q, t' σ H Q → t σ H Q) : PT X e t' := ⟨fun pins s σ H Q I hw => h.run pins s σ H Q I (q σ H Q hw)⟩
theorem _root_.L2.PW.imp {X : Cx} {e : Expr} {t t' : TT} (h : PW X e t) (q : ∀ σ H Q, t' σ H Q → t σ H Q) : PW X e t' := ⟨fun wh pins s σ H Q I hw => h.run wh pins s σ H Q I (q σ H Q hw)⟩
theorem _root_.L2.PA.imp {X : Cx} {e : List Expr} {t t' : TA} (h : PA X e t) (q : ∀ σ H Q, t' σ H Q → t σ H Q) : PA X e t' := ⟨fun pos pins s σ H Q I hw => h.run pos pins s σ H Q I (q σ H Q hw)⟩

abbrev E := Ev → MH → Res D
abbrev T := Ev → MH → Res Bool
abbrev A := Ev → MH → Res (List D)
/-- judgements -/
def ME (Tb : List (Addr × Str)) (X : Cx) (W : WX) (e : Expr) (m : E) : Prop := PE X e (rd X.K X.mg Tb (RelD X.K X.mg) W m)
def MT (Tb : List (Addr × Str)) (X : Cx) (W : WX) (e : Expr) (m : T) : Prop := PT X e (rd X.K X.mg Tb RB W m)
def MW (Tb : List (Addr × Str)) (X : Cx) (W : WX) (e : Expr) (m : T) : Prop := PW X e (rd X.K X.mg Tb RB W m)
def MA (Tb : List (Addr × Str)) (X : Cx) (W : WX) (es : List Expr) (m : A) : Prop := PA X es (rd X.K X.mg Tb (RelDs X.K X.mg) W m)

/-! ### names and constants -/
def LINE : Nat := 16777216
theorem line_eq : sizeLine = LINE := by rw [sizeLine_eq]; rfl
def mVar (i : Nat) : E := fun ρ M => match ρ[i]? with | some (some d) => .ok d M | _ => .err
def mC (d : D) : E := fun _ M => .ok d M
section
variable {Tb : List (Addr × Str)} {X : Cx} {W : WX} {a b c e : Expr} {pos : Pos} {ma mb mc : E}
theorem me_var (i : Nat) {x : Str} (hN : X.N[i]? = some x := by rfl) (hv : Vis X.env.scope x := by first | exact Or.inl rfl | exact Or.inr (Or.inl rfl) | exact Or.inr (Or.inr rfl)) (hd : (x == ("__debug__" : Str)) = false := by decide)
    (hcd : (x == ("__classdict__" : Str)) = false := by decide) : ME Tb X W (.Name x pos) (mVar i) := by
  refine (pe_var hN hv hd hcd).imp fun σ H Q ⟨ι, M, ρ, at_, h⟩ => ?_
  unfold mVar at h
  cases q : ρ[i]? with
  | none => rw [q] at h; exact h.elim
  | some o =>
    cases o with
    | none => rw [q] at h; exact h.elim
    | some d =>
      rw [q] at h
      obtain ⟨v, h1, h2⟩ := at_.s i d q
      exact ⟨v, h1, out.done h at_.h h2⟩
theorem me_int {i j} : ME Tb X W (.Constant (.int i) j pos) (mC (.int i)) := pe_int.imp fun σ H Q ⟨ι, M, ρ, at_, h⟩ => out.done h at_.h rfl
theorem me_bl {i j} : ME Tb X W (.Constant (.bool i) j pos) (mC (.bl i)) := pe_bl.imp fun σ H Q ⟨ι, M, ρ, at_, h⟩ => out.done h at_.h rfl
theorem me_non {j} : ME Tb X W (.Constant .none j pos) (mC .non) := pe_non.imp fun σ H Q ⟨ι, M, ρ, at_, h⟩ => out.done h at_.h rfl
theorem me_str {i j} : ME Tb X W (.Constant (.str i) j pos) (mC (.str i)) := pe_str.imp fun σ H Q ⟨ι, M, ρ, at_, h⟩ => out.done h at_.h rfl
/-- a module's constant -/
structure Glob (K : PySem.W.Frag) (mg : Str → Option Value) (x : Str) (d : D) : Prop where
  ex : ∃ u v, mg x = some u ∧ RelV v u ∧ ∀ ι H, RelD K mg ι H d v
theorem me_glob {x : Str} {d : D} (g : Glob X.K X.mg x d) (hg : Gl X x := by rfl) (hd : (x == ("__debug__" : Str)) = false := by decide) : ME Tb X W (.Name x pos) (mC d) := by
  obtain ⟨u, v, h1, h2, h3⟩ := g.ex
  exact (pe_glob hg h1 h2 hd).imp fun σ H Q ⟨ι, M, ρ, at_, h⟩ => out.done h at_.h (h3 ι H)

/-! ### operators -/
def mBin (f : D → D → MH → Res D) (ma mb : E) : E := fun ρ M => (ma ρ M).bind fun x M1 => (mb ρ M1).bind fun y M2 => f x y M2
def mUn (f : D → MH → Res D) (ma : E) : E := fun ρ M => (ma ρ M).bind fun x M1 => f x M1
/-- what an operator's rule must give -/
def OpOk (K : PySem.W.Frag) (mg : Str → Option Value) (Tb : List (Addr × Str)) (f : D → D → MH → Res D) (r : R2) : Prop :=
  ∀ (W : WX) (σ : St) (ι : List Addr) (H : Hp) (M : MH) (d e : D) (x y : V) (Q : VK), RelH K mg Tb ι H M → RelD K mg ι H d x → RelD K mg ι H e y → out K mg Tb (RelD K mg) W σ ι H (f d e M) Q → r x y H Q
def UnOk (K : PySem.W.Frag) (mg : Str → Option Value) (Tb : List (Addr × Str)) (f : D → MH → Res D) (r : V → Hp → VK → Prop) : Prop :=
  ∀ (W : WX) (σ : St) (ι : List Addr) (H : Hp) (M : MH) (d : D) (x : V) (Q : VK), RelH K mg Tb ι H M → RelD K mg ι H d x → out K mg Tb (RelD K mg) W σ ι H (f d M) Q → r x H Q
theorem op_read {f : D → D → MH → Res D} {r : R2} (ok : OpOk X.K X.mg Tb f r) {σ : St} {H : Hp} {Q : VK} (h : rd X.K X.mg Tb (RelD X.K X.mg) W (mBin f ma mb) σ H Q) :
    tOp r (rd X.K X.mg Tb (RelD X.K X.mg) W ma) (rd X.K X.mg Tb (RelD X.K X.mg) W mb) σ H Q := by
  obtain ⟨ι, M, ρ, at_, h⟩ := h
  obtain ⟨ι0, M0, ρ0, a0, h0⟩ := rd_bind (Rv := RelD X.K X.mg) (m := ma) at_ h
  refine ⟨ι0, M0, ρ0, a0, out.mono h0 fun x H1 ⟨ι1, M1, d, e1, at1, r1, h1⟩ => ?_⟩
  obtain ⟨ι2, M2, ρ2, a2, h2⟩ := rd_bind (Rv := RelD X.K X.mg) (m := mb) at1 h1
  refine ⟨ι2, M2, ρ2, a2, out.mono h2 fun y H2 ⟨ι3, M3, d2, e3, at3, r3, h3⟩ => ?_⟩
  exact ok W σ ι3 H2 M3 d d2 x y Q at3.h (RelD.ext e3 _ _ r1) r3 h3
theorem me_bin {op : Operator} {f : D → D → MH → Res D} {r : R2} (ho : OpR X (binaryOp op) r) (ok : OpOk X.K X.mg Tb f r) (ha : ME Tb X W a ma) (hb : ME Tb X W b mb) : ME Tb X W (.BinOp a op b pos) (mBin f ma mb) :=
  (pe_op ho ha hb).imp fun _ _ _ h => op_read ok h
theorem me_cmp {op : CmpOp} {f : D → D → MH → Res D} {r : R2} (ho : OpR X (compareOp op) r) (ok : OpOk X.K X.mg Tb f r) (ha : ME Tb X W a ma) (hb : ME Tb X W b mb) (hm : behindInMarks op b = false) : ME Tb X W (.Compare a [op] [b] pos) (mBin f ma mb) :=
  (pe_cmpR ho ha hb hm).imp fun _ _ _ h => op_read ok h
theorem me_ix {f : D → D → MH → Res D} {r : R2} (ho : IxR X r) (ok : OpOk X.K X.mg Tb f r) (ha : ME Tb X W a ma) (hb : ME Tb X W b mb) (hs : PlainIx b := by exact fun _ _ => rfl) : ME Tb X W (.Subscript a b pos) (mBin f ma mb) :=
  (pe_ix ho ha hb hs).imp fun _ _ _ h => op_read ok h
theorem me_un {op : UnaryOp} {f : D → MH → Res D} {r : V → Hp → VK → Prop} (ho : UnR X (unaryOp op) r) (ok : UnOk X.K X.mg Tb f r) (ha : ME Tb X W a ma) : ME Tb X W (.UnaryOp op a pos) (mUn f ma) := by
  refine (pe_un ho ha).imp fun σ H Q ⟨ι, M, ρ, at_, h⟩ => ?_
  obtain ⟨ι0, M0, ρ0, a0, h0⟩ := rd_bind (Rv := RelD X.K X.mg) (m := ma) at_ h
  refine ⟨ι0, M0, ρ0, a0, out.mono h0 fun x H1 ⟨ι1, M1, d, e1, at1, r1, h1⟩ => ?_⟩
  exact ok W σ ι1 H1 M1 d x Q at1.h r1 h1

/-! ### tests -/
/-- a value as a truth, if it is one -/
def tB1 (m : E) : T := fun ρ M => (m ρ M).bind fun d M1 => match d with | .bl b => .ok b M1 | _ => .err
theorem tB_read {σ : St} {H : Hp} {Q : Bool → Hp → Prop} (h : rd X.K X.mg Tb RB W (tB1 ma) σ H Q) : rd X.K X.mg Tb (RelD X.K X.mg) W ma σ H (fun x H1 => ∃ c, x = .bl c ∧ Q c H1) := by
  obtain ⟨ι, M, ρ, at_, h⟩ := h
  obtain ⟨ι0, M0, ρ0, a0, h0⟩ := rd_bind (Rv := RelD X.K X.mg) (m := ma) at_ h
  refine ⟨ι0, M0, ρ0, a0, out.mono h0 fun x H1 ⟨ι1, M1, d, e1, at1, r1, h1⟩ => ?_⟩
  cases d with
  | bl b =>
    obtain rfl : x = .bl b := r1
    exact ⟨b, rfl, out.done h1 at1.h rfl⟩
  | _ => exact h1.elim
theorem mt_cmp {op : CmpOp} {f : D → D → MH → Res D} {r : R2} (ho : OpR X (compareOp op) r) (ok : OpOk X.K X.mg Tb f r) (ha : ME Tb X W a ma) (hb : ME Tb X W b mb) (hm : behindInMarks op b = false) : MT Tb X W (.Compare a [op] [b] pos) (tB1 (mBin f ma mb)) := by
  refine (pt_cmpR ho ha hb hm).imp fun σ H Q h => ?_
  exact op_read ok (tB_read h)
theorem mt_val (ha : ME Tb X W a ma) (he : ∀ whole, isTrue a X.env whole = (do let v ← whole; standAt a.pos; holding [v] (truthy v)) := by intro _; rfl) : MT Tb X W a (tB1 ma) :=
  (pt_val ha he).imp fun _ _ _ h => tB_read h
def tAndB (t u : T) : T := fun ρ M => (t ρ M).bind fun b M1 => if b = true then u ρ M1 else .ok false M1
def tOrB (t u : T) : T := fun ρ M => (t ρ M).bind fun b M1 => if b = true then .ok true M1 else u ρ M1
def tNotB (t : T) : T := fun ρ M => (t ρ M).bind fun b M1 => .ok (!b) M1
variable {ta tb : T} {rest : List Expr}
theorem mt_not (ha : MT Tb X W a ta) : MT Tb X W (.UnaryOp .Not a pos) (tNotB ta) := by
  refine (pt_not ha).imp fun σ H Q ⟨ι, M, ρ, at_, h⟩ => ?_
  obtain ⟨ι0, M0, ρ0, a0, h0⟩ := rd_bind (Rv := RB) (m := ta) at_ h
  refine ⟨ι0, M0, ρ0, a0, out.mono h0 fun x H1 ⟨ι1, M1, d, e1, at1, r1, h1⟩ => ?_⟩
  obtain rfl : d = x := r1
  exact out.done h1 at1.h rfl
theorem mw_and1 (ha : MT Tb X W a ta) : MW Tb X W (.BoolOp .And [a] pos) ta := pw_and1 ha
theorem mw_or1 (ha : MT Tb X W a ta) : MW Tb X W (.BoolOp .Or [a] pos) ta := pw_or1 ha
theorem mw_and (ha : MT Tb X W a ta) (hb : MW Tb X W (.BoolOp .And (b :: rest) pos) tb) : MW Tb X W (.BoolOp .And (a :: b :: rest) pos) (tAndB ta tb) := by
  refine (pw_and ha hb).imp fun σ H Q ⟨ι, M, ρ, at_, h⟩ => ?_
  obtain ⟨ι0, M0, ρ0, a0, h0⟩ := rd_bind (Rv := RB) (m := ta) at_ h
  refine ⟨ι0, M0, ρ0, a0, out.mono h0 fun x H1 ⟨ι1, M1, d, e1, at1, r1, h1⟩ => ?_⟩
  obtain rfl : d = x := r1
  cases d with
  | true => exact ⟨ι1, M1, _, at1, h1⟩
  | false => exact out.done h1 at1.h rfl
theorem mw_or (ha : MT Tb X W a ta) (hb : MW Tb X W (.BoolOp .Or (b :: rest) pos) tb) : MW Tb X W (.BoolOp .Or (a :: b :: rest) pos) (tOrB ta tb) := by
  refine (pw_or ha hb).imp fun σ H Q ⟨ι, M, ρ, at_, h⟩ => ?_
  obtain ⟨ι0, M0, ρ0, a0, h0⟩ := rd_bind (Rv := RB) (m := ta) at_ h
  refine ⟨ι0, M0, ρ0, a0, out.mono h0 fun x H1 ⟨ι1, M1, d, e1, at1, r1, h1⟩ => ?_⟩
  obtain rfl : d = x := r1
  cases d with
  | false => exact ⟨ι1, M1, _, at1, h1⟩
  | true => exact out.done h1 at1.h rfl
theorem MW.pt (h : MW Tb X W a ta) : MT Tb X W a ta := L2.PW.pt h
/-- and, or of truths, as values -/
def mAnd (ma mb : E) : E := fun ρ M => (ma ρ M).bind fun d M1 => match d with | .bl b => if b = true then mb ρ M1 else .ok (.bl false) M1 | _ => .err
def mOr (ma mb : E) : E := fun ρ M => (ma ρ M).bind fun d M1 => match d with | .bl b => if b = true then .ok (.bl true) M1 else mb ρ M1 | _ => .err
def mNot (ma : E) : E := fun ρ M => (ma ρ M).bind fun d M1 => match d with | .bl b => .ok (.bl (!b)) M1 | _ => .err
theorem me_one {op} (h : ME Tb X W a ma) : ME Tb X W (.BoolOp op [a] pos) ma := pe_one h
theorem me_and (ha : ME Tb X W a ma) (hb : ME Tb X W (.BoolOp .And (b :: rest) pos) mb) : ME Tb X W (.BoolOp .And (a :: b :: rest) pos) (mAnd ma mb) := by
  refine (pe_and ha hb).imp fun σ H Q ⟨ι, M, ρ, at_, h⟩ => ?_
  obtain ⟨ι0, M0, ρ0, a0, h0⟩ := rd_bind (Rv := RelD X.K X.mg) (m := ma) at_ h
  refine ⟨ι0, M0, ρ0, a0, out.mono h0 fun x H1 ⟨ι1, M1, d, e1, at1, r1, h1⟩ => ?_⟩
  cases d with
  | bl b =>
    obtain rfl : x = .bl b := r1
    refine ⟨b, rfl, ?_⟩
    cases b with
    | true => exact ⟨ι1, M1, _, at1, h1⟩
    | false => exact out.done h1 at1.h rfl
  | _ => exact h1.elim
theorem me_or (ha : ME Tb X W a ma) (hb : ME Tb X W (.BoolOp .Or (b :: rest) pos) mb) : ME Tb X W (.BoolOp .Or (a :: b :: rest) pos) (mOr ma mb) := by
  refine (pe_or ha hb).imp fun σ H Q ⟨ι, M, ρ, at_, h⟩ => ?_
  obtain ⟨ι0, M0, ρ0, a0, h0⟩ := rd_bind (Rv := RelD X.K X.mg) (m := ma) at_ h
  refine ⟨ι0, M0, ρ0, a0, out.mono h0 fun x H1 ⟨ι1, M1, d, e1, at1, r1, h1⟩ => ?_⟩
  cases d with
  | bl b =>
    obtain rfl : x = .bl b := r1
    refine ⟨b, rfl, ?_⟩
    cases b with
    | false => exact ⟨ι1, M1, _, at1, h1⟩
    | true => exact out.done h1 at1.h rfl
  | _ => exact h1.elim
theorem me_not (ha : ME Tb X W a ma) : ME Tb X W (.UnaryOp .Not a pos) (mNot ma) := by
  refine (pe_not ha).imp fun σ H Q ⟨ι, M, ρ, at_, h⟩ => ?_
  obtain ⟨ι0, M0, ρ0, a0, h0⟩ := rd_bind (Rv := RelD X.K X.mg) (m := ma) at_ h
  refine ⟨ι0, M0, ρ0, a0, out.mono h0 fun x H1 ⟨ι1, M1, d, e1, at1, r1, h1⟩ => ?_⟩
  cases d with
  | bl b =>
    obtain rfl : x = .bl b := r1
    exact ⟨b, rfl, out.done h1 at1.h rfl⟩
  | _ => exact h1.elim
def mIf (t : T) (ma mb : E) : E := fun ρ M => (t ρ M).bind fun b M1 => if b = true then ma ρ M1 else mb ρ M1
theorem me_if {tc : T} (hc : MT Tb X W c tc) (ha : ME Tb X W a ma) (hb : ME Tb X W b mb) : ME Tb X W (.IfExp c a b pos) (mIf tc ma mb) := by
  refine (pe_ifExp hc ha hb).imp fun σ H Q ⟨ι, M, ρ, at_, h⟩ => ?_
  obtain ⟨ι0, M0, ρ0, a0, h0⟩ := rd_bind (Rv := RB) (m := tc) at_ h
  refine ⟨ι0, M0, ρ0, a0, out.mono h0 fun x H1 ⟨ι1, M1, d, e1, at1, r1, h1⟩ => ?_⟩
  obtain rfl : d = x := r1
  cases d with
  | true => exact ⟨ι1, M1, _, at1, h1⟩
  | false => exact ⟨ι1, M1, _, at1, h1⟩
/-- a < b < c -/
def mChain (f g : D → D → MH → Res D) (ma mb mc : E) : E := fun ρ M => (ma ρ M).bind fun x M1 => (mb ρ M1).bind fun y M2 => (f x y M2).bind fun z M3 =>
  match z with | .bl b => if b = true then (mc ρ M3).bind fun w M4 => g y w M4 else .ok (.bl false) M3 | _ => .err

/-! ### argument lists, displays -/
def aNil : A := fun _ M => .ok [] M
def aCons (m : E) (r : A) : A := fun ρ M => (m ρ M).bind fun d M1 => (r ρ M1).bind fun ds M2 => .ok (d :: ds) M2
variable {es : List Expr} {r : A}
theorem ma_nil : MA Tb X W [] aNil := pa_nil.imp fun σ H Q ⟨ι, M, ρ, at_, h⟩ => out.done h at_.h rfl
theorem ma_cons (ha : ME Tb X W e ma) (hr : MA Tb X W es r) (hs : starEach (e :: es) X.env = (false, eval e X.env) :: starEach es X.env := by rfl) : MA Tb X W (e :: es) (aCons ma r) := by
  refine (pa_cons ha hr hs).imp fun σ H Q ⟨ι, M, ρ, at_, h⟩ => ?_
  obtain ⟨ι0, M0, ρ0, a0, h0⟩ := rd_bind (Rv := RelD X.K X.mg) (m := ma) at_ h
  refine ⟨ι0, M0, ρ0, a0, out.mono h0 fun x H1 ⟨ι1, M1, d, e1, at1, r1, h1⟩ => ?_⟩
  obtain ⟨ι2, M2, ρ2, a2, h2⟩ := rd_bind (Rv := RelDs X.K X.mg) (m := r) at1 h1
  refine ⟨ι2, M2, ρ2, a2, out.mono h2 fun xs H2 ⟨ι3, M3, ds, e3, at3, r3, h3⟩ => ?_⟩
  exact out.done h3 at3.h ⟨x, xs, rfl, RelD.ext e3 _ _ r1, r3⟩
def mTup (r : A) : E := fun ρ M => (r ρ M).bind fun ds M1 => if ds.length ≤ LINE then .ok (.tup ds) M1 else .err
def mLst (r : A) : E := fun ρ M => (r ρ M).bind fun ds M1 => if ds.length ≤ LINE then .ok (.ref M1.length) (M1 ++ [.lst ds]) else .err
theorem me_tup {x1} (h : MA Tb X W es r) : ME Tb X W (.Tuple es x1 pos) (mTup r) := by
  refine (pe_tup h).imp fun σ H Q ⟨ι, M, ρ, at_, h⟩ => ?_
  obtain ⟨ι0, M0, ρ0, a0, h0⟩ := rd_bind (Rv := RelDs X.K X.mg) (m := r) at_ h
  refine ⟨ι0, M0, ρ0, a0, out.mono h0 fun xs H1 ⟨ι1, M1, ds, e1, at1, r1, h1⟩ => ?_⟩
  split at h1
  · rename_i hl
    refine ⟨by rw [r1.length, line_eq]; exact hl, fun p hp => ?_⟩
    obtain ⟨e2, h2, h3⟩ := at1.h.tup hp r1
    exact out.done' h1 e2 h2 h3
  · exact h1.elim
theorem me_lst (h : MA Tb X W es r) : ME Tb X W (.List es pos) (mLst r) := by
  refine (pe_lst h).imp fun σ H Q ⟨ι, M, ρ, at_, h⟩ => ?_
  obtain ⟨ι0, M0, ρ0, a0, h0⟩ := rd_bind (Rv := RelDs X.K X.mg) (m := r) at_ h
  refine ⟨ι0, M0, ρ0, a0, out.mono h0 fun xs H1 ⟨ι1, M1, ds, e1, at1, r1, h1⟩ => ?_⟩
  split at h1
  · rename_i hl
    refine ⟨by rw [r1.length, line_eq]; exact hl, fun p hp => ?_⟩
    obtain ⟨e2, h2⟩ := at1.h.alloc hp r1
    exact out.done' h1 e2 h2 ⟨p, by rw [← at1.h.len]; simp, rfl⟩
  · exact h1.elim
end
end Mp
namespace Mp
open PySem PySem.Spec PyProof.Rows L2

section
variable {K : PySem.W.Frag} {mg : Str → Option Value} {Tb : List (Addr × Str)} {ι ι' : List Addr} {H H' : Hp} {M : MH} {W : WX} {σ : St} {Q : VK}
theorem RelH.lst (r : RelH K mg Tb ι H M) {n : Nat} {v : V} (rv : RelD K mg ι H (.ref n) v) {l : List D} (hm : M[n]? = some (.lst l)) : ∃ a vs, ι[n]? = some a ∧ v = .ref a ∧ H a = some (.lst vs) ∧ RelDs K mg ι H l vs := by
  obtain ⟨a, h1, h2⟩ := rv
  obtain ⟨vs, h3, h4⟩ := r.ob n a _ h1 hm
  exact ⟨a, vs, h1, h2, h3, h4⟩
end

/-! ### arithmetic -/
def mulOk (i j : Int) : Bool := (decide (i.natAbs < 2 ^ 64) || decide (j.natAbs < 2 ^ 64)) || decide (i.natAbs.log2 + j.natAbs.log2 < 1000000)
def divOk (j : Int) : Bool := decide (j ≠ 0 ∧ j.natAbs.log2 < 9000)
def fAdd : D → D → MH → Res D
  | .int i, .int j, M => .ok (.int (i + j)) M
  | .str a, .str b, M => if a.length + b.length ≤ LINE then .ok (.str (a ++ b)) M else .err
  | .tup a, .tup b, M => if a.length + b.length ≤ LINE then .ok (.tup (a ++ b)) M else .err
  | .ref n, .ref m, M => match M[n]?, M[m]? with
    | some (.lst a), some (.lst b) => if a.length + b.length ≤ LINE then .ok (.ref M.length) (M ++ [.lst (a ++ b)]) else .err
    | _, _ => .err
  | _, _, _ => .err
def fSub : D → D → MH → Res D
  | .int i, .int j, M => .ok (.int (i - j)) M
  | _, _, _ => .err
def fMul : D → D → MH → Res D
  | .int i, .int j, M => if mulOk i j = true then .ok (.int (i * j)) M else .err
  | _, _, _ => .err
def fDiv : D → D → MH → Res D
  | .int i, .int j, M => if divOk j = true then .ok (.int (i.fdiv j)) M else .err
  | _, _, _ => .err
def fMod : D → D → MH → Res D
  | .int i, .int j, M => if j ≠ 0 then .ok (.int (i.fmod j)) M else .err
  | _, _, _ => .err
def fPow : D → D → MH → Res D
  | .int i, .int j, M => if 0 ≤ j ∧ j.natAbs ≤ 1000000 ∧ i.natAbs < 2 ^ 64 then .ok (.int (i ^ j.toNat)) M else .err
  | _, _, _ => .err
def fNeg : D → MH → Res D
  | .int i, M => .ok (.int (-i)) M
  | _, _ => .err
section
variable {Tb : List (Addr × Str)} {X : Cx}
abbrev rAddAll (K : PySem.W.Frag) : R2 := fun x y H Q => (rI0 (fun i j => .int (i + j)) x y H Q) ∨ ((∃ i j, x = .str i ∧ y = .str j ∧ i.length + j.length ≤ sizeLine ∧ Q (.str (i ++ j)) H) ∨ (rCatA K x y H Q ∨ rCat x y H Q))
theorem op_addAll : OpR X (binaryOp .Add) (rAddAll X.K) := op_add.or (op_add_str.or (op_catA.or op_cat))
theorem addOk : OpOk X.K X.mg Tb fAdd (rAddAll X.K) := by
  intro W σ ι H M d e x y Q r rx ry h
  cases d <;> cases e <;> try exact h.elim
  · obtain rfl := rx; obtain rfl := ry
    exact .inl ⟨_, _, rfl, rfl, out.done h r rfl⟩
  · obtain rfl := rx; obtain rfl := ry
    simp only [fAdd] at h
    split at h
    · rename_i hl
      exact .inr (.inl ⟨_, _, rfl, rfl, by rw [line_eq]; exact hl, out.done h r rfl⟩)
    · exact h.elim
  · rename_i l1 l2
    obtain ⟨a, vs, rfl, hs, hr⟩ := rx
    obtain ⟨b, ws, rfl, hs2, hr2⟩ := ry
    simp only [fAdd] at h
    split at h
    · rename_i hl
      refine .inr (.inr (.inl ⟨a, b, vs, ws, rfl, rfl, hs, hs2, by rw [hr.length, hr2.length, line_eq]; exact hl, fun e0 => ?_, fun _ e0 => ?_, fun _ _ p hp => ?_⟩))
      · subst e0
        have : l1 = [] := List.eq_nil_of_length_eq_zero (by rw [← hr.length]; rfl)
        subst this
        exact out.done h r ⟨b, ws, rfl, hs2, hr2⟩
      · subst e0
        have : l2 = [] := List.eq_nil_of_length_eq_zero (by rw [← hr2.length]; rfl)
        subst this
        refine out.done h r ⟨a, vs, rfl, hs, ?_⟩
        rw [List.append_nil]; exact hr
      · obtain ⟨e1, h1, h2⟩ := r.tup hp (hr.append hr2)
        exact out.done' h e1 h1 h2
    · exact h.elim
  · rename_i n m
    simp only [fAdd] at h
    split at h
    · rename_i a b h1 h2
      obtain ⟨p1, vs, _, rfl, q1, q2⟩ := r.lst rx h1
      obtain ⟨p2, ws, _, rfl, q3, q4⟩ := r.lst ry h2
      split at h
      · rename_i hl
        refine .inr (.inr (.inr ⟨p1, p2, vs, ws, rfl, rfl, q1, q3, by rw [q2.length, q4.length, line_eq]; exact hl, fun p hp => ?_⟩))
        obtain ⟨e1, h1⟩ := r.alloc hp (q2.append q4)
        exact out.done' h e1 h1 ⟨p, by rw [← r.len]; simp, rfl⟩
      · exact h.elim
    · exact h.elim
theorem subOk : OpOk X.K X.mg Tb fSub (rI0 fun i j => .int (i - j)) := by
  intro W σ ι H M d e x y Q r rx ry h
  cases d <;> cases e <;> try exact h.elim
  obtain rfl := rx; obtain rfl := ry
  exact ⟨_, _, rfl, rfl, out.done h r rfl⟩
abbrev rMulAll : R2 := fun x y H Q => rI CMul (fun i j => .int (i * j)) x y H Q ∨ rI CMulW (fun i j => .int (i * j)) x y H Q
theorem op_mulAll : OpR X (binaryOp .Mult) rMulAll := op_mul.or op_mulW
theorem mulOk_ok : OpOk X.K X.mg Tb fMul rMulAll := by
  intro W σ ι H M d e x y Q r rx ry h
  cases d <;> cases e <;> try exact h.elim
  obtain rfl := rx; obtain rfl := ry
  simp only [fMul] at h
  split at h
  · rename_i hc
    unfold mulOk at hc
    rcases Bool.or_eq_true_iff.mp hc with hc | hc
    · refine .inl ⟨_, _, rfl, rfl, ?_, out.done h r rfl⟩
      rcases Bool.or_eq_true_iff.mp hc with hc | hc
      · have hc := of_decide_eq_true hc
        exact .inl (by omega)
      · have hc := of_decide_eq_true hc
        exact .inr (by omega)
    · have hc := of_decide_eq_true hc
      exact .inr ⟨_, _, rfl, rfl, hc, out.done h r rfl⟩
  · exact h.elim
abbrev CDivA (_ j : Int) : Prop := j ≠ 0 ∧ j.natAbs.log2 < 9000
abbrev rDivAll : R2 := rI CDivA fun i j => .int (i.fdiv j)
theorem op_divAll : OpR X (binaryOp .FloorDiv) rDivAll := opI fun _ _ _ _ _ _ _ hc q => floordiv_int hc.1 q (.inl (PyProof.noPylong_of_log2 hc.2))
theorem divOk_ok : OpOk X.K X.mg Tb fDiv rDivAll := by
  intro W σ ι H M d e x y Q r rx ry h
  cases d <;> cases e <;> try exact h.elim
  obtain rfl := rx; obtain rfl := ry
  simp only [fDiv] at h
  split at h
  · rename_i hc
    exact ⟨_, _, rfl, rfl, of_decide_eq_true hc, out.done h r rfl⟩
  · exact h.elim
theorem modOk : OpOk X.K X.mg Tb fMod (rI (fun _ j => j ≠ 0) fun i j => .int (i.fmod j)) := by
  intro W σ ι H M d e x y Q r rx ry h
  cases d <;> cases e <;> try exact h.elim
  obtain rfl := rx; obtain rfl := ry
  simp only [fMod] at h
  split at h
  · rename_i hc
    exact ⟨_, _, rfl, rfl, hc, out.done h r rfl⟩
  · exact h.elim
theorem powOk : OpOk X.K X.mg Tb fPow (rI CPow fun i j => .int (i ^ j.toNat)) := by
  intro W σ ι H M d e x y Q r rx ry h
  cases d <;> cases e <;> try exact h.elim
  obtain rfl := rx; obtain rfl := ry
  simp only [fPow] at h
  split at h
  · rename_i hc
    exact ⟨_, _, rfl, rfl, ⟨hc.1, by have := hc.2.1; omega, hc.2.2⟩, out.done h r rfl⟩
  · exact h.elim
theorem negOk : UnOk X.K X.mg Tb fNeg (rU fun i => .int (-i)) := by
  intro W σ ι H M d x Q r rx h
  cases d <;> try exact h.elim
  obtain rfl := rx
  exact ⟨_, rfl, out.done h r rfl⟩

/-! ### comparisons -/
def fInt (p : Int → Int → Bool) : D → D → MH → Res D
  | .int i, .int j, M => .ok (.bl (p i j)) M
  | _, _, _ => .err
theorem cmpOk (p : Int → Int → Bool) : OpOk X.K X.mg Tb (fInt p) (rI0 fun i j => .bl (p i j)) := by
  intro W σ ι H M d e x y Q r rx ry h
  cases d <;> cases e <;> try exact h.elim
  obtain rfl := rx; obtain rfl := ry
  exact ⟨_, _, rfl, rfl, out.done h r rfl⟩
abbrev fLt := fInt fun i j => decide (i < j)
abbrev fLe := fInt fun i j => decide (i ≤ j)
abbrev fGt := fInt fun i j => decide (j < i)
abbrev fGe := fInt fun i j => decide (j ≤ i)

/-! ### data as a whole -/
mutual
def toPy0 (f : List D → Option (List PyData)) (M : MH) : D → Option PyData
  | .non => some .none
  | .bl b => some (.bool b)
  | .int i => some (.int i)
  | .str s => some (.str s)
  | .tup l => (toPys0 f M l).map .tuple
  | .ro l => (toPys0 f M l).map .list
  | .ref n => match M[n]? with
    | some (.lst l) => (f l).map .list
    | _ => none
  | .fn _ => none
def toPys0 (f : List D → Option (List PyData)) (M : MH) : List D → Option (List PyData)
  | [] => some []
  | d :: ds => (toPy0 f M d).bind fun p => (toPys0 f M ds).map (p :: ·)
end
def toPyN (M : MH) : Nat → List D → Option (List PyData)
  | 0 => fun _ => none
  | n + 1 => toPys0 (toPyN M n) M
/-- the data that a value is, lists four deep -/
def toPy (M : MH) (d : D) : Option PyData := toPy0 (toPyN M 4) M d
section
variable {K : PySem.W.Frag} {mg : Str → Option Value} {Tb : List (Addr × Str)} {ι : List Addr} {H : Hp} {M : MH}
mutual
theorem dp0 (r : RelH K mg Tb ι H M) {f : List D → Option (List PyData)} (hf : ∀ l ps vs, f l = some ps → RelDs K mg ι H l vs → DpAll K H vs ps) : ∀ (d : D) (p : PyData) (v : V), toPy0 f M d = some p → RelD K mg ι H d v → Dp K H v p
  | .non, p, v, e, h => by simp only [toPy0, Option.some.injEq] at e; subst e; obtain rfl := h; exact .non
  | .bl b, p, v, e, h => by simp only [toPy0, Option.some.injEq] at e; subst e; obtain rfl := h; exact .bl b
  | .int b, p, v, e, h => by simp only [toPy0, Option.some.injEq] at e; subst e; obtain rfl := h; exact .int b
  | .str b, p, v, e, h => by simp only [toPy0, Option.some.injEq] at e; subst e; obtain rfl := h; exact .str b
  | .tup l, p, v, e, h => by
    simp only [toPy0, Option.map_eq_some_iff] at e
    obtain ⟨ps, e1, rfl⟩ := e
    obtain ⟨a, vs, rfl, hs, hr⟩ := h
    exact .tup hs (dps0 r hf l ps vs e1 hr)
  | .ro l, p, v, e, h => by
    simp only [toPy0, Option.map_eq_some_iff] at e
    obtain ⟨ps, e1, rfl⟩ := e
    obtain ⟨a, vs, rfl, hs, hr⟩ := h
    exact .lst hs.seq (dps0 r hf l ps vs e1 hr)
  | .ref n, p, v, e, h => by
    simp only [toPy0] at e
    split at e
    · rename_i l hm
      simp only [Option.map_eq_some_iff] at e
      obtain ⟨ps, e1, rfl⟩ := e
      obtain ⟨a, vs, _, rfl, h1, h2⟩ := r.lst h hm
      exact .lst (SqL.of h1) (hf l ps vs e1 h2)
    · cases e
  | .fn x, p, v, e, h => by simp [toPy0] at e
theorem dps0 (r : RelH K mg Tb ι H M) {f : List D → Option (List PyData)} (hf : ∀ l ps vs, f l = some ps → RelDs K mg ι H l vs → DpAll K H vs ps) : ∀ (l : List D) (ps : List PyData) (vs : List V), toPys0 f M l = some ps → RelDs K mg ι H l vs → DpAll K H vs ps
  | [], ps, vs, e, h => by
    simp only [toPys0, Option.some.injEq] at e
    subst e
    obtain rfl : vs = [] := h
    exact .nil
  | d :: ds, ps, vs, e, h => by
    simp only [toPys0, Option.bind_eq_some_iff, Option.map_eq_some_iff] at e
    obtain ⟨p, e1, ps', e2, rfl⟩ := e
    obtain ⟨v, vr, rfl, h1, h2⟩ := h
    exact .cons (dp0 r hf d p v e1 h1) (dps0 r hf ds ps' vr e2 h2)
end
theorem dpN (r : RelH K mg Tb ι H M) : ∀ (n : Nat) (l : List D) (ps : List PyData) (vs : List V), toPyN M n l = some ps → RelDs K mg ι H l vs → DpAll K H vs ps
  | 0, l, ps, vs, e, _ => by cases e
  | n + 1, l, ps, vs, e, h => dps0 r (fun l ps vs => dpN r n l ps vs) l ps vs e h
theorem dp_of (r : RelH K mg Tb ι H M) {d : D} {p : PyData} {v : V} (e : toPy M d = some p) (h : RelD K mg ι H d v) : Dp K H v p := dp0 r (dpN r 4) d p v e h
end
def fEq0 (neg : Bool) (d e : D) (M : MH) : Res D :=
  match toPy M d, toPy M e with
  | some p, some q => if (SeqAt.shaped p && SeqAt.shaped q) = true then .ok (.bl (if neg then !PyData.eqv p q else PyData.eqv p q)) M else .err
  | _, _ => .err
def fEq (neg : Bool) : D → D → MH → Res D
  | .str a, .str b, M => .ok (.bl (if neg then !decide (a = b) else decide (a = b))) M
  | d, e, M => fEq0 neg d e M
abbrev rEqA (K : PySem.W.Frag) : R2 := fun x y H Q => rEqD K x y H Q ∨ rEq x y H Q
abbrev rNeA (K : PySem.W.Frag) : R2 := fun x y H Q => rNeD K x y H Q ∨ rNe x y H Q
theorem op_eqA (hu : X.A.units + 64 < cLine) : OpR X (compareOp .Eq) (rEqA X.K) := (op_eqD hu).or op_eq
theorem op_neA (hu : X.A.units + 64 < cLine) : OpR X (compareOp .NotEq) (rNeA X.K) := (op_neD hu).or op_ne
theorem str_inj (a b : Str) : decide ((V.str a) = V.str b) = decide (a = b) := by
  by_cases h : a = b
  · subst h; simp
  · rw [decide_eq_false h, decide_eq_false (fun z => h (by cases z; rfl))]
theorem eqOk : OpOk X.K X.mg Tb (fEq false) (rEqA X.K) := by
  intro W σ ι H M d e x y Q r rx ry h
  unfold fEq at h
  split at h
  · obtain rfl := rx; obtain rfl := ry
    refine .inr ⟨rfl, ?_⟩
    rw [str_inj]
    exact out.done h r rfl
  · unfold fEq0 at h
    split at h
    · rename_i p q hp hq
      split at h
      · rename_i hc
        rw [Bool.and_eq_true] at hc
        exact .inl ⟨p, q, dp_of r hp rx, dp_of r hq ry, hc.1, hc.2, out.done h r rfl⟩
      · exact h.elim
    · exact h.elim
theorem neOk : OpOk X.K X.mg Tb (fEq true) (rNeA X.K) := by
  intro W σ ι H M d e x y Q r rx ry h
  unfold fEq at h
  split at h
  · obtain rfl := rx; obtain rfl := ry
    refine .inr ⟨rfl, ?_⟩
    rw [str_inj]
    exact out.done h r rfl
  · unfold fEq0 at h
    split at h
    · rename_i p q hp hq
      split at h
      · rename_i hc
        rw [Bool.and_eq_true] at hc
        exact .inl ⟨p, q, dp_of r hp rx, dp_of r hq ry, hc.1, hc.2, out.done h r rfl⟩
      · exact h.elim
    · exact h.elim
/-! ### is -/
def fIs (neg : Bool) : D → D → MH → Res D
  | d, .non, M => .ok (.bl (if neg then !decide (d = .non) else decide (d = .non))) M
  | .bl a, .bl b, M => .ok (.bl (if neg then !decide (a = b) else decide (a = b))) M
  | _, _, _ => .err
theorem RelD.non_iff {K : PySem.W.Frag} {mg : Str → Option Value} {ι : List Addr} {H : Hp} {d : D} {v : V} (h : RelD K mg ι H d v) : decide (v = .non) = decide (d = .non) := by
  cases d with
  | non => obtain rfl := h; rfl
  | bl b => obtain rfl := h; rfl
  | int b => obtain rfl := h; rfl
  | str b => obtain rfl := h; simp
  | tup l => obtain ⟨a, vs, rfl, _⟩ := h; simp
  | ro l => obtain ⟨a, vs, rfl, _⟩ := h; simp
  | ref l => obtain ⟨a, _, rfl⟩ := h; simp
  | fn l => obtain ⟨a, _, rfl⟩ := h; simp
abbrev rIsAll : R2 := fun x y H Q => (y = .non ∧ Q (.bl (decide (x = .non))) H) ∨ rIsB x y H Q
abbrev rNotAll : R2 := fun x y H Q => (y = .non ∧ Q (.bl (!decide (x = .non))) H) ∨ rNotB x y H Q
theorem op_isAll : OpR X (compareOp .Is) rIsAll := op_isN.or op_isBl
theorem op_notAll : OpR X (compareOp .IsNot) rNotAll := op_notN.or op_notBl
theorem isOk : OpOk X.K X.mg Tb (fIs false) rIsAll := by
  intro W σ ι H M d e x y Q r rx ry h
  unfold fIs at h
  split at h
  · obtain rfl := ry
    refine .inl ⟨rfl, ?_⟩
    rw [RelD.non_iff rx]
    exact out.done h r rfl
  · obtain rfl := rx; obtain rfl := ry
    exact .inr ⟨_, _, rfl, rfl, out.done h r rfl⟩
  · exact h.elim
theorem notOk : OpOk X.K X.mg Tb (fIs true) rNotAll := by
  intro W σ ι H M d e x y Q r rx ry h
  unfold fIs at h
  split at h
  · obtain rfl := ry
    refine .inl ⟨rfl, ?_⟩
    rw [RelD.non_iff rx]
    exact out.done h r rfl
  · obtain rfl := rx; obtain rfl := ry
    exact .inr ⟨_, _, rfl, rfl, out.done h r rfl⟩
  · exact h.elim

/-! ### in: a flat thing in a list or tuple of flat things -/
def flatD : D → Bool
  | .non => true
  | .bl _ => true
  | .int _ => true
  | .str _ => true
  | _ => false
def eqFlat : D → D → Bool
  | .non, .non => true
  | .bl a, .bl b => a == b
  | .bl a, .int b => (if a then 1 else 0) == b
  | .int a, .bl b => a == (if b then 1 else 0)
  | .int a, .int b => a == b
  | .str a, .str b => a == b
  | _, _ => false
section
variable {K : PySem.W.Frag} {mg : Str → Option Value} {Tb : List (Addr × Str)} {ι : List Addr} {H : Hp} {M : MH}
theorem RelD.flat {d : D} {v : V} (h : RelD K mg ι H d v) (f : flatD d = true) : flatV v = true := by
  cases d <;> first | (cases f; done) | (obtain rfl := h; rfl)
theorem RelD.eqV {d e : D} {v u : V} (h : RelD K mg ι H d v) (h' : RelD K mg ι H e u) (f : flatD d = true) (f' : flatD e = true) : L2.eqV v u = eqFlat d e := by
  cases d <;> first | (cases f; done) | (obtain rfl := h; cases e <;> first | (cases f'; done) | (obtain rfl := h'; rfl))
theorem RelDs.flat : ∀ {l : List D} {vs : List V}, RelDs K mg ι H l vs → l.all flatD = true → vs.all flatV = true
  | [], vs, h, _ => by obtain rfl : vs = [] := h; rfl
  | d :: l, vs, h, f => by
    obtain ⟨v, vr, rfl, h1, h2⟩ := h
    simp only [List.all_cons, Bool.and_eq_true] at f ⊢
    exact ⟨RelD.flat h1 f.1, RelDs.flat h2 f.2⟩
theorem RelDs.inV {d : D} {v : V} (hd : RelD K mg ι H d v) (fd : flatD d = true) : ∀ {l : List D} {vs : List V}, RelDs K mg ι H l vs → l.all flatD = true → L2.inV v vs = l.any (fun e => eqFlat e d)
  | [], vs, h, _ => by obtain rfl : vs = [] := h; rfl
  | e :: l, vs, h, f => by
    obtain ⟨u, vr, rfl, h1, h2⟩ := h
    simp only [List.all_cons, Bool.and_eq_true] at f
    have ih := RelDs.inV hd fd h2 f.2
    unfold L2.inV at ih ⊢
    rw [List.any_cons, List.any_cons, ih, RelD.eqV h1 hd f.1 fd]
end
/-- the items of a list or tuple -/
def itemsOf (M : MH) : D → Option (List D)
  | .tup l => some l
  | .ro l => some l
  | .ref n => match M[n]? with
    | some (.lst l) => some l
    | _ => none
  | _ => none
theorem items_seq {K : PySem.W.Frag} {mg : Str → Option Value} {Tb : List (Addr × Str)} {ι : List Addr} {H : Hp} {M : MH} (r : RelH K mg Tb ι H M) {d : D} {v : V} (h : RelD K mg ι H d v) {l : List D} (e : itemsOf M d = some l) :
    ∃ a vs, v = .ref a ∧ (SqL K H a vs ∨ SqT K H a vs) ∧ RelDs K mg ι H l vs := by
  cases d with
  | tup l' => cases e; obtain ⟨a, vs, h1, h2, h3⟩ := h; exact ⟨a, vs, h1, .inr h2, h3⟩
  | ro l' => cases e; obtain ⟨a, vs, h1, h2, h3⟩ := h; exact ⟨a, vs, h1, .inl h2.seq, h3⟩
  | ref n =>
    simp only [itemsOf] at e
    split at e
    · cases e
      rename_i hm
      obtain ⟨a, vs, _, h1, h2, h3⟩ := r.lst h hm
      exact ⟨a, vs, h1, .inl (SqL.of h2), h3⟩
    · cases e
  | _ => cases e
def fIn (neg : Bool) (d e : D) (M : MH) : Res D :=
  match itemsOf M e with
  | some l => if (flatD d && l.all flatD) = true then .ok (.bl (if neg then !l.any (fun e => eqFlat e d) else l.any (fun e => eqFlat e d))) M else .err
  | none => .err
theorem inOk (neg : Bool) : OpOk X.K X.mg Tb (fIn neg) (rIn X.K neg) := by
  intro W σ ι H M d e x y Q r rx ry h
  unfold fIn at h
  split at h
  · rename_i l hl
    split at h
    · rename_i hc
      rw [Bool.and_eq_true] at hc
      obtain ⟨a, vs, rfl, hs, hr⟩ := items_seq r ry hl
      refine ⟨a, vs, rfl, hs, RelD.flat rx hc.1, RelDs.flat hr hc.2, ?_⟩
      rw [RelDs.inV rx hc.1 hr hc.2]
      exact out.done h r rfl
    · exact h.elim
  · exact h.elim

/-! ### subscripts -/
def fIx : D → D → MH → Res D
  | .str z, .int i, M => if z.length ≤ LINE then (match atI z.cps.toList i with | some c => .ok (.str ⟨#[c]⟩) M | none => .err) else .err
  | d, .int i, M => match itemsOf M d with
    | some l => (match atI l i with | some x => .ok x M | none => .err)
    | none => .err
  | _, _, _ => .err
theorem RelDs.atI {K : PySem.W.Frag} {mg : Str → Option Value} {ι : List Addr} {H : Hp} {l : List D} {vs : List V} (h : RelDs K mg ι H l vs) {i : Int} {d : D} (e : L2.atI l i = some d) : ∃ v, L2.atI vs i = some v ∧ RelD K mg ι H d v := by
  unfold L2.atI at e ⊢
  rw [h.length]
  cases q : ixN l.length i with
  | none => rw [q] at e; cases e
  | some j =>
    rw [q] at e
    exact h.get e
theorem ixOk : OpOk X.K X.mg Tb fIx (rIx X.K) := by
  intro W σ ι H M d e x y Q r rx ry h
  have core : ∀ i, e = .int i → out X.K X.mg Tb (RelD X.K X.mg) W σ ι H (match itemsOf M d with
    | some l => (match atI l i with | some x => .ok x M | none => .err)
    | none => .err) Q → rIx X.K x y H Q := by
    rintro i rfl h
    obtain rfl := ry
    split at h
    · rename_i l hl
      obtain ⟨a, vs, rfl, hs, hr⟩ := items_seq r rx hl
      split at h
      · rename_i z hz
        obtain ⟨v, h1, h2⟩ := hr.atI hz
        rcases hs with hs | hs
        · exact .inl ⟨a, vs, i, v, rfl, rfl, hs, h1, out.done h r h2⟩
        · exact .inr (.inl ⟨a, vs, i, v, rfl, rfl, hs, h1, out.done h r h2⟩)
      · exact h.elim
    · exact h.elim
  cases e with
  | int i =>
    cases d with
    | str z =>
      obtain rfl := rx; obtain rfl := ry
      simp only [fIx] at h
      split at h
      · rename_i hl
        split at h
        · rename_i c hc
          exact .inr (.inr ⟨z, i, c, rfl, rfl, by rw [line_eq]; exact hl, hc, out.done h r rfl⟩)
        · exact h.elim
      · exact h.elim
    | _ => exact core i rfl h
  | _ => cases d <;> exact h.elim
end
end Mp
namespace Mp
open PySem PySem.Spec PyProof.Rows L2

section
variable {K : PySem.W.Frag} {mg : Str → Option Value} {Tb : List (Addr × Str)} {α β γ δ : Type} {Rv : List Addr → Hp → α → β → Prop} {Rw : List Addr → Hp → γ → δ → Prop} {W : WX} {σ : St} {ι ι1 : List Addr} {H H1 : Hp} {M : MH} {ρ : Ev}
theorem out_bind {r : Res α} {k : α → MH → Res γ} {Q : δ → Hp → Prop} (a : At K mg Tb ι M ρ σ H) (h : out K mg Tb Rw W σ ι H (r.bind k) Q) :
    out K mg Tb Rv W σ ι H r (fun v H1 => ∃ ι1 M1 x, Ext ι H ι1 H1 ∧ At K mg Tb ι1 M1 ρ σ H1 ∧ Rv ι1 H1 x v ∧ out K mg Tb Rw W σ ι1 H1 (k x M1) Q) := by
  cases r with
  | ok x M1 => exact fun ι' v H' e q rv => ⟨ι', M1, x, e, a.ext e q, rv, out.ext e h⟩
  | exc c M1 => exact h
  | err => exact h
end

/-! ### chains of comparisons -/
section
variable {Tb : List (Addr × Str)} {X : Cx} {W : WX} {a b c e : Expr} {pos : Pos} {ma mb mc : E}
theorem chain_read {f g : D → D → MH → Res D} {r r' : R2} (ok : OpOk X.K X.mg Tb f r) (ok' : OpOk X.K X.mg Tb g r') {σ : St} {H : Hp} {Q : VK} (h : rd X.K X.mg Tb (RelD X.K X.mg) W (mChain f g ma mb mc) σ H Q) :
    tChain r r' (rd X.K X.mg Tb (RelD X.K X.mg) W ma) (rd X.K X.mg Tb (RelD X.K X.mg) W mb) (rd X.K X.mg Tb (RelD X.K X.mg) W mc) σ H Q := by
  obtain ⟨ι, M, ρ, at_, h⟩ := h
  obtain ⟨ι0, M0, ρ0, a0, h0⟩ := rd_bind (Rv := RelD X.K X.mg) (m := ma) at_ h
  refine ⟨ι0, M0, ρ0, a0, out.mono h0 fun x H1 ⟨ι1, M1, d, e1, at1, r1, h1⟩ => ?_⟩
  obtain ⟨ι2, M2, ρ2, a2, h2⟩ := rd_bind (Rv := RelD X.K X.mg) (m := mb) at1 h1
  refine ⟨ι2, M2, ρ2, a2, out.mono h2 fun y H2 ⟨ι3, M3, d2, e3, at3, r3, h3⟩ => ?_⟩
  refine ok W σ ι3 H2 M3 d d2 x y _ at3.h (RelD.ext e3 _ _ r1) r3 (out.mono (out_bind (Rv := RelD X.K X.mg) at3 h3) fun z H3 ⟨ι4, M4, d3, e4, at4, r4, h4⟩ => ?_)
  cases d3 with
  | bl k =>
    obtain rfl : z = .bl k := r4
    refine ⟨k, rfl, ?_⟩
    cases k with
    | false => exact out.done h4 at4.h rfl
    | true =>
      obtain ⟨ι5, M5, ρ5, a5, h5⟩ := rd_bind (Rv := RelD X.K X.mg) (m := mc) at4 h4
      refine ⟨ι5, M5, ρ5, a5, out.mono h5 fun w H4 ⟨ι6, M6, d4, e6, at6, r6, h6⟩ => ?_⟩
      exact ok' W σ ι6 H4 M6 d2 d4 y w Q at6.h (RelD.ext (e4.trans e6) _ _ r3) r6 h6
  | _ => exact h4.elim
theorem me_chain {op op' : CmpOp} {f g : D → D → MH → Res D} {r r' : R2} (ho : OpR X (compareOp op) r) (ho' : OpR X (compareOp op') r') (ok : OpOk X.K X.mg Tb f r) (ok' : OpOk X.K X.mg Tb g r') (ha : ME Tb X W a ma) (hb : ME Tb X W b mb) (hc : ME Tb X W c mc)
    (hm : lastMarks [op, op'] [b, c] = false := by with_unfolding_all rfl) : ME Tb X W (.Compare a [op, op'] [b, c] pos) (mChain f g ma mb mc) :=
  (pe_chain ho ho' ha hb hc hm).imp fun _ _ _ h => chain_read ok ok' h
theorem mt_chain {op op' : CmpOp} {f g : D → D → MH → Res D} {r r' : R2} (ho : OpR X (compareOp op) r) (ho' : OpR X (compareOp op') r') (ok : OpOk X.K X.mg Tb f r) (ok' : OpOk X.K X.mg Tb g r') (ha : ME Tb X W a ma) (hb : ME Tb X W b mb) (hc : ME Tb X W c mc)
    (hm : lastMarks [op, op'] [b, c] = false := by with_unfolding_all rfl) : MT Tb X W (.Compare a [op, op'] [b, c] pos) (tB1 (mChain f g ma mb mc)) :=
  (pt_chain ho ho' ha hb hc hm).imp fun _ _ _ h => chain_read ok ok' (tB_read h)

/-! ### built-in functions -/
def mBlt (f : List D → MH → Res D) (r : A) : E := fun ρ M => (r ρ M).bind fun ds M1 => f ds M1
def BOk (K : PySem.W.Frag) (mg : Str → Option Value) (Tb : List (Addr × Str)) (f : List D → MH → Res D) (r : List V → Hp → VK → Prop) : Prop :=
  ∀ (W : WX) (σ : St) (ι : List Addr) (H : Hp) (M : MH) (ds : List D) (xs : List V) (Q : VK), RelH K mg Tb ι H M → RelDs K mg ι H ds xs → out K mg Tb (RelD K mg) W σ ι H (f ds M) Q → r xs H Q
variable {es : List Expr} {ar : A} {x : Str} {p : Pos}
theorem blt_read {f : List D → MH → Res D} {r : List V → Hp → VK → Prop} (ok : BOk X.K X.mg Tb f r) {σ : St} {H : Hp} {Q : VK} (h : rd X.K X.mg Tb (RelD X.K X.mg) W (mBlt f ar) σ H Q) : tCB r (rd X.K X.mg Tb (RelDs X.K X.mg) W ar) σ H Q := by
  obtain ⟨ι, M, ρ, at_, h⟩ := h
  obtain ⟨ι0, M0, ρ0, a0, h0⟩ := rd_bind (Rv := RelDs X.K X.mg) (m := ar) at_ h
  refine ⟨ι0, M0, ρ0, a0, out.mono h0 fun xs H1 ⟨ι1, M1, ds, e1, at1, r1, h1⟩ => ?_⟩
  exact ok W σ ι1 H1 M1 ds xs Q at1.h r1 h1
theorem me_callB {id : String} {f : List D → MH → Res D} {r : List V → Hp → VK → Prop} (hc : CallR X (.builtin id) r) (ok : BOk X.K X.mg Tb f r) (hm : X.mg x = none) (ha : MA Tb X W (e :: es) ar) (hv : bootBuiltins x = some (.builtin id) := by decide +kernel) (hg : Gl X x := by rfl)
    (hn : x ≠ "__name__" := by decide) (hdb : (x == ("__debug__" : Str)) = false := by decide)
    (he : starEach (e :: es) X.env = (false, eval e X.env) :: starEach es X.env := by rfl) (hpl : (backTo pos (starEach es X.env)).any (·.1) = false := by rfl) : ME Tb X W (.Call (.Name x p) (e :: es) [] pos) (mBlt f ar) :=
  (pe_callB hc hg hm hv ha hn hdb he hpl).imp fun _ _ _ h => blt_read ok h
theorem me_callTy {T : String} {f : List D → MH → Res D} {r : List V → Hp → VK → Prop} (hc : CallR X (.type T) r) (ok : BOk X.K X.mg Tb f r) (hm : X.mg x = none) (ha : MA Tb X W (e :: es) ar) (hv : bootBuiltins x = some (.type T) := by decide +kernel) (hg : Gl X x := by rfl)
    (hn : x ≠ "__name__" := by decide) (hdb : (x == ("__debug__" : Str)) = false := by decide)
    (he : starEach (e :: es) X.env = (false, eval e X.env) :: starEach es X.env := by rfl) (hpl : (backTo pos (starEach es X.env)).any (·.1) = false := by rfl) : ME Tb X W (.Call (.Name x p) (e :: es) [] pos) (mBlt f ar) :=
  (pe_callTy hc hg hm hv ha hn hdb he hpl).imp fun _ _ _ h => blt_read ok h
end
section
variable {Tb : List (Addr × Str)} {X : Cx}
theorem RelDs.un1 {K : PySem.W.Frag} {mg : Str → Option Value} {ι : List Addr} {H : Hp} {d : D} {xs : List V} (h : RelDs K mg ι H [d] xs) : ∃ v, xs = [v] ∧ RelD K mg ι H d v := by
  obtain ⟨v, vr, rfl, h1, h2⟩ := h
  obtain rfl : vr = [] := h2
  exact ⟨v, rfl, h1⟩
theorem RelDs.un2 {K : PySem.W.Frag} {mg : Str → Option Value} {ι : List Addr} {H : Hp} {d e : D} {xs : List V} (h : RelDs K mg ι H [d, e] xs) : ∃ v u, xs = [v, u] ∧ RelD K mg ι H d v ∧ RelD K mg ι H e u := by
  obtain ⟨v, vr, rfl, h1, h2⟩ := h
  obtain ⟨u, rfl, h3⟩ := h2.un1
  exact ⟨v, u, rfl, h1, h3⟩
def fLen : List D → MH → Res D
  | [.str z], M => if z.length ≤ LINE then .ok (.int z.length) M else .err
  | [d], M => match itemsOf M d with
    | some l => .ok (.int l.length) M
    | none => .err
  | _, _ => .err
theorem lenOk : BOk X.K X.mg Tb fLen (fun xs H Q => ∃ x n, xs = [x] ∧ LenV X.K x H n ∧ Q (.int n) H) := by
  intro W σ ι H M ds xs Q r rx h
  have core : ∀ d, ds = [d] → out X.K X.mg Tb (RelD X.K X.mg) W σ ι H (match itemsOf M d with
    | some l => .ok (.int l.length) M
    | none => .err) Q → ∃ x n, xs = [x] ∧ LenV X.K x H n ∧ Q (.int n) H := by
    rintro d rfl h
    obtain ⟨v, rfl, rv⟩ := rx.un1
    split at h
    · rename_i l hl
      obtain ⟨a, vs, rfl, hs, hr⟩ := items_seq r rv hl
      refine ⟨_, l.length, rfl, ?_, out.done h r rfl⟩
      rcases hs with hs | hs
      · exact .inl ⟨vs, hs, hr.length.symm⟩
      · exact .inr ⟨vs, hs, hr.length.symm⟩
    · exact h.elim
  cases ds with
  | nil => exact h.elim
  | cons d ds =>
    cases ds with
    | cons _ _ => cases d <;> exact h.elim
    | nil =>
      cases d with
      | str z =>
        obtain ⟨v, rfl, rv⟩ := rx.un1
        obtain rfl := rv
        simp only [fLen] at h
        split at h
        · rename_i hl
          exact ⟨_, _, rfl, ⟨by rw [line_eq]; exact hl, rfl⟩, out.done h r rfl⟩
        · exact h.elim
      | _ => exact core _ rfl h
def fAbs : List D → MH → Res D
  | [.int i], M => .ok (.int (if i < 0 then -i else i)) M
  | _, _ => .err
theorem absOk : BOk X.K X.mg Tb fAbs (fun xs H Q => ∃ i, xs = [.int i] ∧ Q (.int (if i < 0 then -i else i)) H) := by
  intro W σ ι H M ds xs Q r rx h
  unfold fAbs at h
  split at h
  · obtain ⟨v, rfl, rfl⟩ := rx.un1
    exact ⟨_, rfl, out.done h r rfl⟩
  · exact h.elim
def fInt1 : List D → MH → Res D
  | [.int i], M => .ok (.int i) M
  | [.bl b], M => .ok (.int (if b then 1 else 0)) M
  | _, _ => .err
theorem intOk : BOk X.K X.mg Tb fInt1 (fun xs H Q => (∃ i, xs = [.int i] ∧ Q (.int i) H) ∨ ∃ k, xs = [.bl k] ∧ Q (.int (if k then 1 else 0)) H) := by
  intro W σ ι H M ds xs Q r rx h
  unfold fInt1 at h
  split at h
  · obtain ⟨v, rfl, rfl⟩ := rx.un1
    exact .inl ⟨_, rfl, out.done h r rfl⟩
  · obtain ⟨v, rfl, rfl⟩ := rx.un1
    exact .inr ⟨_, rfl, out.done h r rfl⟩
  · exact h.elim
def fList : List D → MH → Res D
  | [d], M => match itemsOf M d with
    | some l => .ok (.ref M.length) (M ++ [.lst l])
    | none => .err
  | _, _ => .err
theorem listOk : BOk X.K X.mg Tb fList (fun xs H Q => ∃ p ys, xs = [.ref p] ∧ (SqL X.K H p ys ∨ SqT X.K H p ys) ∧ ∀ l, H l = none → Q (.ref l) (upd H l (.lst ys))) := by
  intro W σ ι H M ds xs Q r rx h
  unfold fList at h
  split at h
  · obtain ⟨v, rfl, rv⟩ := rx.un1
    split at h
    · rename_i l hl
      obtain ⟨a, vs, rfl, hs, hr⟩ := items_seq r rv hl
      refine ⟨a, vs, rfl, hs, fun p hp => ?_⟩
      obtain ⟨e1, h1⟩ := r.alloc hp hr
      exact out.done' h e1 h1 ⟨p, by rw [← r.len]; simp, rfl⟩
    · exact h.elim
  · exact h.elim
def fTuple : List D → MH → Res D
  | [.tup l], M => .ok (.tup l) M
  | [d], M => match itemsOf M d with
    | some l => .ok (.tup l) M
    | none => .err
  | _, _ => .err
theorem tupleOk : BOk X.K X.mg Tb fTuple (fun xs H Q => ∃ p ys, xs = [.ref p] ∧ ((SqL X.K H p ys ∧ ∀ l, H l = none → Q (.ref l) (upd H l (.tup ys))) ∨ (SqT X.K H p ys ∧ Q (.ref p) H))) := by
  intro W σ ι H M ds xs Q r rx h
  have core : ∀ d, ds = [d] → out X.K X.mg Tb (RelD X.K X.mg) W σ ι H (match itemsOf M d with
    | some l => .ok (.tup l) M
    | none => .err) Q → ∃ p ys, xs = [.ref p] ∧ ((SqL X.K H p ys ∧ ∀ l, H l = none → Q (.ref l) (upd H l (.tup ys))) ∨ (SqT X.K H p ys ∧ Q (.ref p) H)) := by
    rintro d rfl h
    obtain ⟨v, rfl, rv⟩ := rx.un1
    split at h
    · rename_i l hl
      obtain ⟨a, vs, rfl, hs, hr⟩ := items_seq r rv hl
      rcases hs with hs | hs
      · refine ⟨a, vs, rfl, .inl ⟨hs, fun p hp => ?_⟩⟩
        obtain ⟨e1, h1, h2⟩ := r.tup hp hr
        exact out.done' h e1 h1 h2
      · exact ⟨a, vs, rfl, .inr ⟨hs, out.done h r ⟨a, vs, rfl, hs, hr⟩⟩⟩
    · exact h.elim
  unfold fTuple at h
  split at h
  · exact core _ rfl h
  · exact core _ rfl h
  · exact h.elim
/-- the truths in a list -/
def blsOf : List D → Option (List Bool)
  | [] => some []
  | .bl b :: l => (blsOf l).map (b :: ·)
  | _ => none
theorem bls_map {K : PySem.W.Frag} {mg : Str → Option Value} {ι : List Addr} {H : Hp} : ∀ {l : List D} {bs : List Bool} {vs : List V}, blsOf l = some bs → RelDs K mg ι H l vs → vs = bs.map V.bl
  | [], bs, vs, e, h => by
    simp only [blsOf, Option.some.injEq] at e
    subst e
    exact h
  | d :: l, bs, vs, e, h => by
    cases d <;> simp only [blsOf, Option.map_eq_some_iff, reduceCtorEq] at e
    obtain ⟨bs', e1, rfl⟩ := e
    obtain ⟨v, vr, rfl, h1, h2⟩ := h
    obtain rfl := h1
    rw [bls_map e1 h2, List.map_cons]
def fAllAny (f : List Bool → Bool) : List D → MH → Res D
  | [.ref n], M => match M[n]? with
    | some (.lst l) => (match blsOf l with | some bs => .ok (.bl (f bs)) M | none => .err)
    | _ => .err
  | _, _ => .err
theorem allAny_ok (f : List Bool → Bool) : BOk X.K X.mg Tb (fAllAny f) (fun vs H Q => ∃ (a : Addr) (bs : List Bool), vs = [V.ref a] ∧ SqL X.K H a (bs.map V.bl) ∧ Q (.bl (f bs)) H) := by
  intro W σ ι H M ds xs Q r rx h
  unfold fAllAny at h
  split at h
  · obtain ⟨v, rfl, rv⟩ := rx.un1
    split at h
    · rename_i l hl
      obtain ⟨a, vs, _, rfl, h1, h2⟩ := r.lst rv hl
      split at h
      · rename_i bs hb
        have := bls_map hb h2
        subst this
        exact ⟨a, bs, rfl, SqL.of h1, out.done h r rfl⟩
      · exact h.elim
    · exact h.elim
  · exact h.elim
abbrev fAll := fAllAny fun bs => bs.all id
abbrev fAny := fAllAny fun bs => bs.any id
theorem allOk : BOk X.K X.mg Tb fAll (rAll X.K) := allAny_ok _
theorem anyOk : BOk X.K X.mg Tb fAny (rAny X.K) := allAny_ok _

/-! ### isinstance of a built-in class -/
inductive Ty | int | bool | str | tuple | list
def Ty.nm : Ty → String
  | .int => "int" | .bool => "bool" | .str => "str" | .tuple => "tuple" | .list => "list"
def tyOf : D → Option String
  | .non => some "NoneType"
  | .bl _ => some "bool"
  | .int _ => some "int"
  | .str _ => some "str"
  | .tup _ => some "tuple"
  | .ro _ => some "list"
  | _ => none
def isTy : Ty → D → Option Bool
  | t, .non => some false
  | .int, .bl _ => some true
  | .bool, .bl _ => some true
  | _, .bl _ => some false
  | .int, .int _ => some true
  | _, .int _ => some false
  | .str, .str _ => some true
  | _, .str _ => some false
  | .tuple, .tup _ => some true
  | _, .tup _ => some false
  | .list, .ro _ => some true
  | _, .ro _ => some false
  | .list, .ref _ => some true
  | _, .ref _ => some false
  | _, .fn _ => none
def fIsi (t : Ty) (d : D) (M : MH) : Res D :=
  match d with
  | .ref n => (match M[n]? with
    | some (.lst _) => (match isTy t d with | some b => .ok (.bl b) M | none => .err)
    | _ => .err)
  | _ => (match isTy t d with | some b => .ok (.bl b) M | none => .err)
theorem kit_all : ∀ (t : Ty) (n : String) (b : Bool), (n = "NoneType" ∧ b = false) ∨ (n = "bool" ∧ b = (match t with | .int => true | .bool => true | _ => false)) ∨ (n = "int" ∧ b = (match t with | .int => true | _ => false)) ∨ (n = "str" ∧ b = (match t with | .str => true | _ => false)) ∨
    (n = "tuple" ∧ b = (match t with | .tuple => true | _ => false)) ∨ (n = "list" ∧ b = (match t with | .list => true | _ => false)) → kitB n t.nm = some b := by
  intro t n b h
  rcases h with ⟨rfl, rfl⟩ | ⟨rfl, rfl⟩ | ⟨rfl, rfl⟩ | ⟨rfl, rfl⟩ | ⟨rfl, rfl⟩ | ⟨rfl, rfl⟩ <;> cases t <;> decide +kernel
theorem isTy_ok {K : PySem.W.Frag} {mg : Str → Option Value} {ι : List Addr} {H : Hp} {M : MH} (r : RelH K mg Tb ι H M) {d : D} {v : V} (rv : RelD K mg ι H d v) {t : Ty} {b : Bool} (e : isTy t d = some b) (hl : ∀ n, d = .ref n → ∃ l, M[n]? = some (.lst l)) :
    ∃ n : String, TyX K H v (.type n) ∧ kitB n t.nm = some b := by
  cases d with
  | non => obtain rfl := rv; refine ⟨_, .base .non, kit_all t _ b (.inl ⟨rfl, ?_⟩)⟩; cases t <;> simpa [isTy] using e.symm
  | bl k => obtain rfl := rv; refine ⟨_, .base (.bl k), kit_all t _ b (.inr (.inl ⟨rfl, ?_⟩))⟩; cases t <;> simpa [isTy] using e.symm
  | int k => obtain rfl := rv; refine ⟨_, .base (.int k), kit_all t _ b (.inr (.inr (.inl ⟨rfl, ?_⟩)))⟩; cases t <;> simpa [isTy] using e.symm
  | str k => obtain rfl := rv; refine ⟨_, .base (.str k), kit_all t _ b (.inr (.inr (.inr (.inl ⟨rfl, ?_⟩))))⟩; cases t <;> simpa [isTy] using e.symm
  | tup l =>
    obtain ⟨a, vs, rfl, hs, _⟩ := rv
    refine ⟨"tuple", ?_, kit_all t _ b (.inr (.inr (.inr (.inr (.inl ⟨rfl, ?_⟩)))))⟩
    · rcases hs with (h | ⟨o, h⟩) | ⟨o, its, n, h, hc, _⟩
      · exact .base (.tup h)
      · exact .fTuple h
      · exact .kTuple h hc
    · cases t <;> simpa [isTy] using e.symm
  | ro l =>
    obtain ⟨a, vs, rfl, hs, _⟩ := rv
    refine ⟨"list", ?_, kit_all t _ b (.inr (.inr (.inr (.inr (.inr ⟨rfl, ?_⟩)))))⟩
    · rcases hs with ⟨o, h⟩ | ⟨o, its, n, h, hc, _⟩
      · exact .base (.frz h)
      · exact .kList h hc
    · cases t <;> simpa [isTy] using e.symm
  | ref n =>
    obtain ⟨l, hm⟩ := hl n rfl
    obtain ⟨a, vs, _, rfl, h1, _⟩ := r.lst rv hm
    refine ⟨"list", .base (.lst h1), kit_all t _ b (.inr (.inr (.inr (.inr (.inr ⟨rfl, ?_⟩)))))⟩
    cases t <;> simpa [isTy] using e.symm
  | fn x => cases t <;> cases e
theorem me_isinst (t : Ty) {W : WX} {e : Expr} {m : E} {p p2 pos : Pos} {tn : Str} (hm : X.mg "isinstance" = none) (hmt : X.mg tn = none) (he : ME Tb X W e m) (hv : bootBuiltins tn = some (.type t.nm) := by decide +kernel) (hg : Gl X "isinstance" := by rfl) (hgt : Gl X tn := by rfl)
    (hn : tn ≠ "__name__" := by decide) (hdb : (tn == ("__debug__" : Str)) = false := by decide)
    (h1 : starEach [e, .Name tn p2] X.env = (false, eval e X.env) :: starEach [.Name tn p2] X.env := by rfl) (h2 : starEach [.Name tn p2] X.env = (false, eval (.Name tn p2) X.env) :: starEach [] X.env := by rfl)
    (hpl : (backTo pos (starEach [.Name tn p2] X.env)).any (·.1) = false := by rfl) :
    ME Tb X W (.Call (.Name "isinstance" p) [e, .Name tn p2] [] pos) (mUn (fIsi t) m) := by
  refine (pe_callB call_isi hg hm (by decide +kernel) (pa_cons he (pa_cons (pe_bltn (v := .ty t.nm) (u := .type t.nm) hgt hmt hv rfl hn hdb) pa_nil h2) h1) (by decide) (by decide) h1 hpl).imp fun σ H Q ⟨ι, M, ρ, at_, h⟩ => ?_
  obtain ⟨ι0, M0, ρ0, a0, h0⟩ := rd_bind (Rv := RelD X.K X.mg) (m := m) at_ h
  refine ⟨ι0, M0, ρ0, a0, out.mono h0 fun x H1 ⟨ι1, M1, d, e1, at1, r1, h1⟩ => ?_⟩
  have fin : ∀ b, isTy t d = some b → (∀ n, d = .ref n → ∃ l, M1[n]? = some (.lst l)) → out X.K X.mg Tb (RelD X.K X.mg) W σ ι1 H1 (.ok (.bl b) M1) Q → rIsi X.K [x, .ty t.nm] H1 Q := fun b hb hl h1 => by
    obtain ⟨n, ty, hk⟩ := isTy_ok at1.h r1 hb hl
    exact ⟨x, .ty t.nm, _, _, b, rfl, .ty _, ty, kit_ty hk, out.done h1 at1.h rfl⟩
  show rIsi X.K [x, .ty t.nm] H1 Q
  unfold fIsi at h1
  split at h1
  · rename_i n
    split at h1
    · rename_i l hl
      split at h1
      · rename_i b hb
        exact fin b hb (fun m hm => by cases hm; exact ⟨l, hl⟩) h1
      · exact h1.elim
    · exact h1.elim
  · rename_i hne
    split at h1
    · rename_i b hb
      exact fin b hb (fun m hm => absurd hm (hne m)) h1
    · exact h1.elim

/-! ### slices -/
def cutL {α : Type} (xs : List α) (lo hi : Option Int) : List α := (xs.drop (HT.sIx xs.length 0 lo)).take (HT.sIx xs.length xs.length hi - HT.sIx xs.length 0 lo)
theorem RelDs.cut {K : PySem.W.Frag} {mg : Str → Option Value} {ι : List Addr} {H : Hp} {l : List D} {vs : List V} (h : RelDs K mg ι H l vs) (lo hi : Option Int) : RelDs K mg ι H (cutL l lo hi) (cutV vs lo hi) := by
  unfold cutL cutV
  rw [h.length]
  exact (h.drop _).take _
def mPart : Option E → Ev → MH → Res (Option Int)
  | none => fun _ M => .ok none M
  | some m => fun ρ M => (m ρ M).bind fun d M1 => match d with | .int i => .ok (some i) M1 | _ => .err
/-- the items of a list -/
def lstOf (M : MH) : D → Option (List D)
  | .ro l => some l
  | .ref n => match M[n]? with
    | some (.lst l) => some l
    | _ => none
  | _ => none
theorem lst_seq {K : PySem.W.Frag} {mg : Str → Option Value} {ι : List Addr} {H : Hp} {M : MH} (r : RelH K mg Tb ι H M) {d : D} {v : V} (h : RelD K mg ι H d v) {l : List D} (e : lstOf M d = some l) :
    ∃ a vs, v = .ref a ∧ SqL K H a vs ∧ RelDs K mg ι H l vs := by
  cases d with
  | ro l' => cases e; obtain ⟨a, vs, h1, h2, h3⟩ := h; exact ⟨a, vs, h1, h2.seq, h3⟩
  | ref n =>
    simp only [lstOf] at e
    split at e
    · cases e
      rename_i hm
      obtain ⟨a, vs, _, h1, h2, h3⟩ := r.lst h hm
      exact ⟨a, vs, h1, SqL.of h2, h3⟩
    · cases e
  | _ => cases e
def fSl (d : D) (lo hi : Option Int) (M : MH) : Res D :=
  match d with
  | .tup l => .ok (.tup (cutL l lo hi)) M
  | _ => match lstOf M d with
    | some l => .ok (.ref M.length) (M ++ [.lst (cutL l lo hi)])
    | none => .err
def mSl (m : E) (lo hi : Option E) : E := fun ρ M => (m ρ M).bind fun d M1 => (mPart lo ρ M1).bind fun l M2 => (mPart hi ρ M2).bind fun h M3 => fSl d l h M3
abbrev RO : List Addr → Hp → Option Int → Option Int → Prop := fun _ _ a b => a = b
def MO' (Tb : List (Addr × Str)) (X : Cx) (W : WX) (e : Option Expr) (m : Option E) : Prop := PO X e (rd X.K X.mg Tb RO W (mPart m))
theorem _root_.L2.PO.imp {X : Cx} {e : Option Expr} {t t' : TO} (h : PO X e t) (q : ∀ σ H Q, t' σ H Q → t σ H Q) : PO X e t' := ⟨fun pins s σ H Q I hw => h.run pins s σ H Q I (q σ H Q hw)⟩
theorem mo_none {W : WX} : MO' Tb X W none none := po_none.imp fun σ H Q ⟨ι, M, ρ, at_, h⟩ => out.done h at_.h rfl
theorem mo_some {W : WX} {e : Expr} {m : E} (he : ME Tb X W e m) : MO' Tb X W (some e) (some m) := by
  refine (po_some he).imp fun σ H Q ⟨ι, M, ρ, at_, h⟩ => ?_
  obtain ⟨ι0, M0, ρ0, a0, h0⟩ := rd_bind (Rv := RelD X.K X.mg) (m := m) at_ h
  refine ⟨ι0, M0, ρ0, a0, out.mono h0 fun x H1 ⟨ι1, M1, d, e1, at1, r1, h1⟩ => ?_⟩
  cases d with
  | int i =>
    obtain rfl := r1
    exact ⟨i, rfl, out.done h1 at1.h rfl⟩
  | _ => exact h1.elim
theorem cutL_whole {α : Type} {l : List α} {lo hi : Option Int} (h : HT.sIx l.length 0 lo = 0 ∧ HT.sIx l.length l.length hi = l.length) : cutL l lo hi = l := by
  unfold cutL
  rw [h.1, h.2]; simp
theorem me_slice {W : WX} {e : Expr} {lo hi : Option Expr} {m : E} {ml mh : Option E} {p2 pos : Pos} (he : ME Tb X W e m) (hl : MO' Tb X W lo ml) (hh : MO' Tb X W hi mh) : ME Tb X W (.Subscript e (.Slice lo hi none p2) pos) (mSl m ml mh) := by
  refine (pe_slice (sl_tupA.or sl_list) he hl hh).imp fun σ H Q ⟨ι, M, ρ, at_, h⟩ => ?_
  obtain ⟨ι0, M0, ρ0, a0, h0⟩ := rd_bind (Rv := RelD X.K X.mg) (m := m) at_ h
  refine ⟨ι0, M0, ρ0, a0, out.mono h0 fun x H1 ⟨ι1, M1, d, e1, at1, r1, h1⟩ => ?_⟩
  obtain ⟨ι2, M2, ρ2, a2, h2⟩ := rd_bind (Rv := RO) (m := mPart ml) at1 h1
  refine ⟨ι2, M2, ρ2, a2, out.mono h2 fun l H2 ⟨ι3, M3, l', e3, at3, r3, h3⟩ => ?_⟩
  obtain rfl : l' = l := r3
  obtain ⟨ι4, M4, ρ4, a4, h4⟩ := rd_bind (Rv := RO) (m := mPart mh) at3 h3
  refine ⟨ι4, M4, ρ4, a4, out.mono h4 fun u H3 ⟨ι5, M5, u', e5, at5, r5, h5⟩ => ?_⟩
  obtain rfl : u' = u := r5
  have r1' := RelD.ext (e3.trans e5) _ _ r1
  unfold fSl at h5
  split at h5
  · rename_i ls
    obtain ⟨a, vs, rfl, hs, hr⟩ := r1'
    refine .inl ⟨a, vs, rfl, hs, fun hw => ?_, fun _ p hp => ?_⟩
    · refine out.done h5 at5.h ⟨a, vs, rfl, hs, ?_⟩
      rw [hr.length] at hw
      rw [cutL_whole hw]; exact hr
    · obtain ⟨e6, h6, h7⟩ := at5.h.tup hp (hr.cut l' u')
      exact out.done' h5 e6 h6 h7
  · split at h5
    · rename_i ls hls
      obtain ⟨a, vs, rfl, hs, hr⟩ := lst_seq at5.h r1' hls
      refine .inr ⟨a, vs, rfl, hs, fun p hp => ?_⟩
      obtain ⟨e6, h6⟩ := at5.h.alloc hp (hr.cut l' u')
      exact out.done' h5 e6 h6 ⟨p, by rw [← at5.h.len]; simp, rfl⟩
    · exact h5.elim

/-! ### methods of lists -/
def mMeth (f : D → List D → MH → Res D) (m : E) (r : A) : E := fun ρ M => (m ρ M).bind fun d M1 => (r ρ M1).bind fun ds M2 => f d ds M2
/-- the receiver is a list, ahead of the arguments -/
def mLMeth (f : D → List D → MH → Res D) (m : E) (r : A) : E := fun ρ M => (m ρ M).bind fun d M1 => match lstOf M1 d with
  | some _ => (r ρ M1).bind fun ds M2 => f d ds M2
  | none => .err
def MOk (K : PySem.W.Frag) (mg : Str → Option Value) (Tb : List (Addr × Str)) (f : D → List D → MH → Res D) (r : V → List V → Hp → VK → Prop) : Prop :=
  ∀ (W : WX) (σ : St) (ι : List Addr) (H : Hp) (M : MH) (d : D) (x : V) (ds : List D) (xs : List V) (Q : VK), RelH K mg Tb ι H M → RelD K mg ι H d x → RelDs K mg ι H ds xs → out K mg Tb (RelD K mg) W σ ι H (f d ds M) Q → r x xs H Q
section
variable {W : WX} {o e : Expr} {es : List Expr} {m : E} {ar : A} {name : Str} {id : String} {apos pos : Pos} {r : V → List V → Hp → VK → Prop} {f : D → List D → MH → Res D}
theorem me_lmeth (slot : Slot "list" name id) (hty : typeOf (.builtin id) = pure (.type "method_descriptor")) (hm : MtR X id r) (ok : MOk X.K X.mg Tb f r) (ho : ME Tb X W o m) (ha : MA Tb X W (e :: es) ar)
    (hbase : attributeBase o name X.env (eval o X.env) = eval o X.env := by rfl)
    (hfew : ((backTo pos (starEach (e :: es) X.env)).all (fun b => !b.1) && (backToKw pos (keywordEach [] X.env)).all (fun b => b.1.isSome) && decide ((e :: es).length + ([] : List Keyword).length + (if ([] : List Keyword).isEmpty then 0 else 1) < 30)) = true := by rfl)
    (hline : (apos.endLine == pos.line) = true := by rfl) (he : starEach (e :: es) X.env = (false, eval e X.env) :: starEach es X.env := by rfl) (hpl : (backTo pos (starEach es X.env)).any (·.1) = false := by rfl) :
    ME Tb X W (.Call (.Attribute o name apos) (e :: es) [] pos) (mLMeth f m ar) := by
  refine (pe_bm PySem.F.plainAttrs_list slot hty hm ho ha hbase hfew hline he hpl).imp fun σ H Q ⟨ι, M, ρ, at_, h⟩ => ?_
  obtain ⟨ι0, M0, ρ0, a0, h0⟩ := rd_bind (Rv := RelD X.K X.mg) (m := m) at_ h
  refine ⟨ι0, M0, ρ0, a0, out.mono h0 fun x H1 ⟨ι1, M1, d, e1, at1, r1, h1⟩ => ?_⟩
  split at h1
  · rename_i l hl
    obtain ⟨a, vs, rfl, hs, _⟩ := lst_seq at1.h r1 hl
    refine ⟨.inl ⟨rfl, vs, hs⟩, ?_⟩
    obtain ⟨ι2, M2, ρ2, a2, h2⟩ := rd_bind (Rv := RelDs X.K X.mg) (m := ar) at1 h1
    refine ⟨ι2, M2, ρ2, a2, out.mono h2 fun xs H2 ⟨ι3, M3, ds, e3, at3, r3, h3⟩ => ?_⟩
    exact ok W σ ι3 H2 M3 d _ ds xs Q at3.h (RelD.ext e3 _ _ r1) r3 h3
  · exact h1.elim
theorem me_lmeth0 (slot : Slot "list" name id) (hty : typeOf (.builtin id) = pure (.type "method_descriptor")) (hm : MtR X id r) (ok : MOk X.K X.mg Tb f r) (ho : ME Tb X W o m)
    (hbase : attributeBase o name X.env (eval o X.env) = eval o X.env := by rfl) (hline : (apos.endLine == pos.line) = true := by rfl) :
    ME Tb X W (.Call (.Attribute o name apos) [] [] pos) (mLMeth f m aNil) := by
  refine (pe_bm0 PySem.F.plainAttrs_list slot hty hm ho hbase hline).imp fun σ H Q ⟨ι, M, ρ, at_, h⟩ => ?_
  obtain ⟨ι0, M0, ρ0, a0, h0⟩ := rd_bind (Rv := RelD X.K X.mg) (m := m) at_ h
  refine ⟨ι0, M0, ρ0, a0, out.mono h0 fun x H1 ⟨ι1, M1, d, e1, at1, r1, h1⟩ => ?_⟩
  split at h1
  · rename_i l hl
    obtain ⟨a, vs, rfl, hs, _⟩ := lst_seq at1.h r1 hl
    refine ⟨.inl ⟨rfl, vs, hs⟩, ?_⟩
    exact ok W σ ι1 H1 M1 d _ [] [] Q at1.h r1 rfl h1
  · exact h1.elim
end
def fAppend : D → List D → MH → Res D
  | .ref n, [d], M => match M[n]? with
    | some (.lst l) => if l.length < LINE then .ok .non (M.set n (.lst (l ++ [d]))) else .err
    | _ => .err
  | _, _, _ => .err
theorem appendOk : MOk X.K X.mg Tb fAppend rAppend := by
  intro W σ ι H M d x ds xs Q r rx rxs h
  unfold fAppend at h
  split at h
  · rename_i n d
    split at h
    · rename_i l hl
      split at h
      · rename_i hz
        obtain ⟨v, rfl, rv⟩ := rxs.un1
        obtain ⟨a, vs, ha, rfl, h1, h2⟩ := r.lst rx hl
        obtain ⟨e1, h3⟩ := r.write ha hl (h2.append (RelDs.one rv))
        exact ⟨a, vs, v, rfl, rfl, h1, by rw [h2.length, line_eq]; exact hz, out.done' h e1 h3 rfl⟩
      · exact h.elim
    · exact h.elim
  · exact h.elim
def fExtend : D → List D → MH → Res D
  | .ref n, [.ref m], M => match M[n]?, M[m]? with
    | some (.lst l), some (.lst l2) => if l.length + l2.length ≤ LINE then .ok .non (M.set n (.lst (l ++ l2))) else .err
    | _, _ => .err
  | _, _, _ => .err
theorem extendOk : MOk X.K X.mg Tb fExtend rExtend := by
  intro W σ ι H M d x ds xs Q r rx rxs h
  unfold fExtend at h
  split at h
  · rename_i n m
    split at h
    · rename_i l l2 hl hl2
      split at h
      · rename_i hz
        obtain ⟨v, rfl, rv⟩ := rxs.un1
        obtain ⟨a, vs, ha, rfl, h1, h2⟩ := r.lst rx hl
        obtain ⟨b, ws, hb, rfl, h3, h4⟩ := r.lst rv hl2
        obtain ⟨e1, h5⟩ := r.write ha hl (h2.append h4)
        exact ⟨a, b, vs, ws, rfl, rfl, h1, h3, by rw [h2.length, h4.length, line_eq]; exact hz, out.done' h e1 h5 rfl⟩
      · exact h.elim
    · exact h.elim
  · exact h.elim
theorem RelDs.dropLast {K : PySem.W.Frag} {mg : Str → Option Value} {ι : List Addr} {H : Hp} {l : List D} {vs : List V} (h : RelDs K mg ι H l vs) : RelDs K mg ι H l.dropLast vs.dropLast := by
  rw [List.dropLast_eq_take, List.dropLast_eq_take, h.length]
  exact h.take _
def fPop : D → List D → MH → Res D
  | .ref n, [], M => match M[n]? with
    | some (.lst l) => (match l[l.length - 1]? with | some d => .ok d (M.set n (.lst l.dropLast)) | none => .err)
    | _ => .err
  | _, _, _ => .err
theorem popOk : MOk X.K X.mg Tb fPop rPop := by
  intro W σ ι H M d x ds xs Q r rx rxs h
  unfold fPop at h
  split at h
  · rename_i n
    split at h
    · rename_i l hl
      split at h
      · rename_i d hd
        obtain rfl : xs = [] := rxs
        obtain ⟨a, vs, ha, rfl, h1, h2⟩ := r.lst rx hl
        obtain ⟨e1, h3⟩ := r.write ha hl h2.dropLast
        obtain ⟨v, h4, h5⟩ := h2.get hd
        exact ⟨a, vs, v, rfl, rfl, h1, by rw [h2.length]; exact h4, out.done' h e1 h3 (RelD.ext e1 _ _ h5)⟩
      · exact h.elim
    · exact h.elim
  · exact h.elim
end
end Mp
namespace Mp
open PySem PySem.Spec PyProof.Rows L2

/-! ### targets that are names, or tuples of such -/
/-- the names' values -/
def RelS (K : PySem.W.Frag) (mg : Str → Option Value) (ι : List Addr) (H : Hp) (ρ : Ev) (σ : St) : Prop := ρ.length = σ.length ∧ ∀ (i : Nat) (d : D), ρ[i]? = some (some d) → ∃ v, σ[i]? = some (some v) ∧ RelD K mg ι H d v
theorem At.rs {K : PySem.W.Frag} {mg : Str → Option Value} {Tb : List (Addr × Str)} {ι : List Addr} {M : MH} {ρ : Ev} {σ : St} {H : Hp} (a : At K mg Tb ι M ρ σ H) : RelS K mg ι H ρ σ := ⟨a.len, a.s⟩
theorem RelS.at {K : PySem.W.Frag} {mg : Str → Option Value} {Tb : List (Addr × Str)} {ι : List Addr} {M : MH} {ρ : Ev} {σ : St} {H : Hp} (a : RelS K mg ι H ρ σ) (h : RelH K mg Tb ι H M) : At K mg Tb ι M ρ σ H := ⟨h, a.1, a.2⟩
theorem RelS.mono {K : PySem.W.Frag} {mg : Str → Option Value} {ι ι' : List Addr} {ρ : Ev} {σ : St} {H H' : Hp} (a : RelS K mg ι H ρ σ) (p : ι <+: ι') (f : ∀ a o, H a = some o → Fix o → H' a = some o) : RelS K mg ι' H' ρ σ :=
  ⟨a.1, fun i d q => let ⟨v, h1, h2⟩ := a.2 i d q; ⟨v, h1, RelD.mono p f d v h2⟩⟩
theorem RelS.set {K : PySem.W.Frag} {mg : Str → Option Value} {ι : List Addr} {ρ : Ev} {σ : St} {H : Hp} (a : RelS K mg ι H ρ σ) {d : D} {v : V} (r : RelD K mg ι H d v) (i : Nat) : RelS K mg ι H (ρ.set i (some d)) (σ.set i (some v)) := by
  refine ⟨by simpa using a.1, fun j e q => ?_⟩
  by_cases hj : j = i
  · subst hj
    by_cases hl : j < ρ.length
    · rw [List.getElem?_set_self hl] at q
      cases q
      exact ⟨v, by rw [List.getElem?_set_self (by rw [← a.1]; exact hl)], r⟩
    · rw [List.getElem?_eq_none (by simpa using hl)] at q; cases q
  · rw [List.getElem?_set_ne (Ne.symm hj)] at q
    obtain ⟨w, h1, h2⟩ := a.2 j e q
    exact ⟨w, by rw [List.getElem?_set_ne (Ne.symm hj)]; exact h1, h2⟩
abbrev G := D → Ev → Option Ev
abbrev Gs := List D → Ev → Option Ev
/-- what a target's reading is: it stores at the slots vs alone -/
def tG (K : PySem.W.Frag) (mg : Str → Option Value) (vs : List Nat) (g : G) : TG := fun v σ H Q => ∃ ι d ρ ρ', RelS K mg ι H ρ σ ∧ RelD K mg ι H d v ∧ g d ρ = some ρ' ∧
  ∀ σ', σ'.length = σ.length → (∀ j, j ∉ vs → σ'[j]? = σ[j]?) → RelS K mg ι H ρ' σ' → Q σ' H
def tGs (K : PySem.W.Frag) (mg : Str → Option Value) (vs : List Nat) (g : Gs) : TGs := fun xs σ H Q => ∃ ι ds ρ ρ', RelS K mg ι H ρ σ ∧ RelDs K mg ι H ds xs ∧ g ds ρ = some ρ' ∧
  ∀ σ', σ'.length = σ.length → (∀ j, j ∉ vs → σ'[j]? = σ[j]?) → RelS K mg ι H ρ' σ' → Q σ' H
def MG (X : Cx) (e : Expr) (vs : List Nat) (g : G) : Prop := PG X e (tG X.K X.mg vs g)
def MGs (X : Cx) (es : List Expr) (vs : List Nat) (g : Gs) : Prop := PGs X es (tGs X.K X.mg vs g)
theorem _root_.L2.PG.imp {X : Cx} {e : Expr} {t t' : TG} (h : PG X e t) (q : ∀ v σ H Q, t' v σ H Q → t v σ H Q) : PG X e t' := ⟨fun pins s σ H v u Q I r hw => h.run pins s σ H v u Q I r (q v σ H Q hw)⟩
theorem _root_.L2.PGs.imp {X : Cx} {e : List Expr} {t t' : TGs} (h : PGs X e t) (q : ∀ v σ H Q, t' v σ H Q → t v σ H Q) : PGs X e t' := ⟨fun pins s σ H v u Q I r hw => h.run pins s σ H v u Q I r (q v σ H Q hw)⟩
def gN (i : Nat) : G := fun d ρ => some (ρ.set i (some d))
def gNilD : Gs := fun ds ρ => match ds with | [] => some ρ | _ => none
def gConsD (g : G) (gs : Gs) : Gs := fun ds ρ => match ds with | d :: ds => (g d ρ).bind (gs ds) | [] => none
def gT (n : Nat) (gs : Gs) : G := fun d ρ => match d with | .tup ds => if ds.length = n then gs ds ρ else none | _ => none
section
variable {X : Cx} {pos : Pos}
theorem mg_name (i : Nat) {x : Str} (hN : X.N.Nodup) (hi : X.N[i]? = some x := by rfl) (hx : Loc X.env.scope x := by first | exact Or.inl rfl | exact Or.inr rfl) (hf : X.fn x = true ∨ X.env.scope.names.lookup x = some .local := by first | exact .inl rfl | exact .inr rfl) : MG X (.Name x pos) [i] (gN i) := by
  refine (pg_name hN hi hx hf).imp fun v σ H Q ⟨ι, d, ρ, ρ', rs, rd, e, h⟩ => ?_
  cases e
  refine h _ (by simp) (fun j hj => ?_) (rs.set rd i)
  rw [List.getElem?_set_ne (fun z => hj (by simp [z]))]
theorem mgs_nil : MGs X [] [] gNilD := by
  refine pgs_nil.imp fun xs σ H Q ⟨ι, ds, ρ, ρ', rs, rd, e, h⟩ => ?_
  cases ds with
  | nil =>
    cases e
    obtain rfl : xs = [] := rd
    exact ⟨rfl, h _ rfl (fun _ _ => rfl) rs⟩
  | cons _ _ => cases e
theorem mgs_cons {e : Expr} {es : List Expr} {vs ws : List Nat} {g : G} {gs : Gs} (h1 : MG X e vs g) (h2 : MGs X es ws gs)
    (hs : (assignEach (e :: es) X.env).map (·.2) = assign e X.env :: (assignEach es X.env).map (·.2) := by rfl) : MGs X (e :: es) (vs ++ ws) (gConsD g gs) := by
  refine (pgs_cons h1 h2 hs).imp fun xs σ H Q ⟨ι, ds, ρ, ρ', rs, rd, e, h⟩ => ?_
  cases ds with
  | nil => cases e
  | cons d ds =>
    obtain ⟨v, vr, rfl, r1, r2⟩ := rd
    obtain ⟨ρ1, e1, e2⟩ := Option.bind_eq_some_iff.mp e
    refine ⟨v, vr, rfl, ι, d, ρ, ρ1, rs, r1, e1, fun σ1 l1 k1 rs1 => ⟨ι, ds, ρ1, ρ', rs1, r2, e2, fun σ2 l2 k2 rs2 => ?_⟩⟩
    exact h σ2 (l2.trans l1) (fun j hj => (k2 j fun z => hj (List.mem_append_right _ z)).trans (k1 j fun z => hj (List.mem_append_left _ z))) rs2
theorem mg_tup {es : List Expr} {k : Nat} {vs : List Nat} {gs : Gs} {n : Nat} (hc : X.calm = true) (h : MGs X es vs gs) (hn : (assignEach es X.env).length = n := by rfl) (hst : (assignEach es X.env).findIdx? (·.1) = none := by rfl) : MG X (.Tuple es k pos) vs (gT n gs) := by
  refine (pg_tup hc h hn hst).imp fun v σ H Q ⟨ι, d, ρ, ρ', rs, rd, e, h⟩ => ?_
  cases d with
  | tup ds =>
    simp only [gT] at e
    split at e
    · rename_i hl
      obtain ⟨a, xs, rfl, hs, hr⟩ := rd
      exact ⟨a, xs, rfl, hs, by rw [hr.length]; exact hl, ι, ds, ρ, ρ', rs, hr, e, h⟩
    · cases e
  | _ => cases e
end

/-! ### what is walked -/
/-- the items; the lists that they are read of must stand as they are -/
structure Src where
  items : List D
  chk : List (Nat × List D)
def chkOk : List (Nat × List D) → MH → Bool
  | [], _ => true
  | p :: r, M => decide (M[p.1]? = some (.lst p.2)) && chkOk r M
abbrev Src.ok (s : Src) (M : MH) : Bool := chkOk s.chk M
theorem chk_app : ∀ (a b : List (Nat × List D)) (M : MH), chkOk (a ++ b) M = (chkOk a M && chkOk b M)
  | [], b, M => by simp [chkOk]
  | p :: a, b, M => by simp [chkOk, chk_app a b M, Bool.and_assoc]
/-- an iterator that yields them -/
def ItOk (K : PySem.W.Frag) (mg : Str → Option Value) (Tb : List (Addr × Str)) (ι0 : List Addr) (H0 : Hp) (J : It) (s : Src) : Prop :=
  ∀ (i : Nat) (ι : List Addr) (H : Hp) (M : MH), Ext ι0 H0 ι H → RelH K mg Tb ι H M → s.ok M = true → i ≤ s.items.length →
    match s.items[i]? with
    | some d => J.go i H ∧ ∀ x H', J.yld i H x H' → Ext ι H ι H' ∧ RelH K mg Tb ι H' M ∧ RelD K mg ι H' d x
    | none => J.stop i H
abbrev RI (K : PySem.W.Frag) (mg : Str → Option Value) (Tb : List (Addr × Str)) : List Addr → Hp → Src → It → Prop := fun ι H s J => ItOk K mg Tb ι H J s
abbrev Sm := Ev → MH → Res Src
def MI (Tb : List (Addr × Str)) (X : Cx) (W : WX) (tg iter : Expr) (m : Sm) : Prop := PI X tg iter (rd X.K X.mg Tb (RI X.K X.mg Tb) W m)
theorem _root_.L2.PI.imp {X : Cx} {tg e : Expr} {t t' : TI} (h : PI X tg e t) (q : ∀ σ H R, t' σ H R → t σ H R) : PI X tg e t' := ⟨fun pins s σ H R I hw => h.run pins s σ H R I (q σ H R hw)⟩
/-- a list or a tuple -/
def sSeqOf (d : D) (M : MH) : Res Src := match d with
  | .tup l => .ok ⟨l, []⟩ M
  | .ro l => .ok ⟨l, []⟩ M
  | .ref n => (match M[n]? with | some (.lst l) => .ok ⟨l, [(n, l)]⟩ M | _ => .err)
  | _ => .err
def sLs (m : E) : Sm := fun ρ M => (m ρ M).bind fun d M1 => match d with | .tup _ => .err | _ => sSeqOf d M1
def sTp (m : E) : Sm := fun ρ M => (m ρ M).bind fun d M1 => match d with | .tup _ => sSeqOf d M1 | _ => .err
section
variable {Tb : List (Addr × Str)} {X : Cx} {W : WX} {tg e : Expr} {m : E}
section
variable {K : PySem.W.Frag} {mg : Str → Option Value} {ι0 : List Addr} {H0 : Hp}
/-- a list whose reading stays -/
def StayL (K : PySem.W.Frag) (mg : Str → Option Value) (Tb : List (Addr × Str)) (ι0 : List Addr) (H0 : Hp) (a : Addr) (s : Src) : Prop :=
  ∀ ι H M, Ext ι0 H0 ι H → RelH K mg Tb ι H M → s.ok M = true → ∃ vs, SqL K H a vs ∧ RelDs K mg ι H s.items vs
def StayT (K : PySem.W.Frag) (mg : Str → Option Value) (Tb : List (Addr × Str)) (ι0 : List Addr) (H0 : Hp) (a : Addr) (s : Src) : Prop :=
  ∀ ι H M, Ext ι0 H0 ι H → RelH K mg Tb ι H M → s.ok M = true → ∃ vs, SqT K H a vs ∧ RelDs K mg ι H s.items vs
theorem itl_ok {a : Addr} {s : Src} (hs : StayL K mg Tb ι0 H0 a s) : ItOk K mg Tb ι0 H0 (Itl K a) s := by
  intro i ι H M e r ok _
  obtain ⟨vs, h1, h2⟩ := hs ι H M e r ok
  cases hi : s.items[i]? with
  | some d =>
    obtain ⟨v, h3, h4⟩ := h2.get hi
    refine ⟨⟨vs, v, h1, h3⟩, fun x H' ⟨e1, q⟩ => ?_⟩
    subst e1
    have := q vs h1
    rw [h3] at this
    cases this
    exact ⟨.refl _ _, r, h4⟩
  | none => exact ⟨vs, h1, by rw [h2.length]; exact List.getElem?_eq_none_iff.mp hi⟩
theorem itt_ok {a : Addr} {s : Src} (hs : StayT K mg Tb ι0 H0 a s) : ItOk K mg Tb ι0 H0 (Itt K a) s := by
  intro i ι H M e r ok _
  obtain ⟨vs, h1, h2⟩ := hs ι H M e r ok
  cases hi : s.items[i]? with
  | some d =>
    obtain ⟨v, h3, h4⟩ := h2.get hi
    refine ⟨⟨vs, v, h1, h3⟩, fun x H' ⟨e1, q⟩ => ?_⟩
    subst e1
    have := q vs h1
    rw [h3] at this
    cases this
    exact ⟨.refl _ _, r, h4⟩
  | none => exact ⟨vs, h1, by rw [h2.length]; exact List.getElem?_eq_none_iff.mp hi⟩
/-- what a list's source is -/
theorem stay_lst {d : D} {v : V} {M0 : MH} (r : RelH K mg Tb ι0 H0 M0) (rv : RelD K mg ι0 H0 d v) (nt : ∀ l, d ≠ .tup l) {s : Src} {M1 : MH} (e : sSeqOf d M0 = .ok s M1) : M1 = M0 ∧ ∃ a xs, v = .ref a ∧ SqL K H0 a xs ∧ RelDs K mg ι0 H0 s.items xs ∧ StayL K mg Tb ι0 H0 a s := by
  cases d with
  | ro l =>
    cases e
    obtain ⟨a, vs, rfl, h1, h2⟩ := rv
    exact ⟨rfl, a, vs, rfl, h1.seq, h2, fun ι H M e _ _ => ⟨vs, (Mp.RoL.mono e.fix h1).seq, RelDs.ext e _ _ h2⟩⟩
  | ref n =>
    simp only [sSeqOf] at e
    split at e
    · rename_i l hl
      cases e
      obtain ⟨a, vs, ha, rfl, h1, h2⟩ := r.lst rv hl
      refine ⟨rfl, a, vs, rfl, SqL.of h1, h2, fun ι H M e r' ok => ?_⟩
      have hm : M[n]? = some (.lst l) := of_decide_eq_true (by simpa [Src.ok, chkOk] using ok)
      obtain ⟨ws, h3, h4⟩ := r'.ob n a _ (pre_get e.pre ha) hm
      exact ⟨ws, SqL.of h3, h4⟩
    · cases e
  | tup l => exact absurd rfl (nt l)
  | _ => cases e
theorem stay_tup {l : List D} {v : V} {M0 : MH} (rv : RelD K mg ι0 H0 (.tup l) v) : ∃ a xs, v = .ref a ∧ SqT K H0 a xs ∧ RelDs K mg ι0 H0 l xs ∧ StayT K mg Tb ι0 H0 a ⟨l, []⟩ := by
  obtain ⟨a, vs, rfl, h1, h2⟩ := rv
  exact ⟨a, vs, rfl, h1, h2, fun ι H M e _ _ => ⟨vs, Mp.SqT.mono e.fix h1, RelDs.ext e _ _ h2⟩⟩
end
theorem mi_list (he : ME Tb X W e m) : MI Tb X W tg e (sLs m) := by
  refine (pi_list he).imp fun σ H R ⟨ι, M, ρ, at_, h⟩ => ?_
  obtain ⟨ι0, M0, ρ0, a0, h0⟩ := rd_bind (Rv := RelD X.K X.mg) (m := m) at_ h
  refine ⟨ι0, M0, ρ0, a0, out.mono h0 fun x H1 ⟨ι1, M1, d, e1, at1, r1, h1⟩ => ?_⟩
  split at h1
  · exact h1.elim
  · rename_i nt
    cases hs : sSeqOf d M1 with
    | ok s M2 =>
      obtain ⟨rfl, a, xs, rfl, h2, h3, h4⟩ := stay_lst at1.h r1 (fun l hl => nt l hl) hs
      rw [hs] at h1
      exact ⟨a, rfl, ⟨xs, h2⟩, out.done h1 at1.h (itl_ok h4)⟩
    | exc c M2 => cases d <;> simp [sSeqOf] at hs; split at hs <;> cases hs
    | err => rw [hs] at h1; exact h1.elim
theorem mi_tup (he : ME Tb X W e m) : MI Tb X W tg e (sTp m) := by
  refine (pi_tup he).imp fun σ H R ⟨ι, M, ρ, at_, h⟩ => ?_
  obtain ⟨ι0, M0, ρ0, a0, h0⟩ := rd_bind (Rv := RelD X.K X.mg) (m := m) at_ h
  refine ⟨ι0, M0, ρ0, a0, out.mono h0 fun x H1 ⟨ι1, M1, d, e1, at1, r1, h1⟩ => ?_⟩
  split at h1
  · obtain ⟨a, xs, rfl, h2, h3, h4⟩ := stay_tup (Tb := Tb) (M0 := M1) r1
    exact ⟨a, rfl, ⟨xs, h2⟩, out.done h1 at1.h (itt_ok h4)⟩
  · exact h1.elim
/-- the ints from lo on -/
def intsFrom (lo : Int) (n : Nat) : List D := (List.range n).map fun k => .int (lo + (k : Nat))
theorem itr_ok {K : PySem.W.Frag} {mg : Str → Option Value} {ι0 : List Addr} {H0 : Hp} (lo : Int) (n : Nat) : ItOk K mg Tb ι0 H0 (Itr lo n) ⟨intsFrom lo n, []⟩ := by
  intro i ι H M e r ok _
  by_cases hi : i < n
  · have : (intsFrom lo n)[i]? = some (.int (lo + (i : Nat))) := by simp [intsFrom, hi]
    show match (intsFrom lo n)[i]? with | some d => _ | none => _
    rw [this]
    refine ⟨hi, fun x H' ⟨e1, q⟩ => ?_⟩
    subst e1; subst q
    exact ⟨.refl _ _, r, rfl⟩
  · have : (intsFrom lo n)[i]? = none := by simp [intsFrom]; omega
    show match (intsFrom lo n)[i]? with | some d => _ | none => _
    rw [this]
    show n ≤ i
    omega
def rngOk (i : Int) : Bool := decide (i.natAbs < 2 ^ 62)
def fRng1 : List D → MH → Res Src
  | [.int j], M => if rngOk j = true then .ok ⟨intsFrom 0 j.toNat, []⟩ M else .err
  | _, _ => .err
def fRng2 : List D → MH → Res Src
  | [.int i, .int j], M => if (rngOk i && rngOk j) = true then .ok ⟨intsFrom i (j - i).toNat, []⟩ M else .err
  | _, _ => .err
def sArg (f : List D → MH → Res Src) (r : A) : Sm := fun ρ M => (r ρ M).bind fun ds M1 => f ds M1
variable {a b : Expr} {ar : A} {p pos : Pos}
theorem mi_range1 (hm : X.mg "range" = none) (ha : MA Tb X W [a] ar) (hg : Gl X "range" := by rfl) (hs : starEach [a] X.env = [(false, eval a X.env)] := by rfl) : MI Tb X W tg (.Call (.Name "range" p) [a] [] pos) (sArg fRng1 ar) := by
  refine (pi_range1 hg hm ha hs).imp fun σ H R ⟨ι, M, ρ, at_, h⟩ => ?_
  obtain ⟨ι0, M0, ρ0, a0, h0⟩ := rd_bind (Rv := RelDs X.K X.mg) (m := ar) at_ h
  refine ⟨ι0, M0, ρ0, a0, out.mono h0 fun xs H1 ⟨ι1, M1, ds, e1, at1, r1, h1⟩ => ?_⟩
  unfold fRng1 at h1
  split at h1
  · obtain ⟨v, rfl, rfl⟩ := r1.un1
    split at h1
    · rename_i hk
      have hk := of_decide_eq_true hk
      exact ⟨_, rfl, by omega, by omega, out.done h1 at1.h (itr_ok 0 _)⟩
    · exact h1.elim
  · exact h1.elim
theorem mi_range2 (hm : X.mg "range" = none) (ha : MA Tb X W [a, b] ar) (hg : Gl X "range" := by rfl) (hs : starEach [a, b] X.env = [(false, eval a X.env), (false, eval b X.env)] := by rfl) (hs2 : starEach [b] X.env = [(false, eval b X.env)] := by rfl) : MI Tb X W tg (.Call (.Name "range" p) [a, b] [] pos) (sArg fRng2 ar) := by
  refine (pi_range2 hg hm ha hs hs2).imp fun σ H R ⟨ι, M, ρ, at_, h⟩ => ?_
  obtain ⟨ι0, M0, ρ0, a0, h0⟩ := rd_bind (Rv := RelDs X.K X.mg) (m := ar) at_ h
  refine ⟨ι0, M0, ρ0, a0, out.mono h0 fun xs H1 ⟨ι1, M1, ds, e1, at1, r1, h1⟩ => ?_⟩
  unfold fRng2 at h1
  split at h1
  · obtain ⟨v, u, rfl, rfl, rfl⟩ := r1.un2
    split at h1
    · rename_i hk
      rw [Bool.and_eq_true] at hk
      have hk1 := of_decide_eq_true hk.1
      have hk2 := of_decide_eq_true hk.2
      exact ⟨_, _, rfl, ⟨by omega, by omega, by omega, by omega⟩, out.done h1 at1.h (itr_ok _ _)⟩
    · exact h1.elim
  · exact h1.elim
end
end Mp
namespace Mp
open PySem PySem.Spec PyProof.Rows L2

/-! ### zip and enumerate over lists and tuples, in any mix -/
/-- a list (true) or a tuple -/
def SqB (K : PySem.W.Frag) (H : Hp) (b : Bool) (a : Addr) (xs : List V) : Prop := if b = true then SqL K H a xs else SqT K H a xs
def IsItB (h : Heap) (b : Bool) (it a : Addr) (i : Nat) : Prop := if b = true then h.IsListIter it a i else h.IsTupleIter it a i
def IsSqB (h : Heap) (b : Bool) (a : Addr) (xs : Array Value) : Prop := if b = true then h.IsList a xs else h.IsTuple a xs
def oItB (b : Bool) (a : Addr) : Obj := if b = true then { cls := .type "list_iterator", data := .fields #[.ref a, .int 0 0] } else { cls := .type "tuple_iterator", data := .fields #[.ref a, .int 0 0] }
theorem IsItB.at' {h h' : Heap} {b : Bool} {it a : Addr} {i : Nat} (x : IsItB h b it a i) (k : ∀ o, h.get? it = some o → h'.get? it = some o) : IsItB h' b it a i := by
  cases b with
  | true => exact Heap.IsListIter.at x fun o e => k o e
  | false => exact Heap.IsTupleIter.at x fun o e => k o e
theorem IsItB.obj {h : Heap} {b : Bool} {it a : Addr} {i : Nat} (x : IsItB h b it a i) : ∃ o, h.get? it = some o ∧ ∀ v, o.data ≠ .cell v := by
  cases b with
  | true =>
    obtain ⟨o, e, c, d⟩ := x
    exact ⟨o, e, fun v z => by rw [d] at z; cases z⟩
  | false =>
    obtain ⟨o, e, c, d⟩ := x
    exact ⟨o, e, fun v z => by rw [d] at z; cases z⟩
theorem drawsB {prog : Program} {w : World} {A : Around} (hh : A.handled = none) (b : Bool) (it l : Addr) (hne : l ≠ it) (items : Array Value) :
    Draws prog w A it [it, l] items.size (fun i v => items[i]? = some v) (fun i h => IsItB h b it l i ∧ IsSqB h b l items) := by
  cases b with
  | true => exact Draws.list hh it l hne items
  | false => exact Draws.tuple hh it l hne items
theorem beginsB (b : Bool) (l : Addr) (items : Array Value) : Begins (.ref l) (oItB b l) fun h => IsSqB h b l items := by
  cases b with
  | true => exact begins_list l items
  | false => exact begins_tuple l items
theorem newItB {h : Heap} {b : Bool} {it a : Addr} (e : h.get? it = some (oItB b a)) : IsItB h b it a 0 := by
  cases b with
  | true => exact ⟨_, e, rfl, rfl⟩
  | false => exact ⟨_, e, rfl, rfl⟩
theorem _root_.L2.Inv.sqB {X : Cx} {pins : List (Addr × Obj)} {σ : St} {H : Hp} {s : Shared} (I : Inv X pins σ H s) {b : Bool} {a : Addr} {xs : List V} (h : SqB X.K H b a xs) : ∃ its : List Value, Vals xs its ∧ IsSqB s.heap b a its.toArray ∧ a < s.heap.objs.size := by
  cases b with
  | true =>
    obtain ⟨its, r, p, _⟩ := I.list h
    exact ⟨its, r, p.isList, p.lt⟩
  | false =>
    obtain ⟨its, r, p, _⟩ := I.tuple h
    exact ⟨its, r, p, p.lt⟩
theorem _root_.L2.Inv.sqB_inj {X : Cx} {pins : List (Addr × Obj)} {σ : St} {H : Hp} {s : Shared} (I : Inv X pins σ H s) {b : Bool} {a : Addr} {xs ys : List V} (h : SqB X.K H b a xs) (h' : SqB X.K H b a ys) : xs = ys := by
  cases b with
  | true => exact I.list_inj h h'
  | false => exact I.tuple_inj h h'
/-- the pairs of two of these -/
def ItzB (K : PySem.W.Frag) (b1 b2 : Bool) (a1 a2 : Addr) : It :=
  ⟨fun i H => ∃ (xs ys : List V) (x y : V), SqB K H b1 a1 xs ∧ SqB K H b2 a2 ys ∧ xs[i]? = some x ∧ ys[i]? = some y,
    fun i H v H' => ∃ T x y, v = .ref T ∧ H T = none ∧ H' = upd H T (.tup [x, y]) ∧ (∀ xs, SqB K H b1 a1 xs → xs[i]? = some x) ∧ ∀ ys, SqB K H b2 a2 ys → ys[i]? = some y,
    fun i H => ∃ xs ys : List V, SqB K H b1 a1 xs ∧ SqB K H b2 a2 ys ∧ i = min xs.length ys.length⟩
/-- the numbered items of one -/
def IteB (K : PySem.W.Frag) (b : Bool) (a : Addr) : It :=
  ⟨fun i H => ∃ (xs : List V) (x : V), SqB K H b a xs ∧ xs[i]? = some x,
    fun i H v H' => ∃ T x, v = .ref T ∧ H T = none ∧ H' = upd H T (.tup [.int i, x]) ∧ (∀ xs, SqB K H b a xs → xs[i]? = some x),
    fun i H => ∃ xs : List V, SqB K H b a xs ∧ i = xs.length⟩
def zipSt (b1 b2 : Bool) (z TI TO i1 i2 a1 a2 : Addr) (i : Nat) (h : Heap) : Prop := IsZip h z TI TO .none ∧ IsTupOf2 h TI (.ref i1) (.ref i2) ∧ (∃ x y, IsTupOf2 h TO x y) ∧ IsItB h b1 i1 a1 i ∧ IsItB h b2 i2 a2 i
theorem isSqB_ne {h : Heap} {b b' : Bool} {a it a' : Addr} {i : Nat} {xs : Array Value} (x : IsSqB h b a xs) (y : IsItB h b' it a' i) : a ≠ it := by
  rintro rfl
  have dat : ∃ o n, h.get? a = some o ∧ o.data = .seq xs n := by
    cases b with
    | true => obtain ⟨o, e, _, n, d⟩ := x; exact ⟨o, n, e, d⟩
    | false => obtain ⟨o, e, _, n, d⟩ := x; exact ⟨o, n, e, d⟩
  obtain ⟨o, n, e, d⟩ := dat
  cases b' with
  | true => obtain ⟨o', e', _, d'⟩ := y; rw [e] at e'; cases e'; rw [d] at d'; cases d'
  | false => obtain ⟨o', e', _, d'⟩ := y; rw [e] at e'; cases e'; rw [d] at d'; cases d'
theorem isSqB_rec {h : Heap} {b : Bool} {a z : Addr} {xs : Array Value} {o : Obj} {vs : Array Value} (x : IsSqB h b a xs) (e : h.get? z = some o) (d : o.data = .fields vs) : a ≠ z := by
  rintro rfl
  cases b with
  | true => obtain ⟨o', e', _, n, d'⟩ := x; rw [e] at e'; cases e'; rw [d] at d'; cases d'
  | false => obtain ⟨o', e', _, n, d'⟩ := x; rw [e] at e'; cases e'; rw [d] at d'; cases d'

theorem sq_ne_fp {X : Cx} {pins : List (Addr × Obj)} {σ : St} {H : Hp} {s : Shared} (I : Inv X pins σ H s) {b : Bool} {a c : Addr} {xs : List V} (h : SqB X.K H b a xs) (f : FpOk X pins H c) : a ≠ c := by
  rintro rfl
  have kc : ∀ o, X.K.lookup a = some o → False := fun o hk => by
    have e := I.ok.mod.kin a o hk
    rcases f.2.2.2.1 with q | q
    · exact I.ok.noex a o e q
    · exact absurd (Nat.lt_of_lt_of_le (Heap.lt_size e) (Nat.le_trans I.ok.bsz q)) (Nat.lt_irrefl _)
  have hc : ∀ u, H a = some u → False := fun u q => by rw [f.1] at q; cases q
  cases b with
  | true =>
    rcases h with (h | ⟨o, h⟩) | ⟨o, _, _, h, _⟩
    · exact hc _ h
    · exact hc _ h
    · exact kc _ h
  | false =>
    rcases h with (h | ⟨o, h⟩) | ⟨o, _, _, h, _⟩
    · exact hc _ h
    · exact hc _ h
    · exact kc _ h
theorem turn_zipB {P : Program} {w : World} {K : PySem.W.Frag} {elts : List Expr} {kk : Nat} {tpos : Pos} {b1 b2 : Bool} {z TI TO i1 i2 a1 a2 : Addr} (d1 : TI ≠ z) (d2 : TO ≠ z) (d3 : TI ≠ TO) (d4 : TI ≠ i1) (d5 : TI ≠ i2) (d6 : z ≠ i1) (d7 : z ≠ i2) (d8 : TO ≠ i1) (d9 : TO ≠ i2) (d10 : i1 ≠ i2) :
    Turn P w K (.Tuple elts kk tpos) (ItzB K b1 b2 a1 a2) [z, TI, TO, i1, i2] z (zipSt b1 b2 z TI TO i1 i2 a1 a2) where
  mem := by simp
  obj := fun i h st c hc => by
    obtain ⟨hz, hTI, ⟨x, y, hTO⟩, h1, h2⟩ := st
    have e' : c = z ∨ c = TI ∨ c = TO ∨ c = i1 ∨ c = i2 := by simpa using hc
    rcases e' with q | q | q | q | q
    · rw [q]; exact ⟨_, hz, fun v q => nomatch q⟩
    · rw [q]; exact ⟨_, hTI, fun v q => nomatch q⟩
    · rw [q]; exact ⟨_, hTO, fun v q => nomatch q⟩
    · rw [q]; exact h1.obj
    · rw [q]; exact h2.obj
  keep := fun i h h' st k => by
    obtain ⟨hz, hTI, ⟨x, y, hTO⟩, h1, h2⟩ := st
    exact ⟨k z (by simp) _ hz, k TI (by simp) _ hTI, ⟨x, y, k TO (by simp) _ hTO⟩, h1.at' fun o q => k i1 (by simp) o q, h2.at' fun o q => k i2 (by simp) o q⟩
  item := by
    intro X hP hw hK hc i pins s σ H E I hf st hg
    subst hP hw hK
    obtain ⟨xs, ys, x, y, hqx, hqy, hx, hy⟩ := hg
    obtain ⟨its, rv, p, la⟩ := I.sqB hqx
    obtain ⟨its2, rv2, p2, lb⟩ := I.sqB hqy
    obtain ⟨u, hu, ru⟩ := rv.get hx
    obtain ⟨u2, hu2, ru2⟩ := rv2.get hy
    have n1 : ∀ c ∈ [z, TI, TO, i1, i2], a1 ≠ c := fun c hcm => sq_ne_fp I hqx (hf c hcm)
    have n2 : ∀ c ∈ [z, TI, TO, i1, i2], a2 ≠ c := fun c hcm => sq_ne_fp I hqy (hf c hcm)
    have S : ZipSep2 z TI TO i1 i2 [i1, a1] [i2, a2] :=
      { TIz := d1, TOz := d2, TITO := d3, TIi1 := d4, mem1 := by simp, zf1 := by simp [d6, Ne.symm (n1 z (by simp))], Tf1 := by simp [d8, Ne.symm (n1 TO (by simp))], TIi2 := d5, mem2 := by simp, zf2 := by simp [d7, Ne.symm (n2 z (by simp))],
        Tf2 := by simp [d9, Ne.symm (n2 TO (by simp))], sep1_2 := by simp [d10, Ne.symm (n2 i1 (by simp))], sep2_1 := by simp [Ne.symm d10, Ne.symm (n1 i2 (by simp))] }
    have hh : X.A.in1.handled = none := I.ok.hd hc
    have G := GoesN.zip2 (prog := X.prog) (w := X.w) (A := X.A) (elts := elts) (x1 := kk) (pos := tpos) S (drawsB hh b1 i1 a1 (n1 i1 (by simp)) its.toArray) (drawsB hh b2 i2 a2 (n2 i2 (by simp)) its2.toArray)
    obtain ⟨hz, hTI, hTO, h1, h2⟩ := st
    have hi1 : i < its.toArray.size := by
      have := (List.getElem?_eq_some_iff.mp hu).1
      simpa using this
    have hi2 : i < its2.toArray.size := by
      have := (List.getElem?_eq_some_iff.mp hu2).1
      simpa using this
    refine G.goes i s _ E (by omega) ⟨hz, hTI, hTO, ⟨h1, p⟩, ⟨h2, p2⟩⟩ fun v h' tk ⟨T, v1, v2, ev, hn, g1, g2, hT⟩ st' hk htk => ?_
    have e1 : v1 = u := by
      have : its[i]? = some v1 := by simpa using g1
      rw [hu] at this; exact (Option.some.inj this).symm
    have e2 : v2 = u2 := by
      have : its2[i]? = some v2 := by simpa using g2
      rw [hu2] at this; exact (Option.some.inj this).symm
    subst e1; subst e2
    obtain ⟨z', TI', TO', ⟨q1, _⟩, ⟨q2, _⟩⟩ := st'
    have new : ObjOk X.prog X.w (upd H T (.tup [x, y])) h' T (.tup [x, y]) := ⟨by show 2 ≤ sizeLine; decide, [v1, v2], .cons ru (.cons ru2 .nil), hT⟩
    have hf' : ∀ c ∈ [z, TO, i1, i2], FpOk X pins H c := fun c hcm => hf c (by
      have e' : c = z ∨ c = TO ∨ c = i1 ∨ c = i2 := by simpa using hcm
      rcases e' with q | q | q | q <;> simp [q])
    have I1 : Inv X pins σ (upd H T (.tup [x, y])) { s with heap := h', toks := tk } := I.turnedNew (ch := [z, TO, i1, i2]) hk hf' hn new
    refine ⟨.ref T, _, I1, ev, ⟨T, x, y, rfl, I.hok.fresh hn, rfl, fun l hl => by rw [I.sqB_inj hl hqx]; exact hx, fun l hl => by rw [I.sqB_inj hl hqy]; exact hy⟩, ⟨z', TI', TO', q1, q2⟩, fun c hcm => ?_⟩
    have hlt : c < s.heap.objs.size := by
      have e' : c = z ∨ c = TI ∨ c = TO ∨ c = i1 ∨ c = i2 := by simpa using hcm
      rcases e' with q | q | q | q | q
      · rw [q]; exact Heap.lt_size hz
      · rw [q]; exact Heap.lt_size hTI
      · rw [q]; obtain ⟨_, _, hTO⟩ := hTO; exact Heap.lt_size hTO
      · rw [q]; obtain ⟨_, e1, _⟩ := h1.obj; exact Heap.lt_size e1
      · rw [q]; obtain ⟨_, e2, _⟩ := h2.obj; exact Heap.lt_size e2
    rw [upd_ne (Nat.ne_of_lt (Nat.lt_of_lt_of_le hlt hn))]
    exact (hf c hcm).1
  done := by
    intro X hP hw hK hc i pins s σ H E I hf st hg
    subst hP hw hK
    obtain ⟨xs, ys, hqx, hqy, hend⟩ := hg
    obtain ⟨its, rv, p, la⟩ := I.sqB hqx
    obtain ⟨its2, rv2, p2, lb⟩ := I.sqB hqy
    have n1 : ∀ c ∈ [z, TI, TO, i1, i2], a1 ≠ c := fun c hcm => sq_ne_fp I hqx (hf c hcm)
    have n2 : ∀ c ∈ [z, TI, TO, i1, i2], a2 ≠ c := fun c hcm => sq_ne_fp I hqy (hf c hcm)
    have S : ZipSep2 z TI TO i1 i2 [i1, a1] [i2, a2] :=
      { TIz := d1, TOz := d2, TITO := d3, TIi1 := d4, mem1 := by simp, zf1 := by simp [d6, Ne.symm (n1 z (by simp))], Tf1 := by simp [d8, Ne.symm (n1 TO (by simp))], TIi2 := d5, mem2 := by simp, zf2 := by simp [d7, Ne.symm (n2 z (by simp))],
        Tf2 := by simp [d9, Ne.symm (n2 TO (by simp))], sep1_2 := by simp [d10, Ne.symm (n2 i1 (by simp))], sep2_1 := by simp [Ne.symm d10, Ne.symm (n1 i2 (by simp))] }
    have hh : X.A.in1.handled = none := I.ok.hd hc
    have G := GoesN.zip2 (prog := X.prog) (w := X.w) (A := X.A) (elts := elts) (x1 := kk) (pos := tpos) S (drawsB hh b1 i1 a1 (n1 i1 (by simp)) its.toArray) (drawsB hh b2 i2 a2 (n2 i2 (by simp)) its2.toArray)
    obtain ⟨hz, hTI, hTO, h1, h2⟩ := st
    have en : i = min its.toArray.size its2.toArray.size := by
      have l1 := rv.length
      have l2 := rv2.length
      simp only [List.size_toArray]
      omega
    have hf' : ∀ c ∈ [z, TO, i1, i2], FpOk X pins H c := fun c hcm => hf c (by
      have e' : c = z ∨ c = TO ∨ c = i1 ∨ c = i2 := by simpa using hcm
      rcases e' with q | q | q | q <;> simp [q])
    refine G.stops s (fun s1 => Inv X pins σ H s1) E ?_ fun h' tk hk htk => I.turnedL (ch := [z, TO, i1, i2]) hk hf'
    rw [← en]
    exact ⟨hz, hTI, hTO, ⟨h1, p⟩, ⟨h2, p2⟩⟩
  self := fun A i s Q E st h => wpAny_pyIter_zip st.1 h
def iZipB (K : PySem.W.Frag) (ta : TA) : TI := fun σ H R => ta σ H fun vs H1 => ∃ b1 b2 a1 a2 xs ys, vs = [.ref a1, .ref a2] ∧ SqB K H1 b1 a1 xs ∧ SqB K H1 b2 a2 ys ∧ R (ItzB K b1 b2 a1 a2) H1
theorem pi_zipB {X : Cx} {e e2 : Expr} {ta : TA} {p pos tpos : Pos} {elts : List Expr} {kk : Nat} (hg : Gl X "zip") (hm : X.mg "zip" = none) (ha : PA X [e, e2] ta)
    (hs : starEach [e, e2] X.env = (false, eval e X.env) :: starEach [e2] X.env) (hpl : (backTo pos (starEach [e2] X.env)).any (·.1) = false) : PI X (.Tuple elts kk tpos) (.Call (.Name "zip" p) [e, e2] [] pos) (iZipB X.K ta) := by
  refine ⟨fun pins s σ H R I h => Call_ (ld_blt I hg hm PyProof.Rows.boot_zip (PyProof.Rows.callWith_type1 (thn (ha.run pos pins s σ H _ I h) fun us s1 hh => ?_) hs hpl))⟩
  obtain ⟨vs, H1, I1, r1, b1, b2, a1, a2, xs, ys, ex, hqx, hqy, q⟩ := hh
  subst ex
  obtain ⟨u1, u2, rfl, rr1, rr2⟩ := vals2 r1
  obtain rfl : u1 = Value.ref a1 := rr1
  obtain rfl : u2 = Value.ref a2 := rr2
  obtain ⟨its, rv, p1, la⟩ := I1.sqB hqx
  obtain ⟨its2, rv2, p2, lb⟩ := I1.sqB hqy
  refine zip_begins2 (beginsB b1 a1 its.toArray) (beginsB b2 a2 its2.toArray) p1 p2 fun h' hz hTI hTO h1 h2 hsz hk => wpAny_pyIter_zip hz ?_
  have I2 : Inv X pins σ H1 { s1 with heap := h' } := I1.kept (t' := s1.toks) hk
  have nn : ∀ j k : Nat, j ≠ k → s1.heap.objs.size + j ≠ s1.heap.objs.size + k := fun j k h => by omega
  refine ⟨s1.heap.objs.size + 4, [s1.heap.objs.size + 4, s1.heap.objs.size + 2, s1.heap.objs.size + 3, s1.heap.objs.size, s1.heap.objs.size + 1], _, _, H1, rfl, I2,
    turn_zipB (b1 := b1) (b2 := b2) (a1 := a1) (a2 := a2) (nn 2 4 (by decide)) (nn 3 4 (by decide)) (nn 2 3 (by decide)) (nn 2 0 (by decide)) (nn 2 1 (by decide)) (nn 4 0 (by decide)) (nn 4 1 (by decide)) (nn 3 0 (by decide)) (nn 3 1 (by decide)) (nn 0 1 (by decide)),
    ⟨hz, hTI, ⟨_, _, hTO⟩, newItB h1, newItB h2⟩, fun c hcm => ?_, q⟩
  have hle : s1.heap.objs.size ≤ c := by
    have e' : c = s1.heap.objs.size + 4 ∨ c = s1.heap.objs.size + 2 ∨ c = s1.heap.objs.size + 3 ∨ c = s1.heap.objs.size ∨ c = s1.heap.objs.size + 1 := by simpa using hcm
    rcases e' with z | z | z | z | z <;> rw [z] <;> first | exact Nat.le_add_right _ _ | exact Nat.le_refl _
  exact I1.fpOk hle (I1.hok.fresh hle)
/-- the pairs, in the small language -/
def fZip : List D → MH → Res Src
  | [x, y], M => match sSeqOf x M, sSeqOf y M with
    | .ok s _, .ok t _ => .ok ⟨List.zipWith (fun a b => .tup [a, b]) s.items t.items, s.chk ++ t.chk⟩ M
    | _, _ => .err
  | _, _ => .err
section
variable {Tb : List (Addr × Str)} {X : Cx} {W : WX}
def StayB (K : PySem.W.Frag) (mg : Str → Option Value) (Tb : List (Addr × Str)) (ι0 : List Addr) (H0 : Hp) (b : Bool) (a : Addr) (s : Src) : Prop :=
  ∀ ι H M, Ext ι0 H0 ι H → RelH K mg Tb ι H M → s.ok M = true → ∃ vs, SqB K H b a vs ∧ RelDs K mg ι H s.items vs
theorem stayB {K : PySem.W.Frag} {mg : Str → Option Value} {ι0 : List Addr} {H0 : Hp} {d : D} {v : V} {M0 : MH} (r : RelH K mg Tb ι0 H0 M0) (rv : RelD K mg ι0 H0 d v) {s : Src} {M1 : MH} (e : sSeqOf d M0 = .ok s M1) : M1 = M0 ∧ ∃ b a xs, v = .ref a ∧ SqB K H0 b a xs ∧ StayB K mg Tb ι0 H0 b a s := by
  by_cases nt : ∀ l, d ≠ .tup l
  · obtain ⟨h1, a, xs, h2, h3, _, h4⟩ := stay_lst r rv nt e
    exact ⟨h1, true, a, xs, h2, h3, h4⟩
  · have ⟨l, hl⟩ : ∃ l, d = .tup l := Classical.byContradiction fun q => nt fun l hl => q ⟨l, hl⟩
    subst hl
    cases e
    obtain ⟨a, xs, h2, h3, _, h4⟩ := stay_tup (Tb := Tb) (M0 := M0) rv
    exact ⟨rfl, false, a, xs, h2, h3, h4⟩
theorem itzB_ok {K : PySem.W.Frag} {mg : Str → Option Value} {ι0 : List Addr} {H0 : Hp} {b1 b2 : Bool} {a1 a2 : Addr} {s t : Src} (h1 : StayB K mg Tb ι0 H0 b1 a1 s) (h2 : StayB K mg Tb ι0 H0 b2 a2 t) :
    ItOk K mg Tb ι0 H0 (ItzB K b1 b2 a1 a2) ⟨List.zipWith (fun a b => .tup [a, b]) s.items t.items, s.chk ++ t.chk⟩ := by
  intro i ι H M e r ok hi
  have ok' : chkOk (s.chk ++ t.chk) M = true := ok
  rw [chk_app, Bool.and_eq_true] at ok'
  obtain ⟨vs, s1, r1⟩ := h1 ι H M e r ok'.1
  obtain ⟨ws, s2, r2⟩ := h2 ι H M e r ok'.2
  have hi : i ≤ (List.zipWith (fun a b => D.tup [a, b]) s.items t.items).length := hi
  rw [List.length_zipWith] at hi
  show match (List.zipWith (fun a b => D.tup [a, b]) s.items t.items)[i]? with | some d => _ | none => _
  rw [List.getElem?_zipWith]
  cases hx : s.items[i]? with
  | none => exact ⟨vs, ws, s1, s2, by have := List.getElem?_eq_none_iff.mp hx; rw [r1.length, r2.length]; omega⟩
  | some x =>
    cases hy : t.items[i]? with
    | none => exact ⟨vs, ws, s1, s2, by have := List.getElem?_eq_none_iff.mp hy; rw [r1.length, r2.length]; omega⟩
    | some y =>
      obtain ⟨v, g1, q1⟩ := r1.get hx
      obtain ⟨u, g2, q2⟩ := r2.get hy
      refine ⟨⟨vs, ws, v, u, s1, s2, g1, g2⟩, fun z H' ⟨T, x', y', ez, hT, eH, k1, k2⟩ => ?_⟩
      have a1 := k1 vs s1
      rw [g1] at a1; cases a1
      have a2 := k2 ws s2
      rw [g2] at a2; cases a2
      subst ez; subst eH
      exact r.tup hT ⟨v, [u], rfl, q1, RelDs.one q2⟩
theorem mi_zip {elts : List Expr} {kk : Nat} {tpos p pos : Pos} {e e2 : Expr} {ar : A} (hm : X.mg "zip" = none) (ha : MA Tb X W [e, e2] ar) (hg : Gl X "zip" := by rfl) (hs : starEach [e, e2] X.env = (false, eval e X.env) :: starEach [e2] X.env := by rfl) (hpl : (backTo pos (starEach [e2] X.env)).any (·.1) = false := by rfl) :
    MI Tb X W (.Tuple elts kk tpos) (.Call (.Name "zip" p) [e, e2] [] pos) (sArg fZip ar) := by
  refine (pi_zipB hg hm ha hs hpl).imp fun σ H R ⟨ι, M, ρ, at_, h⟩ => ?_
  obtain ⟨ι0, M0, ρ0, a0, h0⟩ := rd_bind (Rv := RelDs X.K X.mg) (m := ar) at_ h
  refine ⟨ι0, M0, ρ0, a0, out.mono h0 fun xs H1 ⟨ι1, M1, ds, e1, at1, r1, h1⟩ => ?_⟩
  unfold fZip at h1
  split at h1
  · obtain ⟨v, u, rfl, q1, q2⟩ := r1.un2
    split at h1
    · rename_i s _ t _ hs1 hs2
      obtain ⟨rfl, b1, a1, vs, rfl, s1, t1⟩ := stayB at1.h q1 hs1
      obtain ⟨rfl, b2, a2, ws, rfl, s2, t2⟩ := stayB at1.h q2 hs2
      exact ⟨b1, b2, a1, a2, vs, ws, rfl, s1, s2, out.done h1 at1.h (itzB_ok t1 t2)⟩
    · exact h1.elim
  · exact h1.elim
/-- a list or a tuple -/
def ItB (K : PySem.W.Frag) (b : Bool) (a : Addr) : It := if b = true then Itl K a else Itt K a
def iSeq (K : PySem.W.Frag) (te : TE) : TI := fun σ H R => te σ H fun x H1 => ∃ b a xs, x = .ref a ∧ SqB K H1 b a xs ∧ R (ItB K b a) H1
theorem pi_seq {tg e : Expr} {te : TE} (he : PE X e te) : PI X tg e (iSeq X.K te) := by
  refine ⟨fun pins s σ H R I h => thn (he.run pins s σ H _ I h) fun v s1 hh => ?_⟩
  obtain ⟨x, H1, I1, r1, b, a, xs, rfl, hq, q⟩ := hh
  obtain rfl : v = Value.ref a := r1
  have I2 : ∀ o : Obj, Inv X pins σ H1 { s1 with heap := s1.heap.push o } := fun o => I1.kept (t' := s1.toks) fun b ob z => Heap.get?_push_of_some _ z
  have fp : ∀ c ∈ [s1.heap.objs.size], FpOk X pins H1 c := fun c hc => by
    rw [List.mem_singleton.mp hc]
    exact I1.fpOk (Nat.le_refl _) (I1.hok.fresh (Nat.le_refl _))
  cases b with
  | true =>
    obtain ⟨its, rv, p, hz⟩ := I1.list hq
    exact wpAny_pyIter_list p.isList ⟨_, _, _, _, H1, rfl, I2 _, turn_list a _, ⟨_, Heap.get?_push_size _ rfl, rfl, rfl⟩, fp, q⟩
  | false =>
    obtain ⟨its, rv, p, hz⟩ := I1.tuple hq
    exact wpAny_pyIter_tuple (show s1.heap.IsTuple a its.toArray from p) ⟨_, _, _, _, H1, rfl, I2 _, turn_tuple a _, ⟨_, Heap.get?_push_size _ rfl, rfl, rfl⟩, fp, q⟩
def sSq (m : E) : Sm := fun ρ M => (m ρ M).bind fun d M1 => match sSeqOf d M1 with
  | .ok s _ => .ok s M1
  | _ => .err
theorem mi_seq {tg e : Expr} {m : E} (he : ME Tb X W e m) : MI Tb X W tg e (sSq m) := by
  refine (pi_seq he).imp fun σ H R ⟨ι, M, ρ, at_, h⟩ => ?_
  obtain ⟨ι0, M0, ρ0, a0, h0⟩ := rd_bind (Rv := RelD X.K X.mg) (m := m) at_ h
  refine ⟨ι0, M0, ρ0, a0, out.mono h0 fun x H1 ⟨ι1, M1, d, e1, at1, r1, h1⟩ => ?_⟩
  split at h1
  · rename_i s _ hs
    by_cases nt : ∀ l, d ≠ .tup l
    · obtain ⟨_, a, xs, rfl, h2, _, h4⟩ := stay_lst at1.h r1 nt hs
      exact ⟨true, a, xs, rfl, h2, out.done h1 at1.h (itl_ok h4)⟩
    · have ⟨l, hl⟩ : ∃ l, d = .tup l := Classical.byContradiction fun q => nt fun l hl => q ⟨l, hl⟩
      subst hl
      cases hs
      obtain ⟨a, xs, rfl, h2, _, h4⟩ := stay_tup (Tb := Tb) (M0 := M1) r1
      exact ⟨false, a, xs, rfl, h2, out.done h1 at1.h (itt_ok h4)⟩
  · exact h1.elim
end
end Mp
namespace Mp
open PySem PySem.Spec PyProof.Rows L2

/-! ### comprehensions -/
/-- within a comprehension nothing may be raised -/
def Res.nox {α : Type} : Res α → Res α
  | .ok a M => .ok a M
  | _ => .err
@[simp] theorem Res.nox_ok {α : Type} (a : α) (M : MH) : (Res.ok a M).nox = .ok a M := rfl
def wipeD (ρ : Ev) : List Nat → Ev
  | [] => ρ
  | v :: vs => (wipeD ρ vs).set v none
/-- one after another -/
def lcGo (g : G) (tt : T) (te : E) (chk : List (Nat × List D)) (ρ : Ev) : List D → MH → Res (List D)
  | [], M => if chkOk chk M = true then .ok [] M else .err
  | d :: ds, M => if chkOk chk M = true then (match g d ρ with
      | some ρ1 => (tt ρ1 M).nox.bind fun b M1 =>
          if b = true then (te ρ1 M1).nox.bind fun x M2 => (lcGo g tt te chk ρ ds M2).bind fun xs M3 => .ok (x :: xs) M3
          else lcGo g tt te chk ρ ds M1
      | none => .err) else .err
def mLc (vs : List Nat) (sm : Sm) (g : G) (tt : T) (te : E) : E := fun ρ M => (sm ρ M).bind fun s M1 =>
  if s.items.length ≤ LINE then (lcGo g tt te s.chk (wipeD ρ vs) s.items M1).bind fun xs M2 => .ok (.ref M2.length) (M2 ++ [.lst xs]) else .err
def tYesD : T := fun _ M => .ok true M
abbrev W0 : WX := fun _ _ _ _ => False
def MTs (Tb : List (Addr × Str)) (X : Cx) (W : WX) (es : List Expr) (m : T) : Prop := PTs X es (rd X.K X.mg Tb RB W m)
theorem _root_.L2.PTs.imp {X : Cx} {e : List Expr} {t t' : TT} (h : PTs X e t) (q : ∀ σ H Q, t' σ H Q → t σ H Q) : PTs X e t' := ⟨fun pins s σ H Q I hw => h.run pins s σ H Q I (q σ H Q hw)⟩
section
variable {Tb : List (Addr × Str)} {X : Cx} {W : WX}
theorem mts_nil : MTs Tb X W [] tYesD := pts_nil.imp fun σ H Q ⟨ι, M, ρ, at_, h⟩ => out.done h at_.h rfl
theorem mts_one {c : Expr} {t : T} (h : MT Tb X W c t) : MTs Tb X W [c] t := pts_one h
end
theorem wipeD_length (ρ : Ev) : ∀ vs, (wipeD ρ vs).length = ρ.length
  | [] => rfl
  | v :: vs => by simp [wipeD, wipeD_length ρ vs]
section
variable {K : PySem.W.Frag} {mg : Str → Option Value} {Tb : List (Addr × Str)} {ι : List Addr} {H : Hp}
theorem RelS.wipe {ρ : Ev} {σ : St} (a : RelS K mg ι H ρ σ) : ∀ vs, RelS K mg ι H (wipeD ρ vs) (L2.wipe σ vs)
  | [] => a
  | v :: vs => by
    have ih := RelS.wipe a vs
    refine ⟨by simp only [wipeD, L2.wipe, List.length_set]; exact ih.1, fun i d q => ?_⟩
    simp only [wipeD, L2.wipe] at q ⊢
    by_cases hi : i = v
    · subst hi
      by_cases hl : i < (wipeD ρ vs).length
      · rw [List.getElem?_set_self hl] at q; cases q
      · rw [List.getElem?_eq_none (by simpa using hl)] at q; cases q
    · rw [List.getElem?_set_ne (Ne.symm hi)] at q
      obtain ⟨w, h1, h2⟩ := ih.2 i d q
      exact ⟨w, by rw [List.getElem?_set_ne (Ne.symm hi)]; exact h1, h2⟩
theorem wipe_get {σ : St} : ∀ {vs : List Nat} {j : Nat}, j ∉ vs → (L2.wipe σ vs)[j]? = σ[j]?
  | [], _, _ => rfl
  | v :: vs, j, h => by
    simp only [List.mem_cons, not_or] at h
    unfold L2.wipe
    rw [List.getElem?_set_ne (Ne.symm h.1), wipe_get h.2]
theorem wipe_none {σ : St} : ∀ {vs : List Nat} {j : Nat}, j ∈ vs → j < σ.length → (L2.wipe σ vs)[j]? = some none
  | v :: vs, j, h, hl => by
    unfold L2.wipe
    by_cases hj : j = v
    · subst hj
      rw [List.getElem?_set_self (by rw [L2.wipe_length]; exact hl)]
    · rw [List.getElem?_set_ne (Ne.symm hj)]
      rcases List.mem_cons.mp h with e | h
      · exact absurd e hj
      · exact wipe_none h hl
theorem wipe_eq {σ σ' : St} {vs : List Nat} (hl : σ'.length = σ.length) (h : ∀ j, j ∉ vs → σ'[j]? = σ[j]?) : L2.wipe σ' vs = L2.wipe σ vs := by
  apply List.ext_getElem?
  intro j
  by_cases hj : j ∈ vs
  · by_cases hjl : j < σ.length
    · rw [wipe_none hj hjl, wipe_none hj (by omega)]
    · rw [List.getElem?_eq_none (by rw [L2.wipe_length]; omega), List.getElem?_eq_none (by rw [L2.wipe_length]; omega)]
  · rw [wipe_get hj, wipe_get hj, h j hj]
/-- what is laid beside the small heap is written -/
theorem RelH.side {M : MH} (r : RelH K mg Tb ι H M) {D : Addr} (hn : D ∉ ι) {l0 l : List V} (h0 : H D = some (.lst l0)) : RelH K mg Tb ι (upd H D (.lst l)) M ∧ ∀ a o, H a = some o → Fix o → upd H D (.lst l) a = some o := by
  have f : ∀ a o, H a = some o → Fix o → upd H D (.lst l) a = some o := fun a o h hf => by
    rw [upd_ne (fun z => ?_)]; exact h
    subst z
    rw [h0] at h; cases h
    exact lst_not_fix hf
  refine ⟨⟨r.len, r.nd, fun i a mo h1 h2 => ?_, fun p hp => ?_⟩, f⟩
  · have q := r.ob i a mo h1 h2
    have hne : a ≠ D := fun z => hn (by rw [← z]; exact List.mem_of_getElem? h1)
    cases mo with
    | lst l' =>
      obtain ⟨vs, q1, q2⟩ := q
      exact ⟨vs, by rw [upd_ne hne]; exact q1, RelDs.mono (List.prefix_refl _) f _ _ q2⟩
  · obtain ⟨ps, h1, h2, h3⟩ := r.tab p hp
    refine ⟨ps, ?_, h2, fun pos cv hc => ?_⟩
    · rw [upd_ne (fun z => ?_)]; exact h1
      rw [z, h0] at h1; cases h1
    · obtain ⟨c, e1, e2⟩ := h3 pos cv hc
      refine ⟨c, e1, ?_⟩
      rw [upd_ne (fun z => ?_)]; exact e2
      rw [z, h0] at e2
      unfold LamX.CodeO at e2; cases e2
/-- what is laid beside the small heap comes into it -/
theorem RelH.adopt {M : MH} (r : RelH K mg Tb ι H M) {D : Addr} (hn : D ∉ ι) {vs : List V} {l : List Mp.D} (h0 : H D = some (.lst vs)) (rl : RelDs K mg ι H l vs) : RelH K mg Tb (ι ++ [D]) H (M ++ [.lst l]) := by
  refine ⟨by simp [r.len], ?_, fun i a mo h1 h2 => ?_, r.tab⟩
  · rw [List.nodup_append]
    refine ⟨r.nd, by simp, fun x hx y hy z => ?_⟩
    rw [List.mem_singleton.mp hy] at z
    exact hn (z ▸ hx)
  · have up : ∀ ds ws, RelDs K mg ι H ds ws → RelDs K mg (ι ++ [D]) H ds ws := fun ds ws h => RelDs.mono (List.prefix_append _ _) (fun _ _ h _ => h) ds ws h
    rcases Nat.lt_or_ge i ι.length with hi | hi
    · rw [List.getElem?_append_left hi] at h1
      rw [List.getElem?_append_left (by rw [← r.len]; exact hi)] at h2
      have q := r.ob i a mo h1 h2
      cases mo with
      | lst l' =>
        obtain ⟨vs', q1, q2⟩ := q
        exact ⟨vs', q1, up _ _ q2⟩
    · rw [List.getElem?_append_right hi] at h1
      rw [List.getElem?_append_right (by rw [← r.len]; exact hi)] at h2
      have hi0 : i - ι.length = 0 := by
        rcases Nat.eq_zero_or_pos (i - ι.length) with q | q
        · exact q
        · rw [List.getElem?_eq_none (by simp; omega)] at h1; cases h1
      rw [hi0] at h1
      rw [← r.len, hi0] at h2
      simp at h1 h2
      subst h1 h2
      exact ⟨vs, h0, up _ _ rl⟩
end
section
variable {Tb : List (Addr × Str)} {X : Cx} {W : WX}
theorem lc_read {vs : List Nat} {ws : List Nat} (hsub : ∀ j ∈ ws, j ∈ vs) {sm : Sm} {g : G} {tt : T} {te : E} {σ : St} {H : Hp} {Q : VK} (h : rd X.K X.mg Tb (RelD X.K X.mg) W (mLc vs sm g tt te) σ H Q) :
    tLc (rd X.K X.mg Tb (RI X.K X.mg Tb) W sm) (tG X.K X.mg ws g) (rd X.K X.mg Tb RB W0 tt) (rd X.K X.mg Tb (RelD X.K X.mg) W0 te) vs σ H Q := by
  obtain ⟨ι, M, ρ, at_, h⟩ := h
  obtain ⟨ι0, M0, ρ0, a0, h0⟩ := rd_bind (Rv := RI X.K X.mg Tb) (m := sm) at_ h
  refine ⟨ι0, M0, ρ0, a0, out.mono h0 fun J H1 ⟨ι1, M1, s, e1, at1, itok, h1⟩ => ?_⟩
  split at h1
  rotate_left
  · exact h1.elim
  rename_i hline
  intro D hD
  have e0 := ext_laid (ι := ι1) hD (.lst [])
  have hD1 : D ∉ ι1 := fun hm => by
    obtain ⟨i, hi, e⟩ := List.mem_iff_getElem.mp hm
    have hi2 : i < M1.length := by rw [← at1.h.len]; exact hi
    have q := at1.h.ob i D M1[i] (by rw [List.getElem?_eq_getElem hi, e]) (List.getElem?_eq_getElem hi2)
    cases hm : M1[i] with
    | lst l' =>
      rw [hm] at q
      obtain ⟨_, q1, _⟩ := q
      rw [hD] at q1; cases q1
  refine ⟨fun i m H => m = s.items.length - i ∧ i ≤ s.items.length ∧ ∃ ι M acc accV, D ∉ ι ∧ Ext ι1 H1 ι H ∧ RelH X.K X.mg Tb ι H M ∧ H D = some (.lst accV) ∧ RelDs X.K X.mg ι H acc accV ∧ acc.length ≤ i ∧
    out X.K X.mg Tb (RelD X.K X.mg) W σ ι1 H1 ((lcGo g tt te s.chk (wipeD ρ vs) (s.items.drop i) M).bind fun xs M2 => .ok (.ref M2.length) (M2 ++ [.lst (acc ++ xs)])) Q,
    ⟨s.items.length, by simp, Nat.zero_le _, ι1, M1, [], [], hD1, e0, (at1.h.laid hD _).2, upd_same, rfl, Nat.le_refl _, by simpa using h1⟩, ?_⟩
  rintro i m H2 ⟨rfl, hi, ι2, M2, acc, accV, hD2, e2, r2, hacc, racc, hlen, h2⟩
  have rs2 : RelS X.K X.mg ι2 H2 ρ σ := at1.rs.mono e2.pre e2.fix
  -- what stands at this turn
  have adv : ∀ {ι3 : List Addr} {H3 : Hp}, Ext ι2 H2 ι3 H3 → H3 D = some (.lst accV) ∧ D ∉ ι3 := fun {ι3 H3} e => by
    refine ⟨e.keep D _ hD2 hacc (fun ps z => nomatch z), fun hm => ?_⟩
    obtain ⟨ps, z⟩ := e.new D _ hm hD2 hacc
    cases z
  have chkT : chkOk s.chk M2 = true := by
    cases hc : chkOk s.chk M2 with
    | true => rfl
    | false =>
      exfalso
      cases hd : s.items.drop i with
      | nil => rw [hd] at h2; simp only [lcGo, hc, Bool.false_eq_true, if_false] at h2; exact h2
      | cons d ds => rw [hd] at h2; simp only [lcGo, hc, Bool.false_eq_true, if_false] at h2; exact h2
  have it := itok i ι2 H2 M2 e2 r2 chkT hi
  by_cases hlt : i < s.items.length
  · have hget : s.items[i]? = some s.items[i] := List.getElem?_eq_getElem hlt
    rw [hget] at it
    rw [List.drop_eq_getElem_cons hlt] at h2
    simp only [lcGo, chkT, if_true] at h2
    generalize s.items[i] = d at it h2
    obtain ⟨go, yld⟩ := it
    refine .inr ⟨go, fun H' => ∃ m', m' < s.items.length - i ∧ m' = s.items.length - (i + 1) ∧ i + 1 ≤ s.items.length ∧ ∃ ι M acc accV, D ∉ ι ∧ Ext ι1 H1 ι H' ∧ RelH X.K X.mg Tb ι H' M ∧ H' D = some (.lst accV) ∧ RelDs X.K X.mg ι H' acc accV ∧ acc.length ≤ i + 1 ∧
      out X.K X.mg Tb (RelD X.K X.mg) W σ ι1 H1 ((lcGo g tt te s.chk (wipeD ρ vs) (s.items.drop (i + 1)) M).bind fun xs M2 => .ok (.ref M2.length) (M2 ++ [.lst (acc ++ xs)])) Q,
      fun H' ⟨m', h1, h2⟩ => ⟨m', h1, h2⟩, fun x H' y => ?_⟩
    obtain ⟨e3, r3, rx⟩ := yld x H' y
    cases hg : g d (wipeD ρ vs) with
    | none => rw [hg] at h2; exact h2.elim
    | some ρ1 =>
      rw [hg] at h2
      dsimp only at h2
      have rs3 : RelS X.K X.mg ι2 H' ρ σ := rs2.mono e3.pre e3.fix
      refine ⟨ι2, d, wipeD ρ vs, ρ1, rs3.wipe vs, rx, hg, fun σ2 hl2 hk2 rs4 => ?_⟩
      refine ⟨?_, ?_⟩
      · have : L2.wipe σ2 vs = L2.wipe (L2.wipe σ vs) vs := wipe_eq hl2 fun j hj => hk2 j fun z => hj (hsub j z)
        rw [this]
        exact wipe_eq (L2.wipe_length _ _) fun j hj => wipe_get hj
      · refine ⟨ι2, M2, ρ1, rs4.at r3, ?_⟩
        cases ht : tt ρ1 M2 with
        | err => rw [ht] at h2; exact h2.elim
        | exc c M3 => rw [ht] at h2; exact h2.elim
        | ok b M3 =>
          rw [ht] at h2
          simp only [Res.nox_ok, Res.bind_ok] at h2
          intro ι3 b' H3 e4 r4 eb
          obtain rfl : b = b' := eb
          have e13 : Ext ι1 H1 ι3 H3 := e2.trans (e3.trans e4)
          obtain ⟨hacc3, hD3⟩ := adv (e3.trans e4)
          have racc3 := RelDs.ext (e3.trans e4) _ _ racc
          cases b with
          | false =>
            simp only [Bool.false_eq_true, if_false] at h2 ⊢
            exact ⟨s.items.length - (i + 1), by omega, rfl, hlt, ι3, M3, acc, accV, hD3, e13, r4, hacc3, racc3, by omega, h2⟩
          | true =>
            simp only [if_true] at h2 ⊢
            refine ⟨ι3, M3, ρ1, (rs4.mono e4.pre e4.fix).at r4, ?_⟩
            cases hte : te ρ1 M3 with
            | err => rw [hte] at h2; exact h2.elim
            | exc c M4 => rw [hte] at h2; exact h2.elim
            | ok z M4 =>
              rw [hte] at h2
              simp only [Res.nox_ok, Res.bind_ok] at h2
              intro ι4 zv H4 e5 r5 rz
              obtain ⟨hacc4, hD4⟩ := adv ((e3.trans e4).trans e5)
              have racc4 := RelDs.ext e5 _ _ racc3
              refine ⟨accV, hacc4, by rw [racc4.length, line_eq]; omega, ?_⟩
              obtain ⟨r6, f6⟩ := r5.side hD4 (l := accV ++ [zv]) hacc4
              have e14 := e13.trans e5
              refine ⟨s.items.length - (i + 1), by omega, rfl, hlt, ι4, M4, acc ++ [z], accV ++ [zv], hD4, ⟨e14.pre, e14.new, fun a o h1 h3 h4 => ?_, fun a o h1 h3 => ?_⟩, r6, upd_same, RelDs.mono (List.prefix_refl _) f6 _ _ (racc4.append (RelDs.one rz)), by simp; omega, ?_⟩
              · rw [upd_ne (fun w => ?_)]
                · exact e14.keep a o h1 h3 h4
                · rw [w, hD] at h3; cases h3
              · rw [upd_ne (fun w => ?_)]
                · exact e14.fix a o h1 h3
                · rw [w, hD] at h1; cases h1
              · have : ∀ r : Res (List Mp.D), ((r.bind fun xs M3 => Res.ok (z :: xs) M3).bind fun xs M2 => Res.ok (Mp.D.ref M2.length) (M2 ++ [MO.lst (acc ++ xs)])) = r.bind fun xs M2 => Res.ok (Mp.D.ref M2.length) (M2 ++ [MO.lst ((acc ++ [z]) ++ xs)]) := fun r => by
                  cases r <;> simp [Res.bind]
                rw [this] at h2
                exact h2
  · have hie : i = s.items.length := by omega
    have hget : s.items[i]? = none := List.getElem?_eq_none_iff.mpr (by omega)
    rw [hget] at it
    refine .inl ⟨it, ?_⟩
    rw [List.drop_eq_nil_of_le (by omega)] at h2
    simp only [lcGo, chkT, if_true, Res.bind_ok, List.append_nil] at h2
    refine h2 (ι2 ++ [D]) (.ref D) H2 ⟨e2.pre.trans (List.prefix_append _ _), fun a o h1 h3 h4 => ?_, e2.keep, e2.fix⟩ (r2.adopt hD2 hacc racc) ⟨D, by rw [← r2.len]; simp, rfl⟩
    rcases List.mem_append.mp h1 with q | q
    · exact e2.new a o q h3 h4
    · rw [List.mem_singleton.mp q, hD] at h4; cases h4
theorem me_lc {elt tg iter : Expr} {ifs : List Expr} {scope : Scope} {own : List (Str × Nat)} {pos : Pos} {ws : List Nat} {sm : Sm} {g : G} {tt : T} {te : E} (hc : X.calm = true) (hN : X.N.Nodup) (hi : MI Tb X W tg iter sm) (ok : BlkOk X.N X.env.scope scope own)
    (hsub : ∀ j ∈ ws, j ∈ own.map (·.2))
    (hg : ∀ (s : Shared) (H : Hp) (C : Addr) (cl : List (Str × Addr)) (fp : List Addr), MG (X.blk s H scope (compEnvC scope cl C X.env) fp) tg ws g)
    (ht : ∀ (s : Shared) (H : Hp) (C : Addr) (cl : List (Str × Addr)) (fp : List Addr), MTs Tb (X.blk s H scope (compEnvC scope cl C X.env) fp) W0 ifs tt)
    (he : ∀ (s : Shared) (H : Hp) (C : Addr) (cl : List (Str × Addr)) (fp : List Addr), ME Tb (X.blk s H scope (compEnvC scope cl C X.env) fp) W0 elt te) (hs : ∀ x, foldedSetIterable iter X.env x = pure x := by intro _; rfl) :
    ME Tb X W (.ListComp elt [⟨tg, iter, ifs, 0⟩] scope pos) (mLc (own.map (·.2)) sm g tt te) :=
  (pe_lc (wi := rd X.K X.mg Tb (RI X.K X.mg Tb) W sm) (g := tG X.K X.mg ws g) (tt := rd X.K X.mg Tb RB W0 tt) (te := rd X.K X.mg Tb (RelD X.K X.mg) W0 te) hc hN hi ok hg ht he hs).imp fun _ _ _ h => lc_read hsub h
end
end Mp
namespace Mp
open PySem PySem.Spec PyProof.Rows L2

/-! ### calls of the program's own defs -/
/-- a def's promise: it does what F says -/
def spD (K : PySem.W.Frag) (mg : Str → Option Value) (Tb : List (Addr × Str)) (n : Nat) (F : List D → MH → Res D) : Sp := fun vs H Q E =>
  ∃ ι M ds, RelH K mg Tb ι H M ∧ RelDs K mg ι H ds vs ∧ ds.length = n ∧ out K mg Tb (RelD K mg) (fun cls d _ H' => E cls d H') [] ι H (F ds M) Q
/-- the def that stands at x does what F says (gd: where no repr is under way) -/
structure FnI (P : Program) (w : World) (K : PySem.W.Frag) (mg : Str → Option Value) (base : Heap) (Tb : List (Addr × Str)) (gd : Bool) (x : Str) (k n : Nat) (F : List D → MH → Res D) : Prop where
  ex : ∃ f, mg x = some (.ref f) ∧ PySem.W.keepIn K (.ref f) = true ∧ ∀ (A : Around) (outer : List Env) (s : Shared) (H : Hp) (us : List Value) (vs : List V) (Q : VK) (E : XK), Room k A → (gd = true → A.guards = some []) →
    Env0 P w K mg base A outer s H → Vals vs us → spD K mg Tb n F vs H Q E → codeAny (model P w) A (.call (.ref f) ⟨us, []⟩) (CR (L2.CX P w) outer P w H s Q E) s
/-- a call of x from here does what F says -/
structure CallsTo (Tb : List (Addr × Str)) (X : Cx) (x : Str) (n : Nat) (F : List D → MH → Res D) : Prop where
  ex : ∃ f, X.mg x = some (.ref f) ∧ PySem.W.keepIn X.K (.ref f) = true ∧ ∀ (W : WX), Takes X W → ∀ (pins : List (Addr × Obj)) (σ : St) (H : Hp) (s : Shared) (us : List Value) (vs : List V) (Q : VK), Inv X pins σ H s → Vals vs us →
    spD X.K X.mg Tb n F vs H Q (fun cls d H' => W cls d σ H') → wpAny (model X.prog X.w) X.A (call (.ref f) us) (EP X pins σ Q) X.xe s
theorem FnI.mono {P : Program} {w : World} {K : PySem.W.Frag} {mg : Str → Option Value} {base : Heap} {Tb : List (Addr × Str)} {gd : Bool} {x : Str} {k k' n : Nat} {F : List D → MH → Res D} (h : FnI P w K mg base Tb gd x k n F) (hk : k ≤ k') : FnI P w K mg base Tb gd x k' n F := by
  obtain ⟨f, h1, h2, h3⟩ := h.ex
  exact ⟨f, h1, h2, fun A outer s H us vs Q E hr => h3 A outer s H us vs Q E (hr.mono hk)⟩
theorem FnI.calls {Tb : List (Addr × Str)} {X : Cx} {gd : Bool} {x : Str} {k n : Nat} {F : List D → MH → Res D} (h : FnI X.prog X.w X.K X.mg X.base Tb gd x k n F) (hr : Room k X.A) (hg : gd = true → X.A.guards = some []) : CallsTo Tb X x n F := by
  obtain ⟨f, h1, h2, h3⟩ := h.ex
  refine ⟨f, h1, h2, fun W tk pins σ H s us vs Q I r sp => wpAny_call (codeAny_mono (h3 X.A X.stack s H us vs Q _ hr hg I.env0 r sp) fun res s' hq => ?_)⟩
  match res, hq with
  | .error e, hq => exact passAt tk σ pins H s e s' I hq
  | .ok (.ret u), hq => exact I.after hq
def mCall (n : Nat) (F : List D → MH → Res D) (r : A) : E := fun ρ M => (r ρ M).bind fun ds M1 => if ds.length = n then F ds M1 else .err
section
variable {Tb : List (Addr × Str)} {X : Cx} {W : WX} {x : Str} {n : Nat} {F : List D → MH → Res D} {e : Expr} {es : List Expr} {ar : A} {p pos : Pos}
theorem call_out {σ : St} {ι : List Addr} {H : Hp} {M : MH} {ds : List D} {vs : List V} {Q : VK} (r : RelH X.K X.mg Tb ι H M) (rv : RelDs X.K X.mg ι H ds vs) (h : out X.K X.mg Tb (RelD X.K X.mg) W σ ι H (if ds.length = n then F ds M else .err) Q) :
    spD X.K X.mg Tb n F vs H Q (fun cls d H' => W cls d σ H') := by
  split at h
  · rename_i hl
    refine ⟨ι, M, ds, r, rv, hl, ?_⟩
    cases hF : F ds M with
    | ok d M' => rw [hF] at h; exact h
    | exc c M' => rw [hF] at h; exact h
    | err => rw [hF] at h; exact h
  · exact h.elim
theorem me_call (C : CallsTo Tb X x n F) (tk : Takes X W) (ha : MA Tb X W (e :: es) ar) (hg : Gl X x := by rfl) (hdb : (x == ("__debug__" : Str)) = false := by decide)
    (he : starEach (e :: es) X.env = (false, eval e X.env) :: starEach es X.env := by rfl) (hpl : (backTo pos (starEach es X.env)).any (·.1) = false := by rfl) : ME Tb X W (.Call (.Name x p) (e :: es) [] pos) (mCall n F ar) := by
  obtain ⟨f, hm, hk, run⟩ := C.ex
  refine ⟨fun pins s σ H Q I h => wpAny_Call_Name_kw (ld_glob I hg hm ?_ hdb)⟩
  obtain ⟨ι, M, ρ, at_, h⟩ := h
  obtain ⟨ι0, M0, ρ0, a0, h0⟩ := rd_bind (Rv := RelDs X.K X.mg) (m := ar) at_ h
  refine PySem.W.callWith_K (h₀ := X.base) I.ok.mod.kin hk (thn (ha.run pos pins s σ H _ I ⟨ι0, M0, ρ0, a0, h0⟩) fun us s1 hh => ?_) he hpl
  obtain ⟨vs, H1, I1, r, ι1, M1, ds, e1, at1, r1, h1⟩ := hh
  exact ⟨I1.kIn, run W tk pins σ H1 s1 us vs Q I1 r (call_out at1.h r1 h1)⟩
theorem me_call0 (C : CallsTo Tb X x n F) (tk : Takes X W) (hg : Gl X x := by rfl) (hdb : (x == ("__debug__" : Str)) = false := by decide) : ME Tb X W (.Call (.Name x p) [] [] pos) (mCall n F aNil) := by
  obtain ⟨f, hm, hk, run⟩ := C.ex
  refine ⟨fun pins s σ H Q I h => wpAny_Call_Name_kw (ld_glob I hg hm ?_ hdb)⟩
  obtain ⟨ι, M, ρ, at_, h⟩ := h
  exact PySem.W.callWith_K0 I.kIn hk (run W tk pins σ H s [] [] Q I .nil (call_out (ds := []) at_.h rfl h))
/-- a name of the def that holds one of several defs -/
def mCallV (i : Nat) (tab : List (Str × (List D → MH → Res D))) (n : Nat) (r : A) : E := fun ρ M => match ρ[i]? with
  | some (some (.fn x)) => (match tab.lookup x with
    | some F => (r ρ M).bind fun ds M1 => if ds.length = n then F ds M1 else .err
    | none => .err)
  | _ => .err
theorem me_callV {i : Nat} {y : Str} {tab : List (Str × (List D → MH → Res D))} (C : ∀ x F, tab.lookup x = some F → CallsTo Tb X x n F) (tk : Takes X W) (ha : MA Tb X W (e :: es) ar) (hN : X.N[i]? = some y := by rfl)
    (hv : Vis X.env.scope y := by first | exact Or.inl rfl | exact Or.inr (Or.inl rfl) | exact Or.inr (Or.inr rfl)) (hdb : (y == ("__debug__" : Str)) = false := by decide) (hcd : (y == ("__classdict__" : Str)) = false := by decide)
    (he : starEach (e :: es) X.env = (false, eval e X.env) :: starEach es X.env := by rfl) (hpl : (backTo pos (starEach es X.env)).any (·.1) = false := by rfl) : ME Tb X W (.Call (.Name y p) (e :: es) [] pos) (mCallV i tab n ar) := by
  refine ⟨fun pins s σ H Q I h => ?_⟩
  obtain ⟨ι, M, ρ, at_, h⟩ := h
  unfold mCallV at h
  split at h
  rotate_left
  · exact h.elim
  rename_i x hx
  split at h
  rotate_left
  · exact h.elim
  rename_i F hF
  obtain ⟨f, hm, hk, run⟩ := (C x F hF).ex
  obtain ⟨v, hs, f', hm', rfl⟩ := at_.s i _ hx
  rw [hm] at hm'
  cases hm'
  obtain ⟨ι0, M0, ρ0, a0, h0⟩ := rd_bind (Rv := RelDs X.K X.mg) (m := ar) at_ h
  refine wpAny_Call_Name_kw (thn ((pe_var (pos := p) hN hv hdb hcd).run pins s σ H (fun v H1 => v = .ref f ∧ H1 = H) I ⟨.ref f, hs, rfl, rfl⟩) fun u s1 hh => ?_)
  obtain ⟨v, H1, I1, r1, rfl, rfl⟩ := hh
  obtain rfl : u = Value.ref f := r1
  refine PySem.W.callWith_K (h₀ := X.base) I1.ok.mod.kin hk (thn (ha.run pos pins s1 σ _ _ I1 ⟨ι0, M0, ρ0, a0, h0⟩) fun us s2 hh => ?_) he hpl
  obtain ⟨vs, H2, I2, r, ι1, M1, ds, e1, at1, r1, h1⟩ := hh
  exact ⟨I2.kIn, run W tk pins σ H2 s2 us vs Q I2 r (call_out at1.h r1 h1)⟩
/-- a def of the module, as a value -/
theorem me_fn {y : Str} {f : Addr} (hm : X.mg y = some (.ref f)) (hg : Gl X y := by rfl) (hd : (y == ("__debug__" : Str)) = false := by decide) : ME Tb X W (.Name y pos) (mC (.fn y)) :=
  (pe_glob (v := .ref f) hg hm rfl hd).imp fun σ H Q ⟨ι, M, ρ, at_, h⟩ => out.done h at_.h ⟨f, hm, rfl⟩
end

/-! ### statements -/
abbrev S := Ev → MH → SRes
section
variable (K : PySem.W.Frag) (mg : Str → Option Value) (Tb : List (Addr × Str))
def outS (W : WX) (ι : List Addr) (H : Hp) (r : SRes) (Dn : Ends) : Prop :=
  match r with
  | .nx ρ' M' => ∀ ι' σ' H', Ext ι H ι' H' → At K mg Tb ι' M' ρ' σ' H' → Dn.nx σ' H'
  | .bk ρ' M' => ∀ ι' σ' H', Ext ι H ι' H' → At K mg Tb ι' M' ρ' σ' H' → Dn.bk σ' H'
  | .ct ρ' M' => ∀ ι' σ' H', Ext ι H ι' H' → At K mg Tb ι' M' ρ' σ' H' → Dn.ct σ' H'
  | .rt d M' => ∀ ι' v H', Ext ι H ι' H' → RelH K mg Tb ι' H' M' → RelD K mg ι' H' d v → Dn.rt v H'
  | .exc c ρ' M' => ∀ ι' σ' H' cls dd, Ext ι H ι' H' → At K mg Tb ι' M' ρ' σ' H' → ClsOf mg c cls → W cls dd σ' H'
  | .err => False
def tS (W : WX) (m : S) : TS := fun Dn σ H => ∃ ι M ρ, At K mg Tb ι M ρ σ H ∧ outS K mg Tb W ι H (m ρ M) Dn
end
section
variable {K : PySem.W.Frag} {mg : Str → Option Value} {Tb : List (Addr × Str)} {α β : Type} {Rv : List Addr → Hp → α → β → Prop} {W : WX} {σ : St} {ι ι1 : List Addr} {H H1 : Hp} {M : MH} {ρ : Ev} {Dn : Ends}
theorem outS.ext {r : SRes} (e : Ext ι H ι1 H1) (h : outS K mg Tb W ι H r Dn) : outS K mg Tb W ι1 H1 r Dn := by
  cases r with
  | nx ρ' M' => exact fun ι' σ' H' e' => h ι' σ' H' (e.trans e')
  | bk ρ' M' => exact fun ι' σ' H' e' => h ι' σ' H' (e.trans e')
  | ct ρ' M' => exact fun ι' σ' H' e' => h ι' σ' H' (e.trans e')
  | rt d M' => exact fun ι' v H' e' => h ι' v H' (e.trans e')
  | exc c ρ' M' => exact fun ι' σ' H' cls dd e' => h ι' σ' H' cls dd (e.trans e')
  | err => exact h
theorem rdS_bind {m : Ev → MH → Res α} {k : α → MH → SRes} (a : At K mg Tb ι M ρ σ H) (h : outS K mg Tb W ι H ((m ρ M).toS ρ k) Dn) :
    rd K mg Tb Rv W m σ H (fun v H1 => ∃ ι1 M1 x, Ext ι H ι1 H1 ∧ At K mg Tb ι1 M1 ρ σ H1 ∧ Rv ι1 H1 x v ∧ outS K mg Tb W ι1 H1 (k x M1) Dn) := by
  refine ⟨ι, M, ρ, a, ?_⟩
  cases hm : m ρ M with
  | ok x M1 =>
    rw [hm] at h
    exact fun ι' v H' e r rv => ⟨ι', M1, x, e, a.ext e r, rv, outS.ext e h⟩
  | exc c M1 =>
    rw [hm] at h
    exact fun ι' H' cls dd e r hc => h ι' σ H' cls dd e (a.ext e r) hc
  | err =>
    rw [hm] at h
    exact h
theorem At.set {d : D} {v : V} (a : At K mg Tb ι M ρ σ H) (r : RelD K mg ι H d v) (i : Nat) : At K mg Tb ι M (ρ.set i (some d)) (σ.set i (some v)) H := (a.rs.set r i).at a.h
end
def MS (Tb : List (Addr × Str)) (X : Cx) (W : WX) (st : Stmt) (m : S) : Prop := PS X st (tS X.K X.mg Tb W m)
def MSs (Tb : List (Addr × Str)) (X : Cx) (W : WX) (st : List Stmt) (m : S) : Prop := PSs X st (tS X.K X.mg Tb W m)
theorem _root_.L2.PS.imp {X : Cx} {st : Stmt} {t t' : TS} (h : PS X st t) (q : ∀ D σ H, t' D σ H → t D σ H) : PS X st t' := ⟨fun pins s σ H D I hw => h.run pins s σ H D I (q D σ H hw)⟩
theorem _root_.L2.PSs.imp {X : Cx} {st : List Stmt} {t t' : TS} (h : PSs X st t) (q : ∀ D σ H, t' D σ H → t D σ H) : PSs X st t' := ⟨fun pins s σ H D I hw => h.run pins s σ H D I (q D σ H hw)⟩
def sNil : S := fun ρ M => .nx ρ M
def sSeq (a b : S) : S := fun ρ M => match a ρ M with
  | .nx ρ' M' => b ρ' M'
  | r => r
def sRet (m : E) : S := fun ρ M => (m ρ M).toS ρ fun d M1 => .rt d M1
def sRetN : S := fun ρ M => .rt .non M
def sExpr (m : E) : S := fun ρ M => (m ρ M).toS ρ fun _ M1 => .nx ρ M1
def sIf (t : T) (a b : S) : S := fun ρ M => (t ρ M).toS ρ fun k M1 => if k = true then a ρ M1 else b ρ M1
def sSet (i : Nat) (m : E) : S := fun ρ M => (m ρ M).toS ρ fun d M1 => .nx (ρ.set i (some d)) M1
def sPar (i j : Nat) (r : A) : S := fun ρ M => (r ρ M).toS ρ fun ds M1 => match ds with
  | [a, b] => .nx ((ρ.set i (some a)).set j (some b)) M1
  | _ => .err
def sBrk : S := fun ρ M => .bk ρ M
def sCnt : S := fun ρ M => .ct ρ M
section
variable {Tb : List (Addr × Str)} {X : Cx} {W : WX} {e : Expr} {m : E} {st : Stmt} {rest : List Stmt} {a b : S} {pos : Pos}
theorem mss_nil : MSs Tb X W [] sNil := pss_nil.imp fun D σ H ⟨ι, M, ρ, at_, h⟩ => h ι σ H (.refl _ _) at_
theorem ms_pass : MS Tb X W (.Pass pos) sNil := ps_pass.imp fun D σ H ⟨ι, M, ρ, at_, h⟩ => h ι σ H (.refl _ _) at_
theorem ms_break : MS Tb X W (.Break pos) sBrk := ps_break.imp fun D σ H ⟨ι, M, ρ, at_, h⟩ => h ι σ H (.refl _ _) at_
theorem ms_cont : MS Tb X W (.Continue pos) sCnt := ps_continue.imp fun D σ H ⟨ι, M, ρ, at_, h⟩ => h ι σ H (.refl _ _) at_
theorem mss_cons (h1 : MS Tb X W st a) (h2 : MSs Tb X W rest b) : MSs Tb X W (st :: rest) (sSeq a b) := by
  refine (pss_cons h1 h2).imp fun D σ H ⟨ι, M, ρ, at_, h⟩ => ⟨ι, M, ρ, at_, ?_⟩
  unfold sSeq at h
  cases ha : a ρ M with
  | nx ρ' M' =>
    rw [ha] at h
    exact fun ι' σ' H' e at' => ⟨ι', M', ρ', at', outS.ext e h⟩
  | bk ρ' M' => rw [ha] at h; exact h
  | ct ρ' M' => rw [ha] at h; exact h
  | rt d M' => rw [ha] at h; exact h
  | exc c ρ' M' => rw [ha] at h; exact h
  | err => rw [ha] at h; exact h
theorem mss_one (h1 : MS Tb X W st a) : MSs Tb X W [st] a := pss_one h1
theorem ms_ret (he : ME Tb X W e m) : MS Tb X W (.Return (some e) pos) (sRet m) := by
  refine (ps_ret he).imp fun D σ H ⟨ι, M, ρ, at_, h⟩ => ?_
  obtain ⟨ι0, M0, ρ0, a0, h0⟩ := rdS_bind (Rv := RelD X.K X.mg) (m := m) at_ h
  exact ⟨ι0, M0, ρ0, a0, out.mono h0 fun v H1 ⟨ι1, M1, d, e1, at1, r1, h1⟩ => h1 ι1 v H1 (.refl _ _) at1.h r1⟩
theorem ms_retN : MS Tb X W (.Return none pos) sRetN := ps_retN.imp fun D σ H ⟨ι, M, ρ, at_, h⟩ => h ι .non H (.refl _ _) at_.h rfl
theorem ms_expr (he : ME Tb X W e m) (hs : swapsWith e none pos.line X.env = pure false := by rfl) : MS Tb X W (.Expr e pos) (sExpr m) := by
  refine (ps_expr he hs).imp fun D σ H ⟨ι, M, ρ, at_, h⟩ => ?_
  obtain ⟨ι0, M0, ρ0, a0, h0⟩ := rdS_bind (Rv := RelD X.K X.mg) (m := m) at_ h
  exact ⟨ι0, M0, ρ0, a0, out.mono h0 fun v H1 ⟨ι1, M1, d, e1, at1, r1, h1⟩ => h1 ι1 σ H1 (.refl _ _) at1⟩
theorem ms_if {c : Expr} {p q : List Stmt} {tc : T} (hc : MT Tb X W c tc) (ha : MSs Tb X W p a) (hb : MSs Tb X W q b) : MS Tb X W (.If c p q pos) (sIf tc a b) := by
  refine (ps_if hc ha hb).imp fun D σ H ⟨ι, M, ρ, at_, h⟩ => ?_
  obtain ⟨ι0, M0, ρ0, a0, h0⟩ := rdS_bind (Rv := RB) (m := tc) at_ h
  refine ⟨ι0, M0, ρ0, a0, out.mono h0 fun k H1 ⟨ι1, M1, d, e1, at1, r1, h1⟩ => ?_⟩
  obtain rfl : d = k := r1
  cases d with
  | true => exact ⟨ι1, M1, ρ, at1, h1⟩
  | false => exact ⟨ι1, M1, ρ, at1, h1⟩
theorem ms_set (i : Nat) {x : Str} {p' : Pos} (hN : X.N.Nodup) (he : ME Tb X W e m) (hi : X.N[i]? = some x := by rfl) (hx : Loc X.env.scope x := by first | exact Or.inl rfl | exact Or.inr rfl) (hs : swapsWith e (some (.Name x p')) pos.line X.env = pure false := by rfl)
    (hf : X.fn x = true ∨ X.env.scope.names.lookup x = some .local := by first | exact .inl rfl | exact .inr rfl) : MS Tb X W (.Assign [.Name x p'] e pos) (sSet i m) := by
  refine (ps_set hN hi hx he hs hf).imp fun D σ H ⟨ι, M, ρ, at_, h⟩ => ?_
  obtain ⟨ι0, M0, ρ0, a0, h0⟩ := rdS_bind (Rv := RelD X.K X.mg) (m := m) at_ h
  exact ⟨ι0, M0, ρ0, a0, out.mono h0 fun v H1 ⟨ι1, M1, d, e1, at1, r1, h1⟩ => h1 ι1 _ H1 (.refl _ _) (at1.set r1 i)⟩
/-- y = [..] on one line, y a local -/
theorem ms_setLc (i : Nat) {y : Str} {py : Pos} {elt tg iter : Expr} {ifs : List Expr} {scope : Scope} {own : List (Str × Nat)} {spos : Pos} {ws : List Nat} {sm : Sm} {g : G} {tt : T} {te : E} (hc : X.calm = true) (hN : X.N.Nodup) (hsw : swapsWith (.ListComp elt [⟨tg, iter, ifs, 0⟩] scope pos) (some (.Name y py)) spos.line X.env = pure true)
    (hi : MI Tb X W tg iter sm) (ok : BlkOk X.N X.env.scope scope own) (hsub : ∀ j ∈ ws, j ∈ own.map (·.2))
    (hg : ∀ (s : Shared) (H : Hp) (C : Addr) (cl : List (Str × Addr)) (fp : List Addr), MG (X.blk s H scope (compEnvC scope cl C X.env) fp) tg ws g)
    (ht : ∀ (s : Shared) (H : Hp) (C : Addr) (cl : List (Str × Addr)) (fp : List Addr), MTs Tb (X.blk s H scope (compEnvC scope cl C X.env) fp) W0 ifs tt)
    (he : ∀ (s : Shared) (H : Hp) (C : Addr) (cl : List (Str × Addr)) (fp : List Addr), ME Tb (X.blk s H scope (compEnvC scope cl C X.env) fp) W0 elt te) (hy : X.N[i]? = some y := by rfl) (hyl : X.env.scope.names.lookup y = some .local := by rfl)
    (hs : ∀ x, foldedSetIterable iter X.env x = pure x := by intro _; rfl) : MS Tb X W (.Assign [.Name y py] (.ListComp elt [⟨tg, iter, ifs, 0⟩] scope pos) spos) (sSet i (mLc (own.map (·.2)) sm g tt te)) := by
  refine (ps_setLc (wi := rd X.K X.mg Tb (RI X.K X.mg Tb) W sm) (g := tG X.K X.mg ws g) (tt := rd X.K X.mg Tb RB W0 tt) (te := rd X.K X.mg Tb (RelD X.K X.mg) W0 te) hc hN hy hyl hsw hi ok hg ht he hs).imp fun D σ H ⟨ι, M, ρ, at_, h⟩ => ?_
  exact lc_read hsub (let ⟨ι0, M0, ρ0, a0, h0⟩ := rdS_bind (Rv := RelD X.K X.mg) (m := mLc (own.map (·.2)) sm g tt te) at_ h
    ⟨ι0, M0, ρ0, a0, out.mono h0 fun v H1 ⟨ι1, M1, d, e1, at1, r1, h1⟩ => h1 ι1 _ H1 (.refl _ _) (at1.set r1 i)⟩)
theorem ms_par (i j : Nat) {x y : Str} {e1 e2 : Expr} {ar : A} {px py pt : Pos} {kt k2 pt2} (hc : X.calm = true) (hN : X.N.Nodup) (ha : MA Tb X W [e1, e2] ar) (hij : i ≠ j := by decide) (hi : X.N[i]? = some x := by rfl) (hj : X.N[j]? = some y := by rfl)
    (hx : X.env.scope.names.lookup x = some .local := by rfl) (hy : X.env.scope.names.lookup y = some .local := by rfl)
    (hw : swappedStores [.Tuple [.Name x px, .Name y py] kt pt] (.Tuple [e1, e2] k2 pt2) X.env = pure (some [x, y]) := by rfl)
    (hs : swapsWithSole [.Tuple [.Name x px, .Name y py] kt pt] (.Tuple [e1, e2] k2 pt2) pos.line X.env = pure false := by rfl) :
    MS Tb X W (.Assign [.Tuple [.Name x px, .Name y py] kt pt] (.Tuple [e1, e2] k2 pt2) pos) (sPar i j ar) := by
  refine (ps_par hc hN hi hj hij hx hy ha hw hs).imp fun D σ H ⟨ι, M, ρ, at_, h⟩ => ?_
  obtain ⟨ι0, M0, ρ0, a0, h0⟩ := rdS_bind (Rv := RelDs X.K X.mg) (m := ar) at_ h
  refine ⟨ι0, M0, ρ0, a0, out.mono h0 fun vs H1 ⟨ι1, M1, ds, e1, at1, r1, h1⟩ => ?_⟩
  split at h1
  · obtain ⟨v, u, rfl, q1, q2⟩ := r1.un2
    exact ⟨v, u, rfl, h1 ι1 _ H1 (.refl _ _) ((at1.set q1 i).set q2 j)⟩
  · exact h1.elim

/-! ### loops -/
def whileGo (t : T) (b : S) : Nat → Ev → MH → SRes
  | 0, _, _ => .err
  | n + 1, ρ, M => (t ρ M).toS ρ fun k M1 => if k = true then (match b ρ M1 with
      | .nx ρ2 M2 => whileGo t b n ρ2 M2
      | .ct ρ2 M2 => whileGo t b n ρ2 M2
      | .bk ρ2 M2 => .nx ρ2 M2
      | r => r) else .nx ρ M1
def FUEL : Nat := 1000000000
def sWhile (t : T) (b : S) : S := fun ρ M => whileGo t b FUEL ρ M
theorem ms_while {c : Expr} {body : List Stmt} {tc : T} (hp : PassesOwn (model X.prog X.w) X.A X.env X.xe) (hc : MT Tb X W c tc) (hb : MSs Tb X W body b) : MS Tb X W (.While c body [] pos) (sWhile tc b) := by
  refine (ps_while hp hc hb).imp fun D σ H ⟨ι0, M0, ρ0, at0, h⟩ => ?_
  refine ⟨fun n σ' H' => ∃ ι M ρ, Ext ι0 H ι H' ∧ At X.K X.mg Tb ι M ρ σ' H' ∧ outS X.K X.mg Tb W ι H' (whileGo tc b n ρ M) D, ⟨FUEL, ι0, M0, ρ0, .refl _ _, at0, h⟩, ?_⟩
  rintro n σ1 H1 ⟨ι, M, ρ, e1, at1, h1⟩
  cases n with
  | zero => exact h1.elim
  | succ n =>
    simp only [whileGo] at h1
    obtain ⟨ι2, M2, ρ2, a2, h2⟩ := rdS_bind (Rv := RB) (m := tc) at1 h1
    refine ⟨ι2, M2, ρ2, a2, out.mono h2 fun k H3 ⟨ι3, M3, d, e3, at3, r3, h3⟩ => ?_⟩
    obtain rfl : d = k := r3
    cases d with
    | false => exact h3 ι3 σ1 H3 (.refl _ _) at3
    | true =>
      refine ⟨fun σ' H' => ∃ ι M ρ, Ext ι0 H ι H' ∧ At X.K X.mg Tb ι M ρ σ' H' ∧ outS X.K X.mg Tb W ι H' (whileGo tc b n ρ M) D, fun σ' H' q => ⟨n, Nat.lt_succ_self n, q⟩, ι3, M3, ρ, at3, ?_⟩
      simp only [if_true] at h3
      cases hbr : b ρ M3 with
      | nx ρ' M' => rw [hbr] at h3; exact fun ι' σ' H' e at' => ⟨ι', M', ρ', (e1.trans e3).trans e, at', outS.ext e h3⟩
      | ct ρ' M' => rw [hbr] at h3; exact fun ι' σ' H' e at' => ⟨ι', M', ρ', (e1.trans e3).trans e, at', outS.ext e h3⟩
      | bk ρ' M' => rw [hbr] at h3; exact h3
      | rt d M' => rw [hbr] at h3; exact h3
      | exc c ρ' M' => rw [hbr] at h3; exact h3
      | err => rw [hbr] at h3; exact h3
def forGo (g : G) (b : S) (chk : List (Nat × List D)) : List D → Ev → MH → SRes
  | [], ρ, M => if chkOk chk M = true then .nx ρ M else .err
  | d :: ds, ρ, M => if chkOk chk M = true then (match g d ρ with
      | some ρ1 => (match b ρ1 M with
        | .nx ρ2 M2 => forGo g b chk ds ρ2 M2
        | .ct ρ2 M2 => forGo g b chk ds ρ2 M2
        | .bk ρ2 M2 => .nx ρ2 M2
        | r => r)
      | none => .err) else .err
def sFor (sm : Sm) (g : G) (b : S) : S := fun ρ M => (sm ρ M).toS ρ fun s M1 => forGo g b s.chk s.items ρ M1
theorem ms_for {tg iter : Expr} {body : List Stmt} {ws : List Nat} {sm : Sm} {g : G} (hp : PassesOwn (model X.prog X.w) X.A X.env X.xe) (hc : X.calm = true) (hi : MI Tb X W tg iter sm) (hg : MG X tg ws g) (hb : MSs Tb X W body b)
    (hs : ∀ x, foldedSetIterable iter X.env x = pure x := by intro _; rfl) : MS Tb X W (.For tg iter body [] pos) (sFor sm g b) := by
  refine (ps_for hp hc hi hg hb hs).imp fun D σ H ⟨ι, M, ρ, at_, h⟩ => ?_
  obtain ⟨ι0, M0, ρ0, a0, h0⟩ := rdS_bind (Rv := RI X.K X.mg Tb) (m := sm) at_ h
  refine ⟨ι0, M0, ρ0, a0, out.mono h0 fun J H1 ⟨ι1, M1, s, e1, at1, itok, h1⟩ => ?_⟩
  refine ⟨fun i m σ H => m = s.items.length - i ∧ i ≤ s.items.length ∧ ∃ ι M ρ, Ext ι1 H1 ι H ∧ At X.K X.mg Tb ι M ρ σ H ∧ outS X.K X.mg Tb W ι H (forGo g b s.chk (s.items.drop i) ρ M) D,
    ⟨s.items.length, by simp, Nat.zero_le _, ι1, M1, ρ, .refl _ _, at1, by simpa using h1⟩, ?_⟩
  rintro i m σ2 H2 ⟨rfl, hi, ι2, M2, ρ2, e2, at2, h2⟩
  have chkT : chkOk s.chk M2 = true := by
    cases hc : chkOk s.chk M2 with
    | true => rfl
    | false =>
      exfalso
      cases hd : s.items.drop i with
      | nil => rw [hd] at h2; simp only [forGo, hc, Bool.false_eq_true, if_false] at h2; exact h2
      | cons d ds => rw [hd] at h2; simp only [forGo, hc, Bool.false_eq_true, if_false] at h2; exact h2
  have it := itok i ι2 H2 M2 e2 at2.h chkT hi
  by_cases hlt : i < s.items.length
  · have hget : s.items[i]? = some s.items[i] := List.getElem?_eq_getElem hlt
    rw [hget] at it
    rw [List.drop_eq_getElem_cons hlt] at h2
    simp only [forGo, chkT, if_true] at h2
    generalize s.items[i] = d at it h2
    obtain ⟨go, yld⟩ := it
    refine .inr ⟨go, fun σ' H' => ∃ ι M ρ, Ext ι1 H1 ι H' ∧ At X.K X.mg Tb ι M ρ σ' H' ∧ outS X.K X.mg Tb W ι H' (forGo g b s.chk (s.items.drop (i + 1)) ρ M) D,
      fun σ' H' q => ⟨s.items.length - (i + 1), by omega, rfl, hlt, q⟩, fun x H' y => ?_⟩
    obtain ⟨e3, r3, rx⟩ := yld x H' y
    cases hg : g d ρ2 with
    | none => rw [hg] at h2; exact h2.elim
    | some ρ1 =>
      rw [hg] at h2
      dsimp only at h2
      have h2 := outS.ext e3 h2
      refine ⟨ι2, d, ρ2, ρ1, (at2.ext e3 r3).rs, rx, hg, fun σ3 hl3 hk3 rs3 => ⟨ι2, M2, ρ1, rs3.at r3, ?_⟩⟩
      cases hbr : b ρ1 M2 with
      | nx ρ' M' => rw [hbr] at h2; exact fun ι' σ' H' e at' => ⟨ι', M', ρ', (e2.trans e3).trans e, at', outS.ext e h2⟩
      | ct ρ' M' => rw [hbr] at h2; exact fun ι' σ' H' e at' => ⟨ι', M', ρ', (e2.trans e3).trans e, at', outS.ext e h2⟩
      | bk ρ' M' => rw [hbr] at h2; exact h2
      | rt d M' => rw [hbr] at h2; exact h2
      | exc c ρ' M' => rw [hbr] at h2; exact h2
      | err => rw [hbr] at h2; exact h2
  · have hget : s.items[i]? = none := List.getElem?_eq_none_iff.mpr (by omega)
    rw [hget] at it
    refine .inl ⟨it, ?_⟩
    rw [List.drop_eq_nil_of_le (by omega)] at h2
    simp only [forGo, chkT, if_true] at h2
    exact h2 ι2 σ2 H2 (.refl _ _) at2
end
end Mp
namespace Mp
open PySem PySem.Spec PyProof.Rows L2

/-! ### targets of any kind -/
abbrev U := D → Ev → MH → Option (Ev × MH)
abbrev Us := List D → Ev → MH → Option (Ev × MH)
def tU (K : PySem.W.Frag) (mg : Str → Option Value) (Tb : List (Addr × Str)) (u : U) : TG := fun v σ H Q => ∃ ι M ρ d ρ' M', At K mg Tb ι M ρ σ H ∧ RelD K mg ι H d v ∧ u d ρ M = some (ρ', M') ∧ ∀ ι' σ' H', Ext ι H ι' H' → At K mg Tb ι' M' ρ' σ' H' → Q σ' H'
def tUs (K : PySem.W.Frag) (mg : Str → Option Value) (Tb : List (Addr × Str)) (u : Us) : TGs := fun vs σ H Q => ∃ ι M ρ ds ρ' M', At K mg Tb ι M ρ σ H ∧ RelDs K mg ι H ds vs ∧ u ds ρ M = some (ρ', M') ∧ ∀ ι' σ' H', Ext ι H ι' H' → At K mg Tb ι' M' ρ' σ' H' → Q σ' H'
def MU (Tb : List (Addr × Str)) (X : Cx) (e : Expr) (u : U) : Prop := PG X e (tU X.K X.mg Tb u)
def MUs (Tb : List (Addr × Str)) (X : Cx) (es : List Expr) (u : Us) : Prop := PGs X es (tUs X.K X.mg Tb u)
def uN (i : Nat) : U := fun d ρ M => some (ρ.set i (some d), M)
def uNil : Us := fun ds ρ M => match ds with | [] => some (ρ, M) | _ => none
def uCons (u : U) (us : Us) : Us := fun ds ρ M => match ds with | d :: ds => (u d ρ M).bind fun p => us ds p.1 p.2 | [] => none
def uT (n : Nat) (us : Us) : U := fun d ρ M => match d with | .tup ds => if ds.length = n then us ds ρ M else none | _ => none
def okOf {α : Type} : Res α → Option (α × MH)
  | .ok a M => some (a, M)
  | _ => none
def fSetL : D → D → D → MH → Option MH
  | .ref n, .int k, d, M => match M[n]? with
    | some (.lst l) => (match ixN l.length k with | some j => some (M.set n (.lst (l.set j d))) | none => none)
    | _ => none
  | _, _, _, _ => none
def uSub (o i : E) : U := fun d ρ M => (okOf (o ρ M)).bind fun p => (okOf (i ρ p.2)).bind fun q => (fSetL p.1 q.1 d q.2).map fun M' => (ρ, M')
section
variable {Tb : List (Addr × Str)} {X : Cx} {W : WX} {pos : Pos}
theorem mu_name (i : Nat) {x : Str} (hN : X.N.Nodup) (hi : X.N[i]? = some x := by rfl) (hx : Loc X.env.scope x := by first | exact Or.inl rfl | exact Or.inr rfl) (hf : X.fn x = true ∨ X.env.scope.names.lookup x = some .local := by first | exact .inl rfl | exact .inr rfl) : MU Tb X (.Name x pos) (uN i) := by
  refine (pg_name hN hi hx hf).imp fun v σ H Q ⟨ι, M, ρ, d, ρ', M', at_, rd, e, h⟩ => ?_
  cases e
  exact h ι _ H (.refl _ _) (at_.set rd i)
theorem mus_nil : MUs Tb X [] uNil := by
  refine pgs_nil.imp fun vs σ H Q ⟨ι, M, ρ, ds, ρ', M', at_, rd, e, h⟩ => ?_
  cases ds with
  | nil =>
    cases e
    obtain rfl : vs = [] := rd
    exact ⟨rfl, h ι σ H (.refl _ _) at_⟩
  | cons _ _ => cases e
theorem mus_cons {e : Expr} {es : List Expr} {u : U} {us : Us} (h1 : MU Tb X e u) (h2 : MUs Tb X es us) (hs : (assignEach (e :: es) X.env).map (·.2) = assign e X.env :: (assignEach es X.env).map (·.2) := by rfl) : MUs Tb X (e :: es) (uCons u us) := by
  refine (pgs_cons h1 h2 hs).imp fun vs σ H Q ⟨ι, M, ρ, ds, ρ', M', at_, rd, e, h⟩ => ?_
  cases ds with
  | nil => cases e
  | cons d ds =>
    obtain ⟨v, vr, rfl, r1, r2⟩ := rd
    obtain ⟨⟨ρ1, M1⟩, e1, e2⟩ := Option.bind_eq_some_iff.mp e
    exact ⟨v, vr, rfl, ι, M, ρ, d, ρ1, M1, at_, r1, e1, fun ι1 σ1 H1 x1 at1 => ⟨ι1, M1, ρ1, ds, ρ', M', at1, RelDs.ext x1 _ _ r2, e2, fun ι2 σ2 H2 x2 at2 => h ι2 σ2 H2 (x1.trans x2) at2⟩⟩
theorem mu_tup {es : List Expr} {k : Nat} {us : Us} {n : Nat} (hc : X.calm = true) (h : MUs Tb X es us) (hn : (assignEach es X.env).length = n := by rfl) (hst : (assignEach es X.env).findIdx? (·.1) = none := by rfl) : MU Tb X (.Tuple es k pos) (uT n us) := by
  refine (pg_tup hc h hn hst).imp fun v σ H Q ⟨ι, M, ρ, d, ρ', M', at_, rd, e, h⟩ => ?_
  cases d with
  | tup ds =>
    simp only [uT] at e
    split at e
    · rename_i hl
      obtain ⟨a, xs, rfl, hs, hr⟩ := rd
      exact ⟨a, xs, rfl, hs, by rw [hr.length]; exact hl, ι, M, ρ, ds, ρ', M', at_, hr, e, h⟩
    · cases e
  | _ => cases e
theorem okOf_eq {α : Type} {r : Res α} {a : α} {M : MH} (h : okOf r = some (a, M)) : r = .ok a M := by
  cases r with
  | ok x M1 => cases h; rfl
  | exc c M1 => cases h
  | err => cases h
theorem mu_sub {o i : Expr} {mo mi : E} (ho : ME Tb X W o mo) (hi : ME Tb X W i mi) (ha : ∀ v, assign (.Subscript o i pos) X.env v = (do
      let ov ← holding [v] (eval o X.env)
      let iv ← holding [v, ov] (eval i X.env)
      standAt pos
      holding [v, ov, iv] (setItem ov iv v)
      release [v, ov, iv] []) := by intro _; rfl) : MU Tb X (.Subscript o i pos) (uSub mo mi) := by
  refine (pg_sub ho hi set_list ha).imp fun v σ H Q ⟨ι, M, ρ, d, ρ', M', at_, rd, e, h⟩ => ?_
  obtain ⟨⟨od, M1⟩, e1, e⟩ := Option.bind_eq_some_iff.mp e
  obtain ⟨⟨idx, M2⟩, e2, e⟩ := Option.bind_eq_some_iff.mp e
  obtain ⟨M3, e3, e⟩ := Option.map_eq_some_iff.mp e
  cases e
  have e1 := okOf_eq e1
  have e2 := okOf_eq e2
  refine ⟨ι, M, ρ, at_, ?_⟩
  rw [e1]
  intro ι1 ov H1 x1 r1 rov
  refine ⟨ι1, M1, ρ, at_.ext x1 r1, ?_⟩
  dsimp only at e2
  rw [e2]
  intro ι2 iv H2 x2 r2 riv
  dsimp only at e3
  unfold fSetL at e3
  split at e3
  · rename_i n k _ _ _
    split at e3
    · rename_i l hl
      split at e3
      · rename_i j hj
        cases e3
        obtain rfl : iv = .int k := riv
        obtain ⟨a, vs, hna, rfl, h1, h2⟩ := r2.lst (RelD.ext x2 _ _ rov) hl
        have rd' := RelD.ext (x1.trans x2) _ _ rd
        obtain ⟨x3, r3⟩ := r2.write hna hl (RelDs.set rd' j h2)
        refine ⟨a, vs, k, j, rfl, rfl, h1, by rw [h2.length]; exact hj, ?_⟩
        exact h ι2 σ _ ((x1.trans x2).trans x3) ((at_.ext (x1.trans x2) r2).ext x3 r3)
      · cases e3
    · cases e3
  · cases e3
/-- target = value -/
def sAsg (u : U) (m : E) : S := fun ρ M => (m ρ M).toS ρ fun d M1 => match u d ρ M1 with | some p => .nx p.1 p.2 | none => .err
theorem ms_asg {tg e : Expr} {m : E} {u : U} (he : ME Tb X W e m) (hg : MU Tb X tg u) (hs : swapsWithSole [tg] e pos.line X.env = pure false := by rfl) (hw : swappedStores [tg] e X.env = pure none := by rfl)
    (h1 : (assignEach [tg] X.env).map (·.2) = [assign tg X.env] := by rfl) : MS Tb X W (.Assign [tg] e pos) (sAsg u m) := by
  refine (ps_asg he hg hs hw h1).imp fun D σ H ⟨ι, M, ρ, at_, h⟩ => ?_
  obtain ⟨ι0, M0, ρ0, a0, h0⟩ := rdS_bind (Rv := RelD X.K X.mg) (m := m) at_ h
  refine ⟨ι0, M0, ρ0, a0, out.mono h0 fun v H1 ⟨ι1, M1, d, e1, at1, r1, h1⟩ => ?_⟩
  split at h1
  · rename_i p hp
    exact ⟨ι1, M1, ρ, d, p.1, p.2, at1, r1, hp, fun ι2 σ2 H2 x2 at2 => h1 ι2 σ2 H2 x2 at2⟩
  · exact h1.elim

/-! ### name op= e, o[i] op= e -/
def IpOk (K : PySem.W.Frag) (mg : Str → Option Value) (Tb : List (Addr × Str)) (f : D → D → MH → Res D) (r : TIp) : Prop :=
  ∀ (W : WX) (σ : St) (ι : List Addr) (H : Hp) (M : MH) (d e : D) (x y : V) (Q : VK), RelH K mg Tb ι H M → RelD K mg ι H d x → RelD K mg ι H e y → out K mg Tb (RelD K mg) W σ ι H (f d e M) Q → r x y H Q
def fInt2 (p : Int → Int → Int) : D → D → MH → Res D
  | .int i, .int j, M => .ok (.int (p i j)) M
  | _, _, _ => .err
theorem ipIntOk (p : Int → Int → Int) : IpOk X.K X.mg Tb (fInt2 p) (ipI p) := by
  intro W σ ι H M d e x y Q r rx ry h
  unfold fInt2 at h
  split at h
  · obtain rfl := rx; obtain rfl := ry
    exact ⟨_, _, rfl, rfl, out.done h r rfl⟩
  · exact h.elim
def sAug (i : Nat) (f : D → D → MH → Res D) (m : E) : S := fun ρ M => match ρ[i]? with
  | some (some d) => (m ρ M).toS ρ fun e M1 => (f d e M1).toS ρ fun z M2 => .nx (ρ.set i (some z)) M2
  | _ => .err
theorem outS_bind {K : PySem.W.Frag} {mg : Str → Option Value} {α β : Type} {Rv : List Addr → Hp → α → β → Prop} {σ : St} {ι : List Addr} {H : Hp} {M : MH} {ρ : Ev} {Dn : Ends} {r : Res α} {k : α → MH → SRes} (a : At K mg Tb ι M ρ σ H) (h : outS K mg Tb W ι H (r.toS ρ k) Dn) :
    out K mg Tb Rv W σ ι H r (fun v H1 => ∃ ι1 M1 x, Ext ι H ι1 H1 ∧ At K mg Tb ι1 M1 ρ σ H1 ∧ Rv ι1 H1 x v ∧ outS K mg Tb W ι1 H1 (k x M1) Dn) := by
  cases r with
  | ok x M1 => exact fun ι' v H' e r rv => ⟨ι', M1, x, e, a.ext e r, rv, outS.ext e h⟩
  | exc c M1 => exact fun ι' H' cls dd e r hc => h ι' σ H' cls dd e (a.ext e r) hc
  | err => exact h
theorem ms_aug (i : Nat) {x : Str} {e : Expr} {m : E} {op : Operator} {f : D → D → MH → Res D} {ti : TIp} {p' : Pos} (hN : X.N.Nodup) (ho : PIp X op ti) (ok : IpOk X.K X.mg Tb f ti) (he : ME Tb X W e m) (hi : X.N[i]? = some x := by rfl) (hx : Loc X.env.scope x := by first | exact Or.inl rfl | exact Or.inr rfl)
    (hf : X.fn x = true ∨ X.env.scope.names.lookup x = some .local := by first | exact .inl rfl | exact .inr rfl) : MS Tb X W (.AugAssign (.Name x p') op e pos) (sAug i f m) := by
  refine (ps_aug hN hi hx he ho hf).imp fun D σ H ⟨ι, M, ρ, at_, h⟩ => ?_
  unfold sAug at h
  split at h
  · rename_i d hd
    obtain ⟨v, h1, h2⟩ := at_.s i d hd
    obtain ⟨ι0, M0, ρ0, a0, h0⟩ := rdS_bind (Rv := RelD X.K X.mg) (m := m) at_ h
    refine ⟨v, h1, ι0, M0, ρ0, a0, out.mono h0 fun w H1 ⟨ι1, M1, d2, e1, at1, r1, h3⟩ => ?_⟩
    refine ok W σ ι1 H1 M1 d d2 v w _ at1.h (RelD.ext e1 _ _ h2) r1 (out.mono (outS_bind (Rv := RelD X.K X.mg) at1 h3) fun z H2 ⟨ι2, M2, d3, e2, at2, r2, h4⟩ => h4 ι2 _ H2 (.refl _ _) (at2.set r2 i))
  · exact h.elim
def rGetL (K : PySem.W.Frag) : V → V → Hp → VK → Prop := fun o i H Q => ∃ p xs k v, o = .ref p ∧ i = .int k ∧ SqL K H p xs ∧ atI xs k = some v ∧ Q v H
def sAugS (o i : E) (f : D → D → MH → Res D) (m : E) : S := fun ρ M => (o ρ M).toS ρ fun od M1 => (i ρ M1).toS ρ fun idx M2 => match lstOf M2 od with
  | some _ => (fIx od idx M2).toS ρ fun old M3 => (m ρ M3).toS ρ fun e M4 => (f old e M4).toS ρ fun z M5 => match fSetL od idx z M5 with
    | some M6 => .nx ρ M6
    | none => .err
  | none => .err
theorem get_list : PGet X (rGetL X.K) := by
  intro pins s σ H o i ov iv Q I ro ri h
  obtain ⟨p, xs, k, v, rfl, rfl, hq, he, q⟩ := h
  obtain rfl : ov = Value.ref p := ro
  obtain ⟨t, rfl⟩ := ri
  obtain ⟨its, r, pl, hz⟩ := I.list hq
  obtain ⟨j, h1, h2, h3, h4, h5⟩ := atI_get he
  obtain ⟨w, ew, rw'⟩ := r.get h2
  have hl := r.length
  have hn := line63
  have fin : EP X pins σ Q w s := ⟨v, H, I, rw', q⟩
  by_cases h0 : 0 ≤ k
  · have hj : k.toNat = j := by
      rw [seqIndex_of h0 h5] at h1
      exact Option.some.inj h1
    exact wpAny_getItem_list pl.isList h0 (by omega) (by rw [hj]; simpa using ew) fin
  · have hj : (k + (its.toArray.size : Int)).toNat = j := by
      rw [seqIndex_neg (by omega) h4] at h1
      rw [List.size_toArray, ← hl]
      exact Option.some.inj h1
    exact wpAny_getItem_list_neg pl.isList (by omega) (by rw [List.size_toArray] <;> omega) (by omega) (by rw [hj]; simpa using ew) fin
theorem ms_augS {o i e : Expr} {mo mi m : E} {op : Operator} {f : D → D → MH → Res D} {ti : TIp} {tpos : Pos} (hp : PIp X op ti) (ok : IpOk X.K X.mg Tb f ti) (ho : ME Tb X W o mo) (hi : ME Tb X W i mi) (he : ME Tb X W e m)
    (ha : ∀ ov iv new, augStore i ov iv new = (do holding [new, ov, iv] (setItem ov iv new); release [new, ov, iv] []; pure .next) := by intros; rfl) : MS Tb X W (.AugAssign (.Subscript o i tpos) op e pos) (sAugS mo mi f m) := by
  refine (ps_augS ho hi get_list he hp set_list ha).imp fun D σ H ⟨ι, M, ρ, at_, h⟩ => ?_
  obtain ⟨ι0, M0, ρ0, a0, h0⟩ := rdS_bind (Rv := RelD X.K X.mg) (m := mo) at_ h
  refine ⟨ι0, M0, ρ0, a0, out.mono h0 fun ov H1 ⟨ι1, M1, od, e1, at1, r1, h1⟩ => ?_⟩
  obtain ⟨ι2, M2, ρ2, a2, h2⟩ := rdS_bind (Rv := RelD X.K X.mg) (m := mi) at1 h1
  refine ⟨ι2, M2, ρ2, a2, out.mono h2 fun iv H2 ⟨ι3, M3, idx, e3, at3, r3, h3⟩ => ?_⟩
  have r1' := RelD.ext e3 _ _ r1
  split at h3
  rotate_left
  · exact h3.elim
  rename_i l hl
  obtain ⟨a, vs, rfl, hs, hr⟩ := lst_seq at3.h r1' hl
  -- the item
  have hfx : ∀ h : outS X.K X.mg Tb W ι3 H2 ((fIx od idx M3).toS ρ fun old M3 => (m ρ M3).toS ρ fun e M4 => (f old e M4).toS ρ fun z M5 => match fSetL od idx z M5 with
    | some M6 => SRes.nx ρ M6
    | none => .err) D, ∃ k x, idx = .int k ∧ atI l k = some x ∧ fIx od idx M3 = .ok x M3 := fun h => by
    have hit : itemsOf M3 od = some l := by
      cases od with
      | ro l' => exact hl
      | ref n => exact hl
      | _ => cases hl
    cases idx with
    | int k =>
      have e : fIx od (.int k) M3 = match itemsOf M3 od with | some l => (match atI l k with | some x => Res.ok x M3 | none => .err) | none => .err := by
        cases od <;> first | rfl | (cases hl; done)
      rw [e, hit] at h
      cases hx : atI l k with
      | none => simp only [hx] at h; exact h.elim
      | some x => exact ⟨k, x, rfl, hx, by rw [e, hit]; simp only [hx]⟩
    | _ => cases od <;> exact h.elim
  obtain ⟨k, x, rfl, hx, ex⟩ := hfx h3
  rw [ex] at h3
  simp only [Res.toS_ok] at h3
  obtain rfl : iv = .int k := r3
  obtain ⟨xv, g1, g2⟩ := hr.atI hx
  refine ⟨a, vs, k, xv, rfl, rfl, hs, g1, ?_⟩
  obtain ⟨ι4, M4, ρ4, a4, h4⟩ := rdS_bind (Rv := RelD X.K X.mg) (m := m) at3 h3
  refine ⟨ι4, M4, ρ4, a4, out.mono h4 fun ev H4 ⟨ι5, M5, ed, e5, at5, r5, h5⟩ => ?_⟩
  refine ok W σ ι5 H4 M5 x ed xv ev _ at5.h (RelD.ext e5 _ _ g2) r5 (out.mono (outS_bind (Rv := RelD X.K X.mg) at5 h5) fun zv H5 ⟨ι6, M6, zd, e6, at6, r6, h6⟩ => ?_)
  split at h6
  · rename_i M7 hset
    cases od with
    | ref n =>
      simp only [fSetL] at hset
      split at hset
      · rename_i l2 hl2
        split at hset
        · rename_i j hj
          cases hset
          obtain ⟨a', vs', hna, ea, q1, q2⟩ := at6.h.lst (RelD.ext (e5.trans e6) _ _ r1') hl2
          obtain rfl : a = a' := by cases ea; rfl
          obtain ⟨x3, r7⟩ := at6.h.write hna hl2 (RelDs.set r6 j q2)
          exact ⟨a, vs', k, j, rfl, rfl, q1, by rw [q2.length]; exact hj, h6 ι6 σ _ x3 (at6.ext x3 r7)⟩
        · cases hset
      · cases hset
    | _ => cases hset
  · exact h6.elim
end
end Mp
namespace Mp
open PySem PySem.Spec PyProof.Rows L2

/-! ### what a call leaves behind is forgotten where nothing points to it -/
mutual
def D.lim (n : Nat) : D → Bool
  | .tup l => D.lims n l
  | .ro l => D.lims n l
  | .ref m => decide (m < n)
  | _ => true
def D.lims (n : Nat) : List D → Bool
  | [] => true
  | d :: ds => D.lim n d && D.lims n ds
end
def MO.lim (n : Nat) : MO → Bool
  | .lst l => D.lims n l
def gcOk (n : Nat) : MH → MH → Bool
  | [], _ => true
  | o :: os, o' :: os' => (decide (o = o') || o'.lim n) && gcOk n os os'
  | _ :: _, [] => false
def gcRet (M : MH) (d : D) (M' : MH) : Res D := if (d.lim M.length && gcOk M.length M M') = true then .ok d (M'.take M.length) else .ok d M'
def gcExc (M : MH) (c : Str) (M' : MH) : Res D := if gcOk M.length M M' = true then .exc c (M'.take M.length) else .exc c M'
/-- a def's body, np parameters, N names -/
def runBody (np N : Nat) (m : S) : List D → MH → Res D := fun ds M => if ds.length = np then (match m (ds.map some ++ List.replicate (N - np) none) M with
    | .rt d M' => gcRet M d M'
    | .nx _ M' => gcRet M .non M'
    | .exc c _ M' => gcExc M c M'
    | _ => .err) else .err
section
variable {K : PySem.W.Frag} {mg : Str → Option Value} {Tb : List (Addr × Str)} {ι ι' : List Addr} {H H' : Hp} {M M' : MH}
mutual
theorem RelD.bel : ∀ (d : D) (v : V), RelD K mg ι H d v → d.lim ι.length = true
  | .non, v, h => rfl
  | .bl b, v, h => rfl
  | .int i, v, h => rfl
  | .str s, v, h => rfl
  | .tup ds, v, h => by obtain ⟨a, vs, _, _, h3⟩ := h; exact RelDs.bel ds vs h3
  | .ro ds, v, h => by obtain ⟨a, vs, _, _, h3⟩ := h; exact RelDs.bel ds vs h3
  | .ref n, v, h => by
    obtain ⟨a, h1, _⟩ := h
    exact decide_eq_true (List.getElem?_eq_some_iff.mp h1).1
  | .fn x, v, h => rfl
theorem RelDs.bel : ∀ (ds : List D) (vs : List V), RelDs K mg ι H ds vs → D.lims ι.length ds = true
  | [], vs, h => rfl
  | d :: ds, vs, h => by
    obtain ⟨v, vr, rfl, h2, h3⟩ := h
    simp only [D.lims, Bool.and_eq_true]
    exact ⟨RelD.bel d v h2, RelDs.bel ds vr h3⟩
end
theorem pre_back {n : Nat} {a : Addr} (p : ι <+: ι') (hn : n < ι.length) (h : ι'[n]? = some a) : ι[n]? = some a := by
  obtain ⟨t, rfl⟩ := p
  rw [List.getElem?_append_left hn] at h; exact h
mutual
theorem RelD.back (p : ι <+: ι') : ∀ (d : D) (v : V), RelD K mg ι' H d v → d.lim ι.length = true → RelD K mg ι H d v
  | .non, v, h, _ => h
  | .bl b, v, h, _ => h
  | .int i, v, h, _ => h
  | .str s, v, h, _ => h
  | .tup ds, v, h, b => by obtain ⟨a, vs, h1, h2, h3⟩ := h; exact ⟨a, vs, h1, h2, RelDs.back p ds vs h3 b⟩
  | .ro ds, v, h, b => by obtain ⟨a, vs, h1, h2, h3⟩ := h; exact ⟨a, vs, h1, h2, RelDs.back p ds vs h3 b⟩
  | .ref n, v, h, b => by
    obtain ⟨a, h1, h2⟩ := h
    exact ⟨a, pre_back p (of_decide_eq_true b) h1, h2⟩
  | .fn x, v, h, _ => h
theorem RelDs.back (p : ι <+: ι') : ∀ (ds : List D) (vs : List V), RelDs K mg ι' H ds vs → D.lims ι.length ds = true → RelDs K mg ι H ds vs
  | [], vs, h, _ => h
  | d :: ds, vs, h, b => by
    obtain ⟨v, vr, rfl, h2, h3⟩ := h
    simp only [D.lims, Bool.and_eq_true] at b
    exact ⟨v, vr, rfl, RelD.back p d v h2 b.1, RelDs.back p ds vr h3 b.2⟩
end
theorem gcOk_at {n : Nat} : ∀ {os os' : MH} {i : Nat} {o o' : MO}, gcOk n os os' = true → os[i]? = some o → os'[i]? = some o' → o = o' ∨ o'.lim n = true
  | [], _, _, _, _, _, h, _ => by simp at h
  | o :: os, [], _, _, _, h, _, _ => by simp [gcOk] at h
  | o :: os, o' :: os', 0, _, _, h, h1, h2 => by
    simp at h1 h2
    subst h1 h2
    simp only [gcOk, Bool.and_eq_true, Bool.or_eq_true, decide_eq_true_eq] at h
    exact h.1
  | o :: os, o' :: os', i + 1, _, _, h, h1, h2 => by
    simp only [gcOk, Bool.and_eq_true] at h
    exact gcOk_at (i := i) h.2 (by simpa using h1) (by simpa using h2)
theorem Ext.cut (e : Ext ι H ι' H') : Ext ι H ι H' := ⟨List.prefix_refl _, fun _ _ h h' => absurd h h', e.keep, e.fix⟩
theorem RelH.cut (r : RelH K mg Tb ι H M) (e : Ext ι H ι' H') (r' : RelH K mg Tb ι' H' M') (g : gcOk M.length M M' = true) : RelH K mg Tb ι H' (M'.take M.length) := by
  have hlen : M.length ≤ M'.length := by rw [← r.len, ← r'.len]; exact e.pre.length_le
  refine ⟨by rw [List.length_take, r.len]; omega, r.nd, fun i a mo h1 h2 => ?_, r'.tab⟩
  have hi : i < M.length := by rw [← r.len]; exact (List.getElem?_eq_some_iff.mp h1).1
  rw [List.getElem?_take_of_lt hi] at h2
  have q := r'.ob i a mo (pre_get e.pre h1) h2
  have hM : M[i]? = some M[i] := List.getElem?_eq_getElem hi
  have q0 := r.ob i a _ h1 hM
  have hb : mo.lim ι.length = true := by
    rcases gcOk_at g hM h2 with z | z
    · rw [z] at q0
      cases mo with
      | lst l => obtain ⟨vs, _, z2⟩ := q0; exact RelDs.bel l vs z2
    · rw [r.len]; exact z
  cases mo with
  | lst l =>
    obtain ⟨vs, q1, q2⟩ := q
    exact ⟨vs, q1, RelDs.back e.pre l vs q2 hb⟩
theorem out_gcRet {W : WX} {σ : St} {d : D} {Q : VK} (r : RelH K mg Tb ι H M) (h : out K mg Tb (RelD K mg) W σ ι H (gcRet M d M') Q) : ∀ ι' v H', Ext ι H ι' H' → RelH K mg Tb ι' H' M' → RelD K mg ι' H' d v → Q v H' := by
  intro ι' v H' e r' rv
  unfold gcRet at h
  split at h
  · rename_i hc
    rw [Bool.and_eq_true] at hc
    exact h ι v H' e.cut (r.cut e r' hc.2) (RelD.back e.pre d v rv (by rw [r.len]; exact hc.1))
  · exact h ι' v H' e r' rv
theorem out_gcExc {W : WX} {σ : St} {c : Str} {Q : VK} (r : RelH K mg Tb ι H M) (h : out K mg Tb (RelD K mg) W σ ι H (gcExc M c M') Q) : ∀ ι' H' cls dd, Ext ι H ι' H' → RelH K mg Tb ι' H' M' → ClsOf mg c cls → W cls dd σ H' := by
  intro ι' H' cls dd e r' hc
  unfold gcExc at h
  split at h
  · rename_i hg
    exact h ι H' cls dd e.cut (r.cut e r' hg) hc
  · exact h ι' H' cls dd e r' hc
end

/-! ### a def does what its body says -/
section
variable {P : Program} {w : World} {K : PySem.W.Frag} {mg : Str → Option Value} {base : Heap} {Tb : List (Addr × Str)}
theorem start_rel {ι : List Addr} {H : Hp} {ds : List D} {vs : List V} (h : RelDs K mg ι H ds vs) (N : List Str) {np : Nat} (hn : ds.length = np) : RelS K mg ι H (ds.map some ++ List.replicate (N.length - np) none) (L2.start N vs) := by
  have hl := h.length
  refine ⟨by simp [L2.start, hl, hn], fun i d q => ?_⟩
  rcases Nat.lt_or_ge i ds.length with hi | hi
  · rw [List.getElem?_append_left (by simpa using hi), List.getElem?_map] at q
    cases e : ds[i]? with
    | none => rw [e] at q; cases q
    | some d' =>
      rw [e] at q
      cases q
      obtain ⟨v, h1, h2⟩ := h.get e
      refine ⟨v, ?_, h2⟩
      unfold L2.start
      rw [List.getElem?_append_left (by simp [hl]; exact hi), List.getElem?_map, h1] <;> rfl
  · rw [List.getElem?_append_right (by simpa using hi), List.getElem?_replicate] at q
    split at q <;> cases q
theorem fnI_of {gd : Bool} {x : Str} {st : Stmt} {f : Addr} {fd : FuncData} {N ps : List Str} {k : Nat} {m : S} (F : L2.Fun K x x st f fd) (hm : mg x = some (.ref f)) (hb : L2.Binds K fd ps []) (S : FnScope N ps (defScope st))
    (hbody : ∀ (cdv : Value) (A : Around) (outer : List Env) (s : Shared) (H : Hp) (E : XK), Room k (A.deeper (envOfC x (defScope st) s.heap.objs.size f cdv)) → (gd = true → A.guards = some []) →
      MSs Tb (cxOf (L2.CX P w) P w K mg base N x (defScope st) f cdv A outer s H E) (fun cls d _ H' => E cls d H') (defBody st) m) :
    FnI P w K mg base Tb gd x (k + 1) ps.length (runBody ps.length N.length m) := by
  obtain ⟨oc, od, kV, doc, pm, an, cdv, ct, osl, rfl, lk, hcd⟩ := F.ex
  refine ⟨f, hm, F.kp, fun A outer s H us vs Q E hr hg e0 r sp => ?_⟩
  obtain ⟨ι, M, ds, rh, rd, hl, h⟩ := sp
  have hvl : vs.length = ps.length := by rw [rd.length, hl]
  have hul : us.length = ps.length := by rw [← r.length, hvl]
  have KX : K.In s.heap := e0.mod.kin.keeps fun b o e => (e0.bs b o e).1
  have bt := hb s us KX (by simpa using hul)
  rw [List.append_nil] at bt
  refine LamX.run_ofS lk hcd S hr e0 bt r hvl fun hr' => ⟨_, hbody cdv A outer s H E hr' hg, ι, M, _, (start_rel rd N hl).at rh, ?_⟩
  simp only [runBody, if_pos hl] at h
  cases hb : m (ds.map some ++ List.replicate (N.length - ps.length) none) M with
  | nx ρ' M' => rw [hb] at h; exact fun ι' σ' H' e at' => out_gcRet rh h ι' .non H' e at'.h rfl
  | rt d M' => rw [hb] at h; exact out_gcRet rh h
  | exc c ρ' M' => rw [hb] at h; exact fun ι' σ' H' cls dd e at' hc => out_gcExc rh h ι' H' cls dd e at'.h hc
  | bk ρ' M' => rw [hb] at h; exact h.elim
  | ct ρ' M' => rw [hb] at h; exact h.elim
  | err => rw [hb] at h; exact h.elim
end

/-! ### raise X() -/
section
variable {Tb : List (Addr × Str)} {X : Cx} {W : WX}
theorem pmk_own0 {C : Addr} {bmB : List Value} {B newId initId : String} {x : Str} {p pos : Pos} (F : ExcBaseFacts B newId initId bmB) (q : PySem.W.excIn X.K C bmB newId = true) (gC : X.mg x = some (.ref C)) (kC : PySem.W.keepIn X.K (.ref C) = true) (r : Raises X (.ref C)) (hg : Gl X x)
    (hdb : (x == ("__debug__" : Str)) = false := by decide) : PMk X (.Call (.Name x p) [] [] pos) (fun _ H Q => Q (.ref C) none H) := by
  intro pins s σ H Q I h
  refine wpAny_Call_Name_kw (ld_glob I hg gC (PySem.W.callWith_K0 I.kIn kC ?_) hdb)
  obtain ⟨bm, N, nm, qn, bs, hdct, sn, sub, ab, col, dd, k0, k1, k2, k3, k5, mN, hC, hN, hni, T⟩ := exc_obj I.kIn q
  exact wpAny_call_exc_subT F T hC hN hni (fun h' e hm => mk_of I hm r h (I.hok.gone hm.new)) (by show 0 ≤ sizeLine; exact Nat.zero_le _)
def sRaise (c : Str) : S := fun ρ M => .exc c ρ M
/-- the exception class at x, made without arguments -/
structure ExcOwn (K : PySem.W.Frag) (mg : Str → Option Value) (x : Str) : Prop where
  ex : ∃ C, mg x = some (.ref C) ∧ PySem.W.excIn K C [.type "ValueError", .type "Exception", .type "BaseException", .type "object"] "ValueError.__new__" = true ∧ PySem.W.keepIn K (.ref C) = true ∧
    PySem.W.subIn K (.ref C) (.type "BaseException") = some true ∧ PySem.W.typeIn K (.ref C) = some (.type "type") ∧ PySem.W.exmOne K (.ref C) (.ref C) = some true
theorem ms_raise {x : Str} {p pos pos' : Pos} (hc : X.calm = true) (tk : Takes X W) (ex : ExcOwn X.K X.mg x) (hg : Gl X x := by rfl) (hdb : (x == ("__debug__" : Str)) = false := by decide) : MS Tb X W (.Raise (some (.Call (.Name x p) [] [] pos')) none pos) (sRaise x) := by
  obtain ⟨C, gC, xP, kP, bP, tP, _⟩ := ex.ex
  refine (ps_raise hc tk (pmk_own0 PySem.F.excBase_ValueError xP gC kP (raises_own bP tP) hg hdb)).imp fun D σ H ⟨ι, M, ρ, at_, h⟩ => ?_
  exact h ι σ H (.ref C) none (.refl _ _) at_ ⟨C, gC, rfl⟩
end
end Mp
namespace Mp
open PySem PySem.Spec PyProof.Rows L2

/-! ### repr of data -/
def rRepr (K : PySem.W.Frag) : List V → Hp → VK → Prop := fun xs H Q => ∃ x p, xs = [x] ∧ Dp K H x p ∧ p.showable = true ∧ p.shown.length ≤ sizeLine ∧ SeqAt.shaped p = true ∧ Q (.str p.shown) H
theorem call_repr {X : Cx} (hg : X.A.guards = some []) (hu : X.A.units + 100 < cLine) : CallR X (.builtin "repr") (rRepr X.K) := by
  intro pins s σ H xs us Q I r h
  obtain ⟨x, p, rfl, dp, hs, hsz, hsh, q⟩ := h
  obtain ⟨u, rfl, ru⟩ := vals1 r
  have hdep := SeqAt.depth_of_shaped hsh
  have hnd : p.hasDict = true → ∀ as : List Addr, sysModules ∉ as := fun z => by
    rw [PyData.hasDict_of_canLay p (SeqAt.canLay_of_shaped hsh)] at z; cases z
  cases dp with
  | non => obtain rfl := ru; exact PySem.P.repr_of_none ⟨.str _, H, I.tok _, ⟨_, rfl⟩, q⟩
  | bl b => obtain rfl := ru; exact PySem.P.repr_of_bool ⟨.str _, H, I.tok _, ⟨_, rfl⟩, q⟩
  | int i =>
    obtain ⟨t, rfl⟩ := ru
    exact PySem.P.repr_of_int (by simpa [PyData.showable] using hs) ⟨.str _, H, I.tok _, ⟨_, rfl⟩, q⟩
  | str y =>
    obtain ⟨t, rfl⟩ := ru
    exact PySem.P.repr_of_str (hsz := hsz) ⟨.str _, H, I.tok _, ⟨_, rfl⟩, q⟩
  | lst hq ha =>
    obtain ⟨as, rds⟩ := Dp.reads I _ _ u (.lst hq ha) ru
    obtain rfl := ru
    exact PySem.repr_of_reads' rds hs (fun z => hnd z as) hg (by omega) (fun _ _ e => e) (fun h' u tk hk => ⟨.str _, H, I.kept hk, ⟨_, rfl⟩, q⟩) hsz
  | tup hq ha =>
    obtain ⟨as, rds⟩ := Dp.reads I _ _ u (.tup hq ha) ru
    obtain rfl := ru
    exact PySem.repr_of_reads' rds hs (fun z => hnd z as) hg (by omega) (fun _ _ e => e) (fun h' u tk hk => ⟨.str _, H, I.kept hk, ⟨_, rfl⟩, q⟩) hsz
def reprOk (p : PyData) : Bool := p.showable && p.leavesShort 1921 && decide (1923 * p.bulk + 1921 ≤ LINE) && SeqAt.shaped p
def fRepr : List D → MH → Res D
  | [d], M => match toPy M d with
    | some p => if reprOk p = true then .ok (.str p.shown) M else .err
    | none => .err
  | _, _ => .err
theorem reprOk_ok {Tb : List (Addr × Str)} {X : Cx} : BOk X.K X.mg Tb fRepr (rRepr X.K) := by
  intro W σ ι H M ds xs Q r rx h
  unfold fRepr at h
  split at h
  · rename_i d _
    obtain ⟨v, rfl, rv⟩ := rx.un1
    split at h
    · rename_i p hp
      split at h
      · rename_i hc
        simp only [reprOk, Bool.and_eq_true, decide_eq_true_eq] at hc
        obtain ⟨⟨⟨h1, h2⟩, h3⟩, h4⟩ := hc
        have hl := PyData.shown_le_bulk 1921 (by decide) p h2
        exact ⟨v, p, rfl, dp_of r hp rv, h1, by rw [line_eq]; omega, h4, out.done h r rfl⟩
      · exact h.elim
    · exact h.elim
  · exact h.elim

/-! ### a lambda without parameters, handed to a def that calls it -/
section
variable {Tb : List (Addr × Str)} {X : Cx} {W : WX}
theorem RelH.extN {K : PySem.W.Frag} {mg : Str → Option Value} {ι : List Addr} {H H1 : Hp} {M : MH} (r : RelH K mg Tb ι H M) (e : LamX.ExtN H H1) (t : LamX.Tabs Tb H1) : Ext ι H ι H1 ∧ RelH K mg Tb ι H1 M := by
  have ex : Ext ι H ι H1 := ⟨List.prefix_refl _, fun _ _ h h' => absurd h h', fun a o _ h n => e a o h n, fun a o h f => e a o h (fun ps z => by subst z; rcases f with ⟨_, q⟩ | ⟨_, _, q⟩ <;> cases q)⟩
  refine ⟨ex, r.len, r.nd, fun i a mo h1 h2 => ?_, t⟩
  have q := r.ob i a mo h1 h2
  cases mo with
  | lst l =>
    obtain ⟨vs, q1, q2⟩ := q
    exact ⟨vs, e a _ q1 (fun ps z => nomatch z), RelDs.ext ex _ _ q2⟩
/-- the reading of a lambda's body, its wish about exceptions told -/
def lamT (X : Cx) (Tb : List (Addr × Str)) (m : E) : XK → TE := fun E => rd X.K X.mg Tb (RelD X.K X.mg) (fun cls d _ H' => E cls d H') m
/-- what the def that got it makes of the lambda's end -/
def mThunk (ok : D → MH → Res D) (ex : Str → MH → Res D) (m : E) : E := fun ρ M => match m ρ M with
  | .ok d M' => ok d M'
  | .exc c M' => ex c M'
  | .err => .err
/-- try: return ("told", a()) except x: return ("nothing",) -/
def TTup (K : PySem.W.Frag) (CS : Addr) (s1 s2 : Str) : (XK → Hp → VK → Prop) → Hp → VK → Prop := fun tl H Q =>
  tl (fun cls _ H' => ∃ b, PySem.W.exmOne K cls (.ref CS) = some b ∧ (b = true → ∀ p, H' p = none → Q (.ref p) (upd H' p (.tup [.str s2]))) ∧ (b = false → False)) H (fun v H' => 2 ≤ sizeLine ∧ ∀ p, H' p = none → Q (.ref p) (upd H' p (.tup [.str s1, v])))
theorem tup_gives {Ng : List Str} {x a e q s1 s2 : Str} {sg : Scope} {g CS : Addr} {cdg : Value} {j1 j2 k1 k2 : Nat} {p1 p2 p3 p4 p6 p7 p8 p9 p10 p11 p12 : Pos} (hge : sg.names.lookup e = some .globalImplicit) (hme : X.mg e = some (.ref CS)) (hde : (e == ("__debug__" : Str)) = false) (h0 : ∀ f : Addr, (L2.start Ng [V.ref f])[0]? = some (some (V.ref f))) :
    LamX.GivesTo X Ng x sg g cdg [.Try [.Return (some (.Tuple [.Constant (.str s1) j1 p1, .Call (.Name a p2) [] [] p3] k1 p4)) p6] [.ExceptHandler (some (.Name e p7)) none [.Return (some (.Tuple [.Constant (.str s2) j2 p8] k2 p9)) p10] p11] [] [] p12] a q (TTup X.K CS s1 s2) := by
  intro f c' s H Q tl act hc h
  generalize hZ : (cxOf C8.CX0 X.prog X.w X.K X.mg X.base Ng x sg g cdg X.A X.stack s H C8.E0) = Z at act ⊢
  have hgl : Gl Z.nox e := by subst hZ; exact hge
  have z1 : Z.nox.stack = Z.nox.env :: Z.nox.outer := by subst hZ; rfl
  have z2 : Z.nox.env.frame = some Z.nox.env.locals := by subst hZ; rfl
  have z3 : Z.nox.mg e = some (.ref CS) := by subst hZ; exact hme
  have z4 : Z.nox.K = X.K := by subst hZ; rfl
  refine ⟨_, pss_one (ps_try_only (X := Z.nox) (c := .ref CS) (Wout := fun _ _ _ _ => False)
      (tb := fun W D σ H => ∃ Ech : XK, (∀ cls d σ' H', Ech cls d H' → W cls d σ' H') ∧ σ[0]? = some (some (.ref f)) ∧ H c' = some (LamX.CodeO c' q) ∧ tl Ech H (fun v H' => 2 ≤ sizeLine ∧ ∀ p, H' p = none → D.rt (.ref p) (upd H' p (.tup [.str s1, v]))))
      z1 z2 ⟨hgl, hde, .inl z3⟩ L2.takes0 (fun W pn xe tk _ => ?_) (fun a oe cls d pn _ _ => pss_one (ps_ret (pe_tup (pa_cons pe_str pa_nil))))), ?_⟩
  · refine ⟨fun pins s' σ H' D I h' => ?_⟩
    obtain ⟨Ech, hW, h1, h2, h3⟩ := h'
    have hp := act W pn xe Ech p2 p3 tk hW
    have hq := pss_one (ps_ret (pos := p6) (pe_tup (x1 := k1) (pos := p4) (pa_cons (pe_str (X := Z.tr pn xe) (x := s1) (j := j1) (pos := p1)) (pa_cons hp pa_nil))))
    exact hq.run pins s' σ H' D I ⟨h1, h2, h3⟩
  · refine ⟨fun cls _ H' => ∃ b, PySem.W.exmOne X.K cls (.ref CS) = some b ∧ (b = true → ∀ p, H' p = none → Q (.ref p) (upd H' p (.tup [.str s2]))) ∧ (b = false → False), fun cls d σ' H' ⟨b, e1, e2, e3⟩ => ⟨b, by rw [z4]; exact e1, fun hb a _ => ⟨by show 1 ≤ sizeLine; decide, e2 hb⟩, fun hb => e3 hb⟩, h0 f, hc, h⟩
end
end Mp
namespace Mp
open PySem PySem.Spec PyProof.Rows L2

/-! ### the law is called: from the heap behind the top -/
section
variable {P : Program} {w : World} {K : PySem.W.Frag} {mg mb : Str → Option Value} {s₁ : Shared} {a fa : Addr} {ts : List Addr} {vs : List Value} {ns : List Int}
def lstObj (vs : List Value) : Obj := { cls := .type "list", data := .seq vs.toArray }
def tabObj0 : Obj := { cls := .none, data := .fields #[] }
/-- what is told of the heap at the law's entry: the empty tables, the script -/
def Hin (K : PySem.W.Frag) (ts : List Addr) (a : Addr) (vs : List Value) (ns : List Int) : Hp := fun b =>
  if b ∈ ts then some (.tbl #[]) else if b = a ∧ K.lookup a = none then some (.frz (lstObj vs) (.lst (ns.map V.int))) else none
theorem Hin_cases (b : Addr) : (b ∈ ts ∧ Hin K ts a vs ns b = some (.tbl #[])) ∨ (b = a ∧ K.lookup a = none ∧ Hin K ts a vs ns b = some (.frz (lstObj vs) (.lst (ns.map V.int)))) ∨ Hin K ts a vs ns b = none := by
  unfold Hin
  by_cases h1 : b ∈ ts
  · exact .inl ⟨h1, if_pos h1⟩
  · rw [if_neg h1]
    by_cases h2 : b = a ∧ K.lookup a = none
    · exact .inr (.inl ⟨h2.1, h2.2, if_pos h2⟩)
    · exact .inr (.inr (if_neg h2))
theorem law_end {Tb : List (Addr × Str)} {cs : List (Addr × Addr)} {x : Str} {k : Nat} {F0 : List D → MH → Res D} {M' : MH}
    (KX : K.In s₁.heap) (hns : s₁.heap.Ns mainGlobals mg) (hb : s₁.heap.Ns builtinsNs mb) (hbb : ∀ x : Str, x ≠ "__name__" → mb x = bootBuiltins x) (hlim : s₁.heap.NoLimit) (hg : s₁.gens = #[])
    (hT : ∀ p ∈ cs, s₁.heap.get? p.2 = some tabObj0) (nT : ∀ p ∈ cs, K.lookup p.2 = none) (hC : ∀ p ∈ cs, PySem.W.codeHdIn K p.1 p.2 = true)
    (hbm : ∃ (bm : Addr) (ob : Obj), mg "__builtins__" = some (.ref bm) ∧ bm ≠ builtinsNs ∧ s₁.heap.get? bm = some ob ∧ ob.cls = .type "module" ∧ ob.dict = some builtinsNs ∧ ob.data = .plain)
    (ha : s₁.heap.get? a = some (lstObj vs)) (hi : IntsAre vs ns) (hl : ns.length ≤ sizeLine) (hr : Room k callerA) (hTb : ∀ q ∈ Tb, q.1 ∈ cs.map (·.2))
    (hx : mg x = some (.ref fa)) (hF : ∀ base : Heap, K.In base → base.Ns mainGlobals mg → (∀ p ∈ cs, LamX.TabB base mg p.1 p.2) → FnI P w K mg base Tb true x k 1 F0) (hres : F0 [.ro (ns.map D.int)] [] = .ok (.bl true) M') :
    codeAny (model P w) callerA (.call (.ref fa) ⟨[.ref a], []⟩) (fun r s' => r = .ok (.ret (.bool true)) ∧ OldK s₁.heap s'.heap ∧ s'.os = s₁.os ∧ AllBare s'.gens) s₁ := by
  have rv := vals_ints hi
  have lenV := hi.length
  generalize hts : cs.map (·.2) = ts at hTb
  have isT : ∀ b ∈ ts, s₁.heap.get? b = some tabObj0 := fun b hb => by
    subst hts
    obtain ⟨p, hp, e⟩ := List.mem_map.mp hb
    rw [← e]; exact hT p hp
  have kT : ∀ b ∈ ts, K.lookup b = none := fun b hb => by
    subst hts
    obtain ⟨p, hp, e⟩ := List.mem_map.mp hb
    rw [← e]; exact nT p hp
  have aT : a ∉ ts := fun z => by
    have q := isT a z
    rw [ha] at q
    cases congrArg Obj.data (Option.some.inj q)
  generalize hH : Hin K ts a vs ns = H
  have cases_ : ∀ b, (b ∈ ts ∧ H b = some (.tbl #[])) ∨ (b = a ∧ K.lookup a = none ∧ H b = some (.frz (lstObj vs) (.lst (ns.map V.int)))) ∨ H b = none := fun b => by
    rw [← hH]; exact Hin_cases b
  -- objects of other kinds are not told
  have free : ∀ {b : Addr} {o : Obj}, s₁.heap.get? b = some o → o ≠ tabObj0 → (b = a → K.lookup a ≠ none) → H b = none := fun {b o} e n1 n2 => by
    rcases cases_ b with ⟨q, _⟩ | ⟨q, z, _⟩ | q
    · rw [isT b q] at e
      exact absurd (Option.some.inj e).symm n1
    · exact absurd z (n2 q)
    · exact q
  have freeD : ∀ {b : Addr} {o : Obj} {es : Array DictEntry} {ep : Nat}, s₁.heap.get? b = some o → o.data = .dict es ep → H b = none := fun {b o es ep} e d =>
    free e (fun z => by rw [z] at d; cases d) fun z _ => by
      rw [z, ha] at e
      cases e
      cases d
  have hok : HOk P w H s₁.heap := fun b u q => by
    rcases cases_ b with ⟨h1, h2⟩ | ⟨h1, h2, h3⟩ | h1
    · rw [h2] at q
      cases q
      exact isT b h1
    · rw [h3] at q
      cases q
      rw [h1]
      exact ⟨ha, by rw [List.length_map]; exact hl, vs, _, rv, ha⟩
    · rw [h1] at q; cases q
  have nsB : ∀ {b : Addr} {m : Str → Option Value}, s₁.heap.Ns b m → (hidT s₁.heap H).Ns b m := fun {b m} ⟨o, es, ep, e, d, r⟩ => ⟨o, es, ep, hidT_get e (freeD e d), d, r⟩
  have KB : K.In (hidT s₁.heap H) := fun b o e => hidT_get (KX b o e) (by
    rcases cases_ b with ⟨h1, _⟩ | ⟨h1, h2, _⟩ | h1
    · rw [kT b h1] at e; cases e
    · rw [h1, h2] at e; cases e
    · exact h1)
  have hM : L2.Mod K mg (hidT s₁.heap H) := ⟨KB, nsB hns, ⟨mb, nsB hb, hbb⟩, let ⟨mc, h1, h2⟩ := hlim; ⟨mc, nsB h1, h2⟩⟩
  have TB : ∀ p ∈ cs, LamX.TabB (hidT s₁.heap H) mg p.1 p.2 := fun p hp => by
    obtain ⟨bm, ob, b1, b2, b3, b4, b5, b6⟩ := hbm
    have hp2 := hT p hp
    refine ⟨PySem.W.codeHd_of_K KB (hC p hp), ⟨bm, ob, b1, b2, fun z => ?_, fun z => ?_, hidT_get b3 (free b3 (fun z => by rw [z] at b6; cases b6) fun z _ => ?_), b4, b5, b6⟩, fun z => ?_⟩
    · obtain ⟨o, es, ep, e, hd, _⟩ := hns
      rw [z, e] at b3
      cases b3
      rw [hd] at b6; cases b6
    · rw [z, hp2] at b3
      cases b3
      cases b6
    · rw [z, ha] at b3
      cases b3
      cases b6
    · obtain ⟨o, es, ep, e, hd, _⟩ := hns
      rw [z, hp2] at e
      cases e
      cases hd
  have e0 : Env0 P w K mg (hidT s₁.heap H) callerA [] s₁ H :=
    { frames := rfl, mod := hM, bs := fun b o e => of_hidT e, bsz := Nat.le_of_eq (hidT_size _ _), funs := trivial, frf := fun b hb => absurd (show b ∈ ([] : List Addr) from hb) (by simp), hok := hok, bare := .of_eq hg }
  obtain ⟨f, hf, _, run⟩ := (hF _ KB (nsB hns) TB).ex
  rw [hx] at hf
  cases hf
  have tabs : LamX.Tabs Tb H := fun q hq => LamX.TabS.nil (by
    rcases cases_ q.1 with ⟨_, h2⟩ | ⟨h1, _⟩ | h1
    · exact h2
    · exact absurd (h1 ▸ hTb q hq) aT
    · have z := hTb q hq
      rw [← hH] at h1
      simp only [Hin, if_pos z] at h1
      cases h1)
  have ro : RoL K H a (ns.map V.int) := by
    cases hk : K.lookup a with
    | none =>
      refine .inl ⟨lstObj vs, ?_⟩
      rw [← hH]
      simp only [Hin, if_neg aT, hk, and_self, if_true]
    | some o =>
      have e := KX a o hk
      rw [ha] at e
      cases e
      exact .inr ⟨lstObj vs, vs.toArray, _, hk, rfl, rfl, rfl, by rw [List.size_toArray, lenV]; exact hl, by simpa using rv⟩
  have iv : ∀ l : List Int, RelDs K mg [] H (l.map D.int) (l.map V.int) := fun l => by
    induction l with
    | nil => rfl
    | cons i l ih => exact ⟨_, _, rfl, rfl, ih⟩
  have sp : spD K mg Tb 1 F0 [.ref a] H (fun v _ => v = .bl true) (fun _ _ _ => False) := by
    refine ⟨[], [], [.ro (ns.map D.int)], ⟨rfl, List.nodup_nil, fun i a mo h => by simp at h, tabs⟩, ⟨_, _, rfl, ⟨a, _, rfl, ro, iv ns⟩, rfl⟩, rfl, ?_⟩
    rw [hres]
    intro ι' v H' _ _ rv
    exact rv
  refine codeAny_mono (run callerA [] s₁ H [.ref a] [.ref a] _ _ hr (fun _ => rfl) e0 (.cons rfl .nil) sp) fun r s' h => ?_
  match r, h with
  | .error e, h =>
    obtain ⟨_, _, _, _, _, _, _, _, _, _, _, _, z⟩ := h
    exact z.elim
  | .ok (.ret u), h =>
    obtain ⟨v, H', os, bare, un, hok', r', q⟩ := h
    obtain rfl : v = .bl true := q
    obtain rfl : u = Value.bool true := r'
    have old : ∀ b o, b ∉ ts → s₁.heap.get? b = some o → s'.heap.get? b = some o := fun b o nb e => by
      rcases cases_ b with ⟨h1, _⟩ | ⟨h1, _, h3⟩ | h1
      · exact absurd h1 nb
      · have z2 := un.frzs b _ _ h3
        obtain ⟨e1, _⟩ := hok b _ h3
        obtain ⟨e2, _⟩ := hok' b _ z2
        rw [e] at e1
        cases e1
        exact e2
      · exact un.keep b o e h1 (fun z => absurd (show b ∈ ([] : List Addr) from z) (by simp)) (by simp)
    have tabE : ∀ b ∈ ts, ∃ c, PySem.W.codeHdIn K c b = true ∧ s₁.heap.get? b = some tabObj0 ∧ ∃ more : Array Value, s'.heap.get? b = some { cls := .none, data := .fields more } := fun b hb => by
      rcases cases_ b with ⟨h1, h2⟩ | ⟨h1, _⟩ | h1
      · obtain ⟨more, z⟩ := un.tbls b #[] h2
        subst hts
        obtain ⟨p, hp, e⟩ := List.mem_map.mp hb
        exact ⟨p.1, by rw [← e]; exact hC p hp, isT b hb, _, hok' b _ z⟩
      · exact absurd (h1 ▸ hb) aT
      · rw [← hH] at h1
        simp only [Hin, if_pos hb] at h1
        cases h1
    refine ⟨rfl, ⟨fun b o e => ?_, fun b o e => ?_⟩, os, bare⟩
    · by_cases hb : b ∈ ts
      · obtain ⟨c, h1, h2, more, hm⟩ := tabE b hb
        rw [h2] at e
        cases e
        exact .inr (.inl ⟨((PySem.W.codeHd_of_K KX h1).tab h2).isCodeTable, rfl, #[], more, rfl, by rw [Array.empty_append]; exact hm⟩)
      · exact .inl (old b o hb e)
    · by_cases hb : b ∈ ts
      · obtain ⟨c, h1, h2, more, hm⟩ := tabE b hb
        exact ⟨_, hm⟩
      · exact ⟨o, old b o hb e⟩
end
end Mp
namespace Mp
open PySem PySem.Spec PyProof.Rows L2

theorem takes_cx {P : Program} {w : World} {K : PySem.W.Frag} {mg : Str → Option Value} {base : Heap} {N : List Str} {q : Str} {sc : Scope} {f : Addr} {cd : Value} {A : Around} {outer : List Env} {s : Shared} {H : Hp} {E : XK} :
    Takes (cxOf (L2.CX P w) P w K mg base N q sc f cd A outer s H E) (fun cls d _ H' => E cls d H') := takes_of rfl rfl rfl rfl
theorem passes_cx {P : Program} {w : World} {K : PySem.W.Frag} {mg : Str → Option Value} {base : Heap} {N : List Str} {q : Str} {sc : Scope} {f : Addr} {cd : Value} {A : Around} {outer : List Env} {s : Shared} {H : Hp} {E : XK} :
    PassesOwn (model P w) (cxOf (L2.CX P w) P w K mg base N q sc f cd A outer s H E).A (cxOf (L2.CX P w) P w K mg base N q sc f cd A outer s H E).env (cxOf (L2.CX P w) P w K mg base N q sc f cd A outer s H E).xe := passes_of rfl
theorem takes_lam {X : Cx} {scope : Scope} {f c' : Addr} {A : Around} {outer : List Env} {s : Shared} {H : Hp} {E : XK} : Takes (LamX.lamCx X A outer s H E scope f c') (fun cls d _ H' => E cls d H') := takes_of rfl rfl rfl rfl
theorem takes_none {X : Cx} : Takes X W0 := L2.takes0

/-! ### x(lambda: body), x a def that calls what it got within a try -/
section
variable {Tb : List (Addr × Str)} {X : Cx} {W : WX}
theorem me_lam {TT : (XK → Hp → VK → Prop) → Hp → VK → Prop} {x a : Str} {g c P : Addr} {k : Nat} {pg : Arguments} {bg : List Stmt} {sg : Scope} {Ng : List Str} {fdg : FuncData} {params : Arguments} {body : Expr} {scope : Scope} {m : E} {okf : D → MH → Res D} {exf : Str → MH → Res D} {p lpos pos : Pos}
    (hm : X.mg x = some (.ref g)) (Fg : L2.FunD X.K x x pg bg sg [] [] g fdg) (hb : L2.Binds X.K fdg [a] []) (Sg : FnScope Ng [a] sg) (hNg : Ng[0]? = some a) (hva : Vis sg a)
    (hG : ∀ cdv, LamX.GivesTo X Ng x sg g cdv bg a (X.env.qual ++ "<lambda>") TT)
    (hTT : ∀ (σ : St) (H : Hp) (Q : VK), rd X.K X.mg Tb (RelD X.K X.mg) W (mThunk okf exf m) σ H Q → ∀ H1, LamX.ExtN H H1 → LamX.Tabs Tb H1 → TT (fun E H' Q' => lamT X Tb m E σ H' Q') H1 Q)
    (TB : LamX.TabB X.base X.mg c P) (hcode : X.env.code = .ref c) (hmT : (P, X.env.qual ++ "<lambda>") ∈ Tb) (hu : ∀ p ∈ Tb, p.1 = P → p.2 = X.env.qual ++ "<lambda>") (hr : Room (k + 2) X.A) (L : LamX.LamS X.env.scope scope)
    (hbody : ∀ (A : Around) (outer : List Env) (s : Shared) (H : Hp) (E : XK) (f c' : Addr), Room k (A.deeper (LamX.lamEnv X scope s.heap.objs.size f c')) → ME Tb (LamX.lamCx X A outer s H E scope f c') (fun cls d _ H' => E cls d H') body m)
    (hdef : defaultsOf params X.env = ([], []) := by rfl)
    (hbind : ∀ (q : Str) (cl : List (Str × Addr)) (pm cv ctv : Value), bindArgs (PySem.W.kla_fn "<lambda>" q params body scope cl pm cv ctv) ⟨[], []⟩ = pure [] := by exact fun _ _ _ _ _ => rfl) (hg : Gl X x := by rfl)
    (hdb : (x == ("__debug__" : Str)) = false := by decide) (hd : (a == ("__debug__" : Str)) = false := by decide) (hcd : (a == ("__classdict__" : Str)) = false := by decide) :
    ME Tb X W (.Call (.Name x p) [.Lambda params body scope lpos] [] pos) (mThunk okf exf m) := by
  obtain ⟨oc, od, dV, kV, doc, pm, an, cdv, ct, osl, rfl, lk, hcg, _, _⟩ := Fg.ex
  refine (LamX.pe_lamcall (t := lamT X Tb m) (T := Tb) (TT := TT) hg hm Fg.kp lk hcg hb Sg hNg hva (hG cdv) TB hcode hmT hu hr L hdef hbind (fun A outer s H E f c' hr' => hbody A outer s H E f c' hr') hdb hd hcd).imp fun σ H Q h => ?_
  obtain ⟨ι, M, ρ, at_, h⟩ := h
  exact ⟨at_.h.tab, fun H1 e t => hTT σ H Q ⟨ι, M, ρ, at_, h⟩ H1 e t⟩
/-- ("told", what it gives), ("nothing",) where x is raised -/
def okTup (s1 : Str) : D → MH → Res D := fun d M => .ok (.tup [.str s1, d]) M
def exTup (e s2 : Str) : Str → MH → Res D := fun c M => if c = e then .ok (.tup [.str s2]) M else .err
theorem tup_tt {e s1 s2 : Str} {CS : Addr} {m : E} (hme : X.mg e = some (.ref CS)) (hex : PySem.W.exmOne X.K (.ref CS) (.ref CS) = some true) (σ : St) (H : Hp) (Q : VK) (h : rd X.K X.mg Tb (RelD X.K X.mg) W (mThunk (okTup s1) (exTup e s2) m) σ H Q) (H1 : Hp) (en : LamX.ExtN H H1) (t : LamX.Tabs Tb H1) :
    TTup X.K CS s1 s2 (fun E H' Q' => lamT X Tb m E σ H' Q') H1 Q := by
  obtain ⟨ι, M, ρ, at_, h⟩ := h
  obtain ⟨ex, r1⟩ := at_.h.extN en t
  refine ⟨ι, M, ρ, at_.ext ex r1, ?_⟩
  unfold mThunk at h
  cases hm : m ρ M with
  | ok d M' =>
    rw [hm] at h
    intro ι' v H' e' r' rv
    refine ⟨by decide, fun p hp => ?_⟩
    obtain ⟨e2, r2, rd2⟩ := r'.tup hp (l := [.str s1, d]) (vs := [.str s1, v]) ⟨_, _, rfl, rfl, RelDs.one rv⟩
    exact out.done' h ((ex.trans e').trans e2) r2 rd2
  | exc c M' =>
    rw [hm] at h
    intro ι' H' cls dd e' r' hc
    dsimp only [exTup] at h
    split at h
    · rename_i hce
      obtain ⟨C, h1, rfl⟩ := hc
      rw [hce, hme] at h1
      cases h1
      refine ⟨true, hex, fun _ p hp => ?_, fun z => nomatch z⟩
      obtain ⟨e2, r2, rd2⟩ := r'.tup hp (l := [.str s2]) (vs := [.str s2]) (RelDs.one rfl)
      exact out.done' h ((ex.trans e').trans e2) r2 rd2
    · exact h.elim
  | err => rw [hm] at h; exact h.elim
end

/-! ### the defs of the text, by what the head tells of them -/
section
variable {P : Program} {w : World} {K : PySem.W.Frag} {mg : Str → Option Value} {base : Heap} {Tb : List (Addr × Str)}
/-- the def at the module's name x: its function object, its code object -/
structure DefAt (K : PySem.W.Frag) (mg : Str → Option Value) (x : Str) (st : Stmt) : Prop where
  ex : ∃ f fd, mg x = some (.ref f) ∧ L2.FunD K x x (defArgs st) (defBody st) (defScope st) [] [] f fd
theorem fnI_at {gd : Bool} {x : Str} {st : Stmt} {N ps : List Str} {k : Nat} {m : S} (F : DefAt K mg x st)
    (hb : ∀ (kV doc pm : Value) (an : Option Addr) (cdv ct : Value) (us : List Value), us.length = ps.length → bindArgs (PySem.W.fnOf x x (defArgs st) (defBody st) (defScope st) .none kV doc pm an cdv ct) ⟨us, []⟩ = pure (ps.zip us)) (S : FnScope N ps (defScope st))
    (hbody : ∀ (f : Addr) (cdv : Value) (A : Around) (outer : List Env) (s : Shared) (H : Hp) (E : XK), Room k (A.deeper (envOfC x (defScope st) s.heap.objs.size f cdv)) → (gd = true → A.guards = some []) →
      MSs Tb (cxOf (L2.CX P w) P w K mg base N x (defScope st) f cdv A outer s H E) (fun cls d _ H' => E cls d H') (defBody st) m) :
    FnI P w K mg base Tb gd x (k + 1) ps.length (runBody ps.length N.length m) := by
  obtain ⟨f, fd, hm, F⟩ := F.ex
  have b := F.bindsN hb
  obtain ⟨oc, od, dV, kV, doc, pm, an, cdv, ct, osl, rfl, lk, hcd, hD, hK⟩ := F.ex
  rcases hD with ⟨_, rfl⟩ | ⟨e, _⟩
  · exact fnI_of (L2.fun_mk lk hcd F.kp) hm b S fun cdv A outer s H E => hbody f cdv A outer s H E
  · exact absurd rfl e
/-- .. where its code object is told too (a def that makes lambdas) -/
theorem fnI_atC {gd : Bool} {x : Str} {st : Stmt} {N ps : List Str} {k : Nat} {m : S} {f c : Addr} {fd : FuncData} (hm : mg x = some (.ref f)) (F : L2.FunD K x x (defArgs st) (defBody st) (defScope st) [] [] f fd) (hcode : fd.code = .ref c)
    (hb : ∀ (kV doc pm : Value) (an : Option Addr) (cdv ct : Value) (us : List Value), us.length = ps.length → bindArgs (PySem.W.fnOf x x (defArgs st) (defBody st) (defScope st) .none kV doc pm an cdv ct) ⟨us, []⟩ = pure (ps.zip us)) (S : FnScope N ps (defScope st))
    (hbody : ∀ (A : Around) (outer : List Env) (s : Shared) (H : Hp) (E : XK), Room k (A.deeper (envOfC x (defScope st) s.heap.objs.size f (.ref c))) → (gd = true → A.guards = some []) →
      MSs Tb (cxOf (L2.CX P w) P w K mg base N x (defScope st) f (.ref c) A outer s H E) (fun cls d _ H' => E cls d H') (defBody st) m) :
    FnI P w K mg base Tb gd x (k + 1) ps.length (runBody ps.length N.length m) := by
  have b := F.bindsN hb
  have kp := F.kp
  obtain ⟨oc, od, dV, kV, doc, pm, an, cdv, ct, osl, rfl, lk, hcd, hD, hK⟩ := F.ex
  obtain rfl : cdv = .ref c := hcode
  refine ⟨f, hm, kp, fun A outer s H us vs Q E hr hg e0 r sp => ?_⟩
  obtain ⟨ι, M, ds, rh, rd, hl, h⟩ := sp
  have hvl : vs.length = ps.length := by rw [rd.length, hl]
  have hul : us.length = ps.length := by rw [← r.length, hvl]
  have KX : K.In s.heap := e0.mod.kin.keeps fun b o e => (e0.bs b o e).1
  have bt := b s us KX (by simpa using hul)
  rw [List.append_nil] at bt
  refine LamX.run_ofS lk hcd S hr e0 bt r hvl fun hr' => ⟨_, hbody A outer s H E hr' hg, ι, M, _, (start_rel rd N hl).at rh, ?_⟩
  simp only [runBody, if_pos hl] at h
  cases hb : m (ds.map some ++ List.replicate (N.length - ps.length) none) M with
  | nx ρ' M' => rw [hb] at h; exact fun ι' σ' H' e at' => out_gcRet rh h ι' .non H' e at'.h rfl
  | rt d M' => rw [hb] at h; exact out_gcRet rh h
  | exc c ρ' M' => rw [hb] at h; exact fun ι' σ' H' cls dd e at' hc => out_gcExc rh h ι' H' cls dd e at'.h hc
  | bk ρ' M' => rw [hb] at h; exact h.elim
  | ct ρ' M' => rw [hb] at h; exact h.elim
  | err => rw [hb] at h; exact h.elim
end
end Mp
namespace Mp
open PySem PySem.Spec PyProof.Rows L2
section
variable {P : Program} {w : World} {K : PySem.W.Frag} {mg : Str → Option Value} {base : Heap} {Tb : List (Addr × Str)}
theorem fnI_err {gd : Bool} {x : Str} {st : Stmt} {k n : Nat} (F : DefAt K mg x st) : FnI P w K mg base Tb gd x k n (fun _ _ => .err) := by
  obtain ⟨f, fd, hm, F⟩ := F.ex
  refine ⟨f, hm, F.kp, fun A outer s H us vs Q E hr hg e0 r sp => ?_⟩
  obtain ⟨ι, M, ds, rh, rd, hl, h⟩ := sp
  exact h.elim
theorem noGd {X : Cx} : false = true → X.A.guards = some [] := fun h => nomatch h
theorem reprRoom {X : Cx} {k : Nat} (hr : Room k X.A) : X.A.units + 100 < cLine := by
  have := hr.un
  omega
theorem me_fnD {X : Cx} {W : WX} {y : Str} {st : Stmt} {pos : Pos} (F : DefAt X.K X.mg y st) (hg : Gl X y := by rfl) (hd : (y == ("__debug__" : Str)) = false := by decide) : ME Tb X W (.Name y pos) (mC (.fn y)) := by
  obtain ⟨f, fd, hm, _⟩ := F.ex
  exact me_fn hm hg hd
end
end Mp
namespace Mp
open PySem PySem.Spec PyProof.Rows L2
/-! ### reckoning with the small language -/
@[simp] theorem mVar_ok {i : Nat} {ρ : Ev} {d : D} {M : MH} (h : ρ[i]? = some (some d)) : mVar i ρ M = .ok d M := by
  unfold mVar
  rw [h]
theorem mVar_z (d : Option D) (ρ : Ev) (M : MH) : mVar 0 (d :: ρ) M = (match d with | some d => .ok d M | none => .err) := by cases d <;> rfl
theorem mVar_s (i : Nat) (d : Option D) (ρ : Ev) (M : MH) : mVar (i + 1) (d :: ρ) M = mVar i ρ M := rfl
@[simp] theorem mC_ok (d : D) (ρ : Ev) (M : MH) : mC d ρ M = .ok d M := rfl
@[simp] theorem mBin_eq (f : D → D → MH → Res D) (a b : E) (ρ : Ev) (M : MH) : mBin f a b ρ M = (a ρ M).bind fun x M1 => (b ρ M1).bind fun y M2 => f x y M2 := rfl
@[simp] theorem mUn_eq (f : D → MH → Res D) (a : E) (ρ : Ev) (M : MH) : mUn f a ρ M = (a ρ M).bind fun x M1 => f x M1 := rfl
@[simp] theorem tB1_eq (m : E) (ρ : Ev) (M : MH) : tB1 m ρ M = (m ρ M).bind fun d M1 => match d with | .bl b => .ok b M1 | _ => .err := rfl
@[simp] theorem tAndB_eq (t u : T) (ρ : Ev) (M : MH) : tAndB t u ρ M = (t ρ M).bind fun b M1 => if b = true then u ρ M1 else .ok false M1 := rfl
@[simp] theorem tOrB_eq (t u : T) (ρ : Ev) (M : MH) : tOrB t u ρ M = (t ρ M).bind fun b M1 => if b = true then .ok true M1 else u ρ M1 := rfl
@[simp] theorem tNotB_eq (t : T) (ρ : Ev) (M : MH) : tNotB t ρ M = (t ρ M).bind fun b M1 => .ok (!b) M1 := rfl
@[simp] theorem mAnd_eq (a b : E) (ρ : Ev) (M : MH) : mAnd a b ρ M = (a ρ M).bind fun d M1 => match d with | .bl k => if k = true then b ρ M1 else .ok (.bl false) M1 | _ => .err := rfl
@[simp] theorem mOr_eq (a b : E) (ρ : Ev) (M : MH) : mOr a b ρ M = (a ρ M).bind fun d M1 => match d with | .bl k => if k = true then .ok (.bl true) M1 else b ρ M1 | _ => .err := rfl
@[simp] theorem mNot_eq (a : E) (ρ : Ev) (M : MH) : mNot a ρ M = (a ρ M).bind fun d M1 => match d with | .bl k => .ok (.bl (!k)) M1 | _ => .err := rfl
@[simp] theorem mIf_eq (t : T) (a b : E) (ρ : Ev) (M : MH) : mIf t a b ρ M = (t ρ M).bind fun k M1 => if k = true then a ρ M1 else b ρ M1 := rfl
@[simp] theorem mChain_eq (f g : D → D → MH → Res D) (a b c : E) (ρ : Ev) (M : MH) : mChain f g a b c ρ M = (a ρ M).bind fun x M1 => (b ρ M1).bind fun y M2 => (f x y M2).bind fun z M3 => match z with
  | .bl k => if k = true then (c ρ M3).bind fun w M4 => g y w M4 else .ok (.bl false) M3
  | _ => .err := rfl
@[simp] theorem aNil_eq (ρ : Ev) (M : MH) : aNil ρ M = .ok [] M := rfl
@[simp] theorem aCons_eq (m : E) (r : A) (ρ : Ev) (M : MH) : aCons m r ρ M = (m ρ M).bind fun d M1 => (r ρ M1).bind fun ds M2 => .ok (d :: ds) M2 := rfl
@[simp] theorem mTup_eq (r : A) (ρ : Ev) (M : MH) : mTup r ρ M = (r ρ M).bind fun ds M1 => if ds.length ≤ LINE then .ok (.tup ds) M1 else .err := rfl
@[simp] theorem mLst_eq (r : A) (ρ : Ev) (M : MH) : mLst r ρ M = (r ρ M).bind fun ds M1 => if ds.length ≤ LINE then .ok (.ref M1.length) (M1 ++ [.lst ds]) else .err := rfl
@[simp] theorem mBlt_eq (f : List D → MH → Res D) (r : A) (ρ : Ev) (M : MH) : mBlt f r ρ M = (r ρ M).bind fun ds M1 => f ds M1 := rfl
@[simp] theorem mCall_eq (n : Nat) (F : List D → MH → Res D) (r : A) (ρ : Ev) (M : MH) : mCall n F r ρ M = (r ρ M).bind fun ds M1 => if ds.length = n then F ds M1 else .err := rfl
@[simp] theorem mSl_eq (m : E) (lo hi : Option E) (ρ : Ev) (M : MH) : mSl m lo hi ρ M = (m ρ M).bind fun d M1 => (mPart lo ρ M1).bind fun l M2 => (mPart hi ρ M2).bind fun h M3 => fSl d l h M3 := rfl
@[simp] theorem mPart_none (ρ : Ev) (M : MH) : mPart none ρ M = .ok none M := rfl
@[simp] theorem mPart_some (m : E) (ρ : Ev) (M : MH) : mPart (some m) ρ M = (m ρ M).bind fun d M1 => match d with | .int i => .ok (some i) M1 | _ => .err := rfl
@[simp] theorem mMeth_eq (f : D → List D → MH → Res D) (m : E) (r : A) (ρ : Ev) (M : MH) : mMeth f m r ρ M = (m ρ M).bind fun d M1 => (r ρ M1).bind fun ds M2 => f d ds M2 := rfl
@[simp] theorem tYesD_eq (ρ : Ev) (M : MH) : tYesD ρ M = .ok true M := rfl
@[simp] theorem nox_ok {α : Type} (a : α) (M : MH) : (Res.ok a M).nox = .ok a M := rfl
@[simp] theorem sNil_eq (ρ : Ev) (M : MH) : sNil ρ M = .nx ρ M := rfl
@[simp] theorem sBrk_eq (ρ : Ev) (M : MH) : sBrk ρ M = .bk ρ M := rfl
@[simp] theorem sCnt_eq (ρ : Ev) (M : MH) : sCnt ρ M = .ct ρ M := rfl
@[simp] theorem sRet_eq (m : E) (ρ : Ev) (M : MH) : sRet m ρ M = (m ρ M).toS ρ fun d M1 => .rt d M1 := rfl
@[simp] theorem sRetN_eq (ρ : Ev) (M : MH) : sRetN ρ M = .rt .non M := rfl
@[simp] theorem sRaise_eq (c : Str) (ρ : Ev) (M : MH) : sRaise c ρ M = .exc c ρ M := rfl
@[simp] theorem sExpr_eq (m : E) (ρ : Ev) (M : MH) : sExpr m ρ M = (m ρ M).toS ρ fun _ M1 => .nx ρ M1 := rfl
@[simp] theorem sIf_eq (t : T) (a b : S) (ρ : Ev) (M : MH) : sIf t a b ρ M = (t ρ M).toS ρ fun k M1 => if k = true then a ρ M1 else b ρ M1 := rfl
@[simp] theorem sSet_eq (i : Nat) (m : E) (ρ : Ev) (M : MH) : sSet i m ρ M = (m ρ M).toS ρ fun d M1 => .nx (ρ.set i (some d)) M1 := rfl
@[simp] theorem sPar_eq (i j : Nat) (r : A) (ρ : Ev) (M : MH) : sPar i j r ρ M = (r ρ M).toS ρ fun ds M1 => match ds with
  | [a, b] => .nx ((ρ.set i (some a)).set j (some b)) M1
  | _ => .err := rfl
def SRes.seq (r : SRes) (k : Ev → MH → SRes) : SRes := match r with
  | .nx ρ M => k ρ M
  | r => r
@[simp] theorem seq_nx (ρ : Ev) (M : MH) (k : Ev → MH → SRes) : (SRes.nx ρ M).seq k = k ρ M := rfl
@[simp] theorem seq_rt (d : D) (M : MH) (k : Ev → MH → SRes) : (SRes.rt d M).seq k = .rt d M := rfl
@[simp] theorem seq_bk (ρ : Ev) (M : MH) (k : Ev → MH → SRes) : (SRes.bk ρ M).seq k = .bk ρ M := rfl
@[simp] theorem seq_ct (ρ : Ev) (M : MH) (k : Ev → MH → SRes) : (SRes.ct ρ M).seq k = .ct ρ M := rfl
@[simp] theorem seq_exc (c : Str) (ρ : Ev) (M : MH) (k : Ev → MH → SRes) : (SRes.exc c ρ M).seq k = .exc c ρ M := rfl
@[simp] theorem seq_err (k : Ev → MH → SRes) : (SRes.err).seq k = .err := rfl
@[simp] theorem sSeq_eq (a b : S) (ρ : Ev) (M : MH) : sSeq a b ρ M = (a ρ M).seq b := by
  unfold sSeq SRes.seq
  cases a ρ M <;> rfl
@[simp] theorem sAsg_eq (u : U) (m : E) (ρ : Ev) (M : MH) : sAsg u m ρ M = (m ρ M).toS ρ fun d M1 => match u d ρ M1 with | some p => .nx p.1 p.2 | none => .err := rfl
@[simp] theorem uN_eq (i : Nat) (d : D) (ρ : Ev) (M : MH) : uN i d ρ M = some (ρ.set i (some d), M) := rfl
@[simp] theorem uNil_eq (ρ : Ev) (M : MH) : uNil [] ρ M = some (ρ, M) := rfl
@[simp] theorem uCons_eq (u : U) (us : Us) (d : D) (ds : List D) (ρ : Ev) (M : MH) : uCons u us (d :: ds) ρ M = (u d ρ M).bind fun p => us ds p.1 p.2 := rfl
@[simp] theorem uT_eq (n : Nat) (us : Us) (ds : List D) (ρ : Ev) (M : MH) : uT n us (.tup ds) ρ M = if ds.length = n then us ds ρ M else none := rfl
@[simp] theorem okOf_ok {α : Type} (a : α) (M : MH) : okOf (Res.ok a M) = some (a, M) := rfl
@[simp] theorem uSub_eq (o i : E) (d : D) (ρ : Ev) (M : MH) : uSub o i d ρ M = (okOf (o ρ M)).bind fun p => (okOf (i ρ p.2)).bind fun q => (fSetL p.1 q.1 d q.2).map fun M' => (ρ, M') := rfl
@[simp] theorem sFor_eq (sm : Sm) (g : G) (b : S) (ρ : Ev) (M : MH) : sFor sm g b ρ M = (sm ρ M).toS ρ fun s M1 => forGo g b s.chk s.items ρ M1 := rfl
@[simp] theorem mLc_eq (vs : List Nat) (sm : Sm) (g : G) (tt : T) (te : E) (ρ : Ev) (M : MH) : mLc vs sm g tt te ρ M = (sm ρ M).bind fun s M1 =>
  if s.items.length ≤ LINE then (lcGo g tt te s.chk (wipeD ρ vs) s.items M1).bind fun xs M2 => .ok (.ref M2.length) (M2 ++ [.lst xs]) else .err := rfl
@[simp] theorem sArg_eq (f : List D → MH → Res Src) (r : A) (ρ : Ev) (M : MH) : sArg f r ρ M = (r ρ M).bind fun ds M1 => f ds M1 := rfl
@[simp] theorem sSq_eq (m : E) (ρ : Ev) (M : MH) : sSq m ρ M = (m ρ M).bind fun d M1 => match sSeqOf d M1 with
  | .ok s _ => .ok s M1
  | _ => .err := rfl
@[simp] theorem gN_eq (i : Nat) (d : D) (ρ : Ev) : gN i d ρ = some (ρ.set i (some d)) := rfl
@[simp] theorem gNil_eq (ρ : Ev) : gNilD [] ρ = some ρ := rfl
@[simp] theorem gCons_eq (g : G) (gs : Gs) (d : D) (ds : List D) (ρ : Ev) : gConsD g gs (d :: ds) ρ = (g d ρ).bind (gs ds) := rfl
@[simp] theorem gT_eq (n : Nat) (gs : Gs) (ds : List D) (ρ : Ev) : gT n gs (.tup ds) ρ = if ds.length = n then gs ds ρ else none := rfl
/-! the primitives -/
@[simp] theorem fAdd_int (i j : Int) (M : MH) : fAdd (.int i) (.int j) M = .ok (.int (i + j)) M := rfl
@[simp] theorem fAdd_tup (a b : List D) (M : MH) : fAdd (.tup a) (.tup b) M = if a.length + b.length ≤ LINE then .ok (.tup (a ++ b)) M else .err := rfl
@[simp] theorem fSub_int (i j : Int) (M : MH) : fSub (.int i) (.int j) M = .ok (.int (i - j)) M := rfl
@[simp] theorem fMul_int (i j : Int) (M : MH) : fMul (.int i) (.int j) M = if mulOk i j = true then .ok (.int (i * j)) M else .err := rfl
@[simp] theorem fDiv_int (i j : Int) (M : MH) : fDiv (.int i) (.int j) M = if divOk j = true then .ok (.int (i.fdiv j)) M else .err := rfl
@[simp] theorem fMod_int (i j : Int) (M : MH) : fMod (.int i) (.int j) M = if j ≠ 0 then .ok (.int (i.fmod j)) M else .err := rfl
@[simp] theorem fNeg_int (i : Int) (M : MH) : fNeg (.int i) M = .ok (.int (-i)) M := rfl
@[simp] theorem fInt_int (p : Int → Int → Bool) (i j : Int) (M : MH) : fInt p (.int i) (.int j) M = .ok (.bl (p i j)) M := by
  unfold fInt
  rfl
@[simp] theorem fAbs_int (i : Int) (M : MH) : fAbs [.int i] M = .ok (.int (if i < 0 then -i else i)) M := rfl
@[simp] theorem fInt1_int (i : Int) (M : MH) : fInt1 [.int i] M = .ok (.int i) M := rfl
theorem shaped_int (i : Int) : SeqAt.shaped (.int i) = true := rfl
@[simp] theorem fEq_int (neg : Bool) (i j : Int) (M : MH) : fEq neg (.int i) (.int j) M = .ok (.bl (if neg then !decide (i = j) else decide (i = j))) M := by
  show fEq0 neg (.int i) (.int j) M = _
  unfold fEq0 toPy
  simp only [toPy0]
  show (if (true && true) = true then _ else _) = _
  have e : PyData.eqv (.int i) (.int j) = decide (i = j) := by
    unfold PyData.eqv
    rfl
  rw [e]
  rfl
@[simp] theorem fIx_tup (l : List D) (i : Int) (M : MH) : fIx (.tup l) (.int i) M = (match atI l i with | some x => .ok x M | none => .err) := rfl
theorem itemsOf_ref {n : Nat} {M : MH} {l : List D} (h : M[n]? = some (.lst l)) : itemsOf M (.ref n) = some l := by
  show (match M[n]? with | some (.lst l) => some l | _ => none) = some l
  rw [h]
theorem lstOf_ref {n : Nat} {M : MH} {l : List D} (h : M[n]? = some (.lst l)) : lstOf M (.ref n) = some l := by
  show (match M[n]? with | some (.lst l) => some l | _ => none) = some l
  rw [h]
theorem fIx_ref {n : Nat} {M : MH} {l : List D} (h : M[n]? = some (.lst l)) (i : Int) : fIx (.ref n) (.int i) M = (match atI l i with | some x => .ok x M | none => .err) := by
  have e : fIx (.ref n) (.int i) M = (match itemsOf M (.ref n) with | some l => (match atI l i with | some x => .ok x M | none => .err) | none => .err) := rfl
  rw [e, itemsOf_ref h]
theorem ixN_nat {k n : Nat} (h : k < n) : ixN n (k : Int) = some k := by
  unfold ixN
  rw [if_pos (by omega), if_pos (by omega), Int.toNat_natCast]
theorem atI_at {α : Type} {xs : List α} {k : Nat} {a : α} (h : xs[k]? = some a) : atI xs (k : Int) = some a := by
  have hk : k < xs.length := by
    rcases Nat.lt_or_ge k xs.length with z | z
    · exact z
    · rw [List.getElem?_eq_none z] at h; cases h
  unfold atI
  rw [ixN_nat hk]
  exact h
@[simp] theorem atI_0 {α : Type} (a : α) (l : List α) : atI (a :: l) 0 = some a := atI_at (k := 0) rfl
@[simp] theorem atI_1 {α : Type} (a b : α) (l : List α) : atI (a :: b :: l) 1 = some b := atI_at (k := 1) rfl
@[simp] theorem atI_2 {α : Type} (a b c : α) (l : List α) : atI (a :: b :: c :: l) 2 = some c := atI_at (k := 2) rfl
@[simp] theorem atI_3 {α : Type} (a b c d : α) (l : List α) : atI (a :: b :: c :: d :: l) 3 = some d := atI_at (k := 3) rfl
/-! a call's end -/
theorem gcOk_self (n : Nat) : ∀ M M' : MH, gcOk n M (M ++ M') = true
  | [], _ => rfl
  | o :: os, M' => by
    show ((decide (o = o) || o.lim n) && gcOk n os (os ++ M')) = true
    rw [gcOk_self n os M', decide_eq_true rfl]
    rfl
theorem gcRet_app (M X : MH) (d : D) (h : d.lim M.length = true) : gcRet M d (M ++ X) = .ok d M := by
  unfold gcRet
  rw [h, gcOk_self]
  simp
theorem gcRet_keep (M X : MH) (d : D) (h : d.lim M.length = true) (h2 : M <+: X) : gcRet M d X = .ok d M := by
  obtain ⟨Y, rfl⟩ := h2
  exact gcRet_app M Y d h
@[simp] theorem gcRet_id (M : MH) (d : D) : gcRet M d M = .ok d M := by
  unfold gcRet
  split <;> simp
@[simp] theorem gcExc_id (M : MH) (c : Str) : gcExc M c M = .exc c M := by
  unfold gcExc
  split <;> simp
theorem runBody_eq (np N : Nat) (m : S) (ds : List D) (M : MH) (h : ds.length = np) : runBody np N m ds M = (match m (ds.map some ++ List.replicate (N - np) none) M with
    | .rt d M' => gcRet M d M'
    | .nx _ M' => gcRet M .non M'
    | .exc c _ M' => gcExc M c M'
    | _ => .err) := by
  unfold runBody
  refine (if_pos h).trans ?_
  cases m (ds.map some ++ List.replicate (N - np) none) M <;> rfl
theorem run_rt {np N : Nat} {m : S} {ds : List D} {M M' : MH} {d : D} (h : ds.length = np) (e : m (ds.map some ++ List.replicate (N - np) none) M = .rt d M') : runBody np N m ds M = gcRet M d M' := by
  rw [runBody_eq np N m ds M h, e]
theorem run_nx {np N : Nat} {m : S} {ds : List D} {M M' : MH} {ρ : Ev} (h : ds.length = np) (e : m (ds.map some ++ List.replicate (N - np) none) M = .nx ρ M') : runBody np N m ds M = gcRet M .non M' := by
  rw [runBody_eq np N m ds M h, e]
theorem run_exc {np N : Nat} {m : S} {ds : List D} {M M' : MH} {c : Str} {ρ : Ev} (h : ds.length = np) (e : m (ds.map some ++ List.replicate (N - np) none) M = .exc c ρ M') : runBody np N m ds M = gcExc M c M' := by
  rw [runBody_eq np N m ds M h, e]
theorem run_id {np N : Nat} {m : S} {ds : List D} {M : MH} {d : D} (h : ds.length = np) (e : m (ds.map some ++ List.replicate (N - np) none) M = .rt d M) : runBody np N m ds M = .ok d M := by
  rw [run_rt h e, gcRet_id]
theorem run_exid {np N : Nat} {m : S} {ds : List D} {M : MH} {c : Str} {ρ : Ev} (h : ds.length = np) (e : m (ds.map some ++ List.replicate (N - np) none) M = .exc c ρ M) : runBody np N m ds M = .exc c M := by
  rw [run_exc h e, gcExc_id]
@[simp] theorem LINE_eq : LINE = 16777216 := rfl
theorem whileGo_s (t : T) (b : S) (n : Nat) (ρ : Ev) (M : MH) : whileGo t b (n + 1) ρ M = (t ρ M).toS ρ fun k M1 => if k = true then (match b ρ M1 with
      | .nx ρ2 M2 => whileGo t b n ρ2 M2
      | .ct ρ2 M2 => whileGo t b n ρ2 M2
      | .bk ρ2 M2 => .nx ρ2 M2
      | r => r) else .nx ρ M1 := rfl
end Mp
namespace Mp
open PySem PySem.Spec PyProof.Rows L2
/-! ### tame data -/
inductive Tm (M : MH) : Nat → Nat → D → Prop
  | non {k n} : Tm M k n .non
  | bl {k n} (b : Bool) : Tm M k n (.bl b)
  | int {k n} (i : Int) : Tm M k n (.int i)
  | str {k n} {s : Str} (h : PyData.canLay0 (.str s) = true) : Tm M k n (.str s)
  | tup {k n} {l : List D} (hl : l.length ≤ 1000) (h : ∀ x ∈ l, Tm M k n x) : Tm M k (n + 1) (.tup l)
  | ref {k n i} {l : List D} (h : M[i]? = some (MO.lst l)) (hl : l.length ≤ 1000) (h' : ∀ x ∈ l, Tm M k n x) : Tm M (k + 1) (n + 1) (.ref i)
theorem Tm.mono {M : MH} {k n : Nat} {d : D} (h : Tm M k n d) : ∀ {k' n' : Nat}, k ≤ k' → n ≤ n' → Tm M k' n' d := by
  induction h with
  | non => intros; exact .non
  | bl b => intros; exact .bl b
  | int i => intros; exact .int i
  | str h => intros; exact .str h
  | tup hl h ih =>
    intro k' n' hk hn
    obtain ⟨m, rfl⟩ : ∃ m, n' = m + 1 := ⟨n' - 1, by omega⟩
    exact .tup hl fun x hx => ih x hx hk (by omega)
  | ref h hl h' ih =>
    intro k' n' hk hn
    obtain ⟨m, rfl⟩ : ∃ m, n' = m + 1 := ⟨n' - 1, by omega⟩
    obtain ⟨q, rfl⟩ : ∃ q, k' = q + 1 := ⟨k' - 1, by omega⟩
    exact .ref h hl fun x hx => ih x hx (by omega) (by omega)
theorem Tm.heap {M M' : MH} {k n : Nat} {d : D} (h : Tm M k n d) (e : ∀ (i : Nat) (o : MO), M[i]? = some o → M'[i]? = some o) : Tm M' k n d := by
  induction h with
  | non => exact .non
  | bl b => exact .bl b
  | int i => exact .int i
  | str h => exact .str h
  | tup hl h ih => exact .tup hl ih
  | ref h hl h' ih => exact .ref (e _ _ h) hl ih
theorem Tm.any {M M' : MH} {n : Nat} {d : D} (h : Tm M 0 n d) : Tm M' 0 n d := by
  generalize hk : 0 = k at h
  induction h with
  | non => exact .non
  | bl b => exact .bl b
  | int i => exact .int i
  | str h => exact .str h
  | tup hl h ih => exact .tup hl fun x hx => ih x hx hk
  | ref h hl h' ih => cases hk
theorem toPys_all {f : List D → Option (List PyData)} {M : MH} {n : Nat} : ∀ {l : List D}, (∀ x ∈ l, ∃ p, toPy0 f M x = some p ∧ p.canLay0 = true ∧ p.depth ≤ n) → ∃ ps, toPys0 f M l = some ps ∧ PyData.canLayAll0 ps = true ∧ PyData.depthAll ps ≤ n ∧ ps.length = l.length
  | [], _ => ⟨[], rfl, rfl, Nat.zero_le _, rfl⟩
  | d :: l, h => by
    obtain ⟨p, h1, h2, h3⟩ := h d List.mem_cons_self
    obtain ⟨ps, i1, i2, i3, i4⟩ := toPys_all (l := l) fun x hx => h x (List.mem_cons_of_mem _ hx)
    refine ⟨p :: ps, ?_, ?_, ?_, by rw [List.length_cons, List.length_cons, i4]⟩
    · simp [toPys0, h1, i1]
    · simp [PyData.canLayAll0, h2, i2]
    · simp only [PyData.depthAll]; omega
theorem Tm.py0 {M : MH} {k n : Nat} {d : D} (h : Tm M k n d) : ∃ p, toPy0 (toPyN M k) M d = some p ∧ p.canLay0 = true ∧ p.depth ≤ n := by
  induction h with
  | non => exact ⟨.none, rfl, rfl, Nat.zero_le _⟩
  | bl b => exact ⟨.bool b, rfl, rfl, Nat.zero_le _⟩
  | int i => exact ⟨.int i, rfl, rfl, Nat.zero_le _⟩
  | str h => exact ⟨.str _, rfl, h, Nat.zero_le _⟩
  | tup hl h ih =>
    obtain ⟨ps, h1, h2, h3, _⟩ := toPys_all ih
    exact ⟨.tuple ps, by simp [toPy0, h1], by simpa [PyData.canLay0] using h2, by simp only [PyData.depth]; omega⟩
  | @ref k n i l h hl h' ih =>
    obtain ⟨ps, h1, h2, h3, _⟩ := toPys_all ih
    refine ⟨.list ps, ?_, by simpa [PyData.canLay0] using h2, by simp only [PyData.depth]; omega⟩
    simp only [toPy0, h]
    show ((toPyN M (k + 1)) l).map _ = _
    rw [show toPyN M (k + 1) l = toPys0 (toPyN M k) M l from rfl, h1]
    rfl
theorem Tm.py {M : MH} {n : Nat} {d : D} (h : Tm M 4 n d) (hn : n ≤ 64) : ∃ p, toPy M d = some p ∧ SeqAt.shaped p = true := by
  obtain ⟨p, h1, h2, h3⟩ := h.py0
  refine ⟨p, h1, ?_⟩
  unfold SeqAt.shaped
  rw [h2, decide_eq_true (by omega : p.depth ≤ 64)]
  rfl
theorem Tm.pys {M : MH} {n : Nat} {l : List D} (h : ∀ x ∈ l, Tm M 4 n x) (hn : n ≤ 63) : ∃ ps, toPys0 (toPyN M 4) M l = some ps ∧ SeqAt.shaped (.tuple ps) = true ∧ ps.length = l.length := by
  obtain ⟨ps, h1, h2, h3, h4⟩ := toPys_all fun x hx => (h x hx).py0
  refine ⟨ps, h1, ?_, h4⟩
  unfold SeqAt.shaped
  rw [show PyData.canLay0 (.tuple ps) = PyData.canLayAll0 ps by simp [PyData.canLay0], h2, decide_eq_true (by simp only [PyData.depth]; omega : (PyData.tuple ps).depth ≤ 64)]
  rfl
/-- is it (), [] -/
theorem eqvAll_nil (ps : List PyData) : PyData.eqvAll ps [] = ps.isEmpty := by cases ps <;> rfl
theorem fEq_unit {M : MH} {n : Nat} {l : List D} (neg : Bool) (h : ∀ x ∈ l, Tm M 4 n x) (hn : n ≤ 63) : fEq neg (.tup l) (.tup []) M = .ok (.bl (if neg then !l.isEmpty else l.isEmpty)) M := by
  obtain ⟨ps, h1, h2, h3⟩ := Tm.pys h hn
  have e1 : toPy M (.tup l) = some (.tuple ps) := by simp [toPy, toPy0, h1]
  have e2 : toPy M (.tup []) = some (.tuple []) := by simp [toPy, toPy0, toPys0]
  show fEq0 neg (.tup l) (.tup []) M = _
  unfold fEq0
  rw [e1, e2]
  have e3 : SeqAt.shaped (.tuple []) = true := by decide
  have e4 : PyData.eqv (.tuple ps) (.tuple []) = l.isEmpty := by
    rw [show PyData.eqv (.tuple ps) (.tuple []) = PyData.eqvAll ps [] by simp [PyData.eqv], eqvAll_nil]
    cases ps <;> cases l <;> first | rfl | cases h3
  show (if (SeqAt.shaped (.tuple ps) && SeqAt.shaped (.tuple [])) = true then Res.ok (D.bl (if neg = true then !PyData.eqv (.tuple ps) (.tuple []) else PyData.eqv (.tuple ps) (.tuple []))) M else .err) = _
  rw [h2, e3, e4]
  rfl
theorem fEq_nil {M : MH} {n i j : Nat} {l : List D} (neg : Bool) (h : ∀ x ∈ l, Tm M 3 n x) (hn : n ≤ 63) (hi : M[i]? = some (MO.lst l)) (hj : M[j]? = some (MO.lst [])) : fEq neg (.ref i) (.ref j) M = .ok (.bl (if neg then !l.isEmpty else l.isEmpty)) M := by
  obtain ⟨ps, h1, h2, h3, h4⟩ := toPys_all fun x hx => (h x hx).py0
  have e1 : toPy M (.ref i) = some (.list ps) := by
    simp only [toPy, toPy0, hi]
    show ((toPyN M 4) l).map _ = _
    rw [show toPyN M 4 l = toPys0 (toPyN M 3) M l from rfl, h1]
    rfl
  have e2 : toPy M (.ref j) = some (.list []) := by
    simp only [toPy, toPy0, hj]
    rfl
  show fEq0 neg (.ref i) (.ref j) M = _
  unfold fEq0
  rw [e1, e2]
  have e5 : SeqAt.shaped (.list ps) = true := by
    unfold SeqAt.shaped
    rw [show PyData.canLay0 (.list ps) = PyData.canLayAll0 ps by simp [PyData.canLay0], h2, decide_eq_true (by simp only [PyData.depth]; omega : (PyData.list ps).depth ≤ 64)]
    rfl
  have e3 : SeqAt.shaped (.list []) = true := by decide
  have e4 : PyData.eqv (.list ps) (.list []) = l.isEmpty := by
    rw [show PyData.eqv (.list ps) (.list []) = PyData.eqvAll ps [] by simp [PyData.eqv], eqvAll_nil]
    cases ps <;> cases l <;> first | rfl | cases h4
  show (if (SeqAt.shaped (.list ps) && SeqAt.shaped (.list [])) = true then Res.ok (D.bl (if neg = true then !PyData.eqv (.list ps) (.list []) else PyData.eqv (.list ps) (.list []))) M else .err) = _
  rw [e5, e3, e4]
  rfl
theorem fEq_str {M : MH} {a b : Str} (neg : Bool) (h : PyData.canLay0 (.str a) = true) (h' : PyData.canLay0 (.str b) = true) : fEq neg (.str a) (.str b) M = .ok (.bl (if neg then !(a == b) else (a == b))) M := by
  show Res.ok (D.bl (if neg then !decide (a = b) else decide (a = b))) M = _
  congr 2
theorem fEq_bl {M : MH} (neg a b : Bool) : fEq neg (.bl a) (.bl b) M = .ok (.bl (if neg then !(a == b) else (a == b))) M := by
  cases neg <;> cases a <;> cases b <;> rfl
/-- isinstance -/
def tyB (t : Ty) (d : D) : Bool := (isTy t d).getD false
theorem fIsi_tm {M : MH} {k n : Nat} {d : D} (h : Tm M k n d) (t : Ty) : fIsi t d M = .ok (.bl (tyB t d)) M := by
  cases h with
  | non => cases t <;> rfl
  | bl b => cases t <;> rfl
  | int i => cases t <;> rfl
  | str h => cases t <;> rfl
  | tup hl h => cases t <;> rfl
  | @ref k n i l h hl h' =>
    unfold fIsi
    simp only [h]
    cases t <;> rfl
@[simp] theorem fLen_tup (l : List D) (M : MH) : fLen [.tup l] M = .ok (.int l.length) M := rfl
theorem cut_drop {α : Type} (l : List α) (k : Nat) : cutL l (some (k : Int)) none = l.drop k := by
  unfold cutL
  rw [HT.sIx_nat, HT.sIx_none]
  rcases Nat.le_total k l.length with h | h
  · rw [Nat.min_eq_left h]
    exact List.take_of_length_le (by rw [List.length_drop]; omega)
  · rw [Nat.min_eq_right h, List.drop_length, List.drop_eq_nil_of_le h]
    simp
@[simp] theorem sl_tup (l : List D) (lo hi : Option Int) (M : MH) : fSl (.tup l) lo hi M = .ok (.tup (cutL l lo hi)) M := rfl
/-- comprehensions that leave the heap as it is -/
theorem lc_filter {g : G} {tt : T} {te : E} {chk : List (Nat × List D)} {ρ : Ev} {M : MH} {ρx : D → Ev} {b : D → Bool} {f : D → D} (hc : chkOk chk M = true) : ∀ {l : List D}, (∀ x ∈ l, g x ρ = some (ρx x) ∧ tt (ρx x) M = .ok (b x) M ∧ (b x = true → te (ρx x) M = .ok (f x) M)) →
    lcGo g tt te chk ρ l M = .ok ((l.filter b).map f) M
  | [], _ => by
    show (if chkOk chk M = true then Res.ok [] M else .err) = _
    rw [if_pos hc]
    rfl
  | x :: l, h => by
    obtain ⟨h1, h2, h3⟩ := h x List.mem_cons_self
    have ih := lc_filter hc (l := l) fun y hy => h y (List.mem_cons_of_mem _ hy)
    unfold lcGo
    rw [if_pos hc, h1]
    show ((tt (ρx x) M).nox.bind _) = _
    rw [h2]
    show (if b x = true then _ else _) = _
    cases hb : b x with
    | true =>
      rw [if_pos rfl, h3 hb, List.filter_cons_of_pos (by exact hb)]
      show (lcGo g tt te chk ρ l M).bind _ = _
      rw [ih]
      rfl
    | false =>
      rw [if_neg (by decide), List.filter_cons_of_neg (by rw [hb]; decide)]
      exact ih
theorem lc_map {g : G} {te : E} {chk : List (Nat × List D)} {ρ : Ev} {M : MH} {ρx : D → Ev} {f : D → D} (hc : chkOk chk M = true) {l : List D} (h : ∀ x ∈ l, g x ρ = some (ρx x) ∧ te (ρx x) M = .ok (f x) M) :
    lcGo g tYesD te chk ρ l M = .ok (l.map f) M := by
  have e := lc_filter (tt := tYesD) (b := fun _ => true) (f := f) hc (l := l) fun x hx => ⟨(h x hx).1, rfl, fun _ => (h x hx).2⟩
  rw [e]
  congr 2
  exact List.filter_eq_self.mpr fun _ _ => rfl
theorem bls_of {α : Type} (f : α → Bool) : ∀ l : List α, blsOf (l.map fun x => .bl (f x)) = some (l.map f)
  | [] => rfl
  | x :: l => by simp [blsOf, bls_of f l]
theorem fAll_ref {α : Type} {M : MH} {i : Nat} {l : List α} {f : α → Bool} (h : M[i]? = some (MO.lst (l.map fun x => .bl (f x)))) : fAll [.ref i] M = .ok (.bl (l.all f)) M := by
  show (match M[i]? with
    | some (.lst l) => (match blsOf l with | some bs => Res.ok (D.bl (bs.all id)) M | none => .err)
    | _ => .err) = _
  rw [h]
  show (match blsOf (l.map fun x => .bl (f x)) with | some bs => Res.ok (D.bl (bs.all id)) M | none => .err) = _
  rw [bls_of]
  simp
/-! one step at a time -/
theorem seq_step {a b : S} {ρ ρ' : Ev} {M M' : MH} {r : SRes} (h : a ρ M = .nx ρ' M') (h2 : b ρ' M' = r) : sSeq a b ρ M = r := by rw [sSeq_eq, h, seq_nx, h2]
theorem seq_ret {a b : S} {ρ : Ev} {M M' : MH} {d : D} (h : a ρ M = .rt d M') : sSeq a b ρ M = .rt d M' := by rw [sSeq_eq, h, seq_rt]
theorem ret_step {m : E} {ρ : Ev} {M M' : MH} {d : D} (h : m ρ M = .ok d M') : sRet m ρ M = .rt d M' := by rw [sRet_eq, h]; rfl
theorem set_step {m : E} {ρ : Ev} {M M' : MH} {d : D} {i : Nat} (h : m ρ M = .ok d M') : sSet i m ρ M = .nx (ρ.set i (some d)) M' := by rw [sSet_eq, h]; rfl
theorem expr_step {m : E} {ρ : Ev} {M M' : MH} {d : D} (h : m ρ M = .ok d M') : sExpr m ρ M = .nx ρ M' := by rw [sExpr_eq, h]; rfl
theorem if_t {t : T} {a b : S} {ρ : Ev} {M M' : MH} (h : t ρ M = .ok true M') : sIf t a b ρ M = a ρ M' := by rw [sIf_eq, h]; rfl
theorem if_f {t : T} {a b : S} {ρ : Ev} {M M' : MH} (h : t ρ M = .ok false M') : sIf t a b ρ M = b ρ M' := by rw [sIf_eq, h]; rfl
theorem and_t {a b : E} {ρ : Ev} {M M' : MH} {r : Res D} (h : a ρ M = .ok (.bl true) M') (h2 : b ρ M' = r) : mAnd a b ρ M = r := by rw [mAnd_eq, h]; exact h2
theorem and_f {a b : E} {ρ : Ev} {M M' : MH} (h : a ρ M = .ok (.bl false) M') : mAnd a b ρ M = .ok (.bl false) M' := by rw [mAnd_eq, h]; rfl
theorem tb1 {m : E} {ρ : Ev} {M M' : MH} {b : Bool} (h : m ρ M = .ok (.bl b) M') : tB1 m ρ M = .ok b M' := by rw [tB1_eq, h]; rfl
theorem tand_t {a b : T} {ρ : Ev} {M M' : MH} {r : Res Bool} (h : a ρ M = .ok true M') (h2 : b ρ M' = r) : tAndB a b ρ M = r := by rw [tAndB_eq, h]; exact h2
theorem tand_f {a b : T} {ρ : Ev} {M M' : MH} (h : a ρ M = .ok false M') : tAndB a b ρ M = .ok false M' := by rw [tAndB_eq, h]; rfl
theorem tor_f {a b : T} {ρ : Ev} {M M' : MH} {r : Res Bool} (h : a ρ M = .ok false M') (h2 : b ρ M' = r) : tOrB a b ρ M = r := by rw [tOrB_eq, h]; exact h2
theorem tor_t {a b : T} {ρ : Ev} {M M' : MH} (h : a ρ M = .ok true M') : tOrB a b ρ M = .ok true M' := by rw [tOrB_eq, h]; rfl
/-- is a comprehension's list empty -/
theorem lc_empty {vs : List Nat} {sm : Sm} {g : G} {tt : T} {te : E} {ρ : Ev} {M : MH} {l L : List D} {n : Nat} (neg : Bool) (hs : sm ρ M = .ok ⟨l, []⟩ M) (hl : l.length ≤ LINE) (h : lcGo g tt te [] (wipeD ρ vs) l M = .ok L M) (ht : ∀ x ∈ L, Tm M 3 n x) (hn : n ≤ 63) :
    mBin (fEq neg) (mLc vs sm g tt te) (mLst aNil) ρ M = .ok (.bl (if neg then !L.isEmpty else L.isEmpty)) (M ++ [MO.lst L] ++ [MO.lst []]) := by
  have e1 : mLc vs sm g tt te ρ M = .ok (D.ref M.length) (M ++ [MO.lst L]) := by
    rw [mLc_eq, hs]
    show (if l.length ≤ LINE then (lcGo g tt te [] (wipeD ρ vs) l M).bind fun xs M2 => Res.ok (D.ref M2.length) (M2 ++ [MO.lst xs]) else .err) = _
    rw [if_pos hl, h]
    rfl
  have e2 : mLst aNil ρ (M ++ [MO.lst L]) = .ok (D.ref (M ++ [MO.lst L]).length) (M ++ [MO.lst L] ++ [MO.lst []]) := rfl
  rw [mBin_eq, e1, Res.bind_ok, e2, Res.bind_ok]
  have up : ∀ (i : Nat) (o : MO), M[i]? = some o → (M ++ [MO.lst L] ++ [MO.lst []])[i]? = some o := fun i o hi => by
    have hlt : i < M.length := (List.getElem?_eq_some_iff.mp hi).1
    rw [List.append_assoc, List.getElem?_append_left hlt, hi]
  have g1 : (M ++ [MO.lst L] ++ [MO.lst []])[M.length]? = some (MO.lst L) := by simp
  have g2 : (M ++ [MO.lst L] ++ [MO.lst []])[(M ++ [MO.lst L]).length]? = some (MO.lst []) := by rw [List.getElem?_append_right (Nat.le_refl _)]; simp
  exact fEq_nil neg (fun x hx => (ht x hx).heap up) hn g1 g2
end Mp
namespace K13
open PySem PySem.Spec PyProof.Rows L2 Mp
def c_MOST_DEPTH : D := (.int 12)
def c_NIL : D := (.tup [(.int 0), (.int 1)])
@[irreducible] def f_divisor_of : List D → MH → Res D := runBody 2 2 (sSeq (sPar 0 1 (aCons (mBlt fAbs (aCons (mVar 0) aNil)) (aCons (mBlt fAbs (aCons (mVar 1) aNil)) aNil)))
      (sSeq (sWhile (tB1 (mBin fGt (mVar 1) (mC (.int 0)))) (sPar 0 1 (aCons (mVar 1) (aCons (mBin fMod (mVar 0) (mVar 1)) aNil))))
      (sRet (mVar 0))))
@[irreducible] def f_made : List D → MH → Res D := runBody 2 4 (sSeq (sIf (tB1 (mBin (fEq false) (mVar 1) (mC (.int 0)))) (sRaise ("Nothing" : Str)) sNil)
      (sSeq (sSet 2 (mCall 2 f_divisor_of (aCons (mVar 0) (aCons (mVar 1) aNil))))
      (sSeq (sSet 3 (mIf (tB1 (mBin fLt (mVar 1) (mC (.int 0)))) (mUn fNeg (mC (.int 1))) (mC (.int 1))))
      (sRet (mTup (aCons (mBin fDiv (mBin fMul (mVar 3) (mVar 0)) (mVar 2)) (aCons (mBin fDiv (mBin fMul (mVar 3) (mVar 1)) (mVar 2)) aNil)))))))
@[irreducible] def f_plus : List D → MH → Res D := runBody 2 2 (sRet (mCall 2 f_made (aCons (mBin fAdd (mBin fMul (mBin fIx (mVar 0) (mC (.int 0))) (mBin fIx (mVar 1) (mC (.int 1)))) (mBin fMul (mBin fIx (mVar 1) (mC (.int 0))) (mBin fIx (mVar 0) (mC (.int 1))))) (aCons (mBin fMul (mBin fIx (mVar 0) (mC (.int 1))) (mBin fIx (mVar 1) (mC (.int 1)))) aNil))))
@[irreducible] def f_minus : List D → MH → Res D := runBody 2 2 (sRet (mCall 2 f_made (aCons (mBin fSub (mBin fMul (mBin fIx (mVar 0) (mC (.int 0))) (mBin fIx (mVar 1) (mC (.int 1)))) (mBin fMul (mBin fIx (mVar 1) (mC (.int 0))) (mBin fIx (mVar 0) (mC (.int 1))))) (aCons (mBin fMul (mBin fIx (mVar 0) (mC (.int 1))) (mBin fIx (mVar 1) (mC (.int 1)))) aNil))))
@[irreducible] def f_times : List D → MH → Res D := runBody 2 2 (sRet (mCall 2 f_made (aCons (mBin fMul (mBin fIx (mVar 0) (mC (.int 0))) (mBin fIx (mVar 1) (mC (.int 0)))) (aCons (mBin fMul (mBin fIx (mVar 0) (mC (.int 1))) (mBin fIx (mVar 1) (mC (.int 1)))) aNil))))
@[irreducible] def f_over_by : List D → MH → Res D := runBody 2 2 (sRet (mCall 2 f_made (aCons (mBin fMul (mBin fIx (mVar 0) (mC (.int 0))) (mBin fIx (mVar 1) (mC (.int 1)))) (aCons (mBin fMul (mBin fIx (mVar 0) (mC (.int 1))) (mBin fIx (mVar 1) (mC (.int 0)))) aNil))))
@[irreducible] def f_is_less : List D → MH → Res D := runBody 2 2 (sRet (mBin fLt (mBin fMul (mBin fIx (mVar 0) (mC (.int 0))) (mBin fIx (mVar 1) (mC (.int 1)))) (mBin fMul (mBin fIx (mVar 1) (mC (.int 0))) (mBin fIx (mVar 0) (mC (.int 1))))))
@[irreducible] def f_is_integer : List D → MH → Res D := runBody 1 1 (sRet (mAnd (mUn (fIsi .int) (mVar 0)) (mNot (mUn (fIsi .bool) (mVar 0)))))
@[irreducible] def f_is_share : List D → MH → Res D := runBody 1 2 (sSeq (sIf (tOrB (tNotB (tB1 (mUn (fIsi .tuple) (mVar 0)))) (tOrB (tB1 (mBin (fEq true) (mBlt fLen (aCons (mVar 0) aNil)) (mC (.int 2)))) (tNotB (tB1 (mBlt fAll (aCons (mLc [1] (sSq (mVar 0)) (gN 1) tYesD (mCall 1 f_is_integer (aCons (mVar 1) aNil))) aNil)))))) (sRet (mC (.bl false))) sNil)
      (sRet (mAnd (mBin fGt (mBin fIx (mVar 0) (mC (.int 1))) (mC (.int 0))) (mAnd (mChain fLe fLe (mC (.int 0)) (mBin fIx (mVar 0) (mC (.int 0))) (mBin fIx (mVar 0) (mC (.int 1)))) (mBin (fEq false) (mCall 2 f_divisor_of (aCons (mBin fIx (mVar 0) (mC (.int 0))) (aCons (mBin fIx (mVar 0) (mC (.int 1))) aNil))) (mC (.int 1)))))))
@[irreducible] def f_sum_of : List D → MH → Res D := runBody 1 3 (sSeq (sSet 1 (mC c_NIL))
      (sSeq (sFor (sSq (mVar 0)) (gN 2) (sSet 1 (mCall 2 f_plus (aCons (mVar 1) (aCons (mVar 2) aNil)))))
      (sRet (mVar 1))))
@[irreducible] def f_solved : List D → MH → Res D := runBody 1 11 (sSeq (sAsg (uT 2 (uCons (uN 1) (uCons (uN 2) uNil))) (mTup (aCons (mLc [3, 4] (sSq (mVar 0)) (gT 2 (gConsD (gN 3) (gConsD (gN 4) gNilD))) tYesD (mBin fAdd (mBlt fList (aCons (mVar 3) aNil)) (mLst (aCons (mVar 4) aNil)))) (aCons (mBlt fLen (aCons (mVar 0) aNil)) aNil))))
      (sSeq (sFor (sArg fRng1 (aCons (mVar 2) aNil)) (gN 5) (sSeq (sSet 6 (mLc [7] (sArg fRng2 (aCons (mVar 5) (aCons (mVar 2) aNil))) (gN 7) (tB1 (mBin (fEq true) (mBin fIx (mBin fIx (mVar 1) (mVar 7)) (mVar 5)) (mC c_NIL))) (mVar 7)))
      (sSeq (sIf (tB1 (mBin (fEq false) (mVar 6) (mLst aNil))) (sRet (mC .non)) sNil)
      (sSeq (sAsg (uT 2 (uCons (uSub (mVar 1) (mVar 5)) (uCons (uSub (mVar 1) (mBin fIx (mVar 6) (mC (.int 0)))) uNil))) (mTup (aCons (mBin fIx (mVar 1) (mBin fIx (mVar 6) (mC (.int 0)))) (aCons (mBin fIx (mVar 1) (mVar 5)) aNil))))
      (sSeq (sSet 8 (mBin fIx (mBin fIx (mVar 1) (mVar 5)) (mVar 5)))
      (sSeq (sAsg (uSub (mVar 1) (mVar 5)) (mLc [4] (sSq (mBin fIx (mVar 1) (mVar 5))) (gN 4) tYesD (mCall 2 f_over_by (aCons (mVar 4) (aCons (mVar 8) aNil)))))
      (sFor (sArg fRng1 (aCons (mVar 2) aNil)) (gN 7) (sSeq (sSet 9 (mBin fIx (mBin fIx (mVar 1) (mVar 7)) (mVar 5)))
      (sIf (tAndB (tB1 (mBin (fEq true) (mVar 7) (mVar 5))) (tB1 (mBin (fEq true) (mVar 9) (mC c_NIL)))) (sAsg (uSub (mVar 1) (mVar 7)) (mLc [4, 10] (sArg fZip (aCons (mBin fIx (mVar 1) (mVar 7)) (aCons (mBin fIx (mVar 1) (mVar 5)) aNil))) (gT 2 (gConsD (gN 4) (gConsD (gN 10) gNilD))) tYesD (mCall 2 f_minus (aCons (mVar 4) (aCons (mCall 2 f_times (aCons (mVar 9) (aCons (mVar 10) aNil))) aNil))))) sNil)))))))))
      (sRet (mBlt fTuple (aCons (mLc [3] (sSq (mVar 1)) (gN 3) tYesD (mBin fIx (mVar 3) (mVar 2))) aNil)))))
@[irreducible] def f_is_count : List D → MH → Res D := runBody 1 1 (sRet (mAnd (mCall 1 f_is_integer (aCons (mVar 0) aNil)) (mBin fGe (mVar 0) (mC (.int 0)))))
@[irreducible] def f_is_few : List D → MH → Res D := runBody 1 1 (sRet (mAnd (mCall 1 f_is_count (aCons (mVar 0) aNil)) (mBin fLt (mVar 0) (mBin fPow (mC (.int 10)) (mC (.int 9))))))
def tab_is_tuple_of : List (Str × (List D → MH → Res D)) := [("is_few", f_is_few)]
@[irreducible] def f_is_tuple_of : List D → MH → Res D := runBody 2 3 (sRet (mAnd (mUn (fIsi .tuple) (mVar 0)) (mBlt fAll (aCons (mLc [2] (sSq (mVar 0)) (gN 2) tYesD (mCallV 1 tab_is_tuple_of 1 (aCons (mVar 2) aNil))) aNil))))
@[irreducible] def f_is_counts : List D → MH → Res D := runBody 1 1 (sRet (mCall 2 f_is_tuple_of (aCons (mVar 0) (aCons (mC (.fn ("is_few" : Str))) aNil))))
@[irreducible] def f_inner_goings : List D → MH → Res D := runBody 1 1 (sSeq (sIf (tOrB (tNotB (tB1 (mUn (fIsi .tuple) (mVar 0)))) (tOrB (tB1 (mBin (fEq false) (mVar 0) (mTup aNil))) (tNotB (tB1 (mUn (fIsi .str) (mBin fIx (mVar 0) (mC (.int 0)))))))) (sRet (mC .non)) sNil)
      (sSeq (sIf (tB1 (mBin (fIn false) (mBin fIx (mVar 0) (mC (.int 0))) (mTup (aCons (mC (.str ("work" : Str))) (aCons (mC (.str ("quiet" : Str))) aNil))))) (sRet (mIf (tB1 (mBin (fEq false) (mBlt fLen (aCons (mVar 0) aNil)) (mC (.int 1)))) (mTup aNil) (mC .non))) sNil)
      (sSeq (sIf (tB1 (mBin (fIn false) (mBin fIx (mVar 0) (mC (.int 0))) (mTup (aCons (mC (.str ("row" : Str))) (aCons (mC (.str ("again" : Str))) aNil))))) (sRet (mIf (tB1 (mBin fGt (mBlt fLen (aCons (mVar 0) aNil)) (mC (.int 1)))) (mSl (mVar 0) (some (mC (.int 1))) none) (mC .non))) sNil)
      (sSeq (sIf (tB1 (mBin (fEq false) (mBin fIx (mVar 0) (mC (.int 0))) (mC (.str ("one" : Str))))) (sRet (mIf (tAndB (tB1 (mBin (fEq false) (mBlt fLen (aCons (mVar 0) aNil)) (mC (.int 3)))) (tB1 (mCall 1 f_is_few (aCons (mBin fIx (mVar 0) (mC (.int 1))) aNil)))) (mSl (mVar 0) (some (mC (.int 2))) none) (mC .non))) sNil)
      (sRet (mIf (tAndB (tB1 (mBin (fEq false) (mBin fIx (mVar 0) (mC (.int 0))) (mC (.str ("beside" : Str))))) (tAndB (tB1 (mBin fGt (mBlt fLen (aCons (mVar 0) aNil)) (mC (.int 2)))) (tB1 (mCall 1 f_is_counts (aCons (mBin fIx (mVar 0) (mC (.int 1))) aNil))))) (mSl (mVar 0) (some (mC (.int 2))) none) (mC .non)))))))
@[irreducible] def f_is_going_form : List D → MH → Res D := runBody 1 6 (sSeq (sSet 1 (mLst (aCons (mTup (aCons (mVar 0) (aCons (mC (.int 1)) aNil))) aNil)))
      (sSeq (sWhile (tB1 (mBin (fEq true) (mVar 1) (mLst aNil))) (sSeq (sAsg (uT 2 (uCons (uN 2) (uCons (uN 3) uNil))) (mLMeth fPop (mVar 1) aNil))
      (sSeq (sSet 4 (mCall 1 f_inner_goings (aCons (mVar 2) aNil)))
      (sSeq (sIf (tOrB (tB1 (mBin (fIs false) (mVar 4) (mC .non))) (tB1 (mBin fGt (mVar 3) (mC c_MOST_DEPTH)))) (sRet (mC (.bl false))) sNil)
      (sExpr (mLMeth fExtend (mVar 1) (aCons (mLc [5] (sSq (mVar 4)) (gN 5) tYesD (mTup (aCons (mVar 5) (aCons (mBin fAdd (mVar 3) (mC (.int 1))) aNil)))) aNil)))))))
      (sRet (mC (.bl true)))))
@[irreducible] def f_law_bag : List D → MH → Res D := runBody 1 2 (sRet (mLst (aCons (mC (.int 0)) (aCons (mC (.int 1234567891)) (aCons (mC (.int 0)) (aCons (mLc [1] (sSq (mSl (mVar 0) none (some (mC (.int 63))))) (gN 1) tYesD (mBlt fAbs (aCons (mVar 1) aNil))) aNil))))))
@[irreducible] def f_law_take : List D → MH → Res D := runBody 2 7 (sSeq (sIf (tB1 (mBin (fEq false) (mBin fIx (mVar 0) (mC (.int 0))) (mC (.int 0)))) (sSeq (sSet 2 (mBin fIx (mBin fAdd (mSl (mBin fIx (mVar 0) (mC (.int 3))) (some (mBin fIx (mVar 0) (mC (.int 2)))) none) (mLst (aCons (mC (.int 0)) aNil))) (mC (.int 0))))
      (sSeq (sAugS (mVar 0) (mC (.int 2)) (fInt2 fun i j => i + j) (mC (.int 1)))
      (sSeq (sIf (tB1 (mBin fGe (mVar 2) (mBin fPow (mC (.int 10)) (mC (.int 18))))) (sAsg (uSub (mVar 0) (mC (.int 0))) (mVar 2)) sNil)
      (sSeq (sSet 3 (mBin fAdd (mBin fAdd (mBin fMul (mBin fIx (mVar 0) (mC (.int 1))) (mC (.int 48271))) (mBin fMod (mBlt fInt1 (aCons (mVar 2) aNil)) (mC (.int 2147483647)))) (mBin fMul (mC (.int 7919)) (mBin fIx (mVar 0) (mC (.int 2))))))
      (sAsg (uSub (mVar 0) (mC (.int 1))) (mBin fMod (mBlt fInt1 (aCons (mVar 3) aNil)) (mC (.int 2147483647)))))))) sNil)
      (sSeq (sIf (tB1 (mBin fGt (mBin fIx (mVar 0) (mC (.int 0))) (mC (.int 0)))) (sSeq (sSet 4 (mBin fMod (mBlt fInt1 (aCons (mBin fIx (mVar 0) (mC (.int 0))) aNil)) (mVar 1)))
      (sSeq (sAsg (uSub (mVar 0) (mC (.int 0))) (mBin fDiv (mBlt fInt1 (aCons (mBin fIx (mVar 0) (mC (.int 0))) aNil)) (mVar 1)))
      (sRet (mVar 4)))) sNil)
      (sSeq (sSet 5 (mBin fMod (mBlt fInt1 (aCons (mBin fMul (mBin fAdd (mBin fIx (mVar 0) (mC (.int 1))) (mC (.int 1))) (mC (.int 39373))) aNil)) (mC (.int 1000000007))))
      (sSeq (sSet 6 (mBin fMod (mBlt fInt1 (aCons (mBin fMul (mBin fMod (mBlt fInt1 (aCons (mBin fMul (mVar 5) (mVar 5)) aNil)) (mC (.int 998244353))) (mC (.int 30011))) aNil)) (mC (.int 998244353))))
      (sRet (mBin fMod (mBlt fInt1 (aCons (mBin fDiv (mVar 6) (mC (.int 7))) aNil)) (mVar 1)))))))
@[irreducible] def f_law_some : List D → MH → Res D := runBody 2 2 (sRet (mBin fIx (mVar 1) (mCall 2 f_law_take (aCons (mVar 0) (aCons (mBlt fLen (aCons (mVar 1) aNil)) aNil)))))
@[irreducible] def f_law_alike : List D → MH → Res D := runBody 2 2 (sRet (mAnd (mBin (fEq false) (mBlt fRepr (aCons (mVar 0) aNil)) (mBlt fRepr (aCons (mVar 1) aNil))) (mBin (fEq false) (mVar 0) (mVar 1))))
@[irreducible] def f_law_is_int : List D → MH → Res D := runBody 1 1 (sRet (mAnd (mUn (fIsi .int) (mVar 0)) (mNot (mUn (fIsi .bool) (mVar 0)))))
@[irreducible] def f_law_gcd : List D → MH → Res D := runBody 2 2 (sSeq (sPar 0 1 (aCons (mBlt fAbs (aCons (mVar 0) aNil)) (aCons (mBlt fAbs (aCons (mVar 1) aNil)) aNil)))
      (sSeq (sWhile (tB1 (mBin (fEq true) (mVar 1) (mC (.int 0)))) (sPar 0 1 (aCons (mVar 1) (aCons (mBin fMod (mVar 0) (mVar 1)) aNil))))
      (sRet (mVar 0))))
@[irreducible] def f_law_fr : List D → MH → Res D := runBody 2 3 (sSeq (sSet 2 (mCall 2 f_law_gcd (aCons (mVar 0) (aCons (mVar 1) aNil))))
      (sSeq (sSet 2 (mIf (tB1 (mBin fGt (mVar 1) (mC (.int 0)))) (mVar 2) (mBin fSub (mC (.int 0)) (mVar 2))))
      (sRet (mTup (aCons (mBin fDiv (mVar 0) (mVar 2)) (aCons (mBin fDiv (mVar 1) (mVar 2)) aNil))))))
@[irreducible] def f_law_add : List D → MH → Res D := runBody 2 2 (sRet (mCall 2 f_law_fr (aCons (mBin fAdd (mBin fMul (mBin fIx (mVar 0) (mC (.int 0))) (mBin fIx (mVar 1) (mC (.int 1)))) (mBin fMul (mBin fIx (mVar 1) (mC (.int 0))) (mBin fIx (mVar 0) (mC (.int 1))))) (aCons (mBin fMul (mBin fIx (mVar 0) (mC (.int 1))) (mBin fIx (mVar 1) (mC (.int 1)))) aNil))))
@[irreducible] def f_law_less : List D → MH → Res D := runBody 2 2 (sRet (mCall 2 f_law_fr (aCons (mBin fSub (mBin fMul (mBin fIx (mVar 0) (mC (.int 0))) (mBin fIx (mVar 1) (mC (.int 1)))) (mBin fMul (mBin fIx (mVar 1) (mC (.int 0))) (mBin fIx (mVar 0) (mC (.int 1))))) (aCons (mBin fMul (mBin fIx (mVar 0) (mC (.int 1))) (mBin fIx (mVar 1) (mC (.int 1)))) aNil))))
@[irreducible] def f_law_mul : List D → MH → Res D := runBody 2 2 (sRet (mCall 2 f_law_fr (aCons (mBin fMul (mBin fIx (mVar 0) (mC (.int 0))) (mBin fIx (mVar 1) (mC (.int 0)))) (aCons (mBin fMul (mBin fIx (mVar 0) (mC (.int 1))) (mBin fIx (mVar 1) (mC (.int 1)))) aNil))))
@[irreducible] def f_law_small : List D → MH → Res D := runBody 1 1 (sRet (mCall 2 f_law_fr (aCons (mBin fSub (mCall 2 f_law_take (aCons (mVar 0) (aCons (mC (.int 9)) aNil))) (mC (.int 4))) (aCons (mCall 2 f_law_some (aCons (mVar 0) (aCons (mLst (aCons (mC (.int 1)) (aCons (mC (.int 1)) (aCons (mC (.int 2)) (aCons (mC (.int 3)) aNil))))) aNil))) aNil))))
@[irreducible] def f_law_solved : List D → MH → Res D := runBody 1 11 (sSeq (sSet 1 (mBlt fLen (aCons (mVar 0) aNil)))
      (sSeq (sSet 2 (mLc [3, 4] (sSq (mVar 0)) (gT 2 (gConsD (gN 3) (gConsD (gN 4) gNilD))) tYesD (mBin fAdd (mBlt fList (aCons (mVar 3) aNil)) (mLst (aCons (mVar 4) aNil)))))
      (sSeq (sFor (sArg fRng1 (aCons (mVar 1) aNil)) (gN 5) (sSeq (sSet 6 (mLc [7] (sArg fRng2 (aCons (mVar 5) (aCons (mVar 1) aNil))) (gN 7) (tB1 (mBin (fEq true) (mBin fIx (mBin fIx (mBin fIx (mVar 2) (mVar 7)) (mVar 5)) (mC (.int 0))) (mC (.int 0)))) (mVar 7)))
      (sSeq (sIf (tB1 (mBin (fEq false) (mVar 6) (mLst aNil))) (sRet (mC .non)) sNil)
      (sSeq (sAsg (uT 2 (uCons (uSub (mVar 2) (mVar 5)) (uCons (uSub (mVar 2) (mBin fIx (mVar 6) (mC (.int 0)))) uNil))) (mTup (aCons (mBin fIx (mVar 2) (mBin fIx (mVar 6) (mC (.int 0)))) (aCons (mBin fIx (mVar 2) (mVar 5)) aNil))))
      (sFor (sArg fRng1 (aCons (mVar 1) aNil)) (gN 7) (sIf (tB1 (mBin (fEq true) (mVar 7) (mVar 5))) (sSeq (sSet 8 (mCall 2 f_law_fr (aCons (mBin fMul (mBin fIx (mBin fIx (mBin fIx (mVar 2) (mVar 7)) (mVar 5)) (mC (.int 0))) (mBin fIx (mBin fIx (mBin fIx (mVar 2) (mVar 5)) (mVar 5)) (mC (.int 1)))) (aCons (mBin fMul (mBin fIx (mBin fIx (mBin fIx (mVar 2) (mVar 7)) (mVar 5)) (mC (.int 1))) (mBin fIx (mBin fIx (mBin fIx (mVar 2) (mVar 5)) (mVar 5)) (mC (.int 0)))) aNil))))
      (sAsg (uSub (mVar 2) (mVar 7)) (mLc [9, 10] (sArg fZip (aCons (mBin fIx (mVar 2) (mVar 7)) (aCons (mBin fIx (mVar 2) (mVar 5)) aNil))) (gT 2 (gConsD (gN 9) (gConsD (gN 10) gNilD))) tYesD (mCall 2 f_law_less (aCons (mVar 9) (aCons (mCall 2 f_law_mul (aCons (mVar 8) (aCons (mVar 10) aNil))) aNil)))))) sNil))))))
      (sRet (mBlt fTuple (aCons (mLc [7] (sArg fRng1 (aCons (mVar 1) aNil)) (gN 7) tYesD (mCall 2 f_law_fr (aCons (mBin fMul (mBin fIx (mBin fIx (mBin fIx (mVar 2) (mVar 7)) (mVar 1)) (mC (.int 0))) (mBin fIx (mBin fIx (mBin fIx (mVar 2) (mVar 7)) (mVar 7)) (mC (.int 1)))) (aCons (mBin fMul (mBin fIx (mBin fIx (mBin fIx (mVar 2) (mVar 7)) (mVar 1)) (mC (.int 1))) (mBin fIx (mBin fIx (mBin fIx (mVar 2) (mVar 7)) (mVar 7)) (mC (.int 0)))) aNil)))) aNil))))))
@[irreducible] def g_law_is_going (self : List D → MH → Res D) : List D → MH → Res D := runBody 2 5 (sSeq (sIf (tOrB (tB1 (mBin (fEq false) (mVar 1) (mC (.int 0)))) (tOrB (tNotB (tB1 (mUn (fIsi .tuple) (mVar 0)))) (tOrB (tB1 (mBin (fEq false) (mVar 0) (mTup aNil))) (tNotB (tB1 (mUn (fIsi .str) (mBin fIx (mVar 0) (mC (.int 0))))))))) (sRet (mC (.bl false))) sNil)
      (sSeq (sSet 2 (mBin fIx (mVar 0) (mC (.int 0))))
      (sSeq (sIf (tB1 (mBin (fIn false) (mVar 2) (mTup (aCons (mC (.str ("work" : Str))) (aCons (mC (.str ("quiet" : Str))) aNil))))) (sRet (mBin (fEq false) (mBlt fLen (aCons (mVar 0) aNil)) (mC (.int 1)))) sNil)
      (sSeq (sIf (tB1 (mBin (fEq false) (mVar 2) (mC (.str ("one" : Str))))) (sRet (mAnd (mBin (fEq false) (mBlt fLen (aCons (mVar 0) aNil)) (mC (.int 3))) (mAnd (mCall 1 f_law_is_int (aCons (mBin fIx (mVar 0) (mC (.int 1))) aNil)) (mAnd (mBin fGe (mBin fIx (mVar 0) (mC (.int 1))) (mC (.int 0))) (mCall 2 self (aCons (mBin fIx (mVar 0) (mC (.int 2))) (aCons (mBin fSub (mVar 1) (mC (.int 1))) aNil))))))) sNil)
      (sSeq (sIf (tB1 (mBin (fIn true) (mVar 2) (mTup (aCons (mC (.str ("row" : Str))) (aCons (mC (.str ("again" : Str))) (aCons (mC (.str ("beside" : Str))) aNil)))))) (sRet (mC (.bl false))) sNil)
      (sSeq (sSet 3 (mIf (tB1 (mBin (fEq false) (mVar 2) (mC (.str ("beside" : Str))))) (mC (.int 2)) (mC (.int 1))))
      (sSeq (sIf (tAndB (tB1 (mBin (fEq false) (mVar 2) (mC (.str ("beside" : Str))))) (tOrB (tB1 (mBin fLt (mBlt fLen (aCons (mVar 0) aNil)) (mC (.int 2)))) (tOrB (tNotB (tB1 (mUn (fIsi .tuple) (mBin fIx (mVar 0) (mC (.int 1)))))) (tB1 (mBin (fEq true) (mLc [4] (sSq (mBin fIx (mVar 0) (mC (.int 1)))) (gN 4) (tOrB (tNotB (tB1 (mCall 1 f_law_is_int (aCons (mVar 4) aNil)))) (tB1 (mBin fLt (mVar 4) (mC (.int 0))))) (mVar 4)) (mLst aNil)))))) (sRet (mC (.bl false))) sNil)
      (sRet (mAnd (mBin fGt (mBlt fLen (aCons (mVar 0) aNil)) (mVar 3)) (mBin (fEq false) (mLc [4] (sSq (mSl (mVar 0) (some (mVar 3)) none)) (gN 4) (tNotB (tB1 (mCall 2 self (aCons (mVar 4) (aCons (mBin fSub (mVar 1) (mC (.int 1))) aNil))))) (mVar 4)) (mLst aNil)))))))))))
def f_law_is_going : Nat → List D → MH → Res D
  | 0 => fun _ _ => .err
  | n + 1 => g_law_is_going (f_law_is_going n)
theorem f_law_is_going_s (n : Nat) : f_law_is_going (n + 1) = g_law_is_going (f_law_is_going n) := rfl
theorem f_law_is_going_z : f_law_is_going 0 = fun _ _ => .err := rfl
@[irreducible] def g_law_going (self : List D → MH → Res D) : List D → MH → Res D := runBody 2 5 (sSeq (sSet 2 (mIf (tB1 (mBin fGt (mVar 1) (mC (.int 0)))) (mCall 2 f_law_take (aCons (mVar 0) (aCons (mC (.int 6)) aNil))) (mCall 2 f_law_take (aCons (mVar 0) (aCons (mC (.int 2)) aNil)))))
      (sSeq (sIf (tB1 (mBin fLt (mVar 2) (mC (.int 2)))) (sRet (mIf (tB1 (mBin (fEq false) (mVar 2) (mC (.int 0)))) (mTup (aCons (mC (.str ("work" : Str))) aNil)) (mTup (aCons (mC (.str ("quiet" : Str))) aNil)))) sNil)
      (sSeq (sIf (tB1 (mBin (fEq false) (mVar 2) (mC (.int 2)))) (sRet (mTup (aCons (mC (.str ("one" : Str))) (aCons (mCall 2 f_law_take (aCons (mVar 0) (aCons (mC (.int 4)) aNil))) (aCons (mCall 2 self (aCons (mVar 0) (aCons (mBin fSub (mVar 1) (mC (.int 1))) aNil))) aNil))))) sNil)
      (sSeq (sSet 3 (mBlt fTuple (aCons (mLc [4] (sArg fRng1 (aCons (mBin fAdd (mC (.int 1)) (mCall 2 f_law_take (aCons (mVar 0) (aCons (mC (.int 2)) aNil)))) aNil)) (gN 4) tYesD (mCall 2 self (aCons (mVar 0) (aCons (mBin fSub (mVar 1) (mC (.int 1))) aNil)))) aNil)))
      (sSeq (sIf (tB1 (mBin (fEq false) (mVar 2) (mC (.int 3)))) (sRet (mBin fAdd (mTup (aCons (mC (.str ("beside" : Str))) (aCons (mBlt fTuple (aCons (mLc [4] (sArg fRng1 (aCons (mCall 2 f_law_take (aCons (mVar 0) (aCons (mC (.int 4)) aNil))) aNil)) (gN 4) tYesD (mCall 2 f_law_take (aCons (mVar 0) (aCons (mC (.int 3)) aNil)))) aNil)) aNil))) (mVar 3))) sNil)
      (sRet (mBin fAdd (mTup (aCons (mCall 2 f_law_some (aCons (mVar 0) (aCons (mLst (aCons (mC (.str ("row" : Str))) (aCons (mC (.str ("again" : Str))) aNil))) aNil))) aNil)) (mVar 3))))))))
def f_law_going : Nat → List D → MH → Res D
  | 0 => fun _ _ => .err
  | n + 1 => g_law_going (f_law_going n)
theorem f_law_going_s (n : Nat) : f_law_going (n + 1) = g_law_going (f_law_going n) := rfl
theorem f_law_going_z : f_law_going 0 = fun _ _ => .err := rfl
def law_s1 : S := (sAsg (uT 2 (uCons (uN 3) (uCons (uN 4) uNil))) (mTup (aCons (mCall 1 f_law_small (aCons (mVar 1) aNil)) (aCons (mCall 1 f_law_small (aCons (mVar 1) aNil)) aNil))))
def law_s2 : S := (sAsg (uT 2 (uCons (uN 5) (uCons (uN 6) uNil))) (mTup (aCons (mBin fSub (mCall 2 f_law_take (aCons (mVar 1) (aCons (mC (.int 30)) aNil))) (mC (.int 15))) (aCons (mBin fSub (mCall 2 f_law_take (aCons (mVar 1) (aCons (mC (.int 9)) aNil))) (mC (.int 4))) aNil))))
def law_s3 : S := (sSet 7 (mIf (tB1 (mBin (fEq true) (mVar 6) (mC (.int 0)))) (mTup (aCons (mC (.str ("told" : Str))) (aCons (mCall 2 f_law_fr (aCons (mVar 5) (aCons (mVar 6) aNil))) aNil))) (mTup (aCons (mC (.str ("nothing" : Str))) aNil))))
def law_s4 : S := (sIf (tB1 (mBin (fEq true) (mThunk (okTup "told") (exTup "Nothing" "nothing") (mCall 2 f_made (aCons (mVar 5) (aCons (mVar 6) aNil)))) (mVar 7))) (sRet (mC (.bl false))) sNil)
def law_s5 : S := (sSet 8 (mIf (tB1 (mBin (fEq true) (mBin fIx (mVar 4) (mC (.int 0))) (mC (.int 0)))) (mTup (aCons (mC (.str ("told" : Str))) (aCons (mCall 2 f_law_fr (aCons (mBin fMul (mBin fIx (mVar 3) (mC (.int 0))) (mBin fIx (mVar 4) (mC (.int 1)))) (aCons (mBin fMul (mBin fIx (mVar 3) (mC (.int 1))) (mBin fIx (mVar 4) (mC (.int 0)))) aNil))) aNil))) (mTup (aCons (mC (.str ("nothing" : Str))) aNil))))
def law_s6 : S := (sSet 9 (mLst (aCons (mCall 2 f_plus (aCons (mVar 3) (aCons (mVar 4) aNil))) (aCons (mCall 2 f_minus (aCons (mVar 3) (aCons (mVar 4) aNil))) (aCons (mCall 2 f_times (aCons (mVar 3) (aCons (mVar 4) aNil))) (aCons (mCall 2 f_is_less (aCons (mVar 3) (aCons (mVar 4) aNil))) (aCons (mCall 1 f_sum_of (aCons (mLst (aCons (mVar 3) (aCons (mVar 4) (aCons (mVar 3) aNil)))) aNil)) (aCons (mCall 1 f_sum_of (aCons (mTup aNil) aNil)) aNil))))))))
def law_s7 : S := (sIf (tNotB (tB1 (mCall 2 f_law_alike (aCons (mVar 9) (aCons (mLst (aCons (mCall 2 f_law_add (aCons (mVar 3) (aCons (mVar 4) aNil))) (aCons (mCall 2 f_law_less (aCons (mVar 3) (aCons (mVar 4) aNil))) (aCons (mCall 2 f_law_mul (aCons (mVar 3) (aCons (mVar 4) aNil))) (aCons (mBin fLt (mBin fMul (mBin fIx (mVar 3) (mC (.int 0))) (mBin fIx (mVar 4) (mC (.int 1)))) (mBin fMul (mBin fIx (mVar 4) (mC (.int 0))) (mBin fIx (mVar 3) (mC (.int 1))))) (aCons (mCall 2 f_law_add (aCons (mCall 2 f_law_add (aCons (mVar 3) (aCons (mVar 4) aNil))) (aCons (mVar 3) aNil))) (aCons (mTup (aCons (mC (.int 0)) (aCons (mC (.int 1)) aNil))) aNil))))))) aNil))))) (sRet (mC (.bl false))) sNil)
def law_s8 : S := (sIf (tB1 (mBin (fEq true) (mThunk (okTup "told") (exTup "Nothing" "nothing") (mCall 2 f_over_by (aCons (mVar 3) (aCons (mVar 4) aNil)))) (mVar 8))) (sRet (mC (.bl false))) sNil)
def law_b1 : S := (sSeq (sSet 11 (mAnd (mUn (fIsi .tuple) (mVar 10)) (mAnd (mBin (fEq false) (mBlt fLen (aCons (mVar 10) aNil)) (mC (.int 2))) (mAnd (mCall 1 f_law_is_int (aCons (mBin fIx (mVar 10) (mC (.int 0))) aNil)) (mCall 1 f_law_is_int (aCons (mBin fIx (mVar 10) (mC (.int 1))) aNil))))))
      (sSeq (sSet 11 (mAnd (mVar 11) (mAnd (mBin fGt (mBin fIx (mVar 10) (mC (.int 1))) (mC (.int 0))) (mAnd (mBin (fEq false) (mCall 2 f_law_gcd (aCons (mBin fIx (mVar 10) (mC (.int 0))) (aCons (mBin fIx (mVar 10) (mC (.int 1))) aNil))) (mC (.int 1))) (mChain fLe fLe (mC (.int 0)) (mBin fIx (mVar 10) (mC (.int 0))) (mBin fIx (mVar 10) (mC (.int 1))))))))
      (sIf (tB1 (mBin (fEq true) (mCall 1 f_is_share (aCons (mVar 10) aNil)) (mVar 11))) (sRet (mC (.bl false))) sNil)))
def law_s9 : S := (sFor (sSq (mTup (aCons (mVar 3) (aCons (mTup (aCons (mC (.int 0)) (aCons (mC (.int 1)) aNil))) (aCons (mTup (aCons (mC (.int 1)) (aCons (mC (.int 1)) aNil))) (aCons (mTup (aCons (mC (.int 2)) (aCons (mC (.int 4)) aNil))) (aCons (mTup (aCons (mC (.int 3)) (aCons (mC (.int 2)) aNil))) (aCons (mTup (aCons (mUn fNeg (mC (.int 1))) (aCons (mC (.int 2)) aNil))) (aCons (mTup (aCons (mC (.int 1)) (aCons (mC (.int 0)) aNil))) (aCons (mTup (aCons (mC (.bl true)) (aCons (mC (.int 1)) aNil))) (aCons (mTup (aCons (mC (.int 1)) (aCons (mC (.bl true)) aNil))) (aCons (mLst (aCons (mC (.int 1)) (aCons (mC (.int 2)) aNil))) (aCons (mTup (aCons (mC (.int 1)) aNil)) (aCons (mC .non) (aCons (mC (.int 1)) (aCons (mTup (aCons (mC (.int 1)) (aCons (mC (.int 2)) (aCons (mC (.int 3)) aNil)))) aNil)))))))))))))))) (gN 10) law_b1)
def law_s10 : S := (sSet 12 (mCall 2 f_law_take (aCons (mVar 1) (aCons (mC (.int 4)) aNil))))
def law_s11 : S := (sSet 13 (mLst aNil))
def law_b2 : S := (sSeq (sSet 15 (mLc [16] (sArg fRng1 (aCons (mVar 12) aNil)) (gN 16) tYesD (mCall 2 f_law_some (aCons (mVar 1) (aCons (mLst (aCons (mTup (aCons (mC (.int 0)) (aCons (mC (.int 1)) aNil))) (aCons (mCall 1 f_law_small (aCons (mVar 1) aNil)) aNil))) aNil)))))
      (sExpr (mLMeth fAppend (mVar 13) (aCons (mTup (aCons (mVar 15) (aCons (mCall 1 f_law_small (aCons (mVar 1) aNil)) aNil))) aNil))))
def law_s12 : S := (sFor (sArg fRng1 (aCons (mVar 12) aNil)) (gN 14) law_b2)
def law_s13 : S := (sIf (tAndB (tB1 (mBin fGt (mVar 12) (mC (.int 1)))) (tB1 (mBin (fEq false) (mCall 2 f_law_take (aCons (mVar 1) (aCons (mC (.int 4)) aNil))) (mC (.int 0))))) (sAsg (uSub (mVar 13) (mC (.int 0))) (mTup (aCons (mLc [17] (sSq (mBin fIx (mBin fIx (mVar 13) (mC (.int 1))) (mC (.int 0)))) (gN 17) tYesD (mCall 2 f_law_mul (aCons (mVar 17) (aCons (mTup (aCons (mC (.int 2)) (aCons (mC (.int 1)) aNil))) aNil)))) (aCons (mBin fIx (mBin fIx (mVar 13) (mC (.int 0))) (mC (.int 1))) aNil)))) sNil)
def law_s14 : S := (sSet 9 (mCall 1 f_solved (aCons (mVar 13) aNil)))
def law_s15 : S := (sIf (tNotB (tB1 (mCall 2 f_law_alike (aCons (mVar 9) (aCons (mCall 1 f_law_solved (aCons (mVar 13) aNil)) aNil))))) (sRet (mC (.bl false))) sNil)
def law_b3 : S := (sSet 19 (mCall 2 f_law_add (aCons (mVar 19) (aCons (mCall 2 f_law_mul (aCons (mVar 17) (aCons (mVar 20) aNil))) aNil))))
def law_b4 : S := (sSeq (sSet 19 (mTup (aCons (mC (.int 0)) (aCons (mC (.int 1)) aNil))))
      (sSeq (sFor (sArg fZip (aCons (mVar 15) (aCons (mVar 9) aNil))) (gT 2 (gConsD (gN 17) (gConsD (gN 20) gNilD))) law_b3)
      (sIf (tB1 (mBin (fEq true) (mVar 19) (mVar 18))) (sRet (mC (.bl false))) sNil)))
def law_s16 : S := (sFor (sSq (mIf (tB1 (mBin (fIs true) (mVar 9) (mC .non))) (mVar 13) (mLst aNil))) (gT 2 (gConsD (gN 15) (gConsD (gN 18) gNilD))) law_b4)
def law_s17 : S := (sSet 21 (mCall 2 (f_law_going 4) (aCons (mVar 1) (aCons (mC (.int 3)) aNil))))
def law_s18 : S := (sSet 22 (mLst (aCons (mVar 21) (aCons (mC .non) (aCons (mBlt fList (aCons (mVar 21) aNil)) (aCons (mBin fAdd (mVar 21) (mTup (aCons (mTup (aCons (mC (.str ("work" : Str))) aNil)) aNil))) (aCons (mSl (mVar 21) none (some (mUn fNeg (mC (.int 1))))) (aCons (mTup (aCons (mC (.str ("one" : Str))) (aCons (mUn fNeg (mC (.int 1))) (aCons (mVar 21) aNil)))) (aCons (mTup (aCons (mC (.str ("one" : Str))) (aCons (mC (.bl true)) (aCons (mVar 21) aNil)))) (aCons (mTup (aCons (mC (.str ("one" : Str))) (aCons (mC (.int 2)) (aCons (mVar 21) aNil)))) (aCons (mTup (aCons (mC (.str ("row" : Str))) aNil)) (aCons (mTup (aCons (mC (.str ("again" : Str))) aNil)) aNil))))))))))))
def law_s19 : S := (sSet 22 (mBin fAdd (mVar 22) (mLst (aCons (mTup (aCons (mC (.str ("beside" : Str))) (aCons (mTup (aCons (mC (.int 1)) (aCons (mC (.int 2)) aNil))) aNil))) (aCons (mTup (aCons (mC (.str ("beside" : Str))) (aCons (mTup (aCons (mC (.int 0)) (aCons (mUn fNeg (mC (.int 1))) aNil))) (aCons (mVar 21) aNil)))) (aCons (mTup (aCons (mC (.str ("beside" : Str))) (aCons (mLst (aCons (mC (.int 0)) aNil)) (aCons (mVar 21) aNil)))) aNil))))))
def law_s20 : S := (sSet 22 (mBin fAdd (mVar 22) (mLst (aCons (mTup (aCons (mC (.str ("beside" : Str))) (aCons (mTup aNil) (aCons (mVar 21) aNil)))) (aCons (mTup (aCons (mC (.str ("row" : Str))) (aCons (mVar 21) (aCons (mTup (aCons (mC (.str ("zz" : Str))) aNil)) aNil)))) (aCons (mTup (aCons (mC (.str ("work" : Str))) (aCons (mC (.str ("work" : Str))) aNil))) (aCons (mTup (aCons (mC (.str ("quiet" : Str))) (aCons (mTup aNil) aNil))) (aCons (mTup aNil) (aCons (mTup (aCons (mVar 21) aNil)) (aCons (mC (.str ("work" : Str))) (aCons (mTup (aCons (mC (.str ("again" : Str))) (aCons (mVar 21) (aCons (mVar 21) aNil)))) aNil)))))))))))
def law_b5 : S := (sIf (tB1 (mBin (fEq true) (mCall 1 f_is_going_form (aCons (mVar 10) aNil)) (mCall 2 (f_law_is_going 12) (aCons (mVar 10) (aCons (mC (.int 11)) aNil))))) (sRet (mC (.bl false))) sNil)
def law_s21 : S := (sFor (sSq (mVar 22)) (gN 10) law_b5)
@[irreducible] def f_law : List D → MH → Res D := runBody 1 24 (sSeq (sSet 1 (mCall 1 f_law_bag (aCons (mVar 0) aNil)))
      (sSeq (sFor (sArg fRng1 (aCons (mC (.int 6)) aNil)) (gN 2) (sSeq law_s1 (sSeq law_s2 (sSeq law_s3 (sSeq law_s4 (sSeq law_s5 (sSeq law_s6 (sSeq law_s7 (sSeq law_s8 (sSeq law_s9 (sSeq law_s10 (sSeq law_s11 (sSeq law_s12 (sSeq law_s13 (sSeq law_s14 (sSeq law_s15 (sSeq law_s16 (sSeq law_s17 (sSeq law_s18 (sSeq law_s19 (sSeq law_s20 law_s21)))))))))))))))))))))
      (sSeq (sSet 23 (mTup (aCons (mC (.str ("work" : Str))) aNil)))
      (sSeq (sFor (sArg fRng1 (aCons (mC (.int 20)) aNil)) (gN 14) (sSet 23 (mTup (aCons (mC (.str ("row" : Str))) (aCons (mVar 23) aNil)))))
      (sRet (mAnd (mBin (fIs false) (mCall 1 f_is_going_form (aCons (mVar 23) aNil)) (mC (.bl false))) (mBin (fIs false) (mCall 1 f_is_going_form (aCons (mTup (aCons (mC (.str ("row" : Str))) (aCons (mTup (aCons (mC (.str ("row" : Str))) (aCons (mTup (aCons (mC (.str ("again" : Str))) (aCons (mTup (aCons (mC (.str ("one" : Str))) (aCons (mC (.int 3)) (aCons (mTup (aCons (mC (.str ("work" : Str))) aNil)) aNil)))) aNil))) aNil))) aNil))) aNil)) (mC (.bl true)))))))))
end K13
namespace K13
open PySem PySem.Spec PyProof.Rows L2 Mp
/-! ### fractions -/
def fr (q : Rat) : D := .tup [.int q.num, .int q.den]
theorem gcd_half {a b : Nat} (hb : 0 < b) (h : b ≤ a) : 2 * (b * (a % b)) ≤ a * b := by
  have h1 := Nat.div_add_mod a b
  have h2 := Nat.mod_lt a hb
  have h3 : 1 ≤ a / b := (Nat.one_le_div_iff hb).mpr h
  have h4 : b * 1 ≤ b * (a / b) := Nat.mul_le_mul_left b h3
  have h5 : 2 * (a % b) ≤ a := by omega
  have h6 : b * (2 * (a % b)) ≤ b * a := Nat.mul_le_mul_left b h5
  rw [Nat.mul_comm a b]
  have e : 2 * (b * (a % b)) = b * (2 * (a % b)) := by ac_rfl
  omega
section
variable {t : T} {M : MH}
theorem gcd_go (ht : ∀ x y : Nat, t [some (.int x), some (.int y)] M = .ok (decide (y ≠ 0)) M) : ∀ (n : Nat) (a b k : Nat), b ≤ a → a * b < 2 ^ n →
    whileGo t (sPar 0 1 (aCons (mVar 1) (aCons (mBin fMod (mVar 0) (mVar 1)) aNil))) (n + 1 + k) [some (.int a), some (.int b)] M = .nx [some (.int (Nat.gcd a b)), some (.int 0)] M
  | n, a, 0, k, _, _ => by
    rw [show n + 1 + k = (n + k) + 1 by omega, whileGo_s, ht]
    simp
  | 0, a, b + 1, k, h, hm => by
    have : 1 * 1 ≤ a * (b + 1) := Nat.mul_le_mul (by omega) (by omega)
    omega
  | n + 1, a, b + 1, k, h, hm => by
    have hh : 2 * ((b + 1) * (a % (b + 1))) ≤ a * (b + 1) := gcd_half (Nat.succ_pos b) h
    have ih := gcd_go ht n (b + 1) (a % (b + 1)) k (Nat.le_of_lt (Nat.mod_lt _ (Nat.succ_pos b))) (by rw [Nat.pow_succ] at hm; omega)
    rw [show n + 1 + 1 + k = (n + 1 + k) + 1 by omega, whileGo_s, ht]
    have hb : ((b : Int) + 1) ≠ 0 := by omega
    have e : ((a : Int)).fmod ((b : Int) + 1) = ((a % (b + 1) : Nat) : Int) := by
      rw [Int.fmod_eq_emod_of_nonneg _ (by omega)]
      rfl
    have e2 : Nat.gcd a (b + 1) = Nat.gcd (b + 1) (a % (b + 1)) := by rw [Nat.gcd_comm a, Nat.gcd_rec, Nat.gcd_comm]
    rw [e2, ← ih]
    simp [hb, mVar_z, mVar_s, e]
/-- any two, by what is below 2 ^ n -/
theorem gcd_while (ht : ∀ x y : Nat, t [some (.int x), some (.int y)] M = .ok (decide (y ≠ 0)) M) (a b : Nat) (hb : b < 2 ^ 100000) :
    sWhile t (sPar 0 1 (aCons (mVar 1) (aCons (mBin fMod (mVar 0) (mVar 1)) aNil))) [some (.int a), some (.int b)] M = .nx [some (.int (Nat.gcd a b)), some (.int 0)] M := by
  unfold sWhile
  obtain ⟨k, hk⟩ : ∃ k, FUEL = (200000 + 1 + k) + 1 := ⟨FUEL - 200002, by decide⟩
  rw [hk]
  cases b with
  | zero =>
    rw [whileGo_s, ht]
    simp
  | succ b =>
    have h2 : (b + 1) * (a % (b + 1)) < 2 ^ 200000 := by
      have h3 : (b + 1) * (a % (b + 1)) ≤ (b + 1) * (b + 1) := Nat.mul_le_mul_left _ (Nat.le_of_lt (Nat.mod_lt _ (Nat.succ_pos b)))
      have h4 : (b + 1) * (b + 1) < 2 ^ 100000 * 2 ^ 100000 := Nat.mul_lt_mul'' hb hb
      rw [← Nat.pow_add] at h4
      exact Nat.lt_of_le_of_lt h3 h4
    have ih := gcd_go ht 200000 (b + 1) (a % (b + 1)) k (Nat.le_of_lt (Nat.mod_lt _ (Nat.succ_pos b))) h2
    have hb : ((b : Int) + 1) ≠ 0 := by omega
    have e : ((a : Int)).fmod ((b : Int) + 1) = ((a % (b + 1) : Nat) : Int) := by
      rw [Int.fmod_eq_emod_of_nonneg _ (by omega)]
      rfl
    have e2 : Nat.gcd a (b + 1) = Nat.gcd (b + 1) (a % (b + 1)) := by rw [Nat.gcd_comm a, Nat.gcd_rec, Nat.gcd_comm]
    rw [whileGo_s, ht, e2, ← ih]
    simp [hb, mVar_z, mVar_s, e]
end
/-- small enough for all that is done with it -/
structure Sz (n : Nat) (i : Int) : Prop where
  lt : i.natAbs < 2 ^ n
theorem abs_if (i : Int) : (if i < 0 then -i else i) = (i.natAbs : Int) := by
  split <;> omega
theorem divisor_ok {a b : Int} {M : MH} (hb : Sz 100000 b) : f_divisor_of [.int a, .int b] M = .ok (.int (Int.gcd a b)) M := by
  unfold f_divisor_of
  have hw := gcd_while (M := M) (t := tB1 (mBin fGt (mVar 1) (mC (.int 0)))) (fun x y => by simp [mVar_s, mVar_z, Nat.pos_iff_ne_zero]) a.natAbs b.natAbs hb.lt
  refine run_id rfl ?_
  simp [mVar_z, mVar_s, abs_if, hw]
  rfl
theorem law_gcd_ok {a b : Int} {M : MH} (hb : Sz 100000 b) : f_law_gcd [.int a, .int b] M = .ok (.int (Int.gcd a b)) M := by
  unfold f_law_gcd
  have hw := gcd_while (M := M) (t := tB1 (mBin (fEq true) (mVar 1) (mC (.int 0)))) (fun x y => by simp [mVar_s, mVar_z, Nat.pos_iff_ne_zero]) a.natAbs b.natAbs hb.lt
  refine run_id rfl ?_
  simp [mVar_z, mVar_s, abs_if, hw]
  rfl
end K13
namespace K13
open PySem PySem.Spec PyProof.Rows L2 Mp
theorem log2_lt {n k : Nat} (h : n < 2 ^ k) (hk : 0 < k) : n.log2 < k := by
  rcases Nat.eq_zero_or_pos n with rfl | hn
  · exact hk
  · exact (Nat.log2_lt (by omega)).mpr h
theorem divOk_by {j : Int} (h0 : j ≠ 0) (h : Sz 8000 j) : divOk j = true := by
  unfold divOk
  have := log2_lt h.lt (by decide)
  exact decide_eq_true ⟨h0, by omega⟩
theorem mulOk_by {i j : Int} (h1 : Sz 8000 i) (h2 : Sz 8000 j) : mulOk i j = true := by
  unfold mulOk
  have := log2_lt h1.lt (by decide)
  have := log2_lt h2.lt (by decide)
  rw [Bool.or_eq_true]
  exact Or.inr (decide_eq_true (by omega))
theorem mulOk_l {i j : Int} (h1 : -(2 ^ 60) < i) (h2 : i < 2 ^ 60) : mulOk i j = true := by
  unfold mulOk
  rw [decide_eq_true (p := i.natAbs < 2 ^ 64) (by omega)]
  rfl
theorem mulOk_r {i j : Int} (h1 : -(2 ^ 60) < j) (h2 : j < 2 ^ 60) : mulOk i j = true := by
  unfold mulOk
  rw [decide_eq_true (p := j.natAbs < 2 ^ 64) (by omega)]
  simp
theorem Sz.mono {n m : Nat} {i : Int} (h : Sz n i) (hm : n ≤ m) : Sz m i := ⟨Nat.lt_of_lt_of_le h.lt (Nat.pow_le_pow_right (by decide) hm)⟩
theorem gcd_sz {n : Nat} {a b : Int} (hb : b ≠ 0) (h : Sz n b) : Sz n (Int.gcd a b : Int) := by
  have h1 : Int.gcd a b ∣ b.natAbs := Nat.gcd_dvd_right _ _
  have h2 := Nat.le_of_dvd (by omega) h1
  exact ⟨by simpa using Nat.lt_of_le_of_lt h2 h.lt⟩
theorem gcd_ne {a b : Int} (hb : b ≠ 0) : (Int.gcd a b : Int) ≠ 0 := by
  intro h
  have h1 : Int.gcd a b ∣ b.natAbs := Nat.gcd_dvd_right _ _
  have h3 : Int.gcd a b = 0 := by omega
  rw [h3] at h1
  have := Nat.eq_zero_of_zero_dvd h1
  omega
theorem sign_if {b : Int} (hb : b ≠ 0) : (if b < 0 then (-1 : Int) else 1) = b.sign := by
  split
  · rename_i h; rw [Int.sign_eq_neg_one_of_neg h]
  · rename_i h; rw [Int.sign_eq_one_of_pos (by omega)]
theorem sign_mul_self (b : Int) : b.sign * b = (b.natAbs : Int) := by
  rcases Int.lt_trichotomy b 0 with h | h | h
  · rw [Int.sign_eq_neg_one_of_neg h]; omega
  · subst h; rfl
  · rw [Int.sign_eq_one_of_pos h]; omega
theorem made_zero {a : Int} {M : MH} : f_made [.int a, .int 0] M = .exc "Nothing" M := by
  unfold f_made
  refine run_exid (ρ := [some (.int a), some (.int 0), none, none]) rfl ?_
  simp [mVar_z, mVar_s]
theorem fr_mk {q : Rat} {a b : Int} (h1 : q.num = a) (h2 : (q.den : Int) = b) : fr q = .tup [.int a, .int b] := by
  unfold fr
  rw [h1, h2]
theorem made_ok {a b : Int} {M : MH} (hb : b ≠ 0) (sb : Sz 8000 b) : f_made [.int a, .int b] M = .ok (fr (Rat.divInt a b)) M := by
  unfold f_made
  refine run_id rfl ?_
  have hd := divisor_ok (a := a) (b := b) (M := M) (sb.mono (by decide))
  have h1 : divOk (Int.gcd a b : Int) = true := divOk_by (gcd_ne hb) (gcd_sz hb sb)
  have h2 : ∀ j, mulOk (-1) j = true := fun j => mulOk_l (by decide) (by decide)
  have h3 : ∀ j, mulOk 1 j = true := fun j => mulOk_l (by decide) (by decide)
  have e1 : (Rat.divInt a b).num = (b.sign * a).fdiv (Int.gcd a b) := by
    rw [Rat.num_divInt, Int.fdiv_eq_ediv_of_nonneg _ (by omega), Int.gcd_comm]
  have e2 : ((Rat.divInt a b).den : Int) = (b.sign * b).fdiv (Int.gcd a b) := by
    rw [Rat.den_divInt, if_neg hb, Int.fdiv_eq_ediv_of_nonneg _ (by omega), Int.gcd_comm, sign_mul_self]
    rfl
  rw [fr_mk e1 e2, ← sign_if hb]
  by_cases hlt : b < 0
  · simp [mVar_z, mVar_s, hb, hd, hlt, h1, h2, h3]
  · simp [mVar_z, mVar_s, hb, hd, hlt, h1, h2, h3]
theorem law_fr_ok {a b : Int} {M : MH} (hb : b ≠ 0) (sb : Sz 8000 b) : f_law_fr [.int a, .int b] M = .ok (fr (Rat.divInt a b)) M := by
  unfold f_law_fr
  refine run_id rfl ?_
  have hd := law_gcd_ok (a := a) (b := b) (M := M) (sb.mono (by decide))
  have h1 : divOk (Int.gcd a b : Int) = true := divOk_by (gcd_ne hb) (gcd_sz hb sb)
  have h1' : divOk (-(Int.gcd a b : Int)) = true := divOk_by (by have := gcd_ne (a := a) hb; omega) (by
    have := (gcd_sz (a := a) hb sb).lt
    exact ⟨by rwa [Int.natAbs_neg]⟩)
  have da : (Int.gcd a b : Int) ∣ a := Int.gcd_dvd_left _ _
  have db : (Int.gcd a b : Int) ∣ b := Int.gcd_dvd_right _ _
  by_cases hlt : 0 < b
  · have e1 : (Rat.divInt a b).num = a.fdiv (Int.gcd a b) := by
      rw [Rat.num_divInt, Int.fdiv_eq_ediv_of_nonneg _ (by omega), Int.gcd_comm, Int.sign_eq_one_of_pos hlt, Int.one_mul]
    have e2 : ((Rat.divInt a b).den : Int) = b.fdiv (Int.gcd a b) := by
      rw [Rat.den_divInt, if_neg hb, Int.fdiv_eq_ediv_of_nonneg _ (by omega), Int.gcd_comm]
      have : (b.natAbs : Int) = b := by omega
      rw [Int.natCast_ediv, this]
    rw [fr_mk e1 e2]
    simp [mVar_z, mVar_s, hd, hlt, h1]
  · have hneg : b < 0 := by omega
    have e1 : (Rat.divInt a b).num = a.fdiv (-(Int.gcd a b : Int)) := by
      rw [Rat.num_divInt, Int.fdiv_eq_ediv_of_dvd (Int.neg_dvd.mpr da), Int.gcd_comm, Int.sign_eq_neg_one_of_neg hneg, Int.ediv_neg, Int.neg_mul, Int.one_mul, Int.neg_ediv_of_dvd da]
    have e2 : ((Rat.divInt a b).den : Int) = b.fdiv (-(Int.gcd a b : Int)) := by
      rw [Rat.den_divInt, if_neg hb, Int.fdiv_eq_ediv_of_dvd (Int.neg_dvd.mpr db), Int.gcd_comm, Int.ediv_neg, ← Int.neg_ediv_of_dvd db]
      have : (b.natAbs : Int) = -b := by omega
      rw [Int.natCast_ediv, this]
    rw [fr_mk e1 e2]
    simp [mVar_z, mVar_s, hd, hlt, h1']
end K13
namespace K13
open PySem PySem.Spec PyProof.Rows L2 Mp
def SzQ (n : Nat) (q : Rat) : Prop := Sz n q.num ∧ Sz n q.den
theorem SzQ.mono {n m : Nat} {q : Rat} (h : SzQ n q) (hm : n ≤ m) : SzQ m q := ⟨h.1.mono hm, h.2.mono hm⟩
@[simp] theorem fIx_fr0 (q : Rat) (M : MH) : fIx (fr q) (.int 0) M = .ok (.int q.num) M := by simp [fr]
@[simp] theorem fIx_fr1 (q : Rat) (M : MH) : fIx (fr q) (.int 1) M = .ok (.int q.den) M := by simp [fr]
theorem Sz.mul {n m : Nat} {a b : Int} (ha : Sz n a) (hb : Sz m b) : Sz (n + m) (a * b) := by
  refine ⟨?_⟩
  rw [Int.natAbs_mul, Nat.pow_add]
  exact Nat.mul_lt_mul'' ha.lt hb.lt
theorem Sz.add {n : Nat} {a b : Int} (ha : Sz n a) (hb : Sz n b) : Sz (n + 1) (a + b) := by
  refine ⟨?_⟩
  have h1 := ha.lt
  have h2 := hb.lt
  rw [Nat.pow_succ]
  omega
theorem Sz.sub {n : Nat} {a b : Int} (ha : Sz n a) (hb : Sz n b) : Sz (n + 1) (a - b) := by
  refine ⟨?_⟩
  have h1 := ha.lt
  have h2 := hb.lt
  rw [Nat.pow_succ]
  omega
theorem sz_divInt {n : Nat} {a b : Int} (hb : b ≠ 0) (sa : Sz n a) (sb : Sz n b) : SzQ n (Rat.divInt a b) := by
  refine ⟨?_, ?_⟩
  · rw [Rat.num_divInt]
    refine ⟨?_⟩
    rw [Int.natAbs_ediv_of_dvd]
    · refine Nat.lt_of_le_of_lt (Nat.div_le_self _ _) ?_
      rw [Int.natAbs_mul, Int.natAbs_sign_of_ne_zero hb, Nat.one_mul]
      exact sa.lt
    · rw [Int.gcd_comm]
      exact Int.dvd_mul_of_dvd_right (Int.gcd_dvd_left _ _)
  · rw [Rat.den_divInt, if_neg hb]
    refine ⟨?_⟩
    exact Nat.lt_of_le_of_lt (Nat.div_le_self _ _) sb.lt
theorem den_ne (q : Rat) : (q.den : Int) ≠ 0 := by have := q.den_nz; omega
theorem mul_ne {a b : Int} (ha : a ≠ 0) (hb : b ≠ 0) : a * b ≠ 0 := Int.mul_ne_zero ha hb
theorem add_eq (x y : Rat) : Rat.divInt (x.num * y.den + y.num * x.den) (x.den * y.den) = x + y := by
  rw [Rat.add_def', ← Rat.divInt_ofNat]
  simp
theorem sub_eq (x y : Rat) : Rat.divInt (x.num * y.den - y.num * x.den) (x.den * y.den) = x - y := by
  rw [Rat.sub_def', ← Rat.divInt_ofNat]
  simp
theorem mul_eq (x y : Rat) : Rat.divInt (x.num * y.num) (x.den * y.den) = x * y := by
  rw [Rat.mul_def', ← Rat.divInt_ofNat]
  simp
theorem div_eq (x y : Rat) : Rat.divInt (x.num * y.den) (x.den * y.num) = x / y := by
  rw [Rat.div_def, Rat.inv_def]
  have e : x = Rat.divInt x.num x.den := by rw [Rat.num_divInt_den]
  rw [show x * Rat.divInt y.den y.num = Rat.divInt x.num x.den * Rat.divInt y.den y.num by rw [← e], Rat.divInt_mul_divInt]
theorem div_eq' (x y : Rat) : Rat.divInt (x.num * y.den) (x.den * y.num) = x / y := div_eq x y
section
variable {x y : Rat} {n : Nat} (hx : SzQ n x) (hy : SzQ n y)
include hx hy
theorem sz_add : SzQ (n + n + 1) (x + y) := by
  rw [← add_eq]
  exact sz_divInt (mul_ne (den_ne x) (den_ne y)) ((hx.1.mul hy.2).add (hy.1.mul hx.2)) ((hx.2.mul hy.2).mono (by omega))
theorem sz_sub : SzQ (n + n + 1) (x - y) := by
  rw [← sub_eq]
  exact sz_divInt (mul_ne (den_ne x) (den_ne y)) ((hx.1.mul hy.2).sub (hy.1.mul hx.2)) ((hx.2.mul hy.2).mono (by omega))
theorem sz_mul : SzQ (n + n) (x * y) := by
  rw [← mul_eq]
  exact sz_divInt (mul_ne (den_ne x) (den_ne y)) (hx.1.mul hy.1) (hx.2.mul hy.2)
theorem num_ne (h : y ≠ 0) : y.num ≠ 0 := fun e => h (Rat.num_eq_zero.mp e)
theorem sz_div (h : y ≠ 0) : SzQ (n + n) (x / y) := by
  rw [← div_eq]
  exact sz_divInt (mul_ne (den_ne x) (fun e => h (Rat.num_eq_zero.mp e))) (hx.1.mul hy.2) (hx.2.mul hy.1)
end
section
variable {x y : Rat} {M : MH} (hx : SzQ 4000 x) (hy : SzQ 4000 y)
include hx hy
theorem plus_ok : f_plus [fr x, fr y] M = .ok (fr (x + y)) M := by
  unfold f_plus
  refine run_id rfl ?_
  have e := made_ok (a := x.num * y.den + y.num * x.den) (b := x.den * y.den) (M := M) (mul_ne (den_ne x) (den_ne y)) ((hx.2.mul hy.2).mono (by decide))
  rw [add_eq] at e
  simp [mVar_z, mVar_s, mulOk_by (hx.1.mono (by decide : 4000 ≤ 8000)) (hy.2.mono (by decide : 4000 ≤ 8000)), mulOk_by (hy.1.mono (by decide : 4000 ≤ 8000)) (hx.2.mono (by decide : 4000 ≤ 8000)), mulOk_by (hx.2.mono (by decide : 4000 ≤ 8000)) (hy.2.mono (by decide : 4000 ≤ 8000)), e]
theorem minus_ok : f_minus [fr x, fr y] M = .ok (fr (x - y)) M := by
  unfold f_minus
  refine run_id rfl ?_
  have e := made_ok (a := x.num * y.den - y.num * x.den) (b := x.den * y.den) (M := M) (mul_ne (den_ne x) (den_ne y)) ((hx.2.mul hy.2).mono (by decide))
  rw [sub_eq] at e
  simp [mVar_z, mVar_s, mulOk_by (hx.1.mono (by decide : 4000 ≤ 8000)) (hy.2.mono (by decide : 4000 ≤ 8000)), mulOk_by (hy.1.mono (by decide : 4000 ≤ 8000)) (hx.2.mono (by decide : 4000 ≤ 8000)), mulOk_by (hx.2.mono (by decide : 4000 ≤ 8000)) (hy.2.mono (by decide : 4000 ≤ 8000)), e]
theorem times_ok : f_times [fr x, fr y] M = .ok (fr (x * y)) M := by
  unfold f_times
  refine run_id rfl ?_
  have e := made_ok (a := x.num * y.num) (b := x.den * y.den) (M := M) (mul_ne (den_ne x) (den_ne y)) ((hx.2.mul hy.2).mono (by decide))
  rw [mul_eq] at e
  simp [mVar_z, mVar_s, mulOk_by (hx.1.mono (by decide : 4000 ≤ 8000)) (hy.1.mono (by decide : 4000 ≤ 8000)), mulOk_by (hx.2.mono (by decide : 4000 ≤ 8000)) (hy.2.mono (by decide : 4000 ≤ 8000)), e]
theorem over_ok (h : y ≠ 0) : f_over_by [fr x, fr y] M = .ok (fr (x / y)) M := by
  unfold f_over_by
  refine run_id rfl ?_
  have e := made_ok (a := x.num * y.den) (b := x.den * y.num) (M := M) (mul_ne (den_ne x) (fun e => h (Rat.num_eq_zero.mp e))) ((hx.2.mul hy.1).mono (by decide))
  rw [div_eq] at e
  simp [mVar_z, mVar_s, mulOk_by (hx.1.mono (by decide : 4000 ≤ 8000)) (hy.2.mono (by decide : 4000 ≤ 8000)), mulOk_by (hx.2.mono (by decide : 4000 ≤ 8000)) (hy.1.mono (by decide : 4000 ≤ 8000)), e]
theorem less_ok : f_is_less [fr x, fr y] M = .ok (.bl (decide (x.num * y.den < y.num * x.den))) M := by
  unfold f_is_less
  refine run_id rfl ?_
  simp [mVar_z, mVar_s, mulOk_by (hx.1.mono (by decide : 4000 ≤ 8000)) (hy.2.mono (by decide : 4000 ≤ 8000)), mulOk_by (hy.1.mono (by decide : 4000 ≤ 8000)) (hx.2.mono (by decide : 4000 ≤ 8000))]
theorem law_add_ok : f_law_add [fr x, fr y] M = .ok (fr (x + y)) M := by
  unfold f_law_add
  refine run_id rfl ?_
  have e := law_fr_ok (a := x.num * y.den + y.num * x.den) (b := x.den * y.den) (M := M) (mul_ne (den_ne x) (den_ne y)) ((hx.2.mul hy.2).mono (by decide))
  rw [add_eq] at e
  simp [mVar_z, mVar_s, mulOk_by (hx.1.mono (by decide : 4000 ≤ 8000)) (hy.2.mono (by decide : 4000 ≤ 8000)), mulOk_by (hy.1.mono (by decide : 4000 ≤ 8000)) (hx.2.mono (by decide : 4000 ≤ 8000)), mulOk_by (hx.2.mono (by decide : 4000 ≤ 8000)) (hy.2.mono (by decide : 4000 ≤ 8000)), e]
theorem law_less_ok : f_law_less [fr x, fr y] M = .ok (fr (x - y)) M := by
  unfold f_law_less
  refine run_id rfl ?_
  have e := law_fr_ok (a := x.num * y.den - y.num * x.den) (b := x.den * y.den) (M := M) (mul_ne (den_ne x) (den_ne y)) ((hx.2.mul hy.2).mono (by decide))
  rw [sub_eq] at e
  simp [mVar_z, mVar_s, mulOk_by (hx.1.mono (by decide : 4000 ≤ 8000)) (hy.2.mono (by decide : 4000 ≤ 8000)), mulOk_by (hy.1.mono (by decide : 4000 ≤ 8000)) (hx.2.mono (by decide : 4000 ≤ 8000)), mulOk_by (hx.2.mono (by decide : 4000 ≤ 8000)) (hy.2.mono (by decide : 4000 ≤ 8000)), e]
theorem law_mul_ok : f_law_mul [fr x, fr y] M = .ok (fr (x * y)) M := by
  unfold f_law_mul
  refine run_id rfl ?_
  have e := law_fr_ok (a := x.num * y.num) (b := x.den * y.den) (M := M) (mul_ne (den_ne x) (den_ne y)) ((hx.2.mul hy.2).mono (by decide))
  rw [mul_eq] at e
  simp [mVar_z, mVar_s, mulOk_by (hx.1.mono (by decide : 4000 ≤ 8000)) (hy.1.mono (by decide : 4000 ≤ 8000)), mulOk_by (hx.2.mono (by decide : 4000 ≤ 8000)) (hy.2.mono (by decide : 4000 ≤ 8000)), e]
/-- the law's own quotient -/
theorem law_quot_ok (h : y ≠ 0) : f_law_fr [.int (x.num * y.den), .int (x.den * y.num)] M = .ok (fr (x / y)) M := by
  have e := law_fr_ok (a := x.num * y.den) (b := x.den * y.num) (M := M) (mul_ne (den_ne x) (fun e => h (Rat.num_eq_zero.mp e))) ((hx.2.mul hy.1).mono (by decide))
  rw [div_eq] at e
  exact e
end
theorem over_zero {x : Rat} {M : MH} (hx : SzQ 4000 x) : f_over_by [fr x, fr 0] M = .exc "Nothing" M := by
  unfold f_over_by
  have h2 : mulOk x.num (1 : Int) = true := mulOk_r (by decide) (by decide)
  have h3 : mulOk (x.den : Int) (0 : Int) = true := mulOk_r (by decide) (by decide)
  refine run_exid (ρ := [some (fr x), some (fr 0)]) rfl ?_
  simp [mVar_z, mVar_s, h2, h3, made_zero]
end K13
namespace K13
open PySem PySem.Spec PyProof.Rows L2 Mp
/-! ### draws -/
theorem gcOk_pt {n : Nat} : ∀ {M M' : MH}, (∀ (k : Nat) (o : MO), M[k]? = some o → ∃ o', M'[k]? = some o' ∧ (o = o' ∨ o'.lim n = true)) → gcOk n M M' = true
  | [], _, _ => rfl
  | o :: os, M', h => by
    cases M' with
    | nil =>
      obtain ⟨o', h1, _⟩ := h 0 o rfl
      cases h1
    | cons o' os' =>
      obtain ⟨o2, h1, h2⟩ := h 0 o rfl
      obtain rfl : o' = o2 := by simpa using h1
      have ih := gcOk_pt (n := n) (M := os) (M' := os') (fun k o h3 => h (k + 1) o h3)
      show ((decide (o = o') || o'.lim n) && gcOk n os os') = true
      rw [ih, Bool.and_true, Bool.or_eq_true]
      rcases h2 with h2 | h2
      · exact .inl (decide_eq_true h2)
      · exact .inr h2
theorem gcRet_pt {M M' : MH} {d : D} (hd : d.lim M.length = true) (h : ∀ (k : Nat) (o : MO), M[k]? = some o → ∃ o', M'[k]? = some o' ∧ (o = o' ∨ o'.lim M.length = true)) : gcRet M d M' = .ok d (M'.take M.length) := by
  unfold gcRet
  rw [hd, gcOk_pt h]
  rfl
structure BagSt (M : MH) (b r : Nat) (c s i : Int) (cells : List Int) : Prop where
  at_ : M[b]? = some (MO.lst [D.int c, D.int s, D.int i, D.ref r])
  cl : M[r]? = some (MO.lst (cells.map D.int))
  cp : ∀ z ∈ cells, 0 ≤ z
  c0 : 0 ≤ c
  i0 : 0 ≤ i
  ne : r ≠ b
  few : cells.length ≤ 63
theorem get_app {M X : MH} {k : Nat} {o : MO} (h : M[k]? = some o) : (M ++ X)[k]? = some o := by
  obtain ⟨hk, _⟩ := List.getElem?_eq_some_iff.mp h
  rw [List.getElem?_append_left hk, h]
theorem get_lt {M : MH} {k : Nat} {o : MO} (h : M[k]? = some o) : k < M.length := (List.getElem?_eq_some_iff.mp h).1
theorem BagSt.app {M : MH} {b r : Nat} {c s i : Int} {cells : List Int} (h : BagSt M b r c s i cells) (X : MH) : BagSt (M ++ X) b r c s i cells := ⟨get_app h.at_, get_app h.cl, h.cp, h.c0, h.i0, h.ne, h.few⟩
theorem BagSt.set {M : MH} {b r : Nat} {c s i : Int} {cells : List Int} (h : BagSt M b r c s i cells) {c' s' i' : Int} (h1 : 0 ≤ c') (h2 : 0 ≤ i') : BagSt (M.set b (MO.lst [D.int c', D.int s', D.int i', D.ref r])) b r c' s' i' cells := by
  refine ⟨?_, ?_, h.cp, h1, h2, h.ne, h.few⟩
  · rw [List.getElem?_set_self (get_lt h.at_)]
  · rw [List.getElem?_set_ne (Ne.symm h.ne), h.cl]
/-- the bag moved on, the rest as it was -/
structure Stp (n b : Nat) (M M' : MH) : Prop where
  len : n ≤ M'.length
  rest : ∀ k, k < n → k ≠ b → M'[k]? = M[k]?
theorem Stp.refl {n b : Nat} {M : MH} (h : n ≤ M.length) : Stp n b M M := ⟨h, fun _ _ _ => rfl⟩
theorem Stp.app {n b : Nat} {M M' : MH} (h : Stp n b M M') (X : MH) : Stp n b M (M' ++ X) := ⟨by rw [List.length_append]; have := h.len; omega, fun k hk hb => by rw [List.getElem?_append_left (Nat.lt_of_lt_of_le hk h.len), h.rest k hk hb]⟩
theorem Stp.set {n b : Nat} {M M' : MH} (h : Stp n b M M') (o : MO) : Stp n b M (M'.set b o) := ⟨by rw [List.length_set]; exact h.len, fun k hk hb => by rw [List.getElem?_set_ne (Ne.symm hb), h.rest k hk hb]⟩
theorem fSetL_ref {M : MH} {n : Nat} {l : List D} (h : M[n]? = some (MO.lst l)) (k : Nat) (hk : k < l.length) (d : D) : fSetL (D.ref n) (D.int k) d M = some (M.set n (MO.lst (l.set k d))) := by
  show (match M[n]? with
    | some (MO.lst l) => (match ixN l.length (k : Int) with | some j => some (M.set n (MO.lst (l.set j d))) | none => none)
    | _ => none) = _
  rw [h]
  show (match ixN l.length (k : Int) with | some j => some (M.set n (MO.lst (l.set j d))) | none => none) = _
  rw [ixN_nat hk]
theorem sl_ref {M : MH} {n : Nat} {l : List D} (h : M[n]? = some (MO.lst l)) (lo hi : Option Int) : fSl (D.ref n) lo hi M = .ok (D.ref M.length) (M ++ [MO.lst (cutL l lo hi)]) := by
  show (match lstOf M (D.ref n) with | some l => Res.ok (D.ref M.length) (M ++ [MO.lst (cutL l lo hi)]) | none => .err) = _
  rw [lstOf_ref h]
theorem add_ref {M : MH} {n m : Nat} {l k : List D} (h : M[n]? = some (MO.lst l)) (h' : M[m]? = some (MO.lst k)) (hl : l.length + k.length ≤ LINE) : fAdd (D.ref n) (D.ref m) M = .ok (D.ref M.length) (M ++ [MO.lst (l ++ k)]) := by
  show (match M[n]?, M[m]? with
    | some (MO.lst a), some (MO.lst b) => if a.length + b.length ≤ LINE then Res.ok (D.ref M.length) (M ++ [MO.lst (a ++ b)]) else .err
    | _, _ => .err) = _
  rw [h, h']
  show (if l.length + k.length ≤ LINE then _ else _) = _
  rw [if_pos hl]
theorem get_end {M : MH} {o : MO} : (M ++ [o])[M.length]? = some o := by simp

theorem cut_head {cells : List Int} (hp : ∀ z ∈ cells, 0 ≤ z) (lo hi : Option Int) : ∃ z, 0 ≤ z ∧ (cutL (cells.map D.int) lo hi ++ [D.int 0])[0]? = some (D.int z) := by
  have hm : ∀ d ∈ cutL (cells.map D.int) lo hi, ∃ z, 0 ≤ z ∧ d = D.int z := fun d hd => by
    unfold cutL at hd
    have h1 := List.mem_of_mem_drop (List.mem_of_mem_take hd)
    obtain ⟨z, hz, rfl⟩ := List.mem_map.mp h1
    exact ⟨z, hp z hz, rfl⟩
  cases e : cutL (cells.map D.int) lo hi with
  | nil => exact ⟨0, Int.le_refl _, rfl⟩
  | cons d ds =>
    obtain ⟨z, h1, rfl⟩ := hm d (by rw [e]; exact List.mem_cons_self)
    exact ⟨z, h1, rfl⟩
theorem cut_len {cells : List Int} (lo hi : Option Int) : (cutL (cells.map D.int) lo hi).length ≤ cells.length := by
  unfold cutL
  rw [List.length_take, List.length_drop, List.length_map]
  omega
/-- the mixing of a cell -/
theorem take_mix {n b r : Nat} {M0 M : MH} {c s i : Int} {cells : List Int} {m : D} {x3 x4 x5 x6 : Option D} (B : BagSt M b r c s i cells) (S : Stp n b M0 M) {z : Int} (hz : 0 ≤ z) :
    ∃ M' s' y3, Stp n b M0 M' ∧ (∃ c', BagSt M' b r c' s' (i + 1) cells) ∧
    (sSeq (sAugS (mVar 0) (mC (.int 2)) (fInt2 fun i j => i + j) (mC (.int 1)))
      (sSeq (sIf (tB1 (mBin fGe (mVar 2) (mBin fPow (mC (.int 10)) (mC (.int 18))))) (sAsg (uSub (mVar 0) (mC (.int 0))) (mVar 2)) sNil)
      (sSeq (sSet 3 (mBin fAdd (mBin fAdd (mBin fMul (mBin fIx (mVar 0) (mC (.int 1))) (mC (.int 48271))) (mBin fMod (mBlt fInt1 (aCons (mVar 2) aNil)) (mC (.int 2147483647)))) (mBin fMul (mC (.int 7919)) (mBin fIx (mVar 0) (mC (.int 2))))))
      (sAsg (uSub (mVar 0) (mC (.int 1))) (mBin fMod (mBlt fInt1 (aCons (mVar 3) aNil)) (mC (.int 2147483647)))))))
      [some (D.ref b), some m, some (D.int z), x3, x4, x5, x6] M = .nx [some (D.ref b), some m, some (D.int z), some y3, x4, x5, x6] M' := by
  have B1 := B.set (c' := c) (s' := s) (i' := i + 1) B.c0 (by have := B.i0; omega)
  have S1 := S.set (MO.lst [D.int c, D.int s, D.int (i + 1), D.ref r])
  have hm : ∀ j, mulOk j 48271 = true := fun j => mulOk_r (by decide) (by decide)
  have hm2 : ∀ j, mulOk 7919 j = true := fun j => mulOk_l (by decide) (by decide)
  have hp : fPow (.int 10) (.int 18) = fun M => .ok (.int 1000000000000000000) M := by rfl
  have e0 := fIx_ref B.at_
  have st : fSetL (.ref b) (.int 2) (.int (i + 1)) M = some (M.set b (MO.lst [D.int c, D.int s, D.int (i + 1), D.ref r])) := fSetL_ref B.at_ 2 (by simp) _
  have a1 : (sAugS (mVar 0) (mC (.int 2)) (fInt2 fun i j => i + j) (mC (.int 1))) [some (D.ref b), some m, some (D.int z), x3, x4, x5, x6] M = .nx [some (D.ref b), some m, some (D.int z), x3, x4, x5, x6] (M.set b (MO.lst [D.int c, D.int s, D.int (i + 1), D.ref r])) := by
    unfold sAugS
    simp [mVar_z, mVar_s, lstOf_ref B.at_, e0, fInt2, st]
  rw [sSeq_eq, a1]
  generalize M.set b (MO.lst [D.int c, D.int s, D.int (i + 1), D.ref r]) = M1 at *
  have fin : ∀ (M2 : MH) (c' : Int), BagSt M2 b r c' s (i + 1) cells → Stp n b M0 M2 → ∃ M' s' y3, Stp n b M0 M' ∧ (∃ c', BagSt M' b r c' s' (i + 1) cells) ∧ (sSeq (sSet 3 (mBin fAdd (mBin fAdd (mBin fMul (mBin fIx (mVar 0) (mC (.int 1))) (mC (.int 48271))) (mBin fMod (mBlt fInt1 (aCons (mVar 2) aNil)) (mC (.int 2147483647)))) (mBin fMul (mC (.int 7919)) (mBin fIx (mVar 0) (mC (.int 2))))))
      (sAsg (uSub (mVar 0) (mC (.int 1))) (mBin fMod (mBlt fInt1 (aCons (mVar 3) aNil)) (mC (.int 2147483647))))) [some (D.ref b), some m, some (D.int z), x3, x4, x5, x6] M2 = .nx [some (D.ref b), some m, some (D.int z), some y3, x4, x5, x6] M' := fun M2 c' B2 S2 => by
    have e2 := fIx_ref B2.at_
    have st2 : ∀ d, fSetL (.ref b) (.int 1) d M2 = some (M2.set b (MO.lst [D.int c', d, D.int (i + 1), D.ref r])) := fun d => fSetL_ref B2.at_ 1 (by simp) d
    refine ⟨M2.set b (MO.lst [D.int c', D.int ((s * 48271 + z.fmod 2147483647 + 7919 * (i + 1)).fmod 2147483647), D.int (i + 1), D.ref r]), _, D.int (s * 48271 + z.fmod 2147483647 + 7919 * (i + 1)), S2.set _, ⟨c', B2.set B2.c0 B2.i0⟩, ?_⟩
    simp [mVar_z, mVar_s, e2, hm, hm2, st2]
  by_cases hc : 1000000000000000000 ≤ z
  · have st1 : fSetL (.ref b) (.int 0) (.int z) M1 = some (M1.set b (MO.lst [D.int z, D.int s, D.int (i + 1), D.ref r])) := fSetL_ref B1.at_ 0 (by simp) _
    obtain ⟨M', s', y3, h1, h2, h3⟩ := fin _ z (B1.set (c' := z) (s' := s) (i' := i + 1) hz B1.i0) (S1.set _)
    refine ⟨M', s', y3, h1, h2, ?_⟩
    rw [← h3]
    simp [mVar_z, mVar_s, hp, hc, st1]
  · obtain ⟨M', s', y3, h1, h2, h3⟩ := fin _ c B1 S1
    refine ⟨M', s', y3, h1, h2, ?_⟩
    rw [← h3]
    simp [mVar_z, mVar_s, hp, hc]
end K13
namespace K13
open PySem PySem.Spec PyProof.Rows L2 Mp
def Bag (M : MH) (b r : Nat) : Prop := ∃ c s i cells, BagSt M b r c s i cells
structure Step (b r : Nat) (M M' : MH) : Prop where
  len : M'.length = M.length
  rest : ∀ k, k ≠ b → M'[k]? = M[k]?
  bag : Bag M' b r
theorem fmod_rng {a m : Int} (h : 0 < m) : 0 ≤ a.fmod m ∧ a.fmod m < m := by
  rw [Int.fmod_eq_emod_of_nonneg _ (by omega)]
  exact ⟨Int.emod_nonneg _ (by omega), Int.emod_lt_of_pos _ h⟩
theorem take_last {n b r : Nat} {M0 M : MH} {c s i many : Int} {cells : List Int} {x2 x3 x4 x5 x6 : Option D} (B : BagSt M b r c s i cells) (S : Stp n b M0 M) (h0 : 0 < many) (h1 : many < 2 ^ 60) :
    ∃ M' v, Stp n b M0 M' ∧ (∃ c' s' i', BagSt M' b r c' s' i' cells) ∧ 0 ≤ v ∧ v < many ∧
    (sSeq (sIf (tB1 (mBin fGt (mBin fIx (mVar 0) (mC (.int 0))) (mC (.int 0)))) (sSeq (sSet 4 (mBin fMod (mBlt fInt1 (aCons (mBin fIx (mVar 0) (mC (.int 0))) aNil)) (mVar 1)))
      (sSeq (sAsg (uSub (mVar 0) (mC (.int 0))) (mBin fDiv (mBlt fInt1 (aCons (mBin fIx (mVar 0) (mC (.int 0))) aNil)) (mVar 1)))
      (sRet (mVar 4)))) sNil)
      (sSeq (sSet 5 (mBin fMod (mBlt fInt1 (aCons (mBin fMul (mBin fAdd (mBin fIx (mVar 0) (mC (.int 1))) (mC (.int 1))) (mC (.int 39373))) aNil)) (mC (.int 1000000007))))
      (sSeq (sSet 6 (mBin fMod (mBlt fInt1 (aCons (mBin fMul (mBin fMod (mBlt fInt1 (aCons (mBin fMul (mVar 5) (mVar 5)) aNil)) (mC (.int 998244353))) (mC (.int 30011))) aNil)) (mC (.int 998244353))))
      (sRet (mBin fMod (mBlt fInt1 (aCons (mBin fDiv (mVar 6) (mC (.int 7))) aNil)) (mVar 1))))))
      [some (D.ref b), some (D.int many), x2, x3, x4, x5, x6] M = .rt (D.int v) M' := by
  have e := fIx_ref B.at_
  have hd : divOk many = true := divOk_by (by omega) ⟨Nat.lt_of_lt_of_le (show many.natAbs < 2 ^ 60 by omega) (Nat.pow_le_pow_right (by decide) (by decide))⟩
  have hn : many ≠ 0 := by omega
  by_cases hc : 0 < c
  · have st : ∀ d, fSetL (.ref b) (.int 0) d M = some (M.set b (MO.lst [d, D.int s, D.int i, D.ref r])) := fun d => fSetL_ref B.at_ 0 (by simp) d
    have hf := fmod_rng (a := c) h0
    refine ⟨_, c.fmod many, S.set (MO.lst [D.int (c.fdiv many), D.int s, D.int i, D.ref r]), ⟨_, _, _, B.set (Int.fdiv_nonneg (by omega) (by omega)) B.i0⟩, hf.1, hf.2, ?_⟩
    simp [mVar_z, mVar_s, e, hc, hn, hd, st]
  · have hf := fmod_rng (a := ((((((s + 1) * 39373).fmod 1000000007 * ((s + 1) * 39373).fmod 1000000007).fmod 998244353) * 30011).fmod 998244353).fdiv 7) h0
    have hb := fmod_rng (a := (s + 1) * 39373) (m := 1000000007) (by decide)
    have m1 : ∀ j, mulOk j 39373 = true := fun j => mulOk_r (by decide) (by decide)
    have m2 : ∀ j, mulOk j 30011 = true := fun j => mulOk_r (by decide) (by decide)
    have m3 : mulOk (((s + 1) * 39373).fmod 1000000007) (((s + 1) * 39373).fmod 1000000007) = true := mulOk_l (by omega) (by omega)
    have d7 : divOk 7 = true := divOk_by (by decide) ⟨Nat.lt_of_lt_of_le (show (7 : Int).natAbs < 2 ^ 3 by decide) (Nat.pow_le_pow_right (by decide) (by decide))⟩
    refine ⟨M, _, S, ⟨_, _, _, B⟩, hf.1, hf.2, ?_⟩
    simp [mVar_z, mVar_s, e, hc, hn, m1, m2, m3, d7]
theorem take_first {b r : Nat} {M : MH} {c s i : Int} {m : D} {cells : List Int} (B : BagSt M b r c s i cells) :
    ∃ M' x2 x3, Stp M.length b M M' ∧ (∃ c' s' i', BagSt M' b r c' s' i' cells) ∧
    (sIf (tB1 (mBin (fEq false) (mBin fIx (mVar 0) (mC (.int 0))) (mC (.int 0)))) (sSeq (sSet 2 (mBin fIx (mBin fAdd (mSl (mBin fIx (mVar 0) (mC (.int 3))) (some (mBin fIx (mVar 0) (mC (.int 2)))) none) (mLst (aCons (mC (.int 0)) aNil))) (mC (.int 0))))
      (sSeq (sAugS (mVar 0) (mC (.int 2)) (fInt2 fun i j => i + j) (mC (.int 1)))
      (sSeq (sIf (tB1 (mBin fGe (mVar 2) (mBin fPow (mC (.int 10)) (mC (.int 18))))) (sAsg (uSub (mVar 0) (mC (.int 0))) (mVar 2)) sNil)
      (sSeq (sSet 3 (mBin fAdd (mBin fAdd (mBin fMul (mBin fIx (mVar 0) (mC (.int 1))) (mC (.int 48271))) (mBin fMod (mBlt fInt1 (aCons (mVar 2) aNil)) (mC (.int 2147483647)))) (mBin fMul (mC (.int 7919)) (mBin fIx (mVar 0) (mC (.int 2))))))
      (sAsg (uSub (mVar 0) (mC (.int 1))) (mBin fMod (mBlt fInt1 (aCons (mVar 3) aNil)) (mC (.int 2147483647)))))))) sNil)
      [some (D.ref b), some m, none, none, none, none, none] M = .nx [some (D.ref b), some m, x2, x3, none, none, none] M' := by
  have e := fIx_ref B.at_
  by_cases hc : c = 0
  · obtain ⟨z, hz, ez⟩ := cut_head B.cp (some i) none
    have n1 : (M ++ [MO.lst (cutL (cells.map D.int) (some i) none)]).length = M.length + 1 := by simp
    have g1 : (M ++ [MO.lst (cutL (cells.map D.int) (some i) none)] ++ [MO.lst [D.int 0]])[M.length]? = some (MO.lst (cutL (cells.map D.int) (some i) none)) := get_app get_end
    have g2 : (M ++ [MO.lst (cutL (cells.map D.int) (some i) none)] ++ [MO.lst [D.int 0]])[M.length + 1]? = some (MO.lst [D.int 0]) := by
      rw [← n1]; exact get_end
    have a1 := add_ref g1 g2 (by have := cut_len (cells := cells) (some i) none; have := B.few; simp; omega)
    generalize hM3 : M ++ [MO.lst (cutL (cells.map D.int) (some i) none)] ++ [MO.lst [D.int 0]] ++ [MO.lst (cutL (cells.map D.int) (some i) none ++ [D.int 0])] = M3 at a1
    have g3 : M3[(M ++ [MO.lst (cutL (cells.map D.int) (some i) none)] ++ [MO.lst [D.int 0]]).length]? = some (MO.lst (cutL (cells.map D.int) (some i) none ++ [D.int 0])) := by rw [← hM3]; exact get_end
    have e3 := fIx_ref g3 0
    have e4 := atI_at (k := 0) ez
    rw [show ((0 : Nat) : Int) = 0 from rfl] at e4
    rw [e4] at e3
    have B3 : BagSt M3 b r c s i cells := by rw [← hM3]; exact ((B.app _).app _).app _
    have S3 : Stp M.length b M M3 := by rw [← hM3]; exact (((Stp.refl (Nat.le_refl _)).app _).app _).app _
    obtain ⟨M', s', y3, h1, ⟨c', h2⟩, h3⟩ := take_mix (m := m) (x3 := none) (x4 := none) (x5 := none) (x6 := none) B3 S3 hz
    refine ⟨M', some (D.int z), some y3, h1, ⟨_, _, _, h2⟩, ?_⟩
    have s1 := sl_ref B.cl (some i) none
    have a2 : (sSet 2 (mBin fIx (mBin fAdd (mSl (mBin fIx (mVar 0) (mC (.int 3))) (some (mBin fIx (mVar 0) (mC (.int 2)))) none) (mLst (aCons (mC (.int 0)) aNil))) (mC (.int 0)))) [some (D.ref b), some m, none, none, none, none, none] M = .nx [some (D.ref b), some m, some (D.int z), none, none, none, none] M3 := by
      simp only [sSet_eq, mBin_eq, mSl_eq, mVar_z, mC_ok, Res.bind_ok, e, atI_3, atI_2, mPart_some, mPart_none, s1, mLst_eq, aCons_eq, aNil_eq, List.length_cons, List.length_nil]
      rw [if_pos (by decide)]
      simp only [Res.bind_ok, n1, a1, e3]
      rfl
    rw [sIf_eq]
    simp only [tB1_eq, mBin_eq, mVar_z, mC_ok, Res.bind_ok, e, atI_0, fEq_int, hc, decide_true, Res.toS_ok, if_true, Bool.false_eq_true, if_false]
    rw [sSeq_eq, a2]
    exact h3
  · refine ⟨M, none, none, Stp.refl (Nat.le_refl _), ⟨_, _, _, B⟩, ?_⟩
    simp [mVar_z, mVar_s, e, hc]
theorem take_ok {M : MH} {b r : Nat} {many : Int} (hB : Bag M b r) (h0 : 0 < many) (h1 : many < 2 ^ 60) : ∃ v M', f_law_take [.ref b, .int many] M = .ok (.int v) M' ∧ 0 ≤ v ∧ v < many ∧ Step b r M M' := by
  obtain ⟨c, s, i, cells, B⟩ := hB
  obtain ⟨M1, x2, x3, S1, ⟨c1, s1, i1, B1⟩, e1⟩ := take_first (m := .int many) B
  obtain ⟨M2, v, S2, ⟨c2, s2, i2, B2⟩, v0, v1, e2⟩ := take_last (x2 := x2) (x3 := x3) (x4 := none) (x5 := none) (x6 := none) B1 S1 h0 h1
  have hr : r < M.length := get_lt B.cl
  have hb : b < M.length := get_lt B.at_
  have tk : ∀ k, k < M.length → (M2.take M.length)[k]? = M2[k]? := fun k hk => List.getElem?_take_of_lt hk
  refine ⟨v, M2.take M.length, ?_, v0, v1, ?_, ?_, ?_⟩
  · unfold f_law_take
    rw [runBody_eq 2 7 _ [.ref b, .int many] M rfl]
    have e : ([D.ref b, D.int many].map some ++ List.replicate (7 - 2) none) = [some (D.ref b), some (D.int many), none, none, none, none, none] := rfl
    rw [e, sSeq_eq, e1, seq_nx, e2]
    refine gcRet_pt rfl fun k o hk => ?_
    by_cases hkb : k = b
    · subst hkb
      refine ⟨_, B2.at_, .inr ?_⟩
      show (true && (true && (true && (decide (r < M.length) && true)))) = true
      rw [decide_eq_true hr]
      rfl
    · exact ⟨o, by rw [S2.rest k (get_lt hk) hkb, hk], .inl rfl⟩
  · rw [List.length_take]
    have := S2.len
    omega
  · intro k hk
    rcases Nat.lt_or_ge k M.length with hl | hl
    · rw [tk k hl, S2.rest k hl hk]
    · rw [List.getElem?_eq_none (by rw [List.length_take]; omega), List.getElem?_eq_none hl]
  · exact ⟨c2, s2, i2, cells, by rw [tk b hb]; exact B2.at_, by rw [tk r hr]; exact B2.cl, B2.cp, B2.c0, B2.i0, B2.ne, B2.few⟩


theorem Step.refl {M : MH} {b r : Nat} (h : Bag M b r) : Step b r M M := ⟨rfl, fun _ _ => rfl, h⟩
theorem Step.trans {M M' M'' : MH} {b r : Nat} (h : Step b r M M') (h' : Step b r M' M'') : Step b r M M'' := ⟨h'.len.trans h.len, fun k hk => (h'.rest k hk).trans (h.rest k hk), h'.bag⟩
/-- the bag moved on, the rest as it was, new things behind -/
structure Ge (b r : Nat) (M M' : MH) : Prop where
  len : M.length ≤ M'.length
  rest : ∀ k, k < M.length → k ≠ b → M'[k]? = M[k]?
  bag : Bag M' b r
theorem Step.ge {M M' : MH} {b r : Nat} (h : Step b r M M') : Ge b r M M' := ⟨Nat.le_of_eq h.len.symm, fun k _ hk => h.rest k hk, h.bag⟩
theorem Bag.app {M : MH} {b r : Nat} (h : Bag M b r) (X : MH) : Bag (M ++ X) b r := by
  obtain ⟨c, s, i, cells, B⟩ := h
  exact ⟨c, s, i, cells, B.app X⟩
theorem Ge.refl {M : MH} {b r : Nat} (h : Bag M b r) : Ge b r M M := (Step.refl h).ge
theorem Ge.trans {M M' M'' : MH} {b r : Nat} (h : Ge b r M M') (h' : Ge b r M' M'') : Ge b r M M'' := ⟨Nat.le_trans h.len h'.len, fun k hk hb => (h'.rest k (Nat.lt_of_lt_of_le hk h.len) hb).trans (h.rest k hk hb), h'.bag⟩
theorem Ge.step {M M' M'' : MH} {b r : Nat} (h : Ge b r M M') (h' : Step b r M' M'') : Ge b r M M'' := h.trans h'.ge
theorem Ge.app {M M' : MH} {b r : Nat} (h : Ge b r M M') (X : MH) : Ge b r M (M' ++ X) := ⟨by rw [List.length_append]; have := h.len; omega, fun k hk hb => by rw [List.getElem?_append_left (Nat.lt_of_lt_of_le hk h.len), h.rest k hk hb], h.bag.app X⟩
theorem Ge.get {M M' : MH} {b r k : Nat} {o : MO} (h : Ge b r M M') (hk : M[k]? = some o) (hb : k ≠ b) : M'[k]? = some o := by rw [h.rest k (get_lt hk) hb, hk]
theorem Bag.lt {M : MH} {b r : Nat} (h : Bag M b r) : b < M.length ∧ r < M.length := by
  obtain ⟨c, s, i, cells, B⟩ := h
  exact ⟨get_lt B.at_, get_lt B.cl⟩
theorem gcRet_ge {M M' : MH} {b r : Nat} {d : D} (hB : Bag M b r) (hd : d.lim M.length = true) (h : Ge b r M M') : gcRet M d M' = .ok d (M'.take M.length) ∧ Step b r M (M'.take M.length) := by
  obtain ⟨hb, hr⟩ := hB.lt
  have tk : ∀ k, k < M.length → (M'.take M.length)[k]? = M'[k]? := fun k hk => List.getElem?_take_of_lt hk
  obtain ⟨c2, s2, i2, cells, B2⟩ := h.bag
  refine ⟨gcRet_pt hd fun k o hk => ?_, ?_, ?_, ?_⟩
  · by_cases hkb : k = b
    · subst hkb
      refine ⟨_, B2.at_, .inr ?_⟩
      show (true && (true && (true && (decide (r < M.length) && true)))) = true
      rw [decide_eq_true hr]
      rfl
    · exact ⟨o, h.get hk hkb, .inl rfl⟩
  · rw [List.length_take]
    have := h.len
    omega
  · intro k hk
    rcases Nat.lt_or_ge k M.length with hl | hl
    · rw [tk k hl, h.rest k hl hk]
    · rw [List.getElem?_eq_none (by rw [List.length_take]; omega), List.getElem?_eq_none hl]
  · exact ⟨c2, s2, i2, cells, by rw [tk b hb]; exact B2.at_, by rw [tk r hr]; exact B2.cl, B2.cp, B2.c0, B2.i0, B2.ne, B2.few⟩
theorem fLen_ref {M : MH} {n : Nat} {l : List D} (h : M[n]? = some (MO.lst l)) : fLen [D.ref n] M = .ok (.int l.length) M := by
  have e : fLen [D.ref n] M = (match itemsOf M (D.ref n) with | some l => Res.ok (D.int l.length) M | none => .err) := rfl
  rw [e, itemsOf_ref h]
/-- one of a few -/
theorem some_ok {M : MH} {b r t : Nat} {l : List D} (hB : Bag M b r) (ht : M[t]? = some (MO.lst l)) (hb : t ≠ b) (h0 : l ≠ []) (h1 : l.length < 1000) (hl : ∀ x ∈ l, x.lim M.length = true) :
    ∃ x M', f_law_some [.ref b, .ref t] M = .ok x M' ∧ x ∈ l ∧ Step b r M M' := by
  have hp : 0 < l.length := List.length_pos_iff.mpr h0
  obtain ⟨v, M1, e1, v0, v1, S1⟩ := take_ok hB (many := l.length) (by omega) (by omega)
  obtain ⟨k, rfl⟩ : ∃ k : Nat, v = k := ⟨v.toNat, by omega⟩
  have hk : k < l.length := by omega
  have g : l[k]? = some l[k] := List.getElem?_eq_getElem hk
  have hx : l[k] ∈ l := List.getElem_mem hk
  obtain ⟨e2, S2⟩ := gcRet_ge hB (hl _ hx) S1.ge
  refine ⟨l[k], _, ?_, hx, S2⟩
  unfold f_law_some
  refine (run_rt (np := 2) (d := l[k]) (M' := M1) rfl ?_).trans e2
  have ht1 := S1.ge.get ht hb
  simp [mVar_z, mVar_s, fLen_ref ht, e1, fIx_ref ht1, atI_at g]

/-- how small the drawn fractions are -/
theorem sz_lit {n : Nat} {i : Int} (h : i.natAbs < 2 ^ n) : Sz n i := ⟨h⟩
theorem small_ok {M : MH} {b r : Nat} (hB : Bag M b r) : ∃ q M', f_law_small [.ref b] M = .ok (fr q) M' ∧ SzQ 3 q ∧ Step b r M M' := by
  obtain ⟨v, M1, e1, v0, v1, S1⟩ := take_ok hB (many := 9) (by omega) (by omega)
  have g1 : (M1 ++ [MO.lst [.int 1, .int 1, .int 2, .int 3]])[M1.length]? = some (MO.lst [.int 1, .int 1, .int 2, .int 3]) := get_end
  have hB1 := S1.bag.app [MO.lst [.int 1, .int 1, .int 2, .int 3]]
  obtain ⟨x, M2, e2, hx, S2⟩ := some_ok hB1 g1 (by have := S1.bag.lt.1; omega) (by simp) (by simp) (by
    intro x hx
    simp at hx
    rcases hx with rfl | rfl | rfl <;> rfl)
  obtain ⟨u, u0, u1, rfl⟩ : ∃ u : Int, 0 < u ∧ u < 4 ∧ x = .int u := by
    simp at hx
    rcases hx with rfl | rfl | rfl
    · exact ⟨1, by decide, by decide, rfl⟩
    · exact ⟨2, by decide, by decide, rfl⟩
    · exact ⟨3, by decide, by decide, rfl⟩
  have z1 : Sz 3 (v - 4) := ⟨by omega⟩
  have z2 : Sz 3 u := ⟨by omega⟩
  have e3 := law_fr_ok (a := v - 4) (b := u) (M := M2) (by omega) (z2.mono (by omega))
  obtain ⟨e4, S4⟩ := gcRet_ge (d := fr (Rat.divInt (v - 4) u)) hB rfl ((S1.ge.app _).step S2)
  refine ⟨Rat.divInt (v - 4) u, _, ?_, sz_divInt (by omega) z1 z2, S4⟩
  unfold f_law_small
  refine (run_rt (np := 1) rfl ?_).trans e4
  simp [mVar_z, mVar_s, e1, e2, e3]
theorem bag_cells : ∀ (l : List Int) (ρ : Ev) (M : MH) (chk : List (Nat × List D)), chkOk chk M = true → ρ.length = 2 → lcGo (gN 1) tYesD (mBlt fAbs (aCons (mVar 1) aNil)) chk ρ (l.map D.int) M = .ok ((l.map fun i => (i.natAbs : Int)).map D.int) M
  | [], ρ, M, chk, h, _ => by
    show (if chkOk chk M = true then Res.ok [] M else .err) = _
    rw [if_pos h]
    rfl
  | i :: l, [a, d], M, chk, h, _ => by
    have ih := bag_cells l [a, d] M chk h rfl
    simp [lcGo, h, mVar_z, mVar_s, abs_if, ih]
theorem bag_ok (ns : List Int) : ∃ M', f_law_bag [.ro (ns.map D.int)] [] = .ok (.ref 2) M' ∧ Bag M' 2 1 := by
  have hs : ∃ l : List Int, l.length ≤ 63 ∧ cutL (ns.map D.int) none (some 63) = l.map D.int := by
    refine ⟨(ns.drop (HT.sIx ns.length 0 none)).take (HT.sIx ns.length ns.length (some 63) - HT.sIx ns.length 0 none), ?_, ?_⟩
    · rw [List.length_take]
      have : HT.sIx ns.length ns.length (some 63) = min 63 ns.length := HT.sIx_nat ns.length ns.length 63
      omega
    · unfold cutL
      rw [List.map_take, List.map_drop, List.length_map]
  obtain ⟨l, hl, e1⟩ := hs
  have e2 : fSl (.ro (ns.map D.int)) none (some 63) [] = .ok (.ref 0) [MO.lst (l.map D.int)] := by
    show (match lstOf [] (.ro (ns.map D.int)) with | some l => Res.ok (D.ref ([] : MH).length) ([] ++ [MO.lst (cutL l none (some 63))]) | none => .err) = _
    show Res.ok (D.ref 0) ([] ++ [MO.lst (cutL (ns.map D.int) none (some 63))]) = _
    rw [e1]
    rfl
  have e3 := bag_cells l [some (.ro (ns.map D.int)), none] [MO.lst (l.map D.int)] [(0, l.map D.int)] (by simp [chkOk]) rfl
  refine ⟨[MO.lst (l.map D.int), MO.lst ((l.map fun i => (i.natAbs : Int)).map D.int), MO.lst [.int 0, .int 1234567891, .int 0, .ref 1]], ?_, ⟨0, 1234567891, 0, l.map fun i => (i.natAbs : Int), rfl, rfl, ?_, by decide, by decide, by decide, by rw [List.length_map]; exact hl⟩⟩
  · unfold f_law_bag
    refine (run_rt (np := 1) (d := .ref 2) (M' := [MO.lst (l.map D.int), MO.lst ((l.map fun i => (i.natAbs : Int)).map D.int), MO.lst [.int 0, .int 1234567891, .int 0, .ref 1]]) rfl ?_).trans ?_
    · have hw : wipeD [some (.ro (ns.map D.int)), none] [1] = [some (.ro (ns.map D.int)), none] := rfl
      have hq : sSeqOf (.ref 0) [MO.lst (l.map D.int)] = .ok ⟨l.map D.int, [(0, l.map D.int)]⟩ [MO.lst (l.map D.int)] := rfl
      have hl2 : l.length ≤ 16777216 := by omega
      simp only [List.map_map] at e3
      simp [mVar_z, mVar_s, e2, hq, hw, e3, hl2]
    · rfl
  · intro z hz
    obtain ⟨i, _, rfl⟩ := List.mem_map.mp hz
    omega
end K13
namespace K13
open PySem PySem.Spec PyProof.Rows L2 Mp
/-! ### goings: what the two checkers look at -/
def intB : D → Bool
  | .int _ => true
  | _ => false
def countB : D → Bool
  | .int i => decide (0 ≤ i)
  | _ => false
def fewB : D → Bool
  | .int i => decide (0 ≤ i) && decide (i < 1000000000)
  | _ => false
theorem int_ty (d : D) : (tyB .int d && !tyB .bool d) = intB d := by cases d <;> rfl
theorem integer_ok {M : MH} {k n : Nat} {d : D} (h : Tm M k n d) : f_is_integer [d] M = .ok (.bl (intB d)) M := by
  unfold f_is_integer
  refine run_id rfl ?_
  rw [← int_ty]
  cases h1 : tyB .int d <;> simp [mVar_z, fIsi_tm h, h1]
theorem law_int_ok {M : MH} {k n : Nat} {d : D} (h : Tm M k n d) : f_law_is_int [d] M = .ok (.bl (intB d)) M := by
  unfold f_law_is_int
  refine run_id rfl ?_
  rw [← int_ty]
  cases h1 : tyB .int d <;> simp [mVar_z, fIsi_tm h, h1]
theorem count_ok {M : MH} {k n : Nat} {d : D} (h : Tm M k n d) : f_is_count [d] M = .ok (.bl (countB d)) M := by
  unfold f_is_count
  refine run_id rfl ?_
  have e := integer_ok h
  cases d <;> simp [mVar_z, e, intB, countB]
theorem few_ok {M : MH} {k n : Nat} {d : D} (h : Tm M k n d) : f_is_few [d] M = .ok (.bl (fewB d)) M := by
  unfold f_is_few
  refine run_id rfl ?_
  have e := count_ok h
  have hp : fPow (.int 10) (.int 9) = fun M => .ok (.int 1000000000) M := by rfl
  cases d with
  | int i =>
    by_cases h0 : 0 ≤ i
    · simp [mVar_z, e, countB, fewB, hp, h0]
    · simp [mVar_z, e, countB, fewB, hp, h0]
  | _ => simp [mVar_z, e, countB, fewB]
def countsB : D → Bool
  | .tup l => l.all fewB
  | _ => false
theorem counts_ok {M : MH} {k n : Nat} {d : D} (h : Tm M k n d) : f_is_counts [d] M = .ok (.bl (countsB d)) M := by
  have main : f_is_tuple_of [d, .fn "is_few"] M = .ok (.bl (countsB d)) M := by
    unfold f_is_tuple_of
    cases d with
    | tup l =>
      have hl : l.length ≤ 1000 := by cases h with | tup hl h => exact hl
      have hl2 : l.length ≤ 16777216 := by omega
      obtain ⟨m, hm⟩ : ∃ m, ∀ x ∈ l, Tm M k m x := by cases h with | tup hl h => exact ⟨_, h⟩
      have e1 := lc_map (g := gN 2) (te := mCallV 1 tab_is_tuple_of 1 (aCons (mVar 2) aNil)) (chk := []) (ρ := wipeD [some (.tup l), some (.fn "is_few"), none] [2]) (M := M) (ρx := fun x => [some (.tup l), some (.fn "is_few"), some x]) (f := fun x => .bl (fewB x)) rfl (l := l) fun x hx => ⟨rfl, by
        have e2 := few_ok (hm x hx)
        show (match ([some (D.tup l), some (.fn "is_few"), some x] : Ev)[1]? with
          | some (some (.fn x')) => (match tab_is_tuple_of.lookup x' with
            | some F => ((aCons (mVar 2) aNil) [some (D.tup l), some (.fn "is_few"), some x] M).bind fun ds M1 => if ds.length = 1 then F ds M1 else .err
            | none => .err)
          | _ => .err) = _
        show (match tab_is_tuple_of.lookup ("is_few" : Str) with
            | some F => ((aCons (mVar 2) aNil) [some (D.tup l), some (.fn "is_few"), some x] M).bind fun ds M1 => if ds.length = 1 then F ds M1 else .err
            | none => .err) = _
        rw [show tab_is_tuple_of.lookup ("is_few" : Str) = some f_is_few by simp [tab_is_tuple_of]]
        simp [mVar_z, mVar_s, e2]⟩
      refine (run_rt (np := 2) (d := .bl (countsB (.tup l))) (M' := M ++ [MO.lst (l.map fun x => .bl (fewB x))]) rfl ?_).trans (gcRet_app _ _ _ rfl)
      have e3 := fIsi_tm h .tuple
      have e4 : fAll [.ref M.length] (M ++ [MO.lst (l.map fun x => .bl (fewB x))]) = .ok (.bl (l.all fewB)) _ := fAll_ref get_end
      have e5 : sSeqOf (.tup l) M = .ok ⟨l, []⟩ M := rfl
      have e6 : tyB .tuple (.tup l) = true := rfl
      simp [mVar_z, mVar_s, e3, e5, e6, hl2, e1, e4, countsB]
    | _ =>
      refine run_id rfl ?_
      have e3 := fIsi_tm h .tuple
      simp [mVar_z, mVar_s, e3, tyB, isTy, countsB]
  unfold f_is_counts
  refine run_id rfl ?_
  simp [mVar_z, main]
def inner : D → Option (List D)
  | .tup (.str s :: l) => if s = "work" ∨ s = "quiet" then (if l = [] then some [] else none)
    else if s = "row" ∨ s = "again" then (if l = [] then none else some l)
    else if s = "one" then (match l with
      | [a, g] => if fewB a = true then some [g] else none
      | _ => none)
    else if s = "beside" then (match l with
      | a :: g :: gs => if countsB a = true then some (g :: gs) else none
      | _ => none)
    else none
  | _ => none

theorem fIn2 {M : MH} (s a b : Str) : fIn false (.str s) (.tup [.str a, .str b]) M = .ok (.bl (decide (s = a ∨ s = b))) M := by
  have e : fIn false (.str s) (.tup [.str a, .str b]) M = .ok (.bl ((a == s) || ((b == s) || false))) M := rfl
  rw [e]
  congr 2
  by_cases h1 : s = a
  · subst h1; simp
  · by_cases h2 : s = b
    · subst h2; simp
    · have h3 : ¬ a = s := fun z => h1 z.symm
      have h4 : ¬ b = s := fun z => h2 z.symm
      simp [h1, h2, h3, h4]
theorem fEq_s {M : MH} {s a : Str} (h : PyData.canLay0 (.str s) = true) (h' : PyData.canLay0 (.str a) = true) : fEq false (.str s) (.str a) M = .ok (.bl (decide (s = a))) M := by
  rw [fEq_str false h h']
  by_cases h1 : s = a
  · subst h1; simp
  · simp [h1]
theorem inner_ok {M : MH} {n : Nat} {d : D} (h : Tm M 4 n d) (hn : n ≤ 63) : f_inner_goings [d] M = .ok (match inner d with | some l => .tup l | none => .non) M := by
  have e0 := fIsi_tm h .tuple
  have body : f_inner_goings [d] M = .ok (match inner d with | some l => .tup l | none => .non) M := by
    unfold f_inner_goings
    refine run_id rfl ?_
    cases h with
    | non => simp [mVar_z, e0, tyB, isTy, inner]
    | bl b => simp [mVar_z, e0, tyB, isTy, inner]
    | int b => simp [mVar_z, e0, tyB, isTy, inner]
    | str b => simp [mVar_z, e0, tyB, isTy, inner]
    | ref b => simp [mVar_z, e0, tyB, isTy, inner]
    | @tup _ n l hl h =>
      have e1 := fEq_unit (M := M) false h (by omega)
      have e0' : tyB .tuple (.tup l) = true := rfl
      rw [e0'] at e0
      cases l with
      | nil => simp [mVar_z, e0, e1, inner]
      | cons x xs =>
        have hx := h x List.mem_cons_self
        have e2 := fIsi_tm hx .str
        have c1 := cut_drop (x :: xs) 1
        have c2 := cut_drop (x :: xs) 2
        rw [show ((1 : Nat) : Int) = 1 from rfl] at c1
        rw [show ((2 : Nat) : Int) = 2 from rfl] at c2
        cases hx with
        | @str _ _ s hs =>
          have i1 : fIn false (.str s) (.tup [.str "work", .str "quiet"]) M = .ok (.bl (decide (s = "work" ∨ s = "quiet"))) M := fIn2 _ _ _
          
          have i2 : fIn false (.str s) (.tup [.str "row", .str "again"]) M = .ok (.bl (decide (s = "row" ∨ s = "again"))) M := fIn2 _ _ _
          
          have i3 : fEq false (.str s) (.str "one") M = .ok (.bl (decide (s = "one"))) M := fEq_s hs (by decide +kernel)
          
          have i4 : fEq false (.str s) (.str "beside") M = .ok (.bl (decide (s = "beside"))) M := fEq_s hs (by decide +kernel)
          
          have e2' : tyB .str (.str s) = true := rfl
          rw [e2'] at e2
          by_cases h1 : s = "work" ∨ s = "quiet"
          · cases xs with
            | nil => simp [mVar_z, e0, e1, e2, i1, h1, inner]
            | cons a xs =>
              have z1 : ¬ ((xs.length : Int) + 1 + 1 = 1) := by omega
              simp [mVar_z, e0, e1, e2, i1, h1, inner, z1]
          · by_cases h2 : s = "row" ∨ s = "again"
            · cases xs with
              | nil => simp [mVar_z, e0, e1, e2, i1, i2, h1, h2, inner, c1]
              | cons a xs =>
                have z1 : 1 < (xs.length : Int) + 1 + 1 := by omega
                simp [mVar_z, e0, e1, e2, i1, i2, h1, h2, inner, c1, z1]
            · by_cases h3 : s = "one"
              · match xs, h, c2, e0, e1 with
                | [], h, c2, e0, e1 => simp [mVar_z, e0, e1, e2, i1, i2, i3, h1, h2, eq_true h3, inner]
                | [a], h, c2, e0, e1 => simp [mVar_z, e0, e1, e2, i1, i2, i3, h1, h2, eq_true h3, inner]
                | [a, g], h, c2, e0, e1 =>
                  have ea := few_ok (h a (by simp))
                  cases hf : fewB a <;> simp [mVar_z, e0, e1, e2, i1, i2, i3, h1, h2, eq_true h3, inner, ea, hf, c2]
                | a :: g :: y :: ys, h, c2, e0, e1 =>
                  have z1 : ¬ ((ys.length : Int) + 1 + 1 + 1 + 1 = 3) := by omega
                  simp [mVar_z, e0, e1, e2, i1, i2, i3, h1, h2, eq_true h3, inner, z1]
              · by_cases h4 : s = "beside"
                · match xs, h, c2, e0, e1 with
                  | [], h, c2, e0, e1 => simp [mVar_z, e0, e1, e2, i1, i2, i3, i4, h1, h2, h3, eq_true h4, inner]
                  | [a], h, c2, e0, e1 => simp [mVar_z, e0, e1, e2, i1, i2, i3, i4, h1, h2, h3, eq_true h4, inner]
                  | a :: g :: ys, h, c2, e0, e1 =>
                    have ea := counts_ok (h a (by simp))
                    have z1 : 2 < (ys.length : Int) + 1 + 1 + 1 := by omega
                    cases hf : countsB a <;> simp [mVar_z, e0, e1, e2, i1, i2, i3, i4, h1, h2, h3, eq_true h4, inner, ea, hf, c2, z1]
                · simp [mVar_z, e0, e1, e2, i1, i2, i3, i4, h1, h2, h3, h4, inner]
        | _ => simp [mVar_z, e0, e1, e2, tyB, isTy, inner]
  exact body
end K13
namespace K13
open PySem PySem.Spec PyProof.Rows L2 Mp
def chk : Nat → D → Bool
  | 0, _ => false
  | n + 1, d => match inner d with
    | none => false
    | some l => l.all (chk n)
mutual
/-- every int below the checkers' line -/
def lo : D → Bool
  | .int i => decide (i < 1000000000)
  | .tup l => los l
  | _ => true
def los : List D → Bool
  | [] => true
  | d :: l => lo d && los l
end
theorem los_mem : ∀ {l : List D}, los l = true → ∀ x ∈ l, lo x = true
  | d :: l, h, x, hx => by
    simp only [los, Bool.and_eq_true] at h
    rcases List.mem_cons.mp hx with rfl | hx
    · exact h.1
    · exact los_mem h.2 x hx
theorem few_count {d : D} (h : lo d = true) : fewB d = countB d := by
  cases d with
  | int i =>
    simp only [lo, decide_eq_true_eq] at h
    simp [fewB, countB, h]
  | _ => rfl
theorem counts_count {l : List D} (h : los l = true) : countsB (.tup l) = l.all countB := by
  show l.all fewB = l.all countB
  rw [Bool.eq_iff_iff, List.all_eq_true, List.all_eq_true]
  exact ⟨fun z x hx => by rw [← few_count (los_mem h x hx)]; exact z x hx, fun z x hx => by rw [few_count (los_mem h x hx)]; exact z x hx⟩
theorem fIn3 {M : MH} (s a b c : Str) : fIn true (.str s) (.tup [.str a, .str b, .str c]) M = .ok (.bl (!decide (s = a ∨ s = b ∨ s = c))) M := by
  have e : fIn true (.str s) (.tup [.str a, .str b, .str c]) M = .ok (.bl (!((a == s) || ((b == s) || ((c == s) || false))))) M := rfl
  rw [e]
  congr 3
  by_cases h1 : s = a
  · subst h1; simp
  · by_cases h2 : s = b
    · subst h2; simp
    · by_cases h5 : s = c
      · subst h5; simp
      · have h3 : ¬ a = s := fun z => h1 z.symm
        have h4 : ¬ b = s := fun z => h2 z.symm
        have h6 : ¬ c = s := fun z => h5 z.symm
        simp [h1, h2, h3, h4, h5, h6]
theorem all_filter {l : List D} {p : D → Bool} : (l.filter fun x => !p x).isEmpty = l.all p := by
  induction l with
  | nil => rfl
  | cons x l ih =>
    cases h : p x
    · simp [h]
    · simp [h, ih]
theorem lg_last {self : List D → MH → Res D} {n f m : Nat} {M : MH} {T : List D} {w x4 : Option D} (hT : ∀ x ∈ T, Tm M 3 m x) (hm : m ≤ 60) (hl : T.length ≤ 1000) (IH : ∀ x ∈ T.drop f, self [x, .int n] M = .ok (.bl (chk n x)) M) :
    ∃ X, (sRet (mAnd (mBin fGt (mBlt fLen (aCons (mVar 0) aNil)) (mVar 3)) (mBin (fEq false) (mLc [4] (sSq (mSl (mVar 0) (some (mVar 3)) none)) (gN 4) (tNotB (tB1 (mCall 2 self (aCons (mVar 4) (aCons (mBin fSub (mVar 1) (mC (.int 1))) aNil))))) (mVar 4)) (mLst aNil))))
      [some (.tup T), some (.int ((n + 1 : Nat) : Int)), w, some (.int (f : Int)), x4] M = .rt (.bl (decide (f < T.length) && (T.drop f).all (chk n))) (M ++ X) := by
  have hd : (n : Int) + 1 - 1 = n := by omega
  by_cases hf : f < T.length
  · have e1 := lc_filter (g := gN 4) (tt := tNotB (tB1 (mCall 2 self (aCons (mVar 4) (aCons (mBin fSub (mVar 1) (mC (.int 1))) aNil))))) (te := mVar 4) (chk := []) (ρ := wipeD [some (.tup T), some (.int ((n + 1 : Nat) : Int)), w, some (.int (f : Int)), x4] [4]) (M := M)
      (ρx := fun x => [some (.tup T), some (.int ((n + 1 : Nat) : Int)), w, some (.int (f : Int)), some x]) (b := fun x => !chk n x) (f := fun x => x) rfl (l := T.drop f) fun x hx => ⟨rfl, by
        have e := IH x hx
        simp [mVar_z, mVar_s, hd, e], fun _ => rfl⟩
    rw [List.map_id'] at e1
    refine ⟨[MO.lst ((T.drop f).filter fun x => !chk n x)] ++ [MO.lst []], ret_step (and_t (M' := M) ?_ ?_)⟩
    rotate_left
    · refine (lc_empty (n := m) (l := T.drop f) false ?_ ?_ e1 (fun x hx => hT x (List.mem_of_mem_drop (List.mem_filter.mp hx).1)) (by omega)).trans ?_
      · simp [mVar_z, mVar_s, cut_drop, sSeqOf]
      · rw [List.length_drop]; show _ ≤ 16777216; omega
      · rw [if_neg (by decide), all_filter, decide_eq_true hf, List.append_assoc]
        rfl
    · simp [mVar_z, mVar_s, hf]
  · refine ⟨[], ret_step ?_⟩
    rw [List.append_nil, decide_eq_false hf]
    refine and_f ?_
    simp [mVar_z, mVar_s]
    omega
theorem chk_row {s : Str} {n : Nat} {xs : List D} (h : s = "row" ∨ s = "again") : chk (n + 1) (.tup (.str s :: xs)) = (decide (1 < (D.str s :: xs).length) && ((D.str s :: xs).drop 1).all (chk n)) := by
  have h1 : ¬ (s = "work" ∨ s = "quiet") := by rcases h with rfl | rfl <;> decide +kernel
  cases xs <;> simp [chk, inner, h, h1]
theorem chk_beside {n : Nat} {xs : List D} : chk (n + 1) (.tup (.str "beside" :: xs)) = (match xs with
    | a :: ys => countsB a && (decide (2 < (D.str "beside" :: xs).length) && ((D.str "beside" :: xs).drop 2).all (chk n))
    | [] => false) := by
  have h1 : ¬ (("beside" : Str) = "work" ∨ ("beside" : Str) = "quiet") := by decide +kernel
  have h2 : ¬ (("beside" : Str) = "row" ∨ ("beside" : Str) = "again") := by decide +kernel
  have h3 : ¬ (("beside" : Str) = "one") := by decide +kernel
  match xs with
  | [] => simp [chk, inner, h1, h2, h3]
  | [a] => simp [chk, inner, h1, h2, h3]
  | a :: g :: gs =>
    cases hc : countsB a <;> simp [chk, inner, h1, h2, h3, hc]
theorem lg_beside {n m : Nat} {M : MH} {xs : List D} (IH : ∀ {M : MH} {d : D} {m : Nat}, Tm M 3 m d → m ≤ 60 → lo d = true → f_law_is_going (n + 1) [d, .int n] M = .ok (.bl (chk n d)) M) (hT : ∀ x ∈ D.str "beside" :: xs, Tm M 3 m x) (hm : m ≤ 60) (hl' : los (D.str "beside" :: xs) = true) (hll : (D.str "beside" :: xs).length ≤ 1000) (i4 : fEq false (.str "beside") (.str "beside") M = .ok (.bl (decide (("beside" : Str) = "beside"))) M) :
    ∃ X, (sSeq (sIf (tAndB (tB1 (mBin (fEq false) (mVar 2) (mC (.str ("beside" : Str))))) (tOrB (tB1 (mBin fLt (mBlt fLen (aCons (mVar 0) aNil)) (mC (.int 2)))) (tOrB (tNotB (tB1 (mUn (fIsi .tuple) (mBin fIx (mVar 0) (mC (.int 1)))))) (tB1 (mBin (fEq true) (mLc [4] (sSq (mBin fIx (mVar 0) (mC (.int 1)))) (gN 4) (tOrB (tNotB (tB1 (mCall 1 f_law_is_int (aCons (mVar 4) aNil)))) (tB1 (mBin fLt (mVar 4) (mC (.int 0))))) (mVar 4)) (mLst aNil)))))) (sRet (mC (.bl false))) sNil)
      (sRet (mAnd (mBin fGt (mBlt fLen (aCons (mVar 0) aNil)) (mVar 3)) (mBin (fEq false) (mLc [4] (sSq (mSl (mVar 0) (some (mVar 3)) none)) (gN 4) (tNotB (tB1 (mCall 2 (f_law_is_going (n + 1)) (aCons (mVar 4) (aCons (mBin fSub (mVar 1) (mC (.int 1))) aNil))))) (mVar 4)) (mLst aNil)))))
      [some (.tup (.str "beside" :: xs)), some (.int ((n + 1 : Nat) : Int)), some (.str "beside"), some (.int 2), none] M = .rt (.bl (match xs with
    | a :: ys => countsB a && (decide (2 < (D.str "beside" :: xs).length) && ((D.str "beside" :: xs).drop 2).all (chk n))
    | [] => false)) (M ++ X) := by
  have h := hT
  have hxs : ∀ y ∈ xs, Tm M 3 m y := fun y hy => h y (List.mem_cons_of_mem _ hy)
  have hlx : los xs = true := by
    simp only [los, Bool.and_eq_true] at hl'
    exact hl'.2
  cases xs with
  | nil =>
    refine ⟨[], seq_ret ?_⟩
    rw [List.append_nil]
    simp [mVar_z, mVar_s, i4]
  | cons a ys =>
    have ha := hxs a (by simp)
    have ea := fIsi_tm ha .tuple
    have z1 : ¬ ((ys.length : Int) + 1 + 1 < 2) := by omega
    have bad : tyB .tuple a = false → countsB a = false := fun z => by
      cases a with
      | tup l => cases z
      | _ => rfl
    cases hta : tyB .tuple a with
    | false =>
      refine ⟨[], seq_ret ?_⟩
      rw [List.append_nil]
      simp [mVar_z, mVar_s, i4, z1, ea, hta, bad hta]
    | true =>
      obtain ⟨ks, rfl⟩ : ∃ ks, a = .tup ks := by
        cases a with
        | tup ks => exact ⟨ks, rfl⟩
        | bl b => cases hta
        | _ => cases hta
      have hlk : los ks = true := los_mem hlx (.tup ks) (by simp)
      obtain ⟨m', hkl, hm', hks⟩ : ∃ m', ks.length ≤ 1000 ∧ m' ≤ 63 ∧ ∀ x ∈ ks, Tm M 3 m' x := by
        cases ha with
        | tup h1 h2 => exact ⟨_, h1, by omega, h2⟩
      have e7 := lc_filter (g := gN 4) (tt := tOrB (tNotB (tB1 (mCall 1 f_law_is_int (aCons (mVar 4) aNil)))) (tB1 (mBin fLt (mVar 4) (mC (.int 0))))) (te := mVar 4) (chk := []) (ρ := wipeD [some (.tup (.str "beside" :: .tup ks :: ys)), some (.int ((n + 1 : Nat) : Int)), some (.str "beside"), some (.int 2), none] [4]) (M := M)
        (ρx := fun x => [some (.tup (.str "beside" :: .tup ks :: ys)), some (.int ((n + 1 : Nat) : Int)), some (.str "beside"), some (.int 2), some x]) (b := fun x => !countB x) (f := fun x => x) rfl (l := ks) fun x hx => ⟨rfl, by
          have e := law_int_ok (hks x hx)
          cases x with
          | int i =>
            by_cases hi : 0 ≤ i
            · have hi2 : ¬ i < 0 := by omega
              simp [mVar_z, mVar_s, e, intB, countB, hi, hi2]
            · have hi2 : i < 0 := by omega
              simp [mVar_z, mVar_s, e, intB, countB, hi, hi2]
          | _ => simp [mVar_z, mVar_s, e, intB, countB], fun _ => rfl⟩
      rw [List.map_id'] at e7
      have e8 := lc_empty (sm := sSq (mBin fIx (mVar 0) (mC (.int 1)))) (n := m') true (by simp [mVar_z, mVar_s, sSeqOf]) (by show _ ≤ 16777216; omega) e7 (fun x hx => hks x (List.mem_filter.mp hx).1) (by omega)
      rw [if_pos rfl, all_filter, ← counts_count hlk] at e8
      have t1 : tB1 (mBin (fEq false) (mVar 2) (mC (.str ("beside" : Str)))) [some (.tup (.str "beside" :: .tup ks :: ys)), some (.int ((n + 1 : Nat) : Int)), some (.str "beside"), some (.int 2), none] M = .ok true M := by simp [mVar_z, mVar_s, i4]
      have t2 : tB1 (mBin fLt (mBlt fLen (aCons (mVar 0) aNil)) (mC (.int 2))) [some (.tup (.str "beside" :: .tup ks :: ys)), some (.int ((n + 1 : Nat) : Int)), some (.str "beside"), some (.int 2), none] M = .ok false M := by simp [mVar_z, mVar_s, z1]
      have t3 : tNotB (tB1 (mUn (fIsi .tuple) (mBin fIx (mVar 0) (mC (.int 1))))) [some (.tup (.str "beside" :: .tup ks :: ys)), some (.int ((n + 1 : Nat) : Int)), some (.str "beside"), some (.int 2), none] M = .ok false M := by simp [mVar_z, mVar_s, ea, hta]
      cases hc : countsB (.tup ks) with
      | false =>
        rw [hc] at e8
        refine ⟨[MO.lst (ks.filter fun x => !countB x)] ++ [MO.lst []], seq_ret ((if_t (tand_t t1 (tor_f t2 (tor_f t3 (tb1 e8))))).trans ?_)⟩
        simp [hc]
      | true =>
        rw [hc] at e8
        have up : ∀ (i : Nat) (o : MO), M[i]? = some o → (M ++ [MO.lst (ks.filter fun x => !countB x)] ++ [MO.lst []])[i]? = some o := fun i o hi => get_app (get_app hi)
        obtain ⟨X, hX⟩ := lg_last (self := f_law_is_going (n + 1)) (n := n) (f := 2) (w := some (.str "beside")) (x4 := none) (M := M ++ [MO.lst (ks.filter fun x => !countB x)] ++ [MO.lst []]) (T := .str "beside" :: .tup ks :: ys) (fun x hx => (hT x hx).heap up) (by omega) hll
          fun x hx => IH ((h x (List.mem_of_mem_drop hx)).heap up) (by omega) (los_mem hl' x (List.mem_of_mem_drop hx))
        refine ⟨[MO.lst (ks.filter fun x => !countB x)] ++ [MO.lst []] ++ X, seq_step (if_f (tand_t t1 (tor_f t2 (tor_f t3 (tb1 e8))))) ?_⟩
        refine (hX).trans ?_
        simp [hc]
theorem lg_zero {M : MH} {d : D} : f_law_is_going (0 + 1) [d, .int ((0 : Nat) : Int)] M = .ok (.bl (chk 0 d)) M := by
  rw [f_law_is_going_s]
  unfold g_law_is_going
  refine run_id rfl ?_
  simp [mVar_z, mVar_s, chk]
theorem lg_succ (n : Nat) (IH : ∀ {M : MH} {d : D} {m : Nat}, Tm M 3 m d → m ≤ 60 → lo d = true → f_law_is_going (n + 1) [d, .int n] M = .ok (.bl (chk n d)) M) {M : MH} {d : D} {m : Nat} (h : Tm M 3 m d) (hm : m ≤ 60) (hl : lo d = true) : f_law_is_going (n + 1 + 1) [d, .int ((n + 1 : Nat) : Int)] M = .ok (.bl (chk (n + 1) d)) M := by
    rw [f_law_is_going_s]
    unfold g_law_is_going
    have e0 := fIsi_tm h .tuple
    have hn : ¬ ((n : Int) + 1 = 0) := by omega
    have hd : (n : Int) + 1 - 1 = n := by omega
    cases h with
    | non => refine run_id rfl ?_; simp [mVar_z, mVar_s, e0, tyB, isTy, chk, inner, hn]
    | bl b => refine run_id rfl ?_; simp [mVar_z, mVar_s, e0, tyB, isTy, chk, inner, hn]
    | int b => refine run_id rfl ?_; simp [mVar_z, mVar_s, e0, tyB, isTy, chk, inner, hn]
    | str b => refine run_id rfl ?_; simp [mVar_z, mVar_s, e0, tyB, isTy, chk, inner, hn]
    | ref b => refine run_id rfl ?_; simp [mVar_z, mVar_s, e0, tyB, isTy, chk, inner, hn]
    | @tup _ m l hll h =>
      have e1 := fEq_unit (M := M) false (fun x hx => (h x hx).mono (by omega : 3 ≤ 4) (Nat.le_refl _)) (by omega)
      have e0' : tyB .tuple (.tup l) = true := rfl
      rw [e0'] at e0
      have hl' : los l = true := hl
      cases l with
      | nil => refine run_id rfl ?_; simp [mVar_z, mVar_s, e0, e1, inner, chk, hn]
      | cons x xs =>
        have hx := h x List.mem_cons_self
        have hxs : ∀ y ∈ xs, Tm M 3 m y := fun y hy => h y (List.mem_cons_of_mem _ hy)
        have hlx : los xs = true := by
          simp only [los, Bool.and_eq_true] at hl'
          exact hl'.2
        have e2 := fIsi_tm hx .str
        cases hx with
        | @str _ _ s hs =>
          have i1 := fIn2 (M := M) s "work" "quiet"
          have i2 := fIn3 (M := M) s "row" "again" "beside"
          have i3 : fEq false (.str s) (.str "one") M = .ok (.bl (decide (s = "one"))) M := fEq_s hs (by decide +kernel)
          have i4 : fEq false (.str s) (.str "beside") M = .ok (.bl (decide (s = "beside"))) M := fEq_s hs (by decide +kernel)
          have e2' : tyB .str (.str s) = true := rfl
          rw [e2'] at e2
          by_cases h1 : s = "work" ∨ s = "quiet"
          · refine run_id rfl ?_
            cases xs with
            | nil => simp [mVar_z, mVar_s, e0, e1, e2, i1, h1, inner, chk, hn]
            | cons a xs =>
              have z1 : ¬ ((xs.length : Int) + 1 + 1 = 1) := by omega
              simp [mVar_z, mVar_s, e0, e1, e2, i1, h1, inner, chk, z1, hn]
          · by_cases h3 : s = "one"
            · have h2 : ¬ (s = "row" ∨ s = "again") := by subst h3; decide +kernel
              refine run_id rfl ?_
              match xs, hxs, hlx, e0, e1 with
              | [], hxs, hlx, e0, e1 => simp [mVar_z, mVar_s, e0, e1, e2, i1, i2, i3, h1, h2, eq_true h3, inner, chk, hn]
              | [a], hxs, hlx, e0, e1 => simp [mVar_z, mVar_s, e0, e1, e2, i1, i2, i3, h1, h2, eq_true h3, inner, chk, hn]
              | [a, g], hxs, hlx, e0, e1 =>
                have ea := law_int_ok (hxs a (by simp))
                have la := los_mem hlx a (by simp)
                have lg := los_mem hlx g (by simp)
                have eg := IH (hxs g (by simp)) (by omega) lg
                cases a with
                | int i =>
                  simp only [lo, decide_eq_true_eq] at la
                  by_cases hi : 0 ≤ i
                  · simp [mVar_z, mVar_s, e0, e1, e2, i1, i2, i3, h1, h2, eq_true h3, inner, chk, hn, ea, intB, fewB, hi, la, hd, eg]
                  · simp [mVar_z, mVar_s, e0, e1, e2, i1, i2, i3, h1, h2, eq_true h3, inner, chk, hn, ea, intB, fewB, hi, la]
                | _ => simp [mVar_z, mVar_s, e0, e1, e2, i1, i2, i3, h1, h2, eq_true h3, inner, chk, hn, ea, intB, fewB]
              | a :: g :: y :: ys, hxs, hlx, e0, e1 =>
                have z1 : ¬ ((ys.length : Int) + 1 + 1 + 1 + 1 = 3) := by omega
                simp [mVar_z, mVar_s, e0, e1, e2, i1, i2, i3, h1, h2, eq_true h3, inner, chk, hn, z1]
            · by_cases h2 : s = "row" ∨ s = "again" ∨ s = "beside"
              · have hT : ∀ x ∈ D.str s :: xs, Tm M 3 m x := h
                by_cases h5 : s = "beside"
                · subst h5
                  rw [chk_beside]
                  obtain ⟨X, hX⟩ := lg_beside IH hT (by omega) hl' hll i4
                  refine (run_rt (np := 2) (M' := M ++ X) rfl ?_).trans (gcRet_app _ _ _ rfl)
                  refine seq_step (ρ' := [some (.tup (.str "beside" :: xs)), some (.int ((n + 1 : Nat) : Int)), none, none, none]) (M' := M) (by simp [mVar_z, mVar_s, e0, e1, e2, hn]) ?_
                  refine seq_step (ρ' := [some (.tup (.str "beside" :: xs)), some (.int ((n + 1 : Nat) : Int)), some (.str "beside"), none, none]) (M' := M) (by simp [mVar_z, mVar_s]) ?_
                  refine seq_step (ρ' := [some (.tup (.str "beside" :: xs)), some (.int ((n + 1 : Nat) : Int)), some (.str "beside"), none, none]) (M' := M) (by simp [mVar_z, mVar_s, i1, h1]) ?_
                  refine seq_step (ρ' := [some (.tup (.str "beside" :: xs)), some (.int ((n + 1 : Nat) : Int)), some (.str "beside"), none, none]) (M' := M) (by simp [mVar_z, mVar_s, i3, h3]) ?_
                  refine seq_step (ρ' := [some (.tup (.str "beside" :: xs)), some (.int ((n + 1 : Nat) : Int)), some (.str "beside"), none, none]) (M' := M) (by simp [mVar_z, mVar_s, i2, eq_true h2]) ?_
                  refine seq_step (ρ' := [some (.tup (.str "beside" :: xs)), some (.int ((n + 1 : Nat) : Int)), some (.str "beside"), some (.int 2), none]) (M' := M) (by simp [mVar_z, mVar_s, i4]) ?_
                  exact hX
                · have h6 : s = "row" ∨ s = "again" := by rcases h2 with z | z | z; exact .inl z; exact .inr z; exact absurd z h5
                  rw [chk_row h6]
                  obtain ⟨X, hX⟩ := lg_last (self := f_law_is_going (n + 1)) (n := n) (f := 1) (w := some (.str s)) (x4 := none) hT (by omega) hll fun x hx => IH (h x (List.mem_of_mem_drop hx)) (by omega) (los_mem hl' x (List.mem_of_mem_drop hx))
                  refine (run_rt (np := 2) (M' := M ++ X) rfl ?_).trans (gcRet_app _ _ _ rfl)
                  have e2'' : D.lim M.length (D.bl true) = true := rfl
                  refine seq_step (ρ' := [some (.tup (.str s :: xs)), some (.int ((n + 1 : Nat) : Int)), none, none, none]) (M' := M) (by simp [mVar_z, mVar_s, e0, e1, e2, hn]) ?_
                  refine seq_step (ρ' := [some (.tup (.str s :: xs)), some (.int ((n + 1 : Nat) : Int)), some (.str s), none, none]) (M' := M) (by simp [mVar_z, mVar_s]) ?_
                  refine seq_step (ρ' := [some (.tup (.str s :: xs)), some (.int ((n + 1 : Nat) : Int)), some (.str s), none, none]) (M' := M) (by simp [mVar_z, mVar_s, i1, h1]) ?_
                  refine seq_step (ρ' := [some (.tup (.str s :: xs)), some (.int ((n + 1 : Nat) : Int)), some (.str s), none, none]) (M' := M) (by simp [mVar_z, mVar_s, i3, h3]) ?_
                  refine seq_step (ρ' := [some (.tup (.str s :: xs)), some (.int ((n + 1 : Nat) : Int)), some (.str s), none, none]) (M' := M) (by simp [mVar_z, mVar_s, i2, eq_true h2]) ?_
                  refine seq_step (ρ' := [some (.tup (.str s :: xs)), some (.int ((n + 1 : Nat) : Int)), some (.str s), some (.int 1), none]) (M' := M) (by simp [mVar_z, mVar_s, i4, h5]) ?_
                  refine seq_step (ρ' := [some (.tup (.str s :: xs)), some (.int ((n + 1 : Nat) : Int)), some (.str s), some (.int 1), none]) (M' := M) (by simp [mVar_z, mVar_s, i4, h5]) ?_
                  exact hX
              · obtain ⟨h4, h5, h6⟩ : ¬ s = "row" ∧ ¬ s = "again" ∧ ¬ s = "beside" := by
                  refine ⟨fun z => h2 (.inl z), fun z => h2 (.inr (.inl z)), fun z => h2 (.inr (.inr z))⟩
                refine run_id rfl ?_
                simp [mVar_z, mVar_s, e0, e1, e2, i1, i2, i3, h1, h4, h5, h6, h3, inner, chk, hn]
        | _ => refine run_id rfl ?_; simp [mVar_z, mVar_s, e0, e1, e2, tyB, isTy, inner, chk, hn]
theorem lg_all : ∀ (n : Nat) {M : MH} {d : D} {m : Nat}, Tm M 3 m d → m ≤ 60 → lo d = true → f_law_is_going (n + 1) [d, .int n] M = .ok (.bl (chk n d)) M
  | 0 => fun _ _ _ => lg_zero
  | n + 1 => fun h hm hl => lg_succ n (lg_all n) h hm hl
end K13
namespace K13
open PySem PySem.Spec PyProof.Rows L2 Mp
mutual
def sz : D → Nat
  | .tup l => 1 + szs l
  | _ => 1
def szs : List D → Nat
  | [] => 0
  | d :: l => sz d + szs l
end
theorem sz_pos (d : D) : 1 ≤ sz d := by cases d <;> simp [sz] <;> omega
theorem inner_sz {d : D} {l : List D} (h : inner d = some l) : szs l < sz d := by
  unfold inner at h
  split at h
  · rename_i s xs
    simp only [sz, szs]
    split at h
    · split at h
      · cases h; simp [szs]; omega
      · cases h
    · split at h
      · split at h
        · cases h
        · cases h; omega
      · split at h
        · split at h
          · split at h
            · cases h; simp [szs]; omega
            · cases h
          · cases h
        · split at h
          · split at h
            · split at h
              · cases h; simp [szs]; omega
              · cases h
            · cases h
          · cases h
  · cases h
theorem inner_mem {d : D} {l : List D} (h : inner d = some l) : ∃ T, d = .tup T ∧ l.length ≤ T.length ∧ ∀ x ∈ l, x ∈ T := by
  unfold inner at h
  split at h
  · rename_i s xs
    refine ⟨_, rfl, ?_⟩
    split at h
    · split at h
      · cases h; simp
      · cases h
    · split at h
      · split at h
        · cases h
        · cases h; exact ⟨by simp, fun x hx => List.mem_cons_of_mem _ hx⟩
      · split at h
        · split at h
          · split at h
            · cases h; simp
            · cases h
          · cases h
        · split at h
          · split at h
            · split at h
              · cases h
                refine ⟨by simp, fun x hx => ?_⟩
                simp at hx ⊢
                rcases hx with hx | hx
                · exact .inr (.inr (.inl hx))
                · exact .inr (.inr (.inr hx))
              · cases h
            · cases h
          · cases h
  · cases h
theorem inner_tm {M : MH} {k n : Nat} {d : D} {l : List D} (h : inner d = some l) (t : Tm M k n d) : l.length ≤ 1000 ∧ ∀ x ∈ l, Tm M k n x := by
  obtain ⟨T, rfl, h1, h2⟩ := inner_mem h
  cases t with
  | tup hl t => exact ⟨by omega, fun x hx => (t x (h2 x hx)).mono (Nat.le_refl _) (by omega)⟩
def it (p : D × Nat) : D := .tup [p.1, .int p.2]
def ms : List (D × Nat) → Nat
  | [] => 0
  | p :: st => sz p.1 + ms st
theorem ms_app (a b : List (D × Nat)) : ms (a ++ b) = ms a + ms b := by
  induction a with
  | nil => simp [ms]
  | cons p a ih => simp [ms, ih]; omega
theorem ms_map (l : List D) (k : Nat) : ms (l.map fun x => (x, k)) = szs l := by
  induction l with
  | nil => rfl
  | cons x l ih => simp [ms, szs, ih]
theorem ms_len (st : List (D × Nat)) : st.length ≤ ms st := by
  induction st with
  | nil => simp
  | cons p st ih =>
    have := sz_pos p.1
    simp [ms]
    omega
def okP (p : D × Nat) : Bool := chk (13 - p.2) p.1
theorem last_cases {α : Type} (l : List α) : l = [] ∨ ∃ a x, l = a ++ [x] := by
  rcases List.eq_nil_or_concat l with h | ⟨a, x, h⟩
  · exact .inl h
  · exact .inr ⟨a, x, by rw [h, List.concat_eq_append]⟩
theorem pre_get {M0 M : MH} (h : M0 <+: M) {i : Nat} {o : MO} (e : M0[i]? = some o) : M[i]? = some o := by
  obtain ⟨X, rfl⟩ := h
  exact get_app e
theorem pre_set {M0 M : MH} (h : M0 <+: M) {w : Nat} (hw : M0.length ≤ w) (o : MO) : M0 <+: M.set w o := by
  obtain ⟨X, rfl⟩ := h
  rw [List.set_append_right _ _ hw]
  exact List.prefix_append _ _
theorem pre_app {M0 M : MH} (h : M0 <+: M) (X : MH) : M0 <+: M ++ X := h.trans (List.prefix_append _ _)
theorem pop_ref {M : MH} {n : Nat} {a : List D} {x : D} (h : M[n]? = some (MO.lst (a ++ [x]))) : fPop (.ref n) [] M = .ok x (M.set n (MO.lst a)) := by
  show (match M[n]? with
    | some (.lst l) => (match l[l.length - 1]? with | some d => Res.ok d (M.set n (.lst l.dropLast)) | none => .err)
    | _ => .err) = _
  rw [h]
  show (match (a ++ [x])[(a ++ [x]).length - 1]? with | some d => Res.ok d (M.set n (.lst (a ++ [x]).dropLast)) | none => .err) = _
  have e : (a ++ [x])[(a ++ [x]).length - 1]? = some x := by simp
  rw [e, List.dropLast_concat]
theorem extend_ref {M : MH} {n m : Nat} {l k : List D} (h : M[n]? = some (MO.lst l)) (h' : M[m]? = some (MO.lst k)) (hl : l.length + k.length ≤ LINE) : fExtend (.ref n) [.ref m] M = .ok .non (M.set n (MO.lst (l ++ k))) := by
  show (match M[n]?, M[m]? with
    | some (.lst l), some (.lst l2) => if l.length + l2.length ≤ LINE then Res.ok D.non (M.set n (.lst (l ++ l2))) else .err
    | _, _ => .err) = _
  rw [h, h']
  show (if l.length + k.length ≤ LINE then _ else _) = _
  rw [if_pos hl]
theorem form_go {M0 : MH} {w : Nat} {thing : D} (hw : M0.length ≤ w) : ∀ (N : Nat) (st : List (D × Nat)) (M : MH) (x2 x3 x4 x5 : Option D), ms st < N → ms st ≤ 1000000 → (∀ p ∈ st, Tm M0 3 50 p.1 ∧ 1 ≤ p.2 ∧ p.2 ≤ 13) → M0 <+: M → M[w]? = some (MO.lst (st.map it)) →
    ∃ M' ρ', M0 <+: M' ∧ whileGo (tB1 (mBin (fEq true) (mVar 1) (mLst aNil))) (sSeq (sAsg (uT 2 (uCons (uN 2) (uCons (uN 3) uNil))) (mLMeth fPop (mVar 1) aNil))
      (sSeq (sSet 4 (mCall 1 f_inner_goings (aCons (mVar 2) aNil)))
      (sSeq (sIf (tOrB (tB1 (mBin (fIs false) (mVar 4) (mC .non))) (tB1 (mBin fGt (mVar 3) (mC c_MOST_DEPTH)))) (sRet (mC (.bl false))) sNil)
      (sExpr (mLMeth fExtend (mVar 1) (aCons (mLc [5] (sSq (mVar 4)) (gN 5) tYesD (mTup (aCons (mVar 5) (aCons (mBin fAdd (mVar 3) (mC (.int 1))) aNil)))) aNil)))))) N
      [some thing, some (.ref w), x2, x3, x4, x5] M = (if st.all okP = true then .nx ρ' M' else .rt (.bl false) M') := by
  intro N
  induction N with
  | zero => intro st M x2 x3 x4 x5 h; omega
  | succ N IH =>
    intro st M x2 x3 x4 x5 h1 h2 h3 h4 h5
    have hwl : w < M.length := get_lt h5
    have up : ∀ (X : MH) (i : Nat) (o : MO), M0[i]? = some o → (M ++ X)[i]? = some o := fun X i o hi => pre_get (pre_app h4 X) hi
    have g1 : (M ++ [MO.lst []])[w]? = some (MO.lst (st.map it)) := get_app h5
    have te := fEq_nil (M := M ++ [MO.lst []]) (n := 51) (l := st.map it) true (fun x hx => by
      obtain ⟨p, hp, rfl⟩ := List.mem_map.mp hx
      refine .tup (by simp) fun y hy => ?_
      simp at hy
      rcases hy with rfl | rfl
      · exact ((h3 p hp).1.heap (up _))
      · exact .int _) (by decide) g1 get_end
    have test : (tB1 (mBin (fEq true) (mVar 1) (mLst aNil))) [some thing, some (.ref w), x2, x3, x4, x5] M = .ok (!st.isEmpty) (M ++ [MO.lst []]) := by
      refine tb1 ?_
      have e : (!(st.map it).isEmpty) = !st.isEmpty := by cases st <;> rfl
      rw [if_pos rfl, e] at te
      simpa [mVar_z, mVar_s] using te
    rw [whileGo_s, test, Res.toS_ok]
    rcases last_cases st with rfl | ⟨st', p, rfl⟩
    · exact ⟨M ++ [MO.lst []], _, pre_app h4 _, rfl⟩
    · obtain ⟨d, k⟩ := p
      have e1 : (!(st' ++ [(d, k)]).isEmpty) = true := by cases st' <;> rfl
      rw [e1, if_pos rfl]
      obtain ⟨td, k1, k13⟩ := h3 (d, k) (by simp)
      have g2 : (M ++ [MO.lst []])[w]? = some (MO.lst (st'.map it ++ [it (d, k)])) := by rw [g1, List.map_append]; rfl
      have pe := pop_ref g2
      generalize hM2 : (M ++ [MO.lst []]).set w (MO.lst (st'.map it)) = M2 at pe
      have p2 : M0 <+: M2 := by rw [← hM2]; exact pre_set (pre_app h4 _) hw _
      have g3 : M2[w]? = some (MO.lst (st'.map it)) := by rw [← hM2, List.getElem?_set_self (get_lt g1)]
      have s1 : (sAsg (uT 2 (uCons (uN 2) (uCons (uN 3) uNil))) (mLMeth fPop (mVar 1) aNil)) [some thing, some (.ref w), x2, x3, x4, x5] (M ++ [MO.lst []]) = .nx [some thing, some (.ref w), some d, some (.int k), x4, x5] M2 := by
        have e : mLMeth fPop (mVar 1) aNil [some thing, some (.ref w), x2, x3, x4, x5] (M ++ [MO.lst []]) = .ok (it (d, k)) M2 := by
          unfold mLMeth
          simp only [mVar_s, mVar_z, Res.bind_ok, lstOf_ref g2, aNil_eq, pe]
        rw [sAsg_eq, e]
        rfl
      have td2 : Tm M2 3 50 d := td.heap fun i o hi => pre_get p2 hi
      have ie := inner_ok (td2.mono (by decide : 3 ≤ 4) (Nat.le_refl _)) (by decide)
      have msd : ms (st' ++ [(d, k)]) = ms st' + sz d := by rw [ms_app]; simp [ms]
      have allk : (st' ++ [(d, k)]).all okP = (st'.all okP && chk (13 - k) d) := by rw [List.all_append]; simp [okP]
      cases hi : inner d with
      | none =>
        rw [hi] at ie
        have ck : chk (13 - k) d = false := by
          cases hk : 13 - k with
          | zero => rfl
          | succ n => simp [chk, hi]
        refine ⟨M2, [], p2, ?_⟩
        rw [allk, ck, Bool.and_false, if_neg (by decide)]
        rw [seq_step s1 (r := .rt (.bl false) M2)]
        refine seq_step (ρ' := [some thing, some (.ref w), some d, some (.int k), some .non, x5]) (M' := M2) (by simp [mVar_z, mVar_s, ie]) ?_
        refine seq_ret ?_
        have f1 : fIs false .non .non M2 = .ok (.bl true) M2 := rfl
        simp [mVar_z, mVar_s, f1]
      | some l =>
        rw [hi] at ie
        obtain ⟨hl, tl⟩ := inner_tm hi td
        have f1 : fIs false (.tup l) .non M2 = .ok (.bl false) M2 := by
          show Res.ok (D.bl (decide (D.tup l = D.non))) M2 = _
          rw [decide_eq_false (by intro z; cases z)]
        by_cases hk : 12 < k
        · have ck : chk (13 - k) d = false := by rw [show 13 - k = 0 by omega]; rfl
          refine ⟨M2, [], p2, ?_⟩
          rw [allk, ck, Bool.and_false, if_neg (by decide)]
          rw [seq_step s1 (r := .rt (.bl false) M2)]
          refine seq_step (ρ' := [some thing, some (.ref w), some d, some (.int k), some (.tup l), x5]) (M' := M2) (by simp [mVar_z, mVar_s, ie]) ?_
          refine seq_ret ?_
          have hk2 : (12 : Int) < k := by omega
          simp [mVar_z, mVar_s, f1, c_MOST_DEPTH, hk2]
        · have ck : chk (13 - k) d = l.all (chk (12 - k)) := by rw [show 13 - k = (12 - k) + 1 by omega]; simp [chk, hi]
          have lc := lc_map (g := gN 5) (te := mTup (aCons (mVar 5) (aCons (mBin fAdd (mVar 3) (mC (.int 1))) aNil))) (chk := []) (ρ := wipeD [some thing, some (.ref w), some d, some (.int k), some (.tup l), x5] [5]) (M := M2) (ρx := fun x => [some thing, some (.ref w), some d, some (.int k), some (.tup l), some x])
            (f := fun x => it (x, k + 1)) rfl (l := l) fun x hx => ⟨rfl, by simp [mVar_z, mVar_s, it]⟩
          have hk2 : ¬ ((12 : Int) < k) := by omega
          have lsz := inner_sz hi
          have st2 : (st' ++ l.map fun x => (x, k + 1)).map it = st'.map it ++ l.map (fun x => it (x, k + 1)) := by rw [List.map_append, List.map_map]; rfl
          have ml := ms_len st'
          have ee := extend_ref (M := M2 ++ [MO.lst (l.map fun x => it (x, k + 1))]) (n := w) (m := M2.length) (get_app g3) get_end (by
            rw [List.length_map, List.length_map]
            show _ ≤ 16777216
            omega)
          rw [← st2] at ee
          obtain ⟨M', ρ', q1, q2⟩ := IH (st' ++ l.map fun x => (x, k + 1)) ((M2 ++ [MO.lst (l.map fun x => it (x, k + 1))]).set w (MO.lst ((st' ++ l.map fun x => (x, k + 1)).map it))) (some d) (some (.int k)) (some (.tup l)) x5
            (by rw [ms_app, ms_map]; omega) (by rw [ms_app, ms_map]; omega) (fun p hp => by
              rcases List.mem_append.mp hp with hp | hp
              · exact h3 p (by simp [hp])
              · obtain ⟨x, hx, rfl⟩ := List.mem_map.mp hp
                exact ⟨tl x hx, by simp, by simp; omega⟩) (pre_set (pre_app p2 _) hw _) (by rw [List.getElem?_set_self (by rw [List.length_append]; have := get_lt g3; omega)])
          refine ⟨M', ρ', q1, ?_⟩
          have body : (sSeq (sAsg (uT 2 (uCons (uN 2) (uCons (uN 3) uNil))) (mLMeth fPop (mVar 1) aNil))
      (sSeq (sSet 4 (mCall 1 f_inner_goings (aCons (mVar 2) aNil)))
      (sSeq (sIf (tOrB (tB1 (mBin (fIs false) (mVar 4) (mC .non))) (tB1 (mBin fGt (mVar 3) (mC c_MOST_DEPTH)))) (sRet (mC (.bl false))) sNil)
      (sExpr (mLMeth fExtend (mVar 1) (aCons (mLc [5] (sSq (mVar 4)) (gN 5) tYesD (mTup (aCons (mVar 5) (aCons (mBin fAdd (mVar 3) (mC (.int 1))) aNil)))) aNil)))))) [some thing, some (.ref w), x2, x3, x4, x5] (M ++ [MO.lst []]) =
            .nx [some thing, some (.ref w), some d, some (.int k), some (.tup l), x5] ((M2 ++ [MO.lst (l.map fun x => it (x, k + 1))]).set w (MO.lst ((st' ++ l.map fun x => (x, k + 1)).map it))) := by
            refine seq_step s1 ?_
            refine seq_step (ρ' := [some thing, some (.ref w), some d, some (.int k), some (.tup l), x5]) (M' := M2) (by simp [mVar_z, mVar_s, ie]) ?_
            refine seq_step (ρ' := [some thing, some (.ref w), some d, some (.int k), some (.tup l), x5]) (M' := M2) (by simp [mVar_z, mVar_s, f1, c_MOST_DEPTH, hk2]) ?_
            refine expr_step (d := .non) ?_
            have hl2 : l.length ≤ 16777216 := by omega
            unfold mLMeth
            simp only [mVar_s, mVar_z, Res.bind_ok, lstOf_ref g3, aCons_eq, aNil_eq, mLc_eq, sSq_eq, sSeqOf, LINE_eq, if_pos hl2, lc, ee]
          rw [body]
          show whileGo _ _ N _ _ = _
          rw [q2]
          have e9 : (st' ++ l.map fun x => (x, k + 1)).all okP = (st' ++ [(d, k)]).all okP := by
            rw [allk, ck, List.all_append, List.all_map]
            congr 1
            refine List.all_congr rfl fun x => ?_
            show chk (13 - (k + 1)) x = chk (12 - k) x
            rw [show 13 - (k + 1) = 12 - k by omega]
          rw [e9]
theorem form_ok {M : MH} {d : D} (h : Tm M 3 50 d) (hz : sz d ≤ 1000000) : f_is_going_form [d] M = .ok (.bl (chk 12 d)) M := by
  unfold f_is_going_form
  obtain ⟨M', ρ', q1, q2⟩ := form_go (thing := d) (M0 := M) (w := M.length) (Nat.le_refl _) FUEL [(d, 1)] (M ++ [MO.lst [it (d, 1)]]) none none none none (by simp [ms, FUEL]; omega) (by simp [ms]; exact hz) (fun p hp => by
    obtain rfl := List.mem_singleton.mp hp
    exact ⟨h, Nat.le_refl 1, (show 1 ≤ 13 by decide)⟩) (List.prefix_append _ _) get_end
  have e0 : [(d, 1)].all okP = chk 12 d := by simp [okP]
  rw [e0] at q2
  refine (run_rt (np := 1) (d := .bl (chk 12 d)) (M' := M') rfl ?_).trans (gcRet_keep _ _ _ rfl q1)
  refine seq_step (ρ' := [some d, some (.ref M.length), none, none, none, none]) (M' := M ++ [MO.lst [it (d, 1)]]) (by simp [mVar_z, it]) ?_
  cases hc : chk 12 d with
  | true =>
    rw [hc, if_pos rfl] at q2
    refine seq_step q2 ?_
    rfl
  | false =>
    rw [hc, if_neg (by decide)] at q2
    exact seq_ret q2
end K13
namespace K13
open PySem PySem.Spec PyProof.Rows L2 Mp
theorem inner_tup {M : MH} {k n : Nat} {d : D} {l : List D} (h : inner d = some l) (t : Tm M k (n + 1) d) : ∀ x ∈ l, Tm M k n x := by
  obtain ⟨T, rfl, h1, h2⟩ := inner_mem h
  cases t with
  | tup hl t => exact fun x hx => t x (h2 x hx)
theorem chk_more {M : MH} {k : Nat} : ∀ (n m : Nat) {d : D}, Tm M k n d → n ≤ m → chk m d = chk (m + 1) d
  | 0, m, d, h, _ => by
    have hi : inner d = none := by
      cases hi : inner d with
      | none => rfl
      | some l =>
        obtain ⟨T, rfl, _⟩ := inner_mem hi
        cases h
    cases m <;> simp [chk, hi]
  | n + 1, 0, d, h, hm => by omega
  | n + 1, m + 1, d, h, hm => by
    simp only [chk]
    cases hi : inner d with
    | none => rfl
    | some l =>
      have t := inner_tup hi h
      show l.all (chk m) = l.all (chk (m + 1))
      rw [Bool.eq_iff_iff, List.all_eq_true, List.all_eq_true]
      exact ⟨fun z x hx => by rw [← chk_more n m (t x hx) (by omega)]; exact z x hx, fun z x hx => by rw [chk_more n m (t x hx) (by omega)]; exact z x hx⟩
/-- data without lists reach no place -/
theorem lims_of {n : Nat} : ∀ {l : List D}, (∀ x ∈ l, D.lim n x = true) → D.lims n l = true
  | [], _ => rfl
  | d :: l, h => by
    show (D.lim n d && D.lims n l) = true
    rw [h d List.mem_cons_self, lims_of fun x hx => h x (List.mem_cons_of_mem _ hx)]
    rfl
theorem Tm.lim {M : MH} {n : Nat} {d : D} (h : Tm M 0 n d) (k : Nat) : D.lim k d = true := by
  generalize hk : 0 = q at h
  induction h with
  | non => rfl
  | bl b => rfl
  | int i => rfl
  | str h => rfl
  | tup hl h ih => exact lims_of fun x hx => ih x hx hk
  | ref h hl h' ih => cases hk
theorem los_of : ∀ {l : List D}, (∀ x ∈ l, lo x = true) → los l = true
  | [], _ => rfl
  | d :: l, h => by
    simp only [los, Bool.and_eq_true]
    exact ⟨h d List.mem_cons_self, los_of fun x hx => h x (List.mem_cons_of_mem _ hx)⟩
theorem szs_le {B : Nat} : ∀ {l : List D}, (∀ x ∈ l, sz x ≤ B) → szs l ≤ l.length * B
  | [], _ => by simp [szs]
  | d :: l, h => by
    have h1 := h d List.mem_cons_self
    have h2 := szs_le (l := l) fun x hx => h x (List.mem_cons_of_mem _ hx)
    simp only [szs, List.length_cons, Nat.add_mul, Nat.one_mul]
    omega
/-- drawn lists -/
theorem lc_draw {b r : Nat} {te : E} {ρ : Ev} {P : D → Prop} (hi : 4 < ρ.length) (hd : ∀ (M : MH) (d : D), Bag M b r → ∃ x M', te (ρ.set 4 (some d)) M = .ok x M' ∧ P x ∧ Ge b r M M') : ∀ (l : List D) (M : MH), Bag M b r →
    ∃ L M', lcGo (gN 4) tYesD te [] ρ l M = .ok L M' ∧ L.length = l.length ∧ (∀ x ∈ L, P x) ∧ Ge b r M M'
  | [], M, h => ⟨[], M, rfl, rfl, by simp, Ge.refl h⟩
  | d :: l, M, h => by
    obtain ⟨x, M1, e1, p1, g1⟩ := hd M d h
    obtain ⟨L, M2, e2, n2, p2, g2⟩ := lc_draw hi hd l M1 g1.bag
    refine ⟨x :: L, M2, ?_, by rw [List.length_cons, List.length_cons, n2], fun y hy => ?_, g1.trans g2⟩
    · simp [lcGo, chkOk, e1, e2]
    · rcases List.mem_cons.mp hy with rfl | hy
      · exact p1
      · exact p2 y hy
theorem lc_ok {vs : List Nat} {sm : Sm} {g : G} {tt : T} {te : E} {ρ : Ev} {M M1 M2 : MH} {l L : List D} {c : List (Nat × List D)} (hs : sm ρ M = .ok ⟨l, c⟩ M1) (hl : l.length ≤ 16777216) (h : lcGo g tt te c (wipeD ρ vs) l M1 = .ok L M2) :
    mLc vs sm g tt te ρ M = .ok (D.ref M2.length) (M2 ++ [MO.lst L]) := by
  rw [mLc_eq, hs]
  show (if l.length ≤ LINE then (lcGo g tt te c (wipeD ρ vs) l M1).bind fun xs M2 => Res.ok (D.ref M2.length) (M2 ++ [MO.lst xs]) else Res.err) = _
  rw [if_pos (show l.length ≤ LINE from hl), h]
  rfl
structure Gg (n : Nat) (g : D) : Prop where
  tm : Tm [] 0 (n + 1) g
  lo : lo g = true
  sz : sz g ≤ 8 * 3 ^ n
  tup : ∃ l, g = .tup l ∧ l.length ≤ 4
theorem gg_leaf {n : Nat} {s : Str} (hs : PyData.canLay0 (.str s) = true) : Gg n (.tup [.str s]) := by
  refine ⟨.tup (by simp) fun x hx => ?_, rfl, ?_, _, rfl, by simp⟩
  · obtain rfl := List.mem_singleton.mp hx
    exact .str hs
  · have : 1 ≤ 3 ^ n := Nat.one_le_pow _ _ (by decide)
    simp [K13.sz, szs]
    omega
theorem going_zero {b r : Nat} {self : List D → MH → Res D} {M : MH} (hB : Bag M b r) : ∃ g M', g_law_going self [.ref b, .int 0] M = .ok g M' ∧ Gg 0 g ∧ Step b r M M' := by
  obtain ⟨v, M1, e1, v0, v1, S1⟩ := take_ok hB (many := 2) (by decide) (by decide)
  have hv : v = 0 ∨ v = 1 := by omega
  have hG : Gg 0 (.tup [.str (if v = 0 then "work" else "quiet")]) := by
    rcases hv with rfl | rfl
    · exact gg_leaf (by decide +kernel)
    · exact gg_leaf (by decide +kernel)
  obtain ⟨e2, S2⟩ := gcRet_ge hB (Tm.lim hG.tm _) S1.ge
  refine ⟨_, _, ?_, hG, S2⟩
  unfold g_law_going
  refine (run_rt (np := 2) rfl ?_).trans e2
  rcases hv with rfl | rfl
  · simp [mVar_z, mVar_s, e1]
  · simp [mVar_z, mVar_s, e1]
theorem going_succ {n b r : Nat} {self : List D → MH → Res D} (IH : ∀ {M : MH}, Bag M b r → ∃ g M', self [.ref b, .int n] M = .ok g M' ∧ Gg n g ∧ Step b r M M') {M : MH} (hB : Bag M b r) :
    ∃ g M', g_law_going self [.ref b, .int ((n + 1 : Nat) : Int)] M = .ok g M' ∧ Gg (n + 1) g ∧ Step b r M M' := by
  have hn : (0 : Int) < (n : Int) + 1 := by omega
  have hd : (n : Int) + 1 - 1 = n := by omega
  have h3 : 1 ≤ 3 ^ n := Nat.one_le_pow _ _ (by decide)
  have hp : 3 ^ (n + 1) = 3 * 3 ^ n := by rw [Nat.pow_succ, Nat.mul_comm]
  obtain ⟨v, M1, e1, v0, v1, S1⟩ := take_ok hB (many := 6) (by decide) (by decide)
  by_cases hv2 : v < 2
  · have hv : v = 0 ∨ v = 1 := by omega
    have hG : Gg (n + 1) (.tup [.str (if v = 0 then "work" else "quiet")]) := by
      rcases hv with rfl | rfl
      · exact gg_leaf (by decide +kernel)
      · exact gg_leaf (by decide +kernel)
    obtain ⟨e2, S2⟩ := gcRet_ge hB (Tm.lim hG.tm _) S1.ge
    refine ⟨_, _, ?_, hG, S2⟩
    unfold g_law_going
    refine (run_rt (np := 2) rfl ?_).trans e2
    rcases hv with rfl | rfl
    · simp [mVar_z, mVar_s, e1, hn]
    · simp [mVar_z, mVar_s, e1, hn]
  by_cases hv3 : v = 2
  · subst hv3
    obtain ⟨k, M2, e2, k0, k1, S2⟩ := take_ok S1.bag (many := 4) (by decide) (by decide)
    obtain ⟨g, M3, e3, hg, S3⟩ := IH S2.bag
    have hG : Gg (n + 1) (.tup [.str "one", .int k, g]) := by
      refine ⟨.tup (by simp) fun x hx => ?_, ?_, ?_, _, rfl, by simp⟩
      · simp at hx
        rcases hx with rfl | rfl | rfl
        · exact .str (by decide +kernel)
        · exact .int _
        · exact hg.tm
      · have hk : k < 1000000000 := by omega
        simp [K13.lo, los, hg.lo, hk]
      · have := hg.sz
        simp [K13.sz, szs]
        omega
    obtain ⟨e4, S4⟩ := gcRet_ge hB (Tm.lim hG.tm _) ((S1.trans S2).trans S3).ge
    refine ⟨_, _, ?_, hG, S4⟩
    unfold g_law_going
    refine (run_rt (np := 2) rfl ?_).trans e4
    simp [mVar_z, mVar_s, e1, hn, e2, e3, hd]
  · obtain ⟨c, M2, e2, c0, c1, S2⟩ := take_ok S1.bag (many := 2) (by decide) (by decide)
    obtain ⟨L, M3, e3, n3, p3, G3⟩ := lc_draw (te := mCall 2 self (aCons (mVar 0) (aCons (mBin fSub (mVar 1) (mC (.int 1))) aNil))) (ρ := wipeD [some (.ref b), some (.int ((n + 1 : Nat) : Int)), some (.int v), none, none] [4]) (P := Gg n) (b := b) (r := r) (by simp [wipeD]) (fun M d hM => by
      obtain ⟨g, M', e, hg, S⟩ := IH hM
      exact ⟨g, M', by simp [wipeD, mVar_z, mVar_s, hd, e], hg, S.ge⟩) (Mp.intsFrom 0 (1 + c).toNat) M2 S2.bag
    have hL : L.length = 1 ∨ L.length = 2 := by
      rw [n3]
      simp [Mp.intsFrom]
      omega
    have rg : rngOk (1 + c) = true := decide_eq_true (by omega)
    have il : (Mp.intsFrom 0 (1 + c).toNat).length ≤ 16777216 := by simp [Mp.intsFrom]; omega
    have tp : fTuple [.ref M3.length] (M3 ++ [MO.lst L]) = .ok (.tup L) (M3 ++ [MO.lst L]) := by
      show (match itemsOf (M3 ++ [MO.lst L]) (.ref M3.length) with | some l => Res.ok (D.tup l) (M3 ++ [MO.lst L]) | none => .err) = _
      rw [itemsOf_ref get_end]
    have s4 : (sSet 3 (mBlt fTuple (aCons (mLc [4] (sArg fRng1 (aCons (mBin fAdd (mC (.int 1)) (mCall 2 f_law_take (aCons (mVar 0) (aCons (mC (.int 2)) aNil)))) aNil)) (gN 4) tYesD (mCall 2 self (aCons (mVar 0) (aCons (mBin fSub (mVar 1) (mC (.int 1))) aNil)))) aNil)))
        [some (.ref b), some (.int ((n + 1 : Nat) : Int)), some (.int v), none, none] M1 = .nx [some (.ref b), some (.int ((n + 1 : Nat) : Int)), some (.int v), some (.tup L), none] (M3 ++ [MO.lst L]) := by
      refine set_step (d := .tup L) ?_
      rw [mBlt_eq, aCons_eq, lc_ok (l := Mp.intsFrom 0 (1 + c).toNat) (c := []) (M1 := M2) (by simp [mVar_z, e2, fRng1, rg]) il e3]
      simp only [Res.bind_ok, aNil_eq, tp]
    have G4 : Ge b r M (M3 ++ [MO.lst L]) := ((S1.trans S2).ge.trans G3).app _
    have pre : ∀ {R : S} {res : SRes}, R [some (.ref b), some (.int ((n + 1 : Nat) : Int)), some (.int v), none, none] M1 = res → (sSeq (sSet 2 (mIf (tB1 (mBin fGt (mVar 1) (mC (.int 0)))) (mCall 2 f_law_take (aCons (mVar 0) (aCons (mC (.int 6)) aNil))) (mCall 2 f_law_take (aCons (mVar 0) (aCons (mC (.int 2)) aNil)))))
      (sSeq (sIf (tB1 (mBin fLt (mVar 2) (mC (.int 2)))) (sRet (mIf (tB1 (mBin (fEq false) (mVar 2) (mC (.int 0)))) (mTup (aCons (mC (.str ("work" : Str))) aNil)) (mTup (aCons (mC (.str ("quiet" : Str))) aNil)))) sNil)
      (sSeq (sIf (tB1 (mBin (fEq false) (mVar 2) (mC (.int 2)))) (sRet (mTup (aCons (mC (.str ("one" : Str))) (aCons (mCall 2 f_law_take (aCons (mVar 0) (aCons (mC (.int 4)) aNil))) (aCons (mCall 2 self (aCons (mVar 0) (aCons (mBin fSub (mVar 1) (mC (.int 1))) aNil))) aNil))))) sNil) R)))
        [some (.ref b), some (.int ((n + 1 : Nat) : Int)), none, none, none] M = res := fun {R res} hR => by
      refine seq_step (ρ' := [some (.ref b), some (.int ((n + 1 : Nat) : Int)), some (.int v), none, none]) (M' := M1) (by simp [mVar_z, mVar_s, hn, e1]) ?_
      refine seq_step (ρ' := [some (.ref b), some (.int ((n + 1 : Nat) : Int)), some (.int v), none, none]) (M' := M1) (by simp [mVar_z, mVar_s, hv2]) ?_
      refine seq_step (ρ' := [some (.ref b), some (.int ((n + 1 : Nat) : Int)), some (.int v), none, none]) (M' := M1) (by simp [mVar_z, mVar_s, hv3]) hR
    have gL : ∀ x ∈ L, Tm [] 0 (n + 1) x := fun x hx => (p3 x hx).tm
    have lL : los L = true := los_of fun x hx => (p3 x hx).lo
    have zL : szs L ≤ 2 * (8 * 3 ^ n) := by
      have := szs_le (B := 8 * 3 ^ n) (l := L) fun x hx => (p3 x hx).sz
      rcases hL with h | h <;> rw [h] at this <;> omega
    by_cases hv4 : v = 3
    · obtain ⟨q, M5, e5, q0, q1, S5⟩ := take_ok G4.bag (many := 4) (by decide) (by decide)
      obtain ⟨K, M6, e6, n6, p6, G6⟩ := lc_draw (te := mCall 2 f_law_take (aCons (mVar 0) (aCons (mC (.int 3)) aNil))) (ρ := wipeD [some (.ref b), some (.int ((n + 1 : Nat) : Int)), some (.int v), some (.tup L), none] [4]) (P := fun x => ∃ i : Int, x = .int i ∧ i < 1000000000) (b := b) (r := r) (by simp [wipeD]) (fun M d hM => by
        obtain ⟨g, M', e, g0, g1, S⟩ := take_ok hM (many := 3) (by decide) (by decide)
        exact ⟨.int g, M', by simp [wipeD, mVar_z, mVar_s, e], ⟨g, rfl, by omega⟩, S.ge⟩) (Mp.intsFrom 0 q.toNat) M5 S5.bag
      have hK : K.length ≤ 3 := by
        rw [n6]
        simp [Mp.intsFrom]
        omega
      have hG : Gg (n + 1) (.tup (.str "beside" :: .tup K :: L)) := by
        refine ⟨.tup (by simp; omega) fun x hx => ?_, ?_, ?_, _, rfl, by simp; omega⟩
        · rcases List.mem_cons.mp hx with rfl | hx
          · exact .str (by decide +kernel)
          · rcases List.mem_cons.mp hx with rfl | hx
            · refine .tup (by omega) fun y hy => ?_
              obtain ⟨i, rfl, _⟩ := p6 y hy
              exact .int i
            · exact gL x hx
        · simp only [K13.lo, los, lL, Bool.true_and, Bool.and_true]
          refine los_of fun x hx => ?_
          obtain ⟨i, rfl, hi⟩ := p6 x hx
          simp [K13.lo, hi]
        · have zK := szs_le (B := 1) (l := K) fun x hx => by
            obtain ⟨i, rfl, hi⟩ := p6 x hx
            simp [K13.sz]
          simp only [K13.sz, szs]
          omega
      have rg2 : rngOk q = true := decide_eq_true (by omega)
      have il2 : (Mp.intsFrom 0 q.toNat).length ≤ 16777216 := by simp [Mp.intsFrom]; omega
      have tp2 : fTuple [.ref M6.length] (M6 ++ [MO.lst K]) = .ok (.tup K) (M6 ++ [MO.lst K]) := by
        show (match itemsOf (M6 ++ [MO.lst K]) (.ref M6.length) with | some l => Res.ok (D.tup l) (M6 ++ [MO.lst K]) | none => .err) = _
        rw [itemsOf_ref get_end]
      obtain ⟨e7, S7⟩ := gcRet_ge hB (Tm.lim hG.tm _) (((G4.step S5).trans G6).app [MO.lst K])
      refine ⟨_, _, ?_, hG, S7⟩
      unfold g_law_going
      refine (run_rt (np := 2) rfl ?_).trans e7
      refine pre (seq_step s4 (seq_ret ?_))
      rw [if_t (M' := M3 ++ [MO.lst L]) (by simp [mVar_z, mVar_s, hv4])]
      refine ret_step ?_
      have m6 := lc_ok (sm := sArg fRng1 (aCons (mCall 2 f_law_take (aCons (mVar 0) (aCons (mC (.int 4)) aNil))) aNil)) (M := M3 ++ [MO.lst L]) (l := Mp.intsFrom 0 q.toNat) (c := []) (M1 := M5) (by simp [mVar_z, e5, fRng1, rg2]) il2 e6
      have hLL : 2 + L.length ≤ 16777216 := by omega
      simp only [mBin_eq, mTup_eq, aCons_eq, mC_ok, Res.bind_ok, mBlt_eq, m6, aNil_eq, tp2, List.length_cons, List.length_nil, mVar_s, mVar_z]
      simp [hLL]
    · have g8 : (M3 ++ [MO.lst L] ++ [MO.lst [.str "row", .str "again"]])[(M3 ++ [MO.lst L]).length]? = some (MO.lst [.str "row", .str "again"]) := get_end
      obtain ⟨x, M9, e9, hx, S9⟩ := some_ok (G4.bag.app _) g8 (by have := G4.bag.lt.1; omega) (by simp) (by simp) (by
        intro x hx
        simp at hx
        rcases hx with rfl | rfl <;> rfl)
      have hx2 : ∃ s : Str, x = .str s ∧ PyData.canLay0 (.str s) = true := by
        simp at hx
        rcases hx with rfl | rfl
        · exact ⟨_, rfl, by decide +kernel⟩
        · exact ⟨_, rfl, by decide +kernel⟩
      obtain ⟨s, rfl, hs⟩ := hx2
      have hG : Gg (n + 1) (.tup (.str s :: L)) := by
        refine ⟨.tup (by simp; omega) fun x hx => ?_, ?_, ?_, _, rfl, by simp; omega⟩
        · rcases List.mem_cons.mp hx with rfl | hx
          · exact .str hs
          · exact gL x hx
        · simp only [K13.lo, los, lL, Bool.true_and]
        · simp only [K13.sz, szs]
          omega
      obtain ⟨e10, S10⟩ := gcRet_ge hB (Tm.lim hG.tm _) ((G4.app _).step S9)
      refine ⟨_, _, ?_, hG, S10⟩
      unfold g_law_going
      refine (run_rt (np := 2) rfl ?_).trans e10
      refine pre (seq_step s4 (seq_step (ρ' := [some (.ref b), some (.int ((n + 1 : Nat) : Int)), some (.int v), some (.tup L), none]) (M' := M3 ++ [MO.lst L]) (by simp [mVar_z, mVar_s, hv4]) (ret_step ?_)))
      have hLL : 1 + L.length ≤ 16777216 := by omega
      have m9 : mCall 2 f_law_some (aCons (mVar 0) (aCons (mLst (aCons (mC (.str ("row" : Str))) (aCons (mC (.str ("again" : Str))) aNil))) aNil)) [some (.ref b), some (.int ((n + 1 : Nat) : Int)), some (.int v), some (.tup L), none] (M3 ++ [MO.lst L]) = .ok (.str s) M9 := by
        rw [← e9]
        rfl
      simp only [mBin_eq, mTup_eq, aCons_eq, aNil_eq, m9, mVar_z, mVar_s, Res.bind_ok, List.length_cons, List.length_nil]
      simp [hLL]
theorem going_ok : ∀ (n : Nat) {b r : Nat} {M : MH}, Bag M b r → ∃ g M', f_law_going (n + 1) [.ref b, .int n] M = .ok g M' ∧ Gg n g ∧ Step b r M M'
  | 0, b, r, M, h => by
    rw [f_law_going_s]
    exact going_zero h
  | n + 1, b, r, M, h => by
    rw [f_law_going_s]
    exact going_succ (fun hM => going_ok n hM) h
end K13
namespace K13
/-! ### Gauss and Jordan, plainly -/
abbrev Gd := Nat → Nat → Rat
def sm : Nat → (Nat → Rat) → Rat
  | 0, _ => 0
  | n + 1, f => sm n f + f n
theorem sm_congr {n : Nat} {f g : Nat → Rat} (h : ∀ j, j < n → f j = g j) : sm n f = sm n g := by
  induction n with
  | zero => rfl
  | succ n ih =>
    simp only [sm]
    rw [ih fun j hj => h j (by omega), h n (by omega)]
theorem sm_add (n : Nat) (f g : Nat → Rat) : sm n (fun j => f j + g j) = sm n f + sm n g := by
  induction n with
  | zero => simp only [sm]; grind
  | succ n ih => simp only [sm, ih]; grind
theorem sm_mul (n : Nat) (c : Rat) (f : Nat → Rat) : sm n (fun j => c * f j) = c * sm n f := by
  induction n with
  | zero => simp only [sm]; grind
  | succ n ih => simp only [sm, ih]; grind
theorem sm_one (n i : Nat) (f : Nat → Rat) (h : ∀ j, j < n → j ≠ i → f j = 0) (hi : i < n) : sm n f = f i := by
  induction n with
  | zero => omega
  | succ n ih =>
    simp only [sm]
    by_cases e : i = n
    · subst e
      have z : sm i f = 0 := by
        have : ∀ m, m ≤ i → sm m f = 0 := by
          intro m hm
          induction m with
          | zero => rfl
          | succ m ihm =>
            simp only [sm]
            rw [ihm (by omega), h m (by omega) (by omega)]
            grind
        exact this i (Nat.le_refl _)
      rw [z]; grind
    · rw [ih (fun j hj hji => h j (by omega) hji) (by omega), h n (by omega) (fun z => e z.symm)]
      grind
/-- the rows p and a change places -/
def swp (p a : Nat) (g : Gd) : Gd := fun i => if i = p then g a else if i = a then g p else g i
/-- the row p is made to lead with one, the others lose their part -/
def elA (p : Nat) (g : Gd) : Gd := fun i j => if i = p then g p j / g p p else g i j - g i p * (g p j / g p p)
/-- the others lose their part, the row p stays -/
def elB (p : Nat) (h : Gd) : Gd := fun i j => if i = p then h p j else h i j - (h i p / h p p) * h p j
/-- the first of the rows p .. n - 1 that has something at p -/
def piv (n p : Nat) (g : Gd) : Option Nat := ((List.range' p (n - p)).filter fun k => decide (g k p ≠ 0)).head?
theorem piv_some {n p a : Nat} {g : Gd} (h : piv n p g = some a) : p ≤ a ∧ a < n ∧ g a p ≠ 0 := by
  unfold piv at h
  have h1 := List.mem_of_mem_head? h
  obtain ⟨h2, h3⟩ := List.mem_filter.mp h1
  have h4 := List.mem_range'_1.mp h2
  exact ⟨h4.1, by omega, by simpa using h3⟩
theorem piv_congr {n p : Nat} {g h : Gd} (e : ∀ i, p ≤ i → i < n → g i p = h i p) : piv n p g = piv n p h := by
  unfold piv
  congr 1
  refine List.filter_congr fun k hk => ?_
  have h4 := List.mem_range'_1.mp hk
  rw [e k h4.1 (by omega)]
structure Inv (n : Nat) (g0 : Gd) (p : Nat) (g h : Gd) : Prop where
  same : ∀ i j, p ≤ i → i < n → j ≤ n → g i j = h i j
  led : ∀ i, i < p → h i i ≠ 0 ∧ ∀ j, j ≤ n → h i j = h i i * g i j
  zero : ∀ c i, c < p → i < n → i ≠ c → g i c = 0
  sol : ∀ x : Nat → Rat, (∀ i, i < n → sm n (fun j => g i j * x j) = g i n) → ∀ i, i < n → sm n (fun j => g0 i j * x j) = g0 i n
theorem inv_zero (n : Nat) (g : Gd) : Inv n g 0 g g := ⟨fun _ _ _ _ _ => rfl, fun i hi => by omega, fun c i hc => by omega, fun _ h => h⟩
theorem inv_swap {n p a : Nat} {g0 g h : Gd} (I : Inv n g0 p g h) (ha : p ≤ a) (hn : a < n) : Inv n g0 p (swp p a g) (swp p a h) := by
  refine ⟨fun i j h1 h2 h3 => ?_, fun i hi => ?_, fun c i hc hi hic => ?_, fun x hx => I.sol x fun i hi => ?_⟩
  · unfold swp
    split
    · exact I.same a j ha hn h3
    · split
      · exact I.same p j (Nat.le_refl _) (by omega) h3
      · exact I.same i j h1 h2 h3
  · have e1 : swp p a h i = h i := by unfold swp; rw [if_neg (by omega), if_neg (by omega)]
    have e2 : swp p a g i = g i := by unfold swp; rw [if_neg (by omega), if_neg (by omega)]
    rw [e1, e2]
    exact I.led i hi
  · unfold swp
    split
    · exact I.zero c a hc hn (by omega)
    · split
      · exact I.zero c p hc (by omega) (by omega)
      · exact I.zero c i hc hi hic
  · by_cases e1 : i = p
    · have := hx a hn
      unfold swp at this
      by_cases e2 : a = p
      · rw [if_pos e2, e2] at this; rw [e1]; exact this
      · rw [if_neg e2, if_pos rfl] at this; rw [e1]; exact this
    · by_cases e2 : i = a
      · have := hx p (by omega)
        unfold swp at this
        rw [if_pos rfl] at this
        rw [e2]; exact this
      · have := hx i hi
        unfold swp at this
        rw [if_neg e1, if_neg e2] at this
        exact this
theorem inv_elim {n p : Nat} {g0 g h : Gd} (I : Inv n g0 p g h) (hp : p < n) (hl : g p p ≠ 0) : Inv n g0 (p + 1) (elA p g) (elB p h) := by
  have sp : ∀ j, j ≤ n → h p j = g p j := fun j hj => (I.same p j (Nat.le_refl _) hp hj).symm
  have lp : h p p = g p p := sp p (by omega)
  refine ⟨fun i j h1 h2 h3 => ?_, fun i hi => ?_, fun c i hc hi hic => ?_, fun x hx => I.sol x fun i hi => ?_⟩
  · unfold elA elB
    rw [if_neg (by omega), if_neg (by omega), lp, sp j h3, ← I.same i j (by omega) h2 h3, ← I.same i p (by omega) h2 (by omega)]
    grind
  · by_cases e : i = p
    · subst e
      unfold elA elB
      refine ⟨by simp only [if_true]; rw [lp]; exact hl, fun j hj => ?_⟩
      simp only [if_true]
      rw [lp, sp j hj]
      grind
    · obtain ⟨h1, h2⟩ := I.led i (by omega)
      have z : h p i = 0 := by rw [sp i (by omega), I.zero i p (by omega) hp (by omega)]
      have e1 : elB p h i i = h i i := by
        unfold elB
        rw [if_neg e, z]
        grind
      refine ⟨by rw [e1]; exact h1, fun j hj => ?_⟩
      rw [e1]
      unfold elA elB
      rw [if_neg e, if_neg e, lp, sp j hj, h2 j hj, h2 p (by omega)]
      grind
  · unfold elA
    by_cases e : c = p
    · subst e
      rw [if_neg hic]
      grind
    · have zp : g p c = 0 := I.zero c p (by omega) hp (by omega)
      split
      · rw [zp]; grind
      · rw [zp, I.zero c i (by omega) hi hic]; grind
  · have rp := hx p hp
    have rp2 : sm n (fun j => g p j * x j) = g p n := by
      unfold elA at rp
      simp only [if_true] at rp
      have e : sm n (fun j => g p j / g p p * x j) = (1 / g p p) * sm n (fun j => g p j * x j) := by
        rw [← sm_mul]
        exact sm_congr fun j _ => by grind
      rw [e] at rp
      grind
    by_cases e : i = p
    · rw [e]; exact rp2
    · have ri := hx i hi
      unfold elA at ri
      simp only [if_neg e] at ri
      have e2 : sm n (fun j => (g i j - g i p * (g p j / g p p)) * x j) = sm n (fun j => g i j * x j) + (- (g i p / g p p)) * sm n (fun j => g p j * x j) := by
        rw [← sm_mul, ← sm_add]
        exact sm_congr fun j _ => by grind
      rw [e2, rp2] at ri
      grind
/-- at the end both tell the same, and it solves the rows -/
theorem inv_end {n : Nat} {g0 g h : Gd} (I : Inv n g0 n g h) : (∀ i, i < n → h i n / h i i = g i n) ∧ ∀ i, i < n → sm n (fun j => g0 i j * g j n) = g0 i n := by
  have one : ∀ i, i < n → g i i = 1 := fun i hi => by
    obtain ⟨h1, h2⟩ := I.led i hi
    have := h2 i (by omega)
    grind
  refine ⟨fun i hi => ?_, I.sol (fun j => g j n) fun i hi => ?_⟩
  · obtain ⟨h1, h2⟩ := I.led i hi
    rw [h2 n (Nat.le_refl _)]
    grind
  · rw [sm_one n i _ (fun j hj hji => by rw [I.zero j i hj hi (fun z => hji z.symm)]; grind) hi, one i hi]
    grind
/-- the first p steps of the one, of the other -/
def fA (n : Nat) : Nat → Gd → Option Gd
  | 0, g => some g
  | p + 1, g => (fA n p g).bind fun g1 => (piv n p g1).map fun a => elA p (swp p a g1)
def fB (n : Nat) : Nat → Gd → Option Gd
  | 0, g => some g
  | p + 1, g => (fB n p g).bind fun g1 => (piv n p g1).map fun a => elB p (swp p a g1)
theorem both {n : Nat} (g0 : Gd) : ∀ p, p ≤ n → (fA n p g0 = none ∧ fB n p g0 = none) ∨ ∃ g h, fA n p g0 = some g ∧ fB n p g0 = some h ∧ Inv n g0 p g h
  | 0, _ => .inr ⟨g0, g0, rfl, rfl, inv_zero n g0⟩
  | p + 1, hp => by
    rcases both (n := n) g0 p (by omega) with ⟨h1, h2⟩ | ⟨g, h, h1, h2, I⟩
    · exact .inl ⟨by simp [fA, h1], by simp [fB, h2]⟩
    · have e : piv n p g = piv n p h := piv_congr fun i hi hn => I.same i p hi hn (by omega)
      cases hv : piv n p g with
      | none => exact .inl ⟨by simp [fA, h1, hv], by simp [fB, h2, ← e, hv]⟩
      | some a =>
        obtain ⟨a1, a2, a3⟩ := piv_some hv
        refine .inr ⟨_, _, by simp [fA, h1, hv], by simp [fB, h2, ← e, hv], inv_elim (inv_swap I a1 a2) (by omega) ?_⟩
        unfold swp
        rw [if_pos rfl]
        exact a3
end K13
namespace K13
open PySem PySem.Spec PyProof.Rows L2 Mp
/-! ### rows of fractions in the heap -/
theorem fEq_frac {M : MH} (neg : Bool) (x : Rat) (a b : Int) : fEq neg (fr x) (.tup [.int a, .int b]) M = .ok (.bl (if neg then !(decide (x.num = a) && decide ((x.den : Int) = b)) else (decide (x.num = a) && decide ((x.den : Int) = b)))) M := by
  have e : PyData.eqv (.tuple [.int x.num, .int x.den]) (.tuple [.int a, .int b]) = (decide (x.num = a) && decide ((x.den : Int) = b)) := by
    show ((x.num == a) && ((((x.den : Int) == b)) && true)) = _
    rw [Bool.and_true]
    rfl
  have h1 : SeqAt.shaped (.tuple [.int x.num, .int x.den]) = true := rfl
  have h2 : SeqAt.shaped (.tuple [.int a, .int b]) = true := rfl
  show (if (SeqAt.shaped (.tuple [.int x.num, .int x.den]) && SeqAt.shaped (.tuple [.int a, .int b])) = true then Res.ok (D.bl (if neg = true then !PyData.eqv (.tuple [.int x.num, .int x.den]) (.tuple [.int a, .int b]) else PyData.eqv (.tuple [.int x.num, .int x.den]) (.tuple [.int a, .int b]))) M else .err) = _
  rw [h1, h2, e]
  rfl
theorem zero_frac (x : Rat) : (decide (x.num = 0) && decide ((x.den : Int) = 1)) = decide (x = 0) := by
  by_cases h : x = 0
  · subst h; rfl
  · have h1 : ¬ x.num = 0 := fun z => h (Rat.num_eq_zero.mp z)
    simp [h, h1]
theorem fEq_nilf {M : MH} (neg : Bool) (x : Rat) : fEq neg (fr x) c_NIL M = .ok (.bl (if neg then !decide (x = 0) else decide (x = 0))) M := by
  rw [show c_NIL = .tup [.int 0, .int 1] from rfl, fEq_frac, zero_frac]
/-- a row -/
def rw_ (m : Nat) (f : Nat → Rat) : List D := (List.range m).map fun j => fr (f j)
structure Grd (M0 M : MH) (L n : Nat) (q : Nat → Nat) (g : Gd) : Prop where
  pre : M0 <+: M
  low : M0.length ≤ L
  left : M[L]? = some (MO.lst ((List.range n).map fun i => D.ref (q i)))
  row : ∀ i, i < n → M[q i]? = some (MO.lst (rw_ (n + 1) (g i))) ∧ q i ≠ L
theorem Grd.app {M0 M : MH} {L n : Nat} {q : Nat → Nat} {g : Gd} (h : Grd M0 M L n q g) (X : MH) : Grd M0 (M ++ X) L n q g := ⟨pre_app h.pre X, h.low, get_app h.left, fun i hi => ⟨get_app (h.row i hi).1, (h.row i hi).2⟩⟩
theorem Grd.ext {M0 M : MH} {L n : Nat} {q : Nat → Nat} {g g' : Gd} (h : Grd M0 M L n q g) (e : ∀ i, i < n → ∀ j, j ≤ n → g i j = g' i j) : Grd M0 M L n q g' := ⟨h.pre, h.low, h.left, fun i hi => ⟨by
  rw [(h.row i hi).1]
  congr 2
  exact List.map_congr_left fun j hj => by rw [e i hi j (by have := List.mem_range.mp hj; omega)], (h.row i hi).2⟩⟩
theorem range_get {α : Type} {n k : Nat} (f : Nat → α) (h : k < n) : ((List.range n).map f)[k]? = some (f k) := by
  rw [List.getElem?_map, List.getElem?_range h]
  rfl
theorem range_set {α : Type} (n k : Nat) (f : Nat → α) (v : α) : ((List.range n).map f).set k v = (List.range n).map fun i => if i = k then v else f i := by
  refine List.ext_getElem? fun i => ?_
  rw [List.getElem?_set, List.getElem?_map, List.getElem?_map, List.length_map, List.length_range]
  by_cases h : k = i
  · subst h
    rw [if_pos rfl]
    by_cases h2 : k < n
    · rw [if_pos h2, List.getElem?_range h2]; simp
    · rw [if_neg h2, List.getElem?_eq_none (by simpa using h2)]; rfl
  · rw [if_neg h]
    by_cases h2 : i < n
    · rw [List.getElem?_range h2]
      show some (f i) = some (if i = k then v else f i)
      rw [if_neg (fun z => h z.symm)]
    · rw [List.getElem?_eq_none (by simpa using h2)]; rfl
theorem Grd.ix1 {M0 M : MH} {L n : Nat} {q : Nat → Nat} {g : Gd} (h : Grd M0 M L n q g) {i : Nat} (hi : i < n) : fIx (.ref L) (.int i) M = .ok (.ref (q i)) M := by
  rw [fIx_ref h.left, atI_at (range_get _ hi)]
theorem Grd.ix2 {M0 M : MH} {L n : Nat} {q : Nat → Nat} {g : Gd} (h : Grd M0 M L n q g) {i j : Nat} (hi : i < n) (hj : j ≤ n) : fIx (.ref (q i)) (.int j) M = .ok (fr (g i j)) M := by
  rw [fIx_ref (h.row i hi).1, show atI (rw_ (n + 1) (g i)) (j : Int) = some (fr (g i j)) from atI_at (range_get _ (by omega))]
/-- a new row at k -/
theorem Grd.put {M0 M : MH} {L n : Nat} {q : Nat → Nat} {g : Gd} (h : Grd M0 M L n q g) {k r : Nat} {f : Nat → Rat} (hk : k < n) (hr : M[r]? = some (MO.lst (rw_ (n + 1) f))) (hrl : r ≠ L) :
    fSetL (.ref L) (.int k) (.ref r) M = some (M.set L (MO.lst ((List.range n).map fun i => D.ref (if i = k then r else q i)))) ∧ Grd M0 (M.set L (MO.lst ((List.range n).map fun i => D.ref (if i = k then r else q i)))) L n (fun i => if i = k then r else q i) (fun i => if i = k then f else g i) := by
  have hL := get_lt h.left
  refine ⟨?_, pre_set h.pre h.low _, h.low, by rw [List.getElem?_set_self hL], fun i hi => ?_⟩
  · rw [fSetL_ref h.left k (by simpa using hk), range_set]
    congr 3
    exact List.map_congr_left fun i _ => by split <;> rfl
  · by_cases e : i = k
    · simp only [e, if_true]
      exact ⟨by rw [List.getElem?_set_ne (Ne.symm hrl), hr], hrl⟩
    · simp only [e, if_false]
      exact ⟨by rw [List.getElem?_set_ne (Ne.symm (h.row i hi).2), (h.row i hi).1], (h.row i hi).2⟩
/-- for i in range(n) -/
theorem for_rng {i n : Nat} {b : S} {P : Nat → Ev → MH → Prop} {R : D → MH → Prop} (h : ∀ p ρ M, p < n → P p ρ M → (∃ ρ' M', b (ρ.set i (some (.int (p : Int)))) M = .nx ρ' M' ∧ P (p + 1) ρ' M') ∨ (∃ d M', b (ρ.set i (some (.int (p : Int)))) M = .rt d M' ∧ R d M')) :
    ∀ (m p : Nat) (ρ : Ev) (M : MH), p + m = n → P p ρ M → (∃ ρ' M', forGo (gN i) b [] ((List.range' p m).map fun k : Nat => D.int (k : Int)) ρ M = .nx ρ' M' ∧ P n ρ' M') ∨ (∃ d M', forGo (gN i) b [] ((List.range' p m).map fun k : Nat => D.int (k : Int)) ρ M = .rt d M' ∧ R d M')
  | 0, p, ρ, M, e, hP => .inl ⟨ρ, M, rfl, by rw [← e]; exact hP⟩
  | m + 1, p, ρ, M, e, hP => by
    have u : forGo (gN i) b [] ((List.range' p (m + 1)).map fun k : Nat => D.int (k : Int)) ρ M = (match b (ρ.set i (some (.int (p : Int)))) M with
        | .nx ρ2 M2 => forGo (gN i) b [] ((List.range' (p + 1) m).map fun k : Nat => D.int (k : Int)) ρ2 M2
        | .ct ρ2 M2 => forGo (gN i) b [] ((List.range' (p + 1) m).map fun k : Nat => D.int (k : Int)) ρ2 M2
        | .bk ρ2 M2 => .nx ρ2 M2
        | r => r) := rfl
    rcases h p ρ M (by omega) hP with ⟨ρ', M', e1, h1⟩ | ⟨d, M', e1, h1⟩
    · rcases for_rng h m (p + 1) ρ' M' (by omega) h1 with ⟨ρ2, M2, e2, h2⟩ | ⟨d, M2, e2, h2⟩
      · exact .inl ⟨ρ2, M2, by rw [u, e1]; exact e2, h2⟩
      · exact .inr ⟨d, M2, by rw [u, e1]; exact e2, h2⟩
    · exact .inr ⟨d, M', by rw [u, e1], h1⟩
theorem ints_range (n : Nat) : Mp.intsFrom 0 ((n : Nat) : Int).toNat = (List.range' 0 n).map fun k : Nat => D.int (k : Int) := by
  unfold Mp.intsFrom
  rw [List.range_eq_range', Int.toNat_natCast]
  exact List.map_congr_left fun k _ => by simp
theorem ints_range2 (p n : Nat) : Mp.intsFrom (p : Int) ((n : Int) - p).toNat = (List.range' p (n - p)).map fun k : Nat => D.int (k : Int) := by
  unfold Mp.intsFrom
  rw [show ((n : Int) - p).toNat = n - p by omega, List.range'_eq_map_range, List.map_map]
  exact List.map_congr_left fun k _ => by simp
theorem sz_sub2 {x y : Rat} {n m : Nat} (hx : SzQ n x) (hy : SzQ m y) : SzQ (n + m + 1) (x - y) := by
  rw [← sub_eq]
  exact sz_divInt (mul_ne (den_ne x) (den_ne y)) ((hx.1.mul hy.2).sub ((hy.1.mul hx.2).mono (by omega))) ((hx.2.mul hy.2).mono (by omega))
theorem sz_mul2 {x y : Rat} {n m : Nat} (hx : SzQ n x) (hy : SzQ m y) : SzQ (n + m) (x * y) := by
  rw [← mul_eq]
  exact sz_divInt (mul_ne (den_ne x) (den_ne y)) (hx.1.mul hy.1) (hx.2.mul hy.2)
theorem sz_div2 {x y : Rat} {n m : Nat} (hx : SzQ n x) (hy : SzQ m y) (h : y ≠ 0) : SzQ (n + m) (x / y) := by
  rw [← div_eq]
  exact sz_divInt (mul_ne (den_ne x) (fun e => h (Rat.num_eq_zero.mp e))) (hx.1.mul hy.2) (hx.2.mul hy.1)
end K13
namespace K13
open PySem PySem.Spec PyProof.Rows L2 Mp
theorem lc_fi {ι : Type} {g : G} {tt : T} {te : E} {chk : List (Nat × List D)} {ρ : Ev} {M : MH} {ρx : ι → Ev} {b : ι → Bool} {f it : ι → D} (hc : chkOk chk M = true) : ∀ {l : List ι}, (∀ x ∈ l, g (it x) ρ = some (ρx x) ∧ tt (ρx x) M = .ok (b x) M ∧ (b x = true → te (ρx x) M = .ok (f x) M)) →
    lcGo g tt te chk ρ (l.map it) M = .ok ((l.filter b).map f) M
  | [], _ => by
    show (if chkOk chk M = true then Res.ok [] M else .err) = _
    rw [if_pos hc]
    rfl
  | x :: l, h => by
    obtain ⟨h1, h2, h3⟩ := h x List.mem_cons_self
    have ih := lc_fi hc (l := l) fun y hy => h y (List.mem_cons_of_mem _ hy)
    rw [List.map_cons]
    unfold lcGo
    rw [if_pos hc, h1]
    show ((tt (ρx x) M).nox.bind _) = _
    rw [h2]
    show (if b x = true then _ else _) = _
    cases hb : b x with
    | true =>
      rw [if_pos rfl, h3 hb, List.filter_cons_of_pos (by exact hb)]
      show (lcGo g tt te chk ρ (l.map it) M).bind _ = _
      rw [ih]
      rfl
    | false =>
      rw [if_neg (by decide), List.filter_cons_of_neg (by rw [hb]; decide)]
      exact ih
theorem lc_mi {ι : Type} {g : G} {te : E} {chk : List (Nat × List D)} {ρ : Ev} {M : MH} {ρx : ι → Ev} {f it : ι → D} (hc : chkOk chk M = true) {l : List ι} (h : ∀ x ∈ l, g (it x) ρ = some (ρx x) ∧ te (ρx x) M = .ok (f x) M) :
    lcGo g tYesD te chk ρ (l.map it) M = .ok (l.map f) M := by
  have e := lc_fi (tt := tYesD) (b := fun _ => true) (f := f) hc (l := l) fun x hx => ⟨(h x hx).1, rfl, fun _ => (h x hx).2⟩
  rw [e]
  congr 2
  exact List.filter_eq_self.mpr fun _ _ => rfl
theorem zip_map {ι : Type} (a b : ι → D) : ∀ l : List ι, List.zipWith (fun x y => D.tup [x, y]) (l.map a) (l.map b) = l.map fun i => .tup [a i, b i]
  | [] => rfl
  | x :: l => by simp [zip_map a b l]
theorem zip_src {M : MH} {i k m : Nat} {f h : Nat → Rat} (h1 : M[i]? = some (MO.lst (rw_ m f))) (h2 : M[k]? = some (MO.lst (rw_ m h))) :
    fZip [.ref i, .ref k] M = .ok ⟨(List.range m).map fun j => .tup [fr (f j), fr (h j)], [(i, rw_ m f), (k, rw_ m h)]⟩ M := by
  have e1 : sSeqOf (.ref i) M = .ok ⟨rw_ m f, [(i, rw_ m f)]⟩ M := by
    show (match M[i]? with | some (.lst l) => Res.ok (Src.mk l [(i, l)]) M | _ => .err) = _
    rw [h1]
  have e2 : sSeqOf (.ref k) M = .ok ⟨rw_ m h, [(k, rw_ m h)]⟩ M := by
    show (match M[k]? with | some (.lst l) => Res.ok (Src.mk l [(k, l)]) M | _ => .err) = _
    rw [h2]
  show (match sSeqOf (.ref i) M, sSeqOf (.ref k) M with
    | .ok s _, .ok t _ => Res.ok (Src.mk (List.zipWith (fun a b => .tup [a, b]) s.items t.items) (s.chk ++ t.chk)) M
    | _, _ => .err) = _
  rw [e1, e2]
  show Res.ok (Src.mk (List.zipWith (fun a b => .tup [a, b]) (rw_ m f) (rw_ m h)) _) M = _
  unfold rw_
  rw [zip_map]
  rfl
theorem chk2 {M : MH} {i k : Nat} {a b : List D} (h1 : M[i]? = some (MO.lst a)) (h2 : M[k]? = some (MO.lst b)) : chkOk [(i, a), (k, b)] M = true := by
  simp [chkOk, h1, h2]
/-- the row t loses its part -/
theorem a_row {M0 M : MH} {L n p t s : Nat} {q : Nat → Nat} {g : Gd} {x0 x3 x4 x6 x8 x9 x10 : Option D} (G : Grd M0 M L n q g) (hn : n ≤ 1000) (hp : p < n) (ht : t < n) (hs : s ≤ 900) (s1 : t ≠ p → ∀ j, j ≤ n → SzQ s (g t j)) (s2 : ∀ j, j ≤ n → SzQ (s + s) (g p j)) :
    ∃ x4' x9' x10' q' M', (sSeq (sSet 9 (mBin fIx (mBin fIx (mVar 1) (mVar 7)) (mVar 5)))
      (sIf (tAndB (tB1 (mBin (fEq true) (mVar 7) (mVar 5))) (tB1 (mBin (fEq true) (mVar 9) (mC c_NIL)))) (sAsg (uSub (mVar 1) (mVar 7)) (mLc [4, 10] (sArg fZip (aCons (mBin fIx (mVar 1) (mVar 7)) (aCons (mBin fIx (mVar 1) (mVar 5)) aNil))) (gT 2 (gConsD (gN 4) (gConsD (gN 10) gNilD))) tYesD (mCall 2 f_minus (aCons (mVar 4) (aCons (mCall 2 f_times (aCons (mVar 9) (aCons (mVar 10) aNil))) aNil))))) sNil))
      [x0, some (.ref L), some (.int n), x3, x4, some (.int p), x6, some (.int t), x8, x9, x10] M = .nx [x0, some (.ref L), some (.int n), x3, x4', some (.int p), x6, some (.int t), x8, x9', x10'] M' ∧
      Grd M0 M' L n q' (fun i j => if i = t ∧ i ≠ p then g i j - g i p * g p j else g i j) := by
  have S1 : (sSet 9 (mBin fIx (mBin fIx (mVar 1) (mVar 7)) (mVar 5))) [x0, some (.ref L), some (.int n), x3, x4, some (.int p), x6, some (.int t), x8, x9, x10] M = .nx [x0, some (.ref L), some (.int n), x3, x4, some (.int p), x6, some (.int t), x8, some (fr (g t p)), x10] M := by
    simp [mVar_z, mVar_s, G.ix1 ht, G.ix2 ht (by omega : p ≤ n)]
  by_cases h1 : t = p
  · refine ⟨x4, some (fr (g t p)), x10, q, M, seq_step S1 ?_, G.ext fun i hi j hj => by rw [if_neg (by omega)]⟩
    simp [mVar_z, mVar_s, h1]
  · have h1' : ¬ (t : Int) = p := by omega
    by_cases h2 : g t p = 0
    · refine ⟨x4, some (fr (g t p)), x10, q, M, seq_step S1 ?_, G.ext fun i hi j hj => ?_⟩
      · simp [mVar_z, mVar_s, h1', fEq_nilf, h2]
      · split
        · rename_i h; obtain ⟨rfl, _⟩ := h; rw [h2]; grind
        · rfl
    · obtain ⟨r1, l1⟩ := G.row t ht
      obtain ⟨r2, l2⟩ := G.row p hp
      have lc := lc_mi (g := gT 2 (gConsD (gN 4) (gConsD (gN 10) gNilD))) (te := mCall 2 f_minus (aCons (mVar 4) (aCons (mCall 2 f_times (aCons (mVar 9) (aCons (mVar 10) aNil))) aNil)))
        (ρ := wipeD [x0, some (.ref L), some (.int n), x3, x4, some (.int p), x6, some (.int t), x8, some (fr (g t p)), x10] [4, 10]) (M := M)
        (ρx := fun j => [x0, some (.ref L), some (.int n), x3, some (fr (g t j)), some (.int p), x6, some (.int t), x8, some (fr (g t p)), some (fr (g p j))]) (it := fun j => .tup [fr (g t j), fr (g p j)]) (f := fun j => fr (g t j - g t p * g p j)) (chk2 r1 r2) (l := List.range (n + 1)) fun j hj => ⟨rfl, by
          have hj2 : j ≤ n := by have := List.mem_range.mp hj; omega
          have m1 := times_ok (M := M) ((s1 h1 p (by omega)).mono (by omega : s ≤ 4000)) ((s2 j hj2).mono (by omega : s + s ≤ 4000))
          have m2 := minus_ok (M := M) ((s1 h1 j hj2).mono (by omega : s ≤ 4000)) ((sz_mul2 (s1 h1 p (by omega)) (s2 j hj2)).mono (by omega : s + (s + s) ≤ 4000))
          simp [mVar_z, mVar_s, m1, m2]⟩
      have lo := K13.lc_ok (sm := sArg fZip (aCons (mBin fIx (mVar 1) (mVar 7)) (aCons (mBin fIx (mVar 1) (mVar 5)) aNil))) (M := M) (M1 := M) (by simp [mVar_z, mVar_s, G.ix1 ht, G.ix1 hp, zip_src r1 r2]) (by simp; omega) lc
      obtain ⟨e5, G5⟩ := (G.app [MO.lst (rw_ (n + 1) fun j => g t j - g t p * g p j)]).put ht get_end (by have := get_lt G.left; omega)
      refine ⟨x4, some (fr (g t p)), x10, _, _, seq_step S1 ?_, G5.ext fun i hi j hj => ?_⟩
      · rw [if_t (M' := M) (by simp [mVar_z, mVar_s, h1', fEq_nilf, h2])]
        have lo' : mLc [4, 10] (sArg fZip (aCons (mBin fIx (mVar 1) (mVar 7)) (aCons (mBin fIx (mVar 1) (mVar 5)) aNil))) (gT 2 (gConsD (gN 4) (gConsD (gN 10) gNilD))) tYesD (mCall 2 f_minus (aCons (mVar 4) (aCons (mCall 2 f_times (aCons (mVar 9) (aCons (mVar 10) aNil))) aNil))) [x0, some (.ref L), some (.int n), x3, x4, some (.int p), x6, some (.int t), x8, some (fr (g t p)), x10] M = .ok (.ref M.length) (M ++ [MO.lst (rw_ (n + 1) fun j => g t j - g t p * g p j)]) := lo
        rw [sAsg_eq, lo']
        simp [mVar_z, mVar_s, e5]
      · by_cases e : i = t
        · subst e
          simp [h1]
        · simp [e]
end K13
namespace K13
open PySem PySem.Spec PyProof.Rows L2 Mp
theorem swap_ok {v L n p a w : Nat} {M0 M : MH} {q : Nat → Nat} {g : Gd} {ρ : Ev} {tl : List D} (hv : ρ[v]? = some (some (.ref L))) (h5 : ρ[5]? = some (some (.int (p : Int)))) (h6 : ρ[6]? = some (some (.ref w))) (G : Grd M0 M L n q g) (hw : M[w]? = some (MO.lst (D.int (a : Int) :: tl))) (hwl : w ≠ L) (hp : p < n) (ha : a < n) :
    ∃ q' M', (sAsg (uT 2 (uCons (uSub (mVar v) (mVar 5)) (uCons (uSub (mVar v) (mBin fIx (mVar 6) (mC (.int 0)))) uNil))) (mTup (aCons (mBin fIx (mVar v) (mBin fIx (mVar 6) (mC (.int 0)))) (aCons (mBin fIx (mVar v) (mVar 5)) aNil)))) ρ M = .nx ρ M' ∧ Grd M0 M' L n q' (swp p a g) := by
  obtain ⟨e1, G1⟩ := G.put hp (G.row a ha).1 (G.row a ha).2
  generalize hM1 : M.set L (MO.lst ((List.range n).map fun i => D.ref (if i = p then q a else q i))) = M1 at e1 G1
  have rp : M1[q p]? = some (MO.lst (rw_ (n + 1) (g p))) := by rw [← hM1, List.getElem?_set_ne (Ne.symm (G.row p hp).2), (G.row p hp).1]
  obtain ⟨e2, G2⟩ := G1.put ha rp (G.row p hp).2
  have hw1 : M1[w]? = some (MO.lst (D.int (a : Int) :: tl)) := by rw [← hM1, List.getElem?_set_ne (Ne.symm hwl), hw]
  refine ⟨_, _, ?_, G2.ext fun i hi j hj => ?_⟩
  rotate_left
  · unfold swp
    show (if i = a then g p else if i = p then g a else g i) j = (if i = p then g a else if i = a then g p else g i) j
    by_cases i1 : i = a
    · rw [if_pos i1]
      by_cases i2 : i = p
      · rw [if_pos i2, ← i1, i2]
      · rw [if_neg i2, if_pos i1]
    · rw [if_neg i1]
      by_cases i2 : i = p
      · rw [if_pos i2, if_pos i2]
      · rw [if_neg i2, if_neg i2, if_neg i1]
  · have iw : fIx (.ref w) (.int 0) M = .ok (.int a) M := by rw [fIx_ref hw]; simp
    have iw1 : fIx (.ref w) (.int 0) M1 = .ok (.int a) M1 := by rw [fIx_ref hw1]; simp
    simp [mVar_ok hv, mVar_ok h5, mVar_ok h6, iw, iw1, G.ix1 ha, G.ix1 hp, e1, e2]
theorem piv_list {n p : Nat} {g : Gd} : (((List.range' p (n - p)).filter fun k => decide (g k p ≠ 0)).map fun k : Nat => D.int (k : Int)) = (match piv n p g with
    | none => []
    | some a => D.int (a : Int) :: (((List.range' p (n - p)).filter fun k => decide (g k p ≠ 0)).tail.map fun k : Nat => D.int (k : Int))) := by
  unfold piv
  cases (List.range' p (n - p)).filter fun k => decide (g k p ≠ 0) <;> rfl
theorem rng2_src {M : MH} {p n : Nat} (hp : p < n) (hn : n ≤ 1000) : fRng2 [.int (p : Int), .int (n : Int)] M = .ok ⟨(List.range' p (n - p)).map fun k : Nat => D.int (k : Int), []⟩ M := by
  have r1 : rngOk (p : Int) = true := decide_eq_true (by omega)
  have r2 : rngOk (n : Int) = true := decide_eq_true (by omega)
  show (if (rngOk (p : Int) && rngOk (n : Int)) = true then Res.ok (Src.mk (Mp.intsFrom (p : Int) ((n : Int) - p).toNat) []) M else .err) = _
  rw [r1, r2, ints_range2]
  rfl
theorem rng1_src {M : MH} {n : Nat} (hn : n ≤ 1000) : fRng1 [.int (n : Int)] M = .ok ⟨(List.range' 0 n).map fun k : Nat => D.int (k : Int), []⟩ M := by
  have r2 : rngOk (n : Int) = true := decide_eq_true (by omega)
  show (if rngOk (n : Int) = true then Res.ok (Src.mk (Mp.intsFrom 0 ((n : Nat) : Int).toNat) []) M else .err) = _
  rw [r2, ints_range]
  rfl
/-- what is found at the column p, and the answer where nothing is -/
theorem piv_ret {n p w : Nat} {g : Gd} {M : MH} {ρ : Ev} (h6 : ρ[6]? = some (some (.ref w))) (hw : M[w]? = some (MO.lst (((List.range' p (n - p)).filter fun k => decide (g k p ≠ 0)).map fun k : Nat => D.int (k : Int)))) :
    (sIf (tB1 (mBin (fEq false) (mVar 6) (mLst aNil))) (sRet (mC .non)) sNil) ρ M = (match piv n p g with
      | none => .rt .non (M ++ [MO.lst []])
      | some _ => .nx ρ (M ++ [MO.lst []])) := by
  have e := fEq_nil (M := M ++ [MO.lst []]) (n := 0) false (fun x hx => by
    obtain ⟨k, _, rfl⟩ := List.mem_map.mp hx
    exact .int _) (by decide) (get_app hw) get_end
  rw [piv_list] at e
  cases hp : piv n p g with
  | none =>
    rw [hp] at e
    simp [mVar_ok h6, e]
  | some a =>
    rw [hp] at e
    simp [mVar_ok h6, e]
theorem swp_sz {n p a s : Nat} {g : Gd} (h : ∀ i, i < n → ∀ j, j ≤ n → SzQ s (g i j)) (hp : p < n) (ha : a < n) : ∀ i, i < n → ∀ j, j ≤ n → SzQ s (swp p a g i j) := fun i hi j hj => by
  unfold swp
  split
  · exact h a ha j hj
  · split
    · exact h p hp j hj
    · exact h i hi j hj
theorem elA_sz {n p s : Nat} {g : Gd} (h : ∀ i, i < n → ∀ j, j ≤ n → SzQ s (g i j)) (hp : p < n) (hl : g p p ≠ 0) : ∀ i, i < n → ∀ j, j ≤ n → SzQ (4 * s + 1) (elA p g i j) := fun i hi j hj => by
  unfold elA
  have d := sz_div2 (h p hp j hj) (h p hp p (by omega)) hl
  split
  · exact d.mono (by omega)
  · exact (sz_sub2 (h i hi j hj) (sz_mul2 (h i hi p (by omega)) d)).mono (by omega)
theorem elB_sz {n p s : Nat} {g : Gd} (h : ∀ i, i < n → ∀ j, j ≤ n → SzQ s (g i j)) (hp : p < n) (hl : g p p ≠ 0) : ∀ i, i < n → ∀ j, j ≤ n → SzQ (4 * s + 1) (elB p g i j) := fun i hi j hj => by
  unfold elB
  split
  · exact (h p hp j hj).mono (by omega)
  · exact (sz_sub2 (h i hi j hj) (sz_mul2 (sz_div2 (h i hi p (by omega)) (h p hp p (by omega)) hl) (h p hp j hj))).mono (by omega)
/-- one place of the one -/
def bodyA : S := (sSeq (sSet 6 (mLc [7] (sArg fRng2 (aCons (mVar 5) (aCons (mVar 2) aNil))) (gN 7) (tB1 (mBin (fEq true) (mBin fIx (mBin fIx (mVar 1) (mVar 7)) (mVar 5)) (mC c_NIL))) (mVar 7)))
      (sSeq (sIf (tB1 (mBin (fEq false) (mVar 6) (mLst aNil))) (sRet (mC .non)) sNil)
      (sSeq (sAsg (uT 2 (uCons (uSub (mVar 1) (mVar 5)) (uCons (uSub (mVar 1) (mBin fIx (mVar 6) (mC (.int 0)))) uNil))) (mTup (aCons (mBin fIx (mVar 1) (mBin fIx (mVar 6) (mC (.int 0)))) (aCons (mBin fIx (mVar 1) (mVar 5)) aNil))))
      (sSeq (sSet 8 (mBin fIx (mBin fIx (mVar 1) (mVar 5)) (mVar 5)))
      (sSeq (sAsg (uSub (mVar 1) (mVar 5)) (mLc [4] (sSq (mBin fIx (mVar 1) (mVar 5))) (gN 4) tYesD (mCall 2 f_over_by (aCons (mVar 4) (aCons (mVar 8) aNil)))))
      (sFor (sArg fRng1 (aCons (mVar 2) aNil)) (gN 7) (sSeq (sSet 9 (mBin fIx (mBin fIx (mVar 1) (mVar 7)) (mVar 5)))
      (sIf (tAndB (tB1 (mBin (fEq true) (mVar 7) (mVar 5))) (tB1 (mBin (fEq true) (mVar 9) (mC c_NIL)))) (sAsg (uSub (mVar 1) (mVar 7)) (mLc [4, 10] (sArg fZip (aCons (mBin fIx (mVar 1) (mVar 7)) (aCons (mBin fIx (mVar 1) (mVar 5)) aNil))) (gT 2 (gConsD (gN 4) (gConsD (gN 10) gNilD))) tYesD (mCall 2 f_minus (aCons (mVar 4) (aCons (mCall 2 f_times (aCons (mVar 9) (aCons (mVar 10) aNil))) aNil))))) sNil))))))))
theorem a_step {M0 M : MH} {L n p s : Nat} {q : Nat → Nat} {g : Gd} {x0 x3 x4 x6 x7 x8 x9 x10 : Option D} (G : Grd M0 M L n q g) (hn : n ≤ 1000) (hp : p < n) (hs : s ≤ 900) (sz : ∀ i, i < n → ∀ j, j ≤ n → SzQ s (g i j)) :
    (piv n p g = none ∧ ∃ M', M0 <+: M' ∧ bodyA [x0, some (.ref L), some (.int n), x3, x4, some (.int p), x6, x7, x8, x9, x10] M = .rt .non M') ∨
    (∃ a y4 y6 y7 y8 y9 y10 q' M', piv n p g = some a ∧ bodyA [x0, some (.ref L), some (.int n), x3, x4, some (.int p), x6, x7, x8, x9, x10] M = .nx [x0, some (.ref L), some (.int n), x3, y4, some (.int p), y6, y7, y8, y9, y10] M' ∧ Grd M0 M' L n q' (elA p (swp p a g))) := by
  have lc := lc_fi (g := gN 7) (tt := tB1 (mBin (fEq true) (mBin fIx (mBin fIx (mVar 1) (mVar 7)) (mVar 5)) (mC c_NIL))) (te := mVar 7) (chk := []) (ρ := wipeD [x0, some (.ref L), some (.int n), x3, x4, some (.int p), x6, x7, x8, x9, x10] [7]) (M := M)
    (ρx := fun k : Nat => [x0, some (.ref L), some (.int n), x3, x4, some (.int p), x6, some (.int (k : Int)), x8, x9, x10]) (b := fun k => decide (g k p ≠ 0)) (f := fun k : Nat => D.int (k : Int)) (it := fun k : Nat => D.int (k : Int)) rfl (l := List.range' p (n - p)) fun k hk => ⟨rfl, by
      have h4 := List.mem_range'_1.mp hk
      simp [mVar_z, mVar_s, G.ix1 (by omega : k < n), G.ix2 (by omega : k < n) (by omega : p ≤ n), fEq_nilf], fun _ => by simp [mVar_z, mVar_s]⟩
  have lo := K13.lc_ok (sm := sArg fRng2 (aCons (mVar 5) (aCons (mVar 2) aNil))) (M := M) (M1 := M) (by simp [mVar_z, mVar_s, rng2_src hp hn]) (by simp; omega) lc
  have G1 := G.app [MO.lst (((List.range' p (n - p)).filter fun k => decide (g k p ≠ 0)).map fun k : Nat => D.int (k : Int))]
  have hL := get_lt G.left
  have p1 := piv_ret (n := n) (p := p) (g := g) (ρ := [x0, some (.ref L), some (.int n), x3, x4, some (.int p), some (.ref M.length), x7, x8, x9, x10]) rfl (get_end (M := M) (o := MO.lst (((List.range' p (n - p)).filter fun k => decide (g k p ≠ 0)).map fun k : Nat => D.int (k : Int))))
  cases hv : piv n p g with
  | none =>
    rw [hv] at p1
    exact .inl ⟨rfl, _, pre_app G1.pre _, seq_step (set_step lo) (seq_ret p1)⟩
  | some a =>
    rw [hv] at p1
    obtain ⟨a1, a2, a3⟩ := piv_some hv
    have hw : (M ++ [MO.lst (((List.range' p (n - p)).filter fun k => decide (g k p ≠ 0)).map fun k : Nat => D.int (k : Int))] ++ [MO.lst []])[M.length]? = some (MO.lst (D.int (a : Int) :: (((List.range' p (n - p)).filter fun k => decide (g k p ≠ 0)).tail.map fun k : Nat => D.int (k : Int)))) := by
      refine get_app ?_
      rw [get_end, piv_list, hv]
    obtain ⟨q2, M2, e2, G2⟩ := swap_ok (v := 1) (ρ := [x0, some (.ref L), some (.int n), x3, x4, some (.int p), some (.ref M.length), x7, x8, x9, x10]) rfl rfl rfl (G1.app _) hw (by omega) hp a2
    have sz2 := swp_sz sz hp a2
    have ld : swp p a g p p ≠ 0 := by unfold swp; rw [if_pos rfl]; exact a3
    generalize hgs : swp p a g = gs at G2 sz2 ld
    obtain ⟨r2, l2⟩ := G2.row p hp
    have e3 : (sSet 8 (mBin fIx (mBin fIx (mVar 1) (mVar 5)) (mVar 5))) [x0, some (.ref L), some (.int n), x3, x4, some (.int p), some (.ref M.length), x7, x8, x9, x10] M2 = .nx [x0, some (.ref L), some (.int n), x3, x4, some (.int p), some (.ref M.length), x7, some (fr (gs p p)), x9, x10] M2 := by
      simp [mVar_z, mVar_s, G2.ix1 hp, G2.ix2 hp (by omega : p ≤ n)]
    have lc4 := lc_mi (g := gN 4) (te := mCall 2 f_over_by (aCons (mVar 4) (aCons (mVar 8) aNil))) (chk := [(q2 p, rw_ (n + 1) (gs p))]) (ρ := wipeD [x0, some (.ref L), some (.int n), x3, x4, some (.int p), some (.ref M.length), x7, some (fr (gs p p)), x9, x10] [4]) (M := M2)
      (ρx := fun j => [x0, some (.ref L), some (.int n), x3, some (fr (gs p j)), some (.int p), some (.ref M.length), x7, some (fr (gs p p)), x9, x10]) (it := fun j => fr (gs p j)) (f := fun j => fr (gs p j / gs p p)) (by simp [chkOk, r2]) (l := List.range (n + 1)) fun j hj => ⟨rfl, by
        have hj2 : j ≤ n := by have := List.mem_range.mp hj; omega
        have m1 := over_ok (M := M2) ((sz2 p hp j hj2).mono (by omega : s ≤ 4000)) ((sz2 p hp p (by omega)).mono (by omega : s ≤ 4000)) ld
        simp [mVar_z, mVar_s, m1]⟩
    have sq : sSeqOf (.ref (q2 p)) M2 = .ok ⟨rw_ (n + 1) (gs p), [(q2 p, rw_ (n + 1) (gs p))]⟩ M2 := by
      show (match M2[q2 p]? with | some (.lst l) => Res.ok (Src.mk l [(q2 p, l)]) M2 | _ => .err) = _
      rw [r2]
    have lo4 : mLc [4] (sSq (mBin fIx (mVar 1) (mVar 5))) (gN 4) tYesD (mCall 2 f_over_by (aCons (mVar 4) (aCons (mVar 8) aNil))) [x0, some (.ref L), some (.int n), x3, x4, some (.int p), some (.ref M.length), x7, some (fr (gs p p)), x9, x10] M2 = .ok (.ref M2.length) (M2 ++ [MO.lst (rw_ (n + 1) fun j => gs p j / gs p p)]) :=
      K13.lc_ok (l := rw_ (n + 1) (gs p)) (M := M2) (M1 := M2) (by simp [mVar_z, mVar_s, G2.ix1 hp, sq]) (by simp [rw_]; omega) lc4
    obtain ⟨e5, G5⟩ := (G2.app [MO.lst (rw_ (n + 1) fun j => gs p j / gs p p)]).put hp get_end (by have := get_lt G2.left; omega)
    generalize hM5 : (M2 ++ [MO.lst (rw_ (n + 1) fun j => gs p j / gs p p)]).set L (MO.lst ((List.range n).map fun i => D.ref (if i = p then M2.length else q2 i))) = M5 at e5 G5
    have e4 : (sAsg (uSub (mVar 1) (mVar 5)) (mLc [4] (sSq (mBin fIx (mVar 1) (mVar 5))) (gN 4) tYesD (mCall 2 f_over_by (aCons (mVar 4) (aCons (mVar 8) aNil))))) [x0, some (.ref L), some (.int n), x3, x4, some (.int p), some (.ref M.length), x7, some (fr (gs p p)), x9, x10] M2 = .nx [x0, some (.ref L), some (.int n), x3, x4, some (.int p), some (.ref M.length), x7, some (fr (gs p p)), x9, x10] M5 := by
      rw [sAsg_eq, lo4]
      simp [mVar_z, mVar_s, e5]
    have main := for_rng (i := 7) (n := n) (b := (sSeq (sSet 9 (mBin fIx (mBin fIx (mVar 1) (mVar 7)) (mVar 5)))
      (sIf (tAndB (tB1 (mBin (fEq true) (mVar 7) (mVar 5))) (tB1 (mBin (fEq true) (mVar 9) (mC c_NIL)))) (sAsg (uSub (mVar 1) (mVar 7)) (mLc [4, 10] (sArg fZip (aCons (mBin fIx (mVar 1) (mVar 7)) (aCons (mBin fIx (mVar 1) (mVar 5)) aNil))) (gT 2 (gConsD (gN 4) (gConsD (gN 10) gNilD))) tYesD (mCall 2 f_minus (aCons (mVar 4) (aCons (mCall 2 f_times (aCons (mVar 9) (aCons (mVar 10) aNil))) aNil))))) sNil)))
      (P := fun t ρ M' => ∃ z4 z7 z9 z10 q', ρ = [x0, some (.ref L), some (.int n), x3, z4, some (.int p), some (.ref M.length), z7, some (fr (gs p p)), z9, z10] ∧ Grd M0 M' L n q' (fun i j => if i = p then gs p j / gs p p else if i < t then gs i j - gs i p * (gs p j / gs p p) else gs i j)) (R := fun _ _ => False)
      (fun t ρ M' ht ⟨z4, z7, z9, z10, q', hρ, G'⟩ => by
        subst hρ
        obtain ⟨y4, y9, y10, q3, M3, e, G3⟩ := a_row (s := s) (p := p) (t := t) (x0 := x0) (x3 := x3) (x4 := z4) (x6 := some (.ref M.length)) (x8 := some (fr (gs p p))) (x9 := z9) (x10 := z10) G' hn hp ht hs (fun htp j hj => by
          rw [if_neg htp, if_neg (by omega)]
          exact sz2 t ht j hj) (fun j hj => by
          rw [if_pos rfl]
          exact sz_div2 (sz2 p hp j hj) (sz2 p hp p (by omega)) ld)
        refine .inl ⟨_, M3, e, y4, _, y9, y10, q3, rfl, G3.ext fun i hi j hj => ?_⟩
        by_cases h1 : i = p
        · subst h1; simp
        · by_cases h2 : i = t
          · subst h2; simp [h1]
          · have h3 : (i < t + 1) = (i < t) := by
              rw [eq_iff_iff]; omega
            simp [h1, h2, h3])
      n 0 [x0, some (.ref L), some (.int n), x3, x4, some (.int p), some (.ref M.length), x7, some (fr (gs p p)), x9, x10] M5 (by omega) ⟨x4, x7, x9, x10, _, rfl, G5.ext fun i hi j hj => by
        by_cases h : i = p
        · subst h; simp
        · simp [h]⟩
    rcases main with ⟨ρ', M', e, z4, z7, z9, z10, q', hρ, G'⟩ | ⟨_, _, _, z⟩
    · subst hρ
      refine .inr ⟨a, z4, some (.ref M.length), z7, some (fr (gs p p)), z9, z10, q', M', rfl, seq_step (set_step lo) (seq_step p1 (seq_step e2 (seq_step e3 (seq_step e4 ?_)))), G'.ext fun i hi j hj => ?_⟩
      · rw [sFor_eq]
        have src : sArg fRng1 (aCons (mVar 2) aNil) [x0, some (.ref L), some (.int n), x3, x4, some (.int p), some (.ref M.length), x7, some (fr (gs p p)), x9, x10] M5 = .ok ⟨(List.range' 0 n).map fun k : Nat => D.int (k : Int), []⟩ M5 := by simp [mVar_z, mVar_s, rng1_src hn]
        rw [src]
        exact e
      · rw [hgs]
        unfold elA
        split
        · rfl
        · simp [hi]
    · exact z.elim
end K13
namespace K13
open PySem PySem.Spec PyProof.Rows L2 Mp
theorem num_dec (x : Rat) : (!decide (x.num = 0)) = decide (x ≠ 0) := by
  by_cases h : x = 0
  · subst h; rfl
  · have h1 : ¬ x.num = 0 := fun z => h (Rat.num_eq_zero.mp z)
    simp [h, h1]
theorem b_row {M0 M : MH} {L n p t s : Nat} {q : Nat → Nat} {g : Gd} {x0 x3 x4 x6 x8 x9 x10 : Option D} (G : Grd M0 M L n q g) (hn : n ≤ 1000) (hp : p < n) (ht : t < n) (hs : s ≤ 900) (ld : g p p ≠ 0) (s1 : t ≠ p → ∀ j, j ≤ n → SzQ s (g t j)) (s2 : ∀ j, j ≤ n → SzQ s (g p j)) :
    ∃ x8' q' M', (sIf (tB1 (mBin (fEq true) (mVar 7) (mVar 5))) (sSeq (sSet 8 (mCall 2 f_law_fr (aCons (mBin fMul (mBin fIx (mBin fIx (mBin fIx (mVar 2) (mVar 7)) (mVar 5)) (mC (.int 0))) (mBin fIx (mBin fIx (mBin fIx (mVar 2) (mVar 5)) (mVar 5)) (mC (.int 1)))) (aCons (mBin fMul (mBin fIx (mBin fIx (mBin fIx (mVar 2) (mVar 7)) (mVar 5)) (mC (.int 1))) (mBin fIx (mBin fIx (mBin fIx (mVar 2) (mVar 5)) (mVar 5)) (mC (.int 0)))) aNil))))
      (sAsg (uSub (mVar 2) (mVar 7)) (mLc [9, 10] (sArg fZip (aCons (mBin fIx (mVar 2) (mVar 7)) (aCons (mBin fIx (mVar 2) (mVar 5)) aNil))) (gT 2 (gConsD (gN 9) (gConsD (gN 10) gNilD))) tYesD (mCall 2 f_law_less (aCons (mVar 9) (aCons (mCall 2 f_law_mul (aCons (mVar 8) (aCons (mVar 10) aNil))) aNil)))))) sNil)
      [x0, some (.int n), some (.ref L), x3, x4, some (.int p), x6, some (.int t), x8, x9, x10] M = .nx [x0, some (.int n), some (.ref L), x3, x4, some (.int p), x6, some (.int t), x8', x9, x10] M' ∧
      Grd M0 M' L n q' (fun i j => if i = t ∧ i ≠ p then g i j - (g i p / g p p) * g p j else g i j) := by
  by_cases h1 : t = p
  · refine ⟨x8, q, M, ?_, G.ext fun i hi j hj => by rw [if_neg (by omega)]⟩
    simp [mVar_z, mVar_s, h1]
  · have h1' : ¬ (t : Int) = p := by omega
    obtain ⟨r1, l1⟩ := G.row t ht
    obtain ⟨r2, l2⟩ := G.row p hp
    have a1 := (s1 h1 p (by omega)).mono (by omega : s ≤ 4000)
    have a2 := (s2 p (by omega)).mono (by omega : s ≤ 4000)
    have fq := law_quot_ok (M := M) a1 a2 ld
    have mo1 := mulOk_by (a1.1.mono (by decide : 4000 ≤ 8000)) (a2.2.mono (by decide : 4000 ≤ 8000))
    have mo2 := mulOk_by (a1.2.mono (by decide : 4000 ≤ 8000)) (a2.1.mono (by decide : 4000 ≤ 8000))
    have fsz := sz_div2 (s1 h1 p (by omega)) (s2 p (by omega)) ld
    have S1 : (sSet 8 (mCall 2 f_law_fr (aCons (mBin fMul (mBin fIx (mBin fIx (mBin fIx (mVar 2) (mVar 7)) (mVar 5)) (mC (.int 0))) (mBin fIx (mBin fIx (mBin fIx (mVar 2) (mVar 5)) (mVar 5)) (mC (.int 1)))) (aCons (mBin fMul (mBin fIx (mBin fIx (mBin fIx (mVar 2) (mVar 7)) (mVar 5)) (mC (.int 1))) (mBin fIx (mBin fIx (mBin fIx (mVar 2) (mVar 5)) (mVar 5)) (mC (.int 0)))) aNil))))
        [x0, some (.int n), some (.ref L), x3, x4, some (.int p), x6, some (.int t), x8, x9, x10] M = .nx [x0, some (.int n), some (.ref L), x3, x4, some (.int p), x6, some (.int t), some (fr (g t p / g p p)), x9, x10] M := by
      simp [mVar_z, mVar_s, G.ix1 ht, G.ix2 ht (by omega : p ≤ n), G.ix1 hp, G.ix2 hp (by omega : p ≤ n), mo1, mo2, fq]
    have lc := lc_mi (g := gT 2 (gConsD (gN 9) (gConsD (gN 10) gNilD))) (te := mCall 2 f_law_less (aCons (mVar 9) (aCons (mCall 2 f_law_mul (aCons (mVar 8) (aCons (mVar 10) aNil))) aNil)))
      (ρ := wipeD [x0, some (.int n), some (.ref L), x3, x4, some (.int p), x6, some (.int t), some (fr (g t p / g p p)), x9, x10] [9, 10]) (M := M)
      (ρx := fun j => [x0, some (.int n), some (.ref L), x3, x4, some (.int p), x6, some (.int t), some (fr (g t p / g p p)), some (fr (g t j)), some (fr (g p j))]) (it := fun j => .tup [fr (g t j), fr (g p j)]) (f := fun j => fr (g t j - (g t p / g p p) * g p j)) (chk2 r1 r2) (l := List.range (n + 1)) fun j hj => ⟨rfl, by
        have hj2 : j ≤ n := by have := List.mem_range.mp hj; omega
        have m1 := law_mul_ok (M := M) (fsz.mono (by omega : s + s ≤ 4000)) ((s2 j hj2).mono (by omega : s ≤ 4000))
        have m2 := law_less_ok (M := M) ((s1 h1 j hj2).mono (by omega : s ≤ 4000)) ((sz_mul2 fsz (s2 j hj2)).mono (by omega : s + s + s ≤ 4000))
        simp [mVar_z, mVar_s, m1, m2]⟩
    have lo := K13.lc_ok (sm := sArg fZip (aCons (mBin fIx (mVar 2) (mVar 7)) (aCons (mBin fIx (mVar 2) (mVar 5)) aNil))) (M := M) (M1 := M) (by simp [mVar_z, mVar_s, G.ix1 ht, G.ix1 hp, zip_src r1 r2]) (by simp; omega) lc
    obtain ⟨e5, G5⟩ := (G.app [MO.lst (rw_ (n + 1) fun j => g t j - (g t p / g p p) * g p j)]).put ht get_end (by have := get_lt G.left; omega)
    refine ⟨some (fr (g t p / g p p)), _, _, ?_, G5.ext fun i hi j hj => ?_⟩
    · rw [if_t (M' := M) (by simp [mVar_z, mVar_s, h1'])]
      refine seq_step S1 ?_
      have lo' : mLc [9, 10] (sArg fZip (aCons (mBin fIx (mVar 2) (mVar 7)) (aCons (mBin fIx (mVar 2) (mVar 5)) aNil))) (gT 2 (gConsD (gN 9) (gConsD (gN 10) gNilD))) tYesD (mCall 2 f_law_less (aCons (mVar 9) (aCons (mCall 2 f_law_mul (aCons (mVar 8) (aCons (mVar 10) aNil))) aNil))) [x0, some (.int n), some (.ref L), x3, x4, some (.int p), x6, some (.int t), some (fr (g t p / g p p)), x9, x10] M = .ok (.ref M.length) (M ++ [MO.lst (rw_ (n + 1) fun j => g t j - (g t p / g p p) * g p j)]) := lo
      rw [sAsg_eq, lo']
      simp [mVar_z, mVar_s, e5]
    · by_cases e : i = t
      · subst e
        simp [h1]
      · simp [e]
/-- one place of the other -/
def bodyB : S := (sSeq (sSet 6 (mLc [7] (sArg fRng2 (aCons (mVar 5) (aCons (mVar 1) aNil))) (gN 7) (tB1 (mBin (fEq true) (mBin fIx (mBin fIx (mBin fIx (mVar 2) (mVar 7)) (mVar 5)) (mC (.int 0))) (mC (.int 0)))) (mVar 7)))
      (sSeq (sIf (tB1 (mBin (fEq false) (mVar 6) (mLst aNil))) (sRet (mC .non)) sNil)
      (sSeq (sAsg (uT 2 (uCons (uSub (mVar 2) (mVar 5)) (uCons (uSub (mVar 2) (mBin fIx (mVar 6) (mC (.int 0)))) uNil))) (mTup (aCons (mBin fIx (mVar 2) (mBin fIx (mVar 6) (mC (.int 0)))) (aCons (mBin fIx (mVar 2) (mVar 5)) aNil))))
      (sFor (sArg fRng1 (aCons (mVar 1) aNil)) (gN 7) (sIf (tB1 (mBin (fEq true) (mVar 7) (mVar 5))) (sSeq (sSet 8 (mCall 2 f_law_fr (aCons (mBin fMul (mBin fIx (mBin fIx (mBin fIx (mVar 2) (mVar 7)) (mVar 5)) (mC (.int 0))) (mBin fIx (mBin fIx (mBin fIx (mVar 2) (mVar 5)) (mVar 5)) (mC (.int 1)))) (aCons (mBin fMul (mBin fIx (mBin fIx (mBin fIx (mVar 2) (mVar 7)) (mVar 5)) (mC (.int 1))) (mBin fIx (mBin fIx (mBin fIx (mVar 2) (mVar 5)) (mVar 5)) (mC (.int 0)))) aNil))))
      (sAsg (uSub (mVar 2) (mVar 7)) (mLc [9, 10] (sArg fZip (aCons (mBin fIx (mVar 2) (mVar 7)) (aCons (mBin fIx (mVar 2) (mVar 5)) aNil))) (gT 2 (gConsD (gN 9) (gConsD (gN 10) gNilD))) tYesD (mCall 2 f_law_less (aCons (mVar 9) (aCons (mCall 2 f_law_mul (aCons (mVar 8) (aCons (mVar 10) aNil))) aNil)))))) sNil)))))
theorem b_step {M0 M : MH} {L n p s : Nat} {q : Nat → Nat} {g : Gd} {x0 x3 x4 x6 x7 x8 x9 x10 : Option D} (G : Grd M0 M L n q g) (hn : n ≤ 1000) (hp : p < n) (hs : s ≤ 900) (sz : ∀ i, i < n → ∀ j, j ≤ n → SzQ s (g i j)) :
    (piv n p g = none ∧ ∃ M', M0 <+: M' ∧ bodyB [x0, some (.int n), some (.ref L), x3, x4, some (.int p), x6, x7, x8, x9, x10] M = .rt .non M') ∨
    (∃ a y6 y7 y8 y9 y10 q' M', piv n p g = some a ∧ bodyB [x0, some (.int n), some (.ref L), x3, x4, some (.int p), x6, x7, x8, x9, x10] M = .nx [x0, some (.int n), some (.ref L), x3, x4, some (.int p), y6, y7, y8, y9, y10] M' ∧ Grd M0 M' L n q' (elB p (swp p a g))) := by
  have lc := lc_fi (g := gN 7) (tt := tB1 (mBin (fEq true) (mBin fIx (mBin fIx (mBin fIx (mVar 2) (mVar 7)) (mVar 5)) (mC (.int 0))) (mC (.int 0)))) (te := mVar 7) (chk := []) (ρ := wipeD [x0, some (.int n), some (.ref L), x3, x4, some (.int p), x6, x7, x8, x9, x10] [7]) (M := M)
    (ρx := fun k : Nat => [x0, some (.int n), some (.ref L), x3, x4, some (.int p), x6, some (.int (k : Int)), x8, x9, x10]) (b := fun k => decide (g k p ≠ 0)) (f := fun k : Nat => D.int (k : Int)) (it := fun k : Nat => D.int (k : Int)) rfl (l := List.range' p (n - p)) fun k hk => ⟨rfl, by
      have h4 := List.mem_range'_1.mp hk
      rw [← num_dec]
      simp [mVar_z, mVar_s, G.ix1 (by omega : k < n), G.ix2 (by omega : k < n) (by omega : p ≤ n)], fun _ => by simp [mVar_z, mVar_s]⟩
  have lo := K13.lc_ok (sm := sArg fRng2 (aCons (mVar 5) (aCons (mVar 1) aNil))) (M := M) (M1 := M) (by simp [mVar_z, mVar_s, rng2_src hp hn]) (by simp; omega) lc
  have G1 := G.app [MO.lst (((List.range' p (n - p)).filter fun k => decide (g k p ≠ 0)).map fun k : Nat => D.int (k : Int))]
  have hL := get_lt G.left
  have p1 := piv_ret (n := n) (p := p) (g := g) (ρ := [x0, some (.int n), some (.ref L), x3, x4, some (.int p), some (.ref M.length), x7, x8, x9, x10]) rfl (get_end (M := M) (o := MO.lst (((List.range' p (n - p)).filter fun k => decide (g k p ≠ 0)).map fun k : Nat => D.int (k : Int))))
  cases hv : piv n p g with
  | none =>
    rw [hv] at p1
    exact .inl ⟨rfl, _, pre_app G1.pre _, seq_step (set_step lo) (seq_ret p1)⟩
  | some a =>
    rw [hv] at p1
    obtain ⟨a1, a2, a3⟩ := piv_some hv
    have hw : (M ++ [MO.lst (((List.range' p (n - p)).filter fun k => decide (g k p ≠ 0)).map fun k : Nat => D.int (k : Int))] ++ [MO.lst []])[M.length]? = some (MO.lst (D.int (a : Int) :: (((List.range' p (n - p)).filter fun k => decide (g k p ≠ 0)).tail.map fun k : Nat => D.int (k : Int)))) := by
      refine get_app ?_
      rw [get_end, piv_list, hv]
    obtain ⟨q2, M2, e2, G2⟩ := swap_ok (v := 2) (ρ := [x0, some (.int n), some (.ref L), x3, x4, some (.int p), some (.ref M.length), x7, x8, x9, x10]) rfl rfl rfl (G1.app _) hw (by omega) hp a2
    have sz2 := swp_sz sz hp a2
    have ld : swp p a g p p ≠ 0 := by unfold swp; rw [if_pos rfl]; exact a3
    generalize hgs : swp p a g = gs at G2 sz2 ld
    have main := for_rng (i := 7) (n := n) (b := (sIf (tB1 (mBin (fEq true) (mVar 7) (mVar 5))) (sSeq (sSet 8 (mCall 2 f_law_fr (aCons (mBin fMul (mBin fIx (mBin fIx (mBin fIx (mVar 2) (mVar 7)) (mVar 5)) (mC (.int 0))) (mBin fIx (mBin fIx (mBin fIx (mVar 2) (mVar 5)) (mVar 5)) (mC (.int 1)))) (aCons (mBin fMul (mBin fIx (mBin fIx (mBin fIx (mVar 2) (mVar 7)) (mVar 5)) (mC (.int 1))) (mBin fIx (mBin fIx (mBin fIx (mVar 2) (mVar 5)) (mVar 5)) (mC (.int 0)))) aNil))))
      (sAsg (uSub (mVar 2) (mVar 7)) (mLc [9, 10] (sArg fZip (aCons (mBin fIx (mVar 2) (mVar 7)) (aCons (mBin fIx (mVar 2) (mVar 5)) aNil))) (gT 2 (gConsD (gN 9) (gConsD (gN 10) gNilD))) tYesD (mCall 2 f_law_less (aCons (mVar 9) (aCons (mCall 2 f_law_mul (aCons (mVar 8) (aCons (mVar 10) aNil))) aNil)))))) sNil))
      (P := fun t ρ M' => ∃ z7 z8 q', ρ = [x0, some (.int n), some (.ref L), x3, x4, some (.int p), some (.ref M.length), z7, z8, x9, x10] ∧ Grd M0 M' L n q' (fun i j => if i = p then gs p j else if i < t then gs i j - (gs i p / gs p p) * gs p j else gs i j)) (R := fun _ _ => False)
      (fun t ρ M' ht ⟨z7, z8, q', hρ, G'⟩ => by
        subst hρ
        obtain ⟨y8, q3, M3, e, G3⟩ := b_row (s := s) (p := p) (t := t) (x0 := x0) (x3 := x3) (x4 := x4) (x6 := some (.ref M.length)) (x8 := z8) (x9 := x9) (x10 := x10) G' hn hp ht hs (by rw [if_pos rfl]; exact ld) (fun htp j hj => by
          rw [if_neg htp, if_neg (by omega)]
          exact sz2 t ht j hj) (fun j hj => by
          rw [if_pos rfl]
          exact sz2 p hp j hj)
        refine .inl ⟨_, M3, e, _, y8, q3, rfl, G3.ext fun i hi j hj => ?_⟩
        by_cases h1 : i = p
        · subst h1; simp
        · by_cases h2 : i = t
          · subst h2; simp [h1]
          · have h3 : (i < t + 1) = (i < t) := by
              rw [eq_iff_iff]; omega
            simp [h1, h2, h3])
      n 0 [x0, some (.int n), some (.ref L), x3, x4, some (.int p), some (.ref M.length), x7, x8, x9, x10] M2 (by omega) ⟨x7, x8, _, rfl, G2.ext fun i hi j hj => by
        by_cases h : i = p
        · subst h; simp
        · simp [h]⟩
    rcases main with ⟨ρ', M', e, z7, z8, q', hρ, G'⟩ | ⟨_, _, _, z⟩
    · subst hρ
      refine .inr ⟨a, some (.ref M.length), z7, z8, x9, x10, q', M', rfl, seq_step (set_step lo) (seq_step p1 (seq_step e2 ?_)), G'.ext fun i hi j hj => ?_⟩
      · rw [sFor_eq]
        have src : sArg fRng1 (aCons (mVar 1) aNil) [x0, some (.int n), some (.ref L), x3, x4, some (.int p), some (.ref M.length), x7, x8, x9, x10] M2 = .ok ⟨(List.range' 0 n).map fun k : Nat => D.int (k : Int), []⟩ M2 := by simp [mVar_z, mVar_s, rng1_src hn]
        rw [src]
        exact e
      · rw [hgs]
        unfold elB
        split
        · rfl
        · simp [hi]
    · exact z.elim
end K13
namespace K13
open PySem PySem.Spec PyProof.Rows L2 Mp
structure Rws (M : MH) (R n : Nat) (rr : Nat → Nat) (g : Gd) : Prop where
  at_ : M[R]? = some (MO.lst ((List.range n).map fun i => .tup [.ref (rr i), fr (g i n)]))
  row : ∀ i, i < n → M[rr i]? = some (MO.lst (rw_ n (g i)))
theorem rw_succ (n : Nat) (f : Nat → Rat) : rw_ n f ++ [fr (f n)] = rw_ (n + 1) f := by
  unfold rw_
  rw [List.range_succ, List.map_append]
  rfl
theorem list_ref {M : MH} {n : Nat} {l : List D} (h : M[n]? = some (MO.lst l)) : fList [.ref n] M = .ok (.ref M.length) (M ++ [MO.lst l]) := by
  show (match itemsOf M (.ref n) with | some l => Res.ok (D.ref M.length) (M ++ [MO.lst l]) | none => .err) = _
  rw [itemsOf_ref h]
theorem init_go {M0 : MH} {R n : Nat} {rr : Nat → Nat} {g : Gd} {x0 x1 x2 y3 y4 x5 x6 x7 x8 x9 x10 : Option D} (W : Rws M0 R n rr g) (hn : n ≤ 1000) : ∀ (vs_ : List Nat) (M : MH), (∀ i ∈ vs_, i < n) → vs_.Nodup → M0 <+: M →
    ∃ (q : Nat → Nat) (M' : MH), lcGo (gT 2 (gConsD (gN 3) (gConsD (gN 4) gNilD))) tYesD (mBin fAdd (mBlt fList (aCons (mVar 3) aNil)) (mLst (aCons (mVar 4) aNil))) [(R, (List.range n).map fun i => .tup [.ref (rr i), fr (g i n)])] [x0, x1, x2, y3, y4, x5, x6, x7, x8, x9, x10]
      (vs_.map fun i => .tup [.ref (rr i), fr (g i n)]) M = .ok (vs_.map fun i => D.ref (q i)) M' ∧ M <+: M' ∧ ∀ i ∈ vs_, M'[q i]? = some (MO.lst (rw_ (n + 1) (g i))) ∧ M0.length ≤ q i
  | [], M, _, _, hM => by
    have hc : chkOk [(R, (List.range n).map fun i => D.tup [.ref (rr i), fr (g i n)])] M = true := by simp [chkOk, pre_get hM W.at_]
    refine ⟨fun _ => 0, M, ?_, List.prefix_refl _, by simp⟩
    show (if chkOk [(R, (List.range n).map fun i => D.tup [.ref (rr i), fr (g i n)])] M = true then Res.ok [] M else .err) = _
    rw [if_pos hc]
    rfl
  | i :: vs_, M, hi, hd, hM => by
    have hc : chkOk [(R, (List.range n).map fun i => D.tup [.ref (rr i), fr (g i n)])] M = true := by simp [chkOk, pre_get hM W.at_]
    have hin := hi i List.mem_cons_self
    have r1 := pre_get hM (W.row i hin)
    have e1 := list_ref r1
    have g1 : (M ++ [MO.lst (rw_ n (g i))] ++ [MO.lst [fr (g i n)]])[M.length]? = some (MO.lst (rw_ n (g i))) := get_app get_end
    have g2 : (M ++ [MO.lst (rw_ n (g i))] ++ [MO.lst [fr (g i n)]])[(M ++ [MO.lst (rw_ n (g i))]).length]? = some (MO.lst [fr (g i n)]) := get_end
    have e2 := add_ref g1 g2 (by simp [rw_]; omega)
    rw [rw_succ] at e2
    have ev : (mBin fAdd (mBlt fList (aCons (mVar 3) aNil)) (mLst (aCons (mVar 4) aNil))) [x0, x1, x2, some (.ref (rr i)), some (fr (g i n)), x5, x6, x7, x8, x9, x10] M = .ok (.ref (M ++ [MO.lst (rw_ n (g i))] ++ [MO.lst [fr (g i n)]]).length) (M ++ [MO.lst (rw_ n (g i))] ++ [MO.lst [fr (g i n)]] ++ [MO.lst (rw_ (n + 1) (g i))]) := by
      have a : (mBlt fList (aCons (mVar 3) aNil)) [x0, x1, x2, some (.ref (rr i)), some (fr (g i n)), x5, x6, x7, x8, x9, x10] M = .ok (.ref M.length) (M ++ [MO.lst (rw_ n (g i))]) := by
        simp [mVar_z, mVar_s, e1]
      have b : (mLst (aCons (mVar 4) aNil)) [x0, x1, x2, some (.ref (rr i)), some (fr (g i n)), x5, x6, x7, x8, x9, x10] (M ++ [MO.lst (rw_ n (g i))]) = .ok (.ref (M ++ [MO.lst (rw_ n (g i))]).length) (M ++ [MO.lst (rw_ n (g i))] ++ [MO.lst [fr (g i n)]]) := rfl
      rw [mBin_eq, a, Res.bind_ok, b, Res.bind_ok, e2]
    generalize hM1 : M ++ [MO.lst (rw_ n (g i))] ++ [MO.lst [fr (g i n)]] = Mx at ev
    have hMx : M0 <+: Mx := by rw [← hM1]; exact pre_app (pre_app hM _) _
    have hMMx : M <+: Mx := by rw [← hM1]; exact pre_app (pre_app (List.prefix_refl _) _) _
    obtain ⟨hn1, hd1⟩ := List.nodup_cons.mp hd
    obtain ⟨q, M', e3, p3, h3⟩ := init_go W hn vs_ (Mx ++ [MO.lst (rw_ (n + 1) (g i))]) (fun j hj => hi j (List.mem_cons_of_mem _ hj)) hd1 (pre_app hMx _)
    refine ⟨fun j => if j = i then Mx.length else q j, M', ?_, (pre_app hMMx _).trans p3, fun j hj => ?_⟩
    · rw [List.map_cons]
      unfold lcGo
      rw [if_pos hc]
      show ((tYesD _ M).nox.bind _) = _
      show (((mBin fAdd (mBlt fList (aCons (mVar 3) aNil)) (mLst (aCons (mVar 4) aNil))) [x0, x1, x2, some (.ref (rr i)), some (fr (g i n)), x5, x6, x7, x8, x9, x10] M).nox.bind _) = _
      rw [ev]
      show ((lcGo _ _ _ _ _ (vs_.map fun i => .tup [.ref (rr i), fr (g i n)]) _).bind _) = _
      rw [e3]
      show Res.ok (D.ref Mx.length :: vs_.map fun i => D.ref (q i)) M' = _
      rw [List.map_cons]
      have ec : (vs_.map fun i => D.ref (q i)) = vs_.map fun j => D.ref (if j = i then Mx.length else q j) := List.map_congr_left fun j hj => by
        have hji : ¬ j = i := fun z => hn1 (by rw [← z]; exact hj)
        rw [if_neg hji]
      rw [ec]
      show _ = Res.ok (D.ref (if i = i then Mx.length else q i) :: _) M'
      rw [if_pos rfl]
    · by_cases e : j = i
      · subst e
        simp only [if_true]
        exact ⟨pre_get p3 get_end, hMx.length_le⟩
      · rcases List.mem_cons.mp hj with z | hj
        · exact absurd z e
        · simp only [e, if_false]
          exact h3 j hj
def sF : Nat → Nat
  | 0 => 5
  | p + 1 => 4 * sF p + 1
theorem sF_le {p : Nat} (h : p ≤ 3) : sF p ≤ 341 := by
  match p, h with
  | 0, _ => decide
  | 1, _ => decide
  | 2, _ => decide
  | 3, _ => decide
theorem fA_none {n : Nat} {g : Gd} {p : Nat} (h : fA n p g = none) : ∀ m, fA n (p + m) g = none
  | 0 => h
  | m + 1 => by
    show (fA n (p + m) g).bind _ = none
    rw [fA_none h m]
    rfl
theorem fB_none {n : Nat} {g : Gd} {p : Nat} (h : fB n p g = none) : ∀ m, fB n (p + m) g = none
  | 0 => h
  | m + 1 => by
    show (fB n (p + m) g).bind _ = none
    rw [fB_none h m]
    rfl
theorem tup_ref {M : MH} {n : Nat} {l : List D} (h : M[n]? = some (MO.lst l)) : fTuple [.ref n] M = .ok (.tup l) M := by
  show (match itemsOf M (.ref n) with | some l => Res.ok (D.tup l) M | none => .err) = _
  rw [itemsOf_ref h]
theorem rw_lim {k n : Nat} {f : Nat → Rat} : D.lims k (rw_ n f) = true := lims_of fun x hx => by
  obtain ⟨j, _, rfl⟩ := List.mem_map.mp hx
  rfl
/-- the one, whole -/
theorem solved_ok {M0 : MH} {R n : Nat} {rr : Nat → Nat} {g0 : Gd} (W : Rws M0 R n rr g0) (hn : n ≤ 3) (sz : ∀ i, i < n → ∀ j, j ≤ n → SzQ 5 (g0 i j)) :
    f_solved [.ref R] M0 = .ok (match fA n n g0 with | none => .non | some g => .tup (rw_ n fun i => g i n)) M0 ∧ ∀ g, fA n n g0 = some g → ∀ i, i < n → ∀ j, j ≤ n → SzQ 341 (g i j) := by
  obtain ⟨q, M1, e1, p1, h1⟩ := init_go (x0 := some (.ref R)) (x1 := none) (x2 := none) (y3 := none) (y4 := none) (x5 := none) (x6 := none) (x7 := none) (x8 := none) (x9 := none) (x10 := none) W (by omega) (List.range n) M0 (fun i hi => List.mem_range.mp hi) List.nodup_range (List.prefix_refl _)
  have sq : sSeqOf (.ref R) M0 = .ok ⟨(List.range n).map fun i => .tup [.ref (rr i), fr (g0 i n)], [(R, (List.range n).map fun i => .tup [.ref (rr i), fr (g0 i n)])]⟩ M0 := by
    show (match M0[R]? with | some (.lst l) => Res.ok (Src.mk l [(R, l)]) M0 | _ => .err) = _
    rw [W.at_]
  have lo := K13.lc_ok (vs := [3, 4]) (sm := sSq (mVar 0)) (ρ := [some (.ref R), none, none, none, none, none, none, none, none, none, none]) (M := M0) (M1 := M0) (by simp [mVar_z, sq]) (by simp; omega) e1
  have len : fLen [.ref R] (M1 ++ [MO.lst ((List.range n).map fun i => D.ref (q i))]) = .ok (.int n) (M1 ++ [MO.lst ((List.range n).map fun i => D.ref (q i))]) := by
    rw [fLen_ref (get_app (pre_get p1 W.at_))]
    simp
  have G : Grd M0 (M1 ++ [MO.lst ((List.range n).map fun i => D.ref (q i))]) M1.length n q g0 := ⟨pre_app p1 _, p1.length_le, get_end, fun i hi => ⟨get_app (h1 i (List.mem_range.mpr hi)).1, by have := get_lt (h1 i (List.mem_range.mpr hi)).1; omega⟩⟩
  have main := for_rng (i := 5) (n := n) (b := bodyA)
    (P := fun p ρ M => ∃ z3 z4 z5 z6 z7 z8 z9 z10 q g, ρ = [some (.ref R), some (.ref M1.length), some (.int n), z3, z4, z5, z6, z7, z8, z9, z10] ∧ Grd M0 M M1.length n q g ∧ fA n p g0 = some g ∧ ∀ i, i < n → ∀ j, j ≤ n → SzQ (sF p) (g i j))
    (R := fun d M => d = .non ∧ M0 <+: M ∧ fA n n g0 = none)
    (fun p ρ M hp ⟨z3, z4, z5, z6, z7, z8, z9, z10, q, g, hρ, G, hf, hs⟩ => by
      subst hρ
      have s9 := sF_le (p := p) (by omega)
      rcases a_step (x0 := some (.ref R)) (x3 := z3) (x4 := z4) (x6 := z6) (x7 := z7) (x8 := z8) (x9 := z9) (x10 := z10) G (by omega) hp (by omega : sF p ≤ 900) hs with ⟨h1, M', h2, h3⟩ | ⟨a, y4, y6, y7, y8, y9, y10, q', M', h1, h2, h3⟩
      · refine .inr ⟨_, M', h3, rfl, h2, ?_⟩
        have z : fA n (p + 1) g0 = none := by simp [fA, hf, h1]
        have := fA_none z (n - (p + 1))
        rwa [show p + 1 + (n - (p + 1)) = n by omega] at this
      · obtain ⟨a1, a2, a3⟩ := piv_some h1
        refine .inl ⟨_, M', h2, z3, y4, _, y6, y7, y8, y9, y10, q', _, rfl, h3, by simp [fA, hf, h1], elA_sz (swp_sz hs hp a2) hp ?_⟩
        unfold swp
        rw [if_pos rfl]
        exact a3)
    n 0 [some (.ref R), some (.ref M1.length), some (.int n), none, none, none, none, none, none, none, none] _ (by omega) ⟨none, none, none, none, none, none, none, none, q, g0, rfl, G, rfl, sz⟩
  have s1 : (sAsg (uT 2 (uCons (uN 1) (uCons (uN 2) uNil))) (mTup (aCons (mLc [3, 4] (sSq (mVar 0)) (gT 2 (gConsD (gN 3) (gConsD (gN 4) gNilD))) tYesD (mBin fAdd (mBlt fList (aCons (mVar 3) aNil)) (mLst (aCons (mVar 4) aNil)))) (aCons (mBlt fLen (aCons (mVar 0) aNil)) aNil)))) [some (.ref R), none, none, none, none, none, none, none, none, none, none] M0 =
      .nx [some (.ref R), some (.ref M1.length), some (.int n), none, none, none, none, none, none, none, none] (M1 ++ [MO.lst ((List.range n).map fun i => D.ref (q i))]) := by
    rw [sAsg_eq, mTup_eq, aCons_eq, lo]
    simp [mVar_z, len]
  have src : sArg fRng1 (aCons (mVar 2) aNil) [some (.ref R), some (.ref M1.length), some (.int n), none, none, none, none, none, none, none, none] (M1 ++ [MO.lst ((List.range n).map fun i => D.ref (q i))]) = .ok ⟨(List.range' 0 n).map fun k : Nat => D.int (k : Int), []⟩ (M1 ++ [MO.lst ((List.range n).map fun i => D.ref (q i))]) := by simp [mVar_z, mVar_s, rng1_src (by omega : n ≤ 1000)]
  rcases main with ⟨ρ', M', e, z3, z4, z5, z6, z7, z8, z9, z10, q', g, hρ, G', hf, hs⟩ | ⟨d, M', e, rfl, hpre, hf⟩
  · subst hρ
    rw [hf]
    refine ⟨?_, fun g' hg i hi j hj => by cases hg; exact (hs i hi j hj).mono (sF_le hn)⟩
    unfold f_solved
    have lc := lc_mi (g := gN 3) (te := mBin fIx (mVar 3) (mVar 2)) (chk := [(M1.length, (List.range n).map fun i => D.ref (q' i))]) (ρ := wipeD [some (.ref R), some (.ref M1.length), some (.int n), z3, z4, z5, z6, z7, z8, z9, z10] [3]) (M := M')
      (ρx := fun i => [some (.ref R), some (.ref M1.length), some (.int n), some (.ref (q' i)), z4, z5, z6, z7, z8, z9, z10]) (it := fun i => D.ref (q' i)) (f := fun i => fr (g i n)) (by simp [chkOk, G'.left]) (l := List.range n) fun i hi => ⟨rfl, by
        simp [mVar_z, mVar_s, G'.ix2 (List.mem_range.mp hi) (Nat.le_refl n)]⟩
    have sq2 : sSeqOf (.ref M1.length) M' = .ok ⟨(List.range n).map fun i => D.ref (q' i), [(M1.length, (List.range n).map fun i => D.ref (q' i))]⟩ M' := by
      show (match M'[M1.length]? with | some (.lst l) => Res.ok (Src.mk l [(M1.length, l)]) M' | _ => .err) = _
      rw [G'.left]
    have lo2 := K13.lc_ok (vs := [3]) (sm := sSq (mVar 1)) (ρ := [some (.ref R), some (.ref M1.length), some (.int n), z3, z4, z5, z6, z7, z8, z9, z10]) (M := M') (M1 := M') (by simp [mVar_z, mVar_s, sq2]) (by simp; omega) lc
    refine (run_rt (np := 1) (d := .tup (rw_ n fun i => g i n)) (M' := M' ++ [MO.lst (rw_ n fun i => g i n)]) rfl ?_).trans (gcRet_keep _ _ _ rw_lim (pre_app G'.pre _))
    have sf : (sFor (sArg fRng1 (aCons (mVar 2) aNil)) (gN 5) bodyA) [some (.ref R), some (.ref M1.length), some (.int n), none, none, none, none, none, none, none, none] (M1 ++ [MO.lst ((List.range n).map fun i => D.ref (q i))]) = .nx [some (.ref R), some (.ref M1.length), some (.int n), z3, z4, z5, z6, z7, z8, z9, z10] M' := by
      rw [sFor_eq, src]
      exact e
    refine seq_step s1 (seq_step sf (ret_step ?_))
    · rw [mBlt_eq, aCons_eq, lo2]
      simp only [Res.bind_ok, aNil_eq]
      exact tup_ref get_end
  · rw [hf]
    refine ⟨?_, fun g hg => by cases hg⟩
    unfold f_solved
    refine (run_rt (np := 1) (d := .non) (M' := M') rfl ?_).trans (gcRet_keep _ _ _ rfl hpre)
    refine seq_step s1 (seq_ret ((sFor_eq _ _ _ _ _).trans ?_))
    rw [src]
    exact e
end K13
namespace K13
open PySem PySem.Spec PyProof.Rows L2 Mp
/-- the other, whole -/
theorem law_solved_ok {M0 : MH} {R n : Nat} {rr : Nat → Nat} {g0 : Gd} (W : Rws M0 R n rr g0) (hn : n ≤ 3) (sz : ∀ i, i < n → ∀ j, j ≤ n → SzQ 5 (g0 i j)) (nz : ∀ h, fB n n g0 = some h → ∀ i, i < n → h i i ≠ 0) :
    f_law_solved [.ref R] M0 = .ok (match fB n n g0 with | none => .non | some h => .tup (rw_ n fun i => h i n / h i i)) M0 := by
  obtain ⟨q, M1, e1, p1, h1⟩ := init_go (x0 := some (.ref R)) (x1 := some (.int n)) (x2 := none) (y3 := none) (y4 := none) (x5 := none) (x6 := none) (x7 := none) (x8 := none) (x9 := none) (x10 := none) W (by omega) (List.range n) M0 (fun i hi => List.mem_range.mp hi) List.nodup_range (List.prefix_refl _)
  have sq : sSeqOf (.ref R) M0 = .ok ⟨(List.range n).map fun i => .tup [.ref (rr i), fr (g0 i n)], [(R, (List.range n).map fun i => .tup [.ref (rr i), fr (g0 i n)])]⟩ M0 := by
    show (match M0[R]? with | some (.lst l) => Res.ok (Src.mk l [(R, l)]) M0 | _ => .err) = _
    rw [W.at_]
  have lo := K13.lc_ok (vs := [3, 4]) (sm := sSq (mVar 0)) (ρ := [some (.ref R), some (.int n), none, none, none, none, none, none, none, none, none]) (M := M0) (M1 := M0) (by simp [mVar_z, sq]) (by simp; omega) e1
  have len : fLen [.ref R] M0 = .ok (.int n) M0 := by
    rw [fLen_ref W.at_]
    simp
  have G : Grd M0 (M1 ++ [MO.lst ((List.range n).map fun i => D.ref (q i))]) M1.length n q g0 := ⟨pre_app p1 _, p1.length_le, get_end, fun i hi => ⟨get_app (h1 i (List.mem_range.mpr hi)).1, by have := get_lt (h1 i (List.mem_range.mpr hi)).1; omega⟩⟩
  have main := for_rng (i := 5) (n := n) (b := bodyB)
    (P := fun p ρ M => ∃ z3 z4 z5 z6 z7 z8 z9 z10 q g, ρ = [some (.ref R), some (.int n), some (.ref M1.length), z3, z4, z5, z6, z7, z8, z9, z10] ∧ Grd M0 M M1.length n q g ∧ fB n p g0 = some g ∧ ∀ i, i < n → ∀ j, j ≤ n → SzQ (sF p) (g i j))
    (R := fun d M => d = .non ∧ M0 <+: M ∧ fB n n g0 = none)
    (fun p ρ M hp ⟨z3, z4, z5, z6, z7, z8, z9, z10, q, g, hρ, G, hf, hs⟩ => by
      subst hρ
      have s9 := sF_le (p := p) (by omega)
      rcases b_step (x0 := some (.ref R)) (x3 := z3) (x4 := z4) (x6 := z6) (x7 := z7) (x8 := z8) (x9 := z9) (x10 := z10) G (by omega) hp (by omega : sF p ≤ 900) hs with ⟨h1, M', h2, h3⟩ | ⟨a, y6, y7, y8, y9, y10, q', M', h1, h2, h3⟩
      · refine .inr ⟨_, M', h3, rfl, h2, ?_⟩
        have z : fB n (p + 1) g0 = none := by simp [fB, hf, h1]
        have := fB_none z (n - (p + 1))
        rwa [show p + 1 + (n - (p + 1)) = n by omega] at this
      · obtain ⟨a1, a2, a3⟩ := piv_some h1
        refine .inl ⟨_, M', h2, z3, z4, _, y6, y7, y8, y9, y10, q', _, rfl, h3, by simp [fB, hf, h1], elB_sz (swp_sz hs hp a2) hp ?_⟩
        unfold swp
        rw [if_pos rfl]
        exact a3)
    n 0 [some (.ref R), some (.int n), some (.ref M1.length), none, none, none, none, none, none, none, none] _ (by omega) ⟨none, none, none, none, none, none, none, none, q, g0, rfl, G, rfl, sz⟩
  have s0 : (sSet 1 (mBlt fLen (aCons (mVar 0) aNil))) [some (.ref R), none, none, none, none, none, none, none, none, none, none] M0 = .nx [some (.ref R), some (.int n), none, none, none, none, none, none, none, none, none] M0 := by
    simp [mVar_z, len]
  have s1 : (sSet 2 (mLc [3, 4] (sSq (mVar 0)) (gT 2 (gConsD (gN 3) (gConsD (gN 4) gNilD))) tYesD (mBin fAdd (mBlt fList (aCons (mVar 3) aNil)) (mLst (aCons (mVar 4) aNil))))) [some (.ref R), some (.int n), none, none, none, none, none, none, none, none, none] M0 =
      .nx [some (.ref R), some (.int n), some (.ref M1.length), none, none, none, none, none, none, none, none] (M1 ++ [MO.lst ((List.range n).map fun i => D.ref (q i))]) := set_step lo
  have src : sArg fRng1 (aCons (mVar 1) aNil) [some (.ref R), some (.int n), some (.ref M1.length), none, none, none, none, none, none, none, none] (M1 ++ [MO.lst ((List.range n).map fun i => D.ref (q i))]) = .ok ⟨(List.range' 0 n).map fun k : Nat => D.int (k : Int), []⟩ (M1 ++ [MO.lst ((List.range n).map fun i => D.ref (q i))]) := by simp [mVar_z, mVar_s, rng1_src (by omega : n ≤ 1000)]
  rcases main with ⟨ρ', M', e, z3, z4, z5, z6, z7, z8, z9, z10, q', g, hρ, G', hf, hs⟩ | ⟨d, M', e, rfl, hpre, hf⟩
  · subst hρ
    have nz' := nz g hf
    rw [hf]
    have sle := sF_le (p := n) hn
    unfold f_law_solved
    have lc := lc_mi (g := gN 7) (te := mCall 2 f_law_fr (aCons (mBin fMul (mBin fIx (mBin fIx (mBin fIx (mVar 2) (mVar 7)) (mVar 1)) (mC (.int 0))) (mBin fIx (mBin fIx (mBin fIx (mVar 2) (mVar 7)) (mVar 7)) (mC (.int 1)))) (aCons (mBin fMul (mBin fIx (mBin fIx (mBin fIx (mVar 2) (mVar 7)) (mVar 1)) (mC (.int 1))) (mBin fIx (mBin fIx (mBin fIx (mVar 2) (mVar 7)) (mVar 7)) (mC (.int 0)))) aNil)))
      (chk := []) (ρ := wipeD [some (.ref R), some (.int n), some (.ref M1.length), z3, z4, z5, z6, z7, z8, z9, z10] [7]) (M := M')
      (ρx := fun i : Nat => [some (.ref R), some (.int n), some (.ref M1.length), z3, z4, z5, z6, some (.int (i : Int)), z8, z9, z10]) (it := fun i : Nat => D.int (i : Int)) (f := fun i => fr (g i n / g i i)) rfl (l := List.range' 0 n) fun i hi => ⟨rfl, by
        have hin : i < n := by have := List.mem_range'_1.mp hi; omega
        have a1 := (hs i hin n (Nat.le_refl _)).mono (by omega : sF n ≤ 4000)
        have a2 := (hs i hin i (by omega)).mono (by omega : sF n ≤ 4000)
        have fq := law_quot_ok (M := M') a1 a2 (nz' i hin)
        have mo1 := mulOk_by (a1.1.mono (by decide : 4000 ≤ 8000)) (a2.2.mono (by decide : 4000 ≤ 8000))
        have mo2 := mulOk_by (a1.2.mono (by decide : 4000 ≤ 8000)) (a2.1.mono (by decide : 4000 ≤ 8000))
        simp [mVar_z, mVar_s, G'.ix1 hin, G'.ix2 hin (Nat.le_refl n), G'.ix2 hin (by omega : i ≤ n), mo1, mo2, fq]⟩
    have lo2 := K13.lc_ok (vs := [7]) (sm := sArg fRng1 (aCons (mVar 1) aNil)) (ρ := [some (.ref R), some (.int n), some (.ref M1.length), z3, z4, z5, z6, z7, z8, z9, z10]) (M := M') (M1 := M') (by simp [mVar_z, mVar_s, rng1_src (by omega : n ≤ 1000)]) (by simp; omega) lc
    rw [show ((List.range' 0 n).map fun i => fr (g i n / g i i)) = rw_ n fun i => g i n / g i i by rw [← List.range_eq_range']; rfl] at lo2
    refine (run_rt (np := 1) (d := .tup (rw_ n fun i => g i n / g i i)) (M' := M' ++ [MO.lst (rw_ n fun i => g i n / g i i)]) rfl ?_).trans (gcRet_keep _ _ _ rw_lim (pre_app G'.pre _))
    have sf : (sFor (sArg fRng1 (aCons (mVar 1) aNil)) (gN 5) bodyB) [some (.ref R), some (.int n), some (.ref M1.length), none, none, none, none, none, none, none, none] (M1 ++ [MO.lst ((List.range n).map fun i => D.ref (q i))]) = .nx [some (.ref R), some (.int n), some (.ref M1.length), z3, z4, z5, z6, z7, z8, z9, z10] M' := by
      rw [sFor_eq, src]
      exact e
    refine seq_step s0 (seq_step s1 (seq_step sf (ret_step ?_)))
    rw [mBlt_eq, aCons_eq, lo2]
    simp only [Res.bind_ok, aNil_eq]
    exact tup_ref get_end
  · rw [hf]
    unfold f_law_solved
    refine (run_rt (np := 1) (d := .non) (M' := M') rfl ?_).trans (gcRet_keep _ _ _ rfl hpre)
    refine seq_step s0 (seq_step s1 (seq_ret ((sFor_eq _ _ _ _ _).trans ?_)))
    rw [src]
    exact e
/-- both tell the same, and what they tell solves the rows -/
theorem solve_both {M0 : MH} {R n : Nat} {rr : Nat → Nat} {g0 : Gd} (W : Rws M0 R n rr g0) (hn : n ≤ 3) (sz : ∀ i, i < n → ∀ j, j ≤ n → SzQ 5 (g0 i j)) :
    (f_solved [.ref R] M0 = .ok .non M0 ∧ f_law_solved [.ref R] M0 = .ok .non M0) ∨
    ∃ x : Nat → Rat, f_solved [.ref R] M0 = .ok (.tup (rw_ n x)) M0 ∧ f_law_solved [.ref R] M0 = .ok (.tup (rw_ n x)) M0 ∧ (∀ i, i < n → SzQ 341 (x i)) ∧ ∀ i, i < n → sm n (fun j => g0 i j * x j) = g0 i n := by
  obtain ⟨eA, sA⟩ := solved_ok W hn sz
  rcases both (n := n) g0 n (Nat.le_refl _) with ⟨h1, h2⟩ | ⟨g, h, h1, h2, I⟩
  · have eB := law_solved_ok W hn sz (fun h z => by rw [h2] at z; cases z)
    rw [h1] at eA
    rw [h2] at eB
    exact .inl ⟨eA, eB⟩
  · obtain ⟨j1, j2⟩ := inv_end I
    have eB := law_solved_ok W hn sz (fun h' z => by rw [h2] at z; cases z; exact fun i hi => (I.led i hi).1)
    have sA' := sA g h1
    rw [h1] at eA
    rw [h2] at eB
    refine .inr ⟨fun i => g i n, eA, ?_, fun i hi => sA' i hi n (Nat.le_refl _), j2⟩
    have e : rw_ n (fun i => h i n / h i i) = rw_ n (fun i => g i n) := by
      unfold rw_
      exact List.map_congr_left fun i hi => by show fr (h i n / h i i) = fr (g i n); rw [j1 i (List.mem_range.mp hi)]
    rw [eB, ← e]
end K13
namespace K13
open PySem PySem.Spec PyProof.Rows L2 Mp
/-! ### printed and held alike -/
structure Nice (b n : Nat) (p : PyData) : Prop where
  show_ : p.showable = true
  short : p.leavesShort 1921 = true
  lay : p.canLay0 = true
  bulk : p.bulk ≤ b
  deep : p.depth ≤ n
theorem nice_int {i : Int} (h : Sz 1900 i) : Nice 0 0 (.int i) := by
  have hl := log2_lt h.lt (by decide)
  refine ⟨decide_eq_true (by omega), decide_eq_true ?_, rfl, Nat.le_refl _, Nat.le_refl _⟩
  have e := int_text_length_le10 (k := 1900) (by decide) (show i.natAbs < 10 ^ 1900 from Nat.lt_of_lt_of_le h.lt (Nat.pow_le_pow_left (by decide) _))
  show (Str.ofString (toString i)).length ≤ 1921
  rw [PySem.ofString_length]
  omega
theorem nice_bool (b : Bool) : Nice 0 0 (.bool b) := ⟨rfl, rfl, rfl, Nat.le_refl _, Nat.le_refl _⟩
theorem Nice.mono {b n b' n' : Nat} {p : PyData} (h : Nice b n p) (h1 : b ≤ b') (h2 : n ≤ n') : Nice b' n' p := ⟨h.show_, h.short, h.lay, Nat.le_trans h.bulk h1, Nat.le_trans h.deep h2⟩
theorem nice_all {b n : Nat} : ∀ {ps : List PyData}, (∀ p ∈ ps, Nice b n p) → PyData.showableAll ps = true ∧ PyData.leavesShortAll 1921 ps = true ∧ PyData.canLayAll0 ps = true ∧ PyData.bulkAll ps ≤ ps.length * (b + 1) ∧ PyData.depthAll ps ≤ n
  | [], _ => ⟨rfl, rfl, rfl, Nat.zero_le _, Nat.zero_le _⟩
  | p :: ps, h => by
    have h1 := h p List.mem_cons_self
    obtain ⟨i1, i2, i3, i4, i5⟩ := nice_all (ps := ps) fun q hq => h q (List.mem_cons_of_mem _ hq)
    have b1 := h1.bulk
    have d1 := h1.deep
    refine ⟨by simp [PyData.showableAll, h1.show_, i1], by simp [PyData.leavesShortAll, h1.short, i2], by simp [PyData.canLayAll0, h1.lay, i3], ?_, ?_⟩
    · simp only [PyData.bulkAll, List.length_cons, Nat.add_mul, Nat.one_mul]
      omega
    · simp only [PyData.depthAll]
      omega
theorem nice_tuple {b n : Nat} {ps : List PyData} (h : ∀ p ∈ ps, Nice b n p) : Nice (ps.length * (b + 1)) (n + 1) (.tuple ps) := by
  obtain ⟨i1, i2, i3, i4, i5⟩ := nice_all h
  exact ⟨by simpa [PyData.showable] using i1, by simpa [PyData.leavesShort] using i2, by simpa [PyData.canLay0] using i3, by simpa [PyData.bulk] using i4, by simp only [PyData.depth]; omega⟩
theorem nice_list {b n : Nat} {ps : List PyData} (h : ∀ p ∈ ps, Nice b n p) : Nice (ps.length * (b + 1)) (n + 1) (.list ps) := by
  obtain ⟨i1, i2, i3, i4, i5⟩ := nice_all h
  exact ⟨by simpa [PyData.showable] using i1, by simpa [PyData.leavesShort] using i2, by simpa [PyData.canLay0] using i3, by simpa [PyData.bulk] using i4, by simp only [PyData.depth]; omega⟩
def pfr (q : Rat) : PyData := .tuple [.int q.num, .int q.den]
theorem nice_fr {q : Rat} (h : SzQ 1900 q) : Nice 2 1 (pfr q) := nice_tuple (b := 0) (n := 0) (ps := [.int q.num, .int q.den]) fun p hp => by
  simp only [List.mem_cons, List.not_mem_nil, or_false] at hp
  rcases hp with rfl | rfl
  · exact nice_int h.1
  · exact nice_int h.2
theorem Nice.shaped {b n : Nat} {p : PyData} (h : Nice b n p) (hn : n ≤ 64) : SeqAt.shaped p = true := by
  unfold SeqAt.shaped
  have := h.deep
  rw [h.lay, decide_eq_true (by omega : p.depth ≤ 64)]
  rfl
theorem Nice.repr {b n : Nat} {p : PyData} (h : Nice b n p) (hb : b ≤ 8000) (hn : n ≤ 64) : reprOk p = true := by
  unfold reprOk
  have := h.bulk
  rw [h.show_, h.short, h.shaped hn, decide_eq_true (by show _ ≤ 16777216; omega : 1923 * p.bulk + 1921 ≤ LINE)]
  rfl
mutual
theorem eqv_self : ∀ p : PyData, p.canLay0 = true → PyData.eqv p p = true
  | .none, _ => rfl
  | .bool b, _ => by simp [PyData.eqv]
  | .int i, _ => by simp [PyData.eqv]
  | .str s, _ => by simp [PyData.eqv]
  | .list xs, h => by
    simp only [PyData.eqv]
    exact eqvAll_self xs (by simpa [PyData.canLay0] using h)
  | .tuple xs, h => by
    simp only [PyData.eqv]
    exact eqvAll_self xs (by simpa [PyData.canLay0] using h)
  | .dict kvs, h => by simp [PyData.canLay0] at h
theorem eqvAll_self : ∀ ps : List PyData, PyData.canLayAll0 ps = true → PyData.eqvAll ps ps = true
  | [], _ => rfl
  | p :: ps, h => by
    simp only [PyData.canLayAll0, Bool.and_eq_true] at h
    simp only [PyData.eqvAll, eqv_self p h.1, eqvAll_self ps h.2]
    rfl
end
theorem fEq_same {M : MH} {d e : D} {p : PyData} (hd : ∀ s, d ≠ .str s) (h1 : toPy M d = some p) (h2 : toPy M e = some p) (hs : SeqAt.shaped p = true) (neg : Bool) : fEq neg d e M = .ok (.bl (!neg)) M := by
  have e0 : fEq neg d e M = fEq0 neg d e M := by
    cases d with
    | str s => exact absurd rfl (hd s)
    | _ => rfl
  rw [e0]
  unfold fEq0
  rw [h1, h2]
  have pl := eqv_self p (SeqAt.canLay_of_shaped hs)
  show (if (SeqAt.shaped p && SeqAt.shaped p) = true then Res.ok (D.bl (if neg = true then !PyData.eqv p p else PyData.eqv p p)) M else .err) = _
  rw [hs, pl]
  cases neg <;> rfl
theorem alike_ok {M : MH} {d e : D} {p : PyData} {b n : Nat} (hd : ∀ s, d ≠ .str s) (h1 : toPy M d = some p) (h2 : toPy M e = some p) (hp : Nice b n p) (hb : b ≤ 8000) (hn : n ≤ 64) : f_law_alike [d, e] M = .ok (.bl true) M := by
  unfold f_law_alike
  refine run_id rfl (ret_step ?_)
  have r1 : fRepr [d] M = .ok (.str p.shown) M := by
    show (match toPy M d with | some p => if reprOk p = true then Res.ok (D.str p.shown) M else .err | none => .err) = _
    rw [h1]
    show (if reprOk p = true then Res.ok (D.str p.shown) M else .err) = _
    rw [if_pos (hp.repr hb hn)]
  have r2 : fRepr [e] M = .ok (.str p.shown) M := by
    show (match toPy M e with | some p => if reprOk p = true then Res.ok (D.str p.shown) M else .err | none => .err) = _
    rw [h2]
    show (if reprOk p = true then Res.ok (D.str p.shown) M else .err) = _
    rw [if_pos (hp.repr hb hn)]
  have r3 : fEq false (.str p.shown) (.str p.shown) M = .ok (.bl true) M := by
    show Res.ok (D.bl (decide (p.shown = p.shown))) M = _
    rw [decide_eq_true rfl]
  refine and_t (M' := M) ?_ ?_
  · simp [mVar_z, mVar_s, r1, r2, r3]
  · have := fEq_same hd h1 h2 (hp.shaped hn) false
    simpa [mVar_z, mVar_s] using this
theorem py_fr {f : List D → Option (List PyData)} {M : MH} (q : Rat) : toPy0 f M (fr q) = some (pfr q) := by
  simp [fr, pfr, toPy0, toPys0]
theorem py_rw {f : List D → Option (List PyData)} {M : MH} (x : Nat → Rat) (n : Nat) : toPys0 f M (rw_ n x) = some ((List.range n).map fun j => pfr (x j)) := by
  unfold rw_
  induction List.range n with
  | nil => rfl
  | cons j l ih => simp only [List.map_cons, toPys0, py_fr, ih]; rfl
theorem alike_rw {M : MH} {n : Nat} {x : Nat → Rat} (hn : n ≤ 3) (hx : ∀ i, i < n → SzQ 341 (x i)) : f_law_alike [.tup (rw_ n x), .tup (rw_ n x)] M = .ok (.bl true) M := by
  have e : toPy M (.tup (rw_ n x)) = some (.tuple ((List.range n).map fun j => pfr (x j))) := by
    simp only [toPy, toPy0, py_rw]
    rfl
  refine alike_ok (b := 9) (n := 2) (fun s z => by cases z) e e ((nice_tuple (b := 2) (n := 1) fun p hp => ?_).mono (by simp; omega) (Nat.le_refl _)) (by decide) (by decide)
  obtain ⟨j, hj, rfl⟩ := List.mem_map.mp hp
  exact nice_fr ((hx j (List.mem_range.mp hj)).mono (by decide))
theorem alike_non {M : MH} : f_law_alike [.non, .non] M = .ok (.bl true) M :=
  alike_ok (p := .none) (b := 0) (n := 0) (fun s z => by cases z) rfl rfl ⟨rfl, rfl, rfl, Nat.le_refl _, Nat.le_refl _⟩ (by decide) (by decide)
/-! ### sums -/
theorem sum_go {chk : List (Nat × List D)} {x0 x2 : Option D} {M : MH} (hc : chkOk chk M = true) : ∀ (l : List Rat) (acc : Rat) (x2 : Option D) (k : Nat), SzQ k acc → (∀ q ∈ l, SzQ 10 q) → k + 11 * l.length ≤ 4000 → ∃ y2, forGo (gN 2) (sSet 1 (mCall 2 f_plus (aCons (mVar 1) (aCons (mVar 2) aNil)))) chk (l.map fr) [x0, some (fr acc), x2] M = .nx [x0, some (fr (l.foldl (· + ·) acc)), y2] M
  | [], acc, x2, k, _, _, _ => ⟨x2, by
    show (if chkOk chk M = true then SRes.nx _ M else .err) = _
    rw [if_pos hc]
    rfl⟩
  | q :: l, acc, x2, k, hk, hl, hs => by
    have hq := hl q List.mem_cons_self
    simp only [List.length_cons] at hs
    have e1 := plus_ok (M := M) (hk.mono (by omega : k ≤ 4000)) (hq.mono (by decide : 10 ≤ 4000))
    have sz' : SzQ (k + 11) (acc + q) := by
      rw [← add_eq]
      exact sz_divInt (mul_ne (den_ne acc) (den_ne q)) ((hk.1.mul hq.2).add ((hq.1.mul hk.2).mono (by omega))) ((hk.2.mul hq.2).mono (by omega))
    obtain ⟨y2, ih⟩ := sum_go (x0 := x0) (x2 := x2) hc l (acc + q) (some (fr q)) (k + 11) sz' (fun z hz => hl z (List.mem_cons_of_mem _ hz)) (by omega)
    refine ⟨y2, ?_⟩
    rw [List.map_cons]
    show (if chkOk chk M = true then (match gN 2 (fr q) [x0, some (fr acc), x2] with
      | some ρ1 => (match (sSet 1 (mCall 2 f_plus (aCons (mVar 1) (aCons (mVar 2) aNil)))) ρ1 M with
        | .nx ρ2 M2 => forGo (gN 2) (sSet 1 (mCall 2 f_plus (aCons (mVar 1) (aCons (mVar 2) aNil)))) chk (l.map fr) ρ2 M2
        | .ct ρ2 M2 => forGo (gN 2) (sSet 1 (mCall 2 f_plus (aCons (mVar 1) (aCons (mVar 2) aNil)))) chk (l.map fr) ρ2 M2
        | .bk ρ2 M2 => .nx ρ2 M2
        | r => r)
      | none => .err) else .err) = _
    have s : (sSet 1 (mCall 2 f_plus (aCons (mVar 1) (aCons (mVar 2) aNil)))) [x0, some (fr acc), some (fr q)] M = .nx [x0, some (fr (acc + q)), some (fr q)] M := by
      simp [mVar_z, mVar_s, e1]
    rw [if_pos hc]
    show (match (sSet 1 (mCall 2 f_plus (aCons (mVar 1) (aCons (mVar 2) aNil)))) [x0, some (fr acc), some (fr q)] M with
        | .nx ρ2 M2 => forGo (gN 2) (sSet 1 (mCall 2 f_plus (aCons (mVar 1) (aCons (mVar 2) aNil)))) chk (l.map fr) ρ2 M2
        | .ct ρ2 M2 => forGo (gN 2) (sSet 1 (mCall 2 f_plus (aCons (mVar 1) (aCons (mVar 2) aNil)))) chk (l.map fr) ρ2 M2
        | .bk ρ2 M2 => .nx ρ2 M2
        | r => r) = _
    rw [s]
    exact ih
theorem fr_zero : c_NIL = fr 0 := rfl
theorem sz_zero : SzQ 1 0 := ⟨⟨by decide⟩, ⟨by decide⟩⟩
theorem sum_of_ok {M : MH} {i : Nat} {l : List Rat} (h : M[i]? = some (MO.lst (l.map fr))) (hl : ∀ q ∈ l, SzQ 10 q) (hn : l.length ≤ 100) : f_sum_of [.ref i] M = .ok (fr (l.foldl (· + ·) 0)) M := by
  unfold f_sum_of
  obtain ⟨y2, e⟩ := sum_go (chk := [(i, l.map fr)]) (x0 := some (.ref i)) (x2 := none) (M := M) (by simp [chkOk, h]) l 0 none 1 sz_zero hl (by omega)
  have sq : sSeqOf (.ref i) M = .ok ⟨l.map fr, [(i, l.map fr)]⟩ M := by
    show (match M[i]? with | some (.lst l) => Res.ok (Src.mk l [(i, l)]) M | _ => .err) = _
    rw [h]
  refine run_id rfl (seq_step (ρ' := [some (.ref i), some (fr 0), none]) (M' := M) (by simp [fr_zero]) (seq_step (ρ' := [some (.ref i), some (fr (l.foldl (· + ·) 0)), y2]) (M' := M) ?_ ?_))
  · rw [sFor_eq, sSq_eq]
    simp only [mVar_z, Res.bind_ok, sq]
    exact e
  · simp [mVar_z, mVar_s]
theorem sum_nil {M : MH} : f_sum_of [.tup []] M = .ok (fr 0) M := by
  unfold f_sum_of
  refine run_id rfl ?_
  simp [mVar_z, mVar_s, sSeqOf, forGo, chkOk, fr_zero]
end K13
namespace K13
open PySem PySem.Spec PyProof.Rows L2 Mp
/-! ### a lap, one statement after another -/
section
variable {x0 x2 x3 x4 x5 x6 x7 x8 x9 x10 x11 x12 x13 x14 x15 x16 x17 x18 x19 x20 x21 x22 x23 : Option D} {b r : Nat} {M : MH} {x y : Rat} {a c : Int} {due : D}
theorem lap1 (hB : Bag M b r) : ∃ (x y : Rat) (M' : MH), law_s1 [x0, some (.ref b), x2, x3, x4, x5, x6, x7, x8, x9, x10, x11, x12, x13, x14, x15, x16, x17, x18, x19, x20, x21, x22, x23] M = .nx [x0, some (.ref b), x2, some (fr x), some (fr y), x5, x6, x7, x8, x9, x10, x11, x12, x13, x14, x15, x16, x17, x18, x19, x20, x21, x22, x23] M' ∧ SzQ 3 x ∧ SzQ 3 y ∧ Step b r M M' := by
  obtain ⟨x, M1, e1, z1, S1⟩ := small_ok hB
  obtain ⟨y, M2, e2, z2, S2⟩ := small_ok S1.bag
  refine ⟨x, y, M2, ?_, z1, z2, S1.trans S2⟩
  unfold law_s1
  simp [mVar_z, mVar_s, e1, e2]
theorem lap2 (hB : Bag M b r) : ∃ (a c : Int) (M' : MH), law_s2 [x0, some (.ref b), x2, x3, x4, x5, x6, x7, x8, x9, x10, x11, x12, x13, x14, x15, x16, x17, x18, x19, x20, x21, x22, x23] M = .nx [x0, some (.ref b), x2, x3, x4, some (.int a), some (.int c), x7, x8, x9, x10, x11, x12, x13, x14, x15, x16, x17, x18, x19, x20, x21, x22, x23] M' ∧ -(4 : Int) ≤ c ∧ c ≤ 4 ∧ Step b r M M' ∧ Sz 5 a := by
  obtain ⟨v, M1, e1, v0, v1, S1⟩ := take_ok hB (many := 30) (by decide) (by decide)
  obtain ⟨w, M2, e2, w0, w1, S2⟩ := take_ok S1.bag (many := 9) (by decide) (by decide)
  refine ⟨v - 15, w - 4, M2, ?_, by omega, by omega, S1.trans S2, ⟨by omega⟩⟩
  unfold law_s2
  simp [mVar_z, mVar_s, e1, e2]
theorem py_told {f : List D → Option (List PyData)} (q : Rat) : toPy M (.tup [.str "told", fr q]) = some (.tuple [.str "told", pfr q]) := by
  simp [toPy, toPy0, toPys0, py_fr]
theorem shp_told (q : Rat) : SeqAt.shaped (.tuple [.str "told", pfr q]) = true := by
  have h1 : PyData.canLay0 (.str "told") = true := by decide +kernel
  unfold SeqAt.shaped pfr
  simp [PyData.canLay0, PyData.canLayAll0, PyData.depth, PyData.depthAll] at h1 ⊢
  exact h1
theorem neq_told (q : Rat) : fEq true (.tup [.str "told", fr q]) (.tup [.str "told", fr q]) M = .ok (.bl false) M := fEq_same (fun s z => by cases z) (py_told (f := fun _ => none) q) (py_told (f := fun _ => none) q) (shp_told q) true
theorem neq_noth : fEq true (.tup [.str "nothing"]) (.tup [.str "nothing"]) M = .ok (.bl false) M := fEq_same (p := .tuple [.str "nothing"]) (fun s z => by cases z) (by simp [toPy, toPy0, toPys0]) (by simp [toPy, toPy0, toPys0]) (by decide +kernel) true
theorem lap34 (h1 : -(4 : Int) ≤ c) (h2 : c ≤ 4) (ha : Sz 5 a) : ∃ d, law_s3 [x0, some (.ref b), x2, x3, x4, some (.int a), some (.int c), x7, x8, x9, x10, x11, x12, x13, x14, x15, x16, x17, x18, x19, x20, x21, x22, x23] M = .nx [x0, some (.ref b), x2, x3, x4, some (.int a), some (.int c), some d, x8, x9, x10, x11, x12, x13, x14, x15, x16, x17, x18, x19, x20, x21, x22, x23] M ∧ law_s4 [x0, some (.ref b), x2, x3, x4, some (.int a), some (.int c), some d, x8, x9, x10, x11, x12, x13, x14, x15, x16, x17, x18, x19, x20, x21, x22, x23] M = .nx [x0, some (.ref b), x2, x3, x4, some (.int a), some (.int c), some d, x8, x9, x10, x11, x12, x13, x14, x15, x16, x17, x18, x19, x20, x21, x22, x23] M := by
  by_cases hc : c = 0
  · subst hc
    refine ⟨.tup [.str "nothing"], ?_, ?_⟩
    · unfold law_s3
      simp [mVar_z, mVar_s]
    · unfold law_s4
      have m : mCall 2 f_made (aCons (mVar 5) (aCons (mVar 6) aNil)) [x0, some (.ref b), x2, x3, x4, some (.int a), some (.int 0), some (.tup [.str "nothing"]), x8, x9, x10, x11, x12, x13, x14, x15, x16, x17, x18, x19, x20, x21, x22, x23] M = .exc "Nothing" M := by
        simp [mVar_z, mVar_s, made_zero]
      have t : mThunk (okTup "told") (exTup "Nothing" "nothing") (mCall 2 f_made (aCons (mVar 5) (aCons (mVar 6) aNil))) [x0, some (.ref b), x2, x3, x4, some (.int a), some (.int 0), some (.tup [.str "nothing"]), x8, x9, x10, x11, x12, x13, x14, x15, x16, x17, x18, x19, x20, x21, x22, x23] M = .ok (.tup [.str "nothing"]) M := by
        unfold mThunk
        rw [m]
        rfl
      rw [sIf_eq, tB1_eq, mBin_eq, t]
      simp [mVar_z, mVar_s, neq_noth]
  · have sc : Sz 8000 c := (show Sz 3 c from ⟨by omega⟩).mono (by decide)
    have e1 := law_fr_ok (a := a) (M := M) hc sc
    have e2 := made_ok (a := a) (M := M) hc sc
    refine ⟨.tup [.str "told", fr (Rat.divInt a c)], ?_, ?_⟩
    · unfold law_s3
      simp [mVar_z, mVar_s, hc, e1]
    · unfold law_s4
      have m : mCall 2 f_made (aCons (mVar 5) (aCons (mVar 6) aNil)) [x0, some (.ref b), x2, x3, x4, some (.int a), some (.int c), some (.tup [.str "told", fr (Rat.divInt a c)]), x8, x9, x10, x11, x12, x13, x14, x15, x16, x17, x18, x19, x20, x21, x22, x23] M = .ok (fr (Rat.divInt a c)) M := by
        simp [mVar_z, mVar_s, e2]
      have t : mThunk (okTup "told") (exTup "Nothing" "nothing") (mCall 2 f_made (aCons (mVar 5) (aCons (mVar 6) aNil))) [x0, some (.ref b), x2, x3, x4, some (.int a), some (.int c), some (.tup [.str "told", fr (Rat.divInt a c)]), x8, x9, x10, x11, x12, x13, x14, x15, x16, x17, x18, x19, x20, x21, x22, x23] M = .ok (.tup [.str "told", fr (Rat.divInt a c)]) M := by
        unfold mThunk
        rw [m]
        rfl
      rw [sIf_eq, tB1_eq, mBin_eq, t]
      simp [mVar_z, mVar_s, neq_told]
theorem lap5 (hx : SzQ 3 x) (hy : SzQ 3 y) : ∃ d, law_s5 [x0, some (.ref b), x2, some (fr x), some (fr y), x5, x6, x7, x8, x9, x10, x11, x12, x13, x14, x15, x16, x17, x18, x19, x20, x21, x22, x23] M = .nx [x0, some (.ref b), x2, some (fr x), some (fr y), x5, x6, x7, some d, x9, x10, x11, x12, x13, x14, x15, x16, x17, x18, x19, x20, x21, x22, x23] M ∧ ∀ (M2 : MH) (x9 : Option D), law_s8 [x0, some (.ref b), x2, some (fr x), some (fr y), x5, x6, x7, some d, x9, x10, x11, x12, x13, x14, x15, x16, x17, x18, x19, x20, x21, x22, x23] M2 = .nx [x0, some (.ref b), x2, some (fr x), some (fr y), x5, x6, x7, some d, x9, x10, x11, x12, x13, x14, x15, x16, x17, x18, x19, x20, x21, x22, x23] M2 := by
  by_cases hc : y = 0
  · subst hc
    refine ⟨.tup [.str "nothing"], ?_, fun M2 x9 => ?_⟩
    · unfold law_s5
      simp [mVar_z, mVar_s]
    · unfold law_s8
      have m : mCall 2 f_over_by (aCons (mVar 3) (aCons (mVar 4) aNil)) [x0, some (.ref b), x2, some (fr x), some (fr 0), x5, x6, x7, some (.tup [.str "nothing"]), x9, x10, x11, x12, x13, x14, x15, x16, x17, x18, x19, x20, x21, x22, x23] M2 = .exc "Nothing" M2 := by
        simp [mVar_z, mVar_s, over_zero (hx.mono (by decide : 3 ≤ 4000))]
      have t : mThunk (okTup "told") (exTup "Nothing" "nothing") (mCall 2 f_over_by (aCons (mVar 3) (aCons (mVar 4) aNil))) [x0, some (.ref b), x2, some (fr x), some (fr 0), x5, x6, x7, some (.tup [.str "nothing"]), x9, x10, x11, x12, x13, x14, x15, x16, x17, x18, x19, x20, x21, x22, x23] M2 = .ok (.tup [.str "nothing"]) M2 := by
        unfold mThunk
        rw [m]
        rfl
      rw [sIf_eq, tB1_eq, mBin_eq, t]
      simp [mVar_z, mVar_s, neq_noth]
  · have hx' := hx.mono (by decide : 3 ≤ 4000)
    have hy' := hy.mono (by decide : 3 ≤ 4000)
    have hn : ¬ y.num = 0 := fun z => hc (Rat.num_eq_zero.mp z)
    have e1 := law_quot_ok (M := M) hx' hy' hc
    have mo1 := mulOk_by (hx'.1.mono (by decide : 4000 ≤ 8000)) (hy'.2.mono (by decide : 4000 ≤ 8000))
    have mo2 := mulOk_by (hx'.2.mono (by decide : 4000 ≤ 8000)) (hy'.1.mono (by decide : 4000 ≤ 8000))
    refine ⟨.tup [.str "told", fr (x / y)], ?_, fun M2 x9 => ?_⟩
    · unfold law_s5
      simp [mVar_z, mVar_s, hn, mo1, mo2, e1]
    · unfold law_s8
      have m : mCall 2 f_over_by (aCons (mVar 3) (aCons (mVar 4) aNil)) [x0, some (.ref b), x2, some (fr x), some (fr y), x5, x6, x7, some (.tup [.str "told", fr (x / y)]), x9, x10, x11, x12, x13, x14, x15, x16, x17, x18, x19, x20, x21, x22, x23] M2 = .ok (fr (x / y)) M2 := by
        simp [mVar_z, mVar_s, over_ok hx' hy' hc]
      have t : mThunk (okTup "told") (exTup "Nothing" "nothing") (mCall 2 f_over_by (aCons (mVar 3) (aCons (mVar 4) aNil))) [x0, some (.ref b), x2, some (fr x), some (fr y), x5, x6, x7, some (.tup [.str "told", fr (x / y)]), x9, x10, x11, x12, x13, x14, x15, x16, x17, x18, x19, x20, x21, x22, x23] M2 = .ok (.tup [.str "told", fr (x / y)]) M2 := by
        unfold mThunk
        rw [m]
        rfl
      rw [sIf_eq, tB1_eq, mBin_eq, t]
      simp [mVar_z, mVar_s, neq_told]
end
end K13
namespace K13
open PySem PySem.Spec PyProof.Rows L2 Mp
section
variable {x0 x2 x3 x4 x5 x6 x7 x8 x9 x10 x11 x12 x13 x14 x15 x16 x17 x18 x19 x20 x21 x22 x23 : Option D} {b r : Nat} {M : MH} {x y : Rat}
def Fnd (x y : Rat) : List D := [fr (x + y), fr (x - y), fr (x * y), .bl (decide (x.num * y.den < y.num * x.den)), fr (x + y + x), fr 0]
theorem nice_fnd (hx : SzQ 3 x) (hy : SzQ 3 y) : ∃ p, Nice 100 10 p ∧ ∀ (M : MH) (i : Nat), M[i]? = some (MO.lst (Fnd x y)) → toPy M (.ref i) = some p := by
  have n1 := nice_fr ((sz_add hx hy).mono (by decide : 3 + 3 + 1 ≤ 1900))
  have n2 := nice_fr ((sz_sub hx hy).mono (by decide : 3 + 3 + 1 ≤ 1900))
  have n3 := nice_fr ((sz_mul hx hy).mono (by decide : 3 + 3 ≤ 1900))
  have n4 := nice_bool (decide (x.num * y.den < y.num * x.den))
  have n5 := nice_fr ((sz_add (sz_add hx hy) (hx.mono (by decide : 3 ≤ 3 + 3 + 1))).mono (by decide : (3 + 3 + 1) + (3 + 3 + 1) + 1 ≤ 1900))
  have n6 := nice_fr (sz_zero.mono (by decide : 1 ≤ 1900))
  have nl := nice_list (b := 2) (n := 1) (ps := [pfr (x + y), pfr (x - y), pfr (x * y), .bool (decide (x.num * y.den < y.num * x.den)), pfr (x + y + x), pfr 0]) fun p hp => by
    simp only [List.mem_cons, List.not_mem_nil, or_false] at hp
    rcases hp with rfl | rfl | rfl | rfl | rfl | rfl
    · exact n1
    · exact n2
    · exact n3
    · exact n4.mono (by decide) (by decide)
    · exact n5
    · exact n6
  refine ⟨_, nl.mono (by simp) (by decide), fun M i h => ?_⟩
  simp only [toPy, toPy0, h]
  show ((toPyN M 4) (Fnd x y)).map _ = _
  rw [show toPyN M 4 (Fnd x y) = toPys0 (toPyN M 3) M (Fnd x y) from rfl]
  unfold Fnd
  simp [toPys0, py_fr, toPy0]
theorem lap6 (hx : SzQ 3 x) (hy : SzQ 3 y) : ∃ i M', law_s6 [x0, some (.ref b), x2, some (fr x), some (fr y), x5, x6, x7, x8, x9, x10, x11, x12, x13, x14, x15, x16, x17, x18, x19, x20, x21, x22, x23] M = .nx [x0, some (.ref b), x2, some (fr x), some (fr y), x5, x6, x7, x8, some (.ref i), x10, x11, x12, x13, x14, x15, x16, x17, x18, x19, x20, x21, x22, x23] M' ∧ M <+: M' ∧ M'[i]? = some (MO.lst (Fnd x y)) := by
  have hx' := hx.mono (by decide : 3 ≤ 4000)
  have hy' := hy.mono (by decide : 3 ≤ 4000)
  have s := sum_of_ok (M := M ++ [MO.lst [fr x, fr y, fr x]]) (i := M.length) (l := [x, y, x]) get_end (fun q hq => by
    simp only [List.mem_cons, List.not_mem_nil, or_false] at hq
    rcases hq with rfl | rfl | rfl
    · exact hx.mono (by decide)
    · exact hy.mono (by decide)
    · exact hx.mono (by decide)) (by simp)
  have e : [x, y, x].foldl (· + ·) 0 = x + y + x := by
    show 0 + x + y + x = _
    grind
  rw [e] at s
  refine ⟨(M ++ [MO.lst [fr x, fr y, fr x]]).length, M ++ [MO.lst [fr x, fr y, fr x]] ++ [MO.lst (Fnd x y)], ?_, pre_app (pre_app (List.prefix_refl _) _) _, get_end⟩
  unfold law_s6
  refine set_step ?_
  have l1 : mCall 1 f_sum_of (aCons (mLst (aCons (mVar 3) (aCons (mVar 4) (aCons (mVar 3) aNil)))) aNil) [x0, some (.ref b), x2, some (fr x), some (fr y), x5, x6, x7, x8, x9, x10, x11, x12, x13, x14, x15, x16, x17, x18, x19, x20, x21, x22, x23] M = .ok (fr (x + y + x)) (M ++ [MO.lst [fr x, fr y, fr x]]) := by
    rw [← s]
    rfl
  have l2 : mCall 1 f_sum_of (aCons (mTup aNil) aNil) [x0, some (.ref b), x2, some (fr x), some (fr y), x5, x6, x7, x8, x9, x10, x11, x12, x13, x14, x15, x16, x17, x18, x19, x20, x21, x22, x23] (M ++ [MO.lst [fr x, fr y, fr x]]) = .ok (fr 0) (M ++ [MO.lst [fr x, fr y, fr x]]) := by
    rw [← sum_nil]
    rfl
  have a1 : mCall 2 f_plus (aCons (mVar 3) (aCons (mVar 4) aNil)) [x0, some (.ref b), x2, some (fr x), some (fr y), x5, x6, x7, x8, x9, x10, x11, x12, x13, x14, x15, x16, x17, x18, x19, x20, x21, x22, x23] M = .ok (fr (x + y)) M := by simp [mVar_z, mVar_s, plus_ok hx' hy']
  have a2 : mCall 2 f_minus (aCons (mVar 3) (aCons (mVar 4) aNil)) [x0, some (.ref b), x2, some (fr x), some (fr y), x5, x6, x7, x8, x9, x10, x11, x12, x13, x14, x15, x16, x17, x18, x19, x20, x21, x22, x23] M = .ok (fr (x - y)) M := by simp [mVar_z, mVar_s, minus_ok hx' hy']
  have a3 : mCall 2 f_times (aCons (mVar 3) (aCons (mVar 4) aNil)) [x0, some (.ref b), x2, some (fr x), some (fr y), x5, x6, x7, x8, x9, x10, x11, x12, x13, x14, x15, x16, x17, x18, x19, x20, x21, x22, x23] M = .ok (fr (x * y)) M := by simp [mVar_z, mVar_s, times_ok hx' hy']
  have a4 : mCall 2 f_is_less (aCons (mVar 3) (aCons (mVar 4) aNil)) [x0, some (.ref b), x2, some (fr x), some (fr y), x5, x6, x7, x8, x9, x10, x11, x12, x13, x14, x15, x16, x17, x18, x19, x20, x21, x22, x23] M = .ok (.bl (decide (x.num * y.den < y.num * x.den))) M := by simp [mVar_z, mVar_s, less_ok hx' hy']
  rw [mLst_eq, aCons_eq, a1, Res.bind_ok, aCons_eq, a2, Res.bind_ok, aCons_eq, a3, Res.bind_ok, aCons_eq, a4, Res.bind_ok, aCons_eq, l1, Res.bind_ok, aCons_eq, l2]
  rfl
theorem lap7 {i : Nat} (hx : SzQ 3 x) (hy : SzQ 3 y) (hi : M[i]? = some (MO.lst (Fnd x y))) : law_s7 [x0, some (.ref b), x2, some (fr x), some (fr y), x5, x6, x7, x8, some (.ref i), x10, x11, x12, x13, x14, x15, x16, x17, x18, x19, x20, x21, x22, x23] M = .nx [x0, some (.ref b), x2, some (fr x), some (fr y), x5, x6, x7, x8, some (.ref i), x10, x11, x12, x13, x14, x15, x16, x17, x18, x19, x20, x21, x22, x23] (M ++ [MO.lst (Fnd x y)]) := by
  have hx' := hx.mono (by decide : 3 ≤ 4000)
  have hy' := hy.mono (by decide : 3 ≤ 4000)
  have hxy := (sz_add hx hy).mono (by decide : 3 + 3 + 1 ≤ 4000)
  obtain ⟨p, np, hp⟩ := nice_fnd hx hy
  have al := alike_ok (M := M ++ [MO.lst (Fnd x y)]) (d := .ref i) (e := .ref M.length) (fun s z => by cases z) (hp _ _ (get_app hi)) (hp _ _ get_end) np (by decide) (by decide)
  unfold law_s7
  have a1 : mCall 2 f_law_add (aCons (mVar 3) (aCons (mVar 4) aNil)) [x0, some (.ref b), x2, some (fr x), some (fr y), x5, x6, x7, x8, some (.ref i), x10, x11, x12, x13, x14, x15, x16, x17, x18, x19, x20, x21, x22, x23] M = .ok (fr (x + y)) M := by simp [mVar_z, mVar_s, law_add_ok hx' hy']
  have a2 : mCall 2 f_law_less (aCons (mVar 3) (aCons (mVar 4) aNil)) [x0, some (.ref b), x2, some (fr x), some (fr y), x5, x6, x7, x8, some (.ref i), x10, x11, x12, x13, x14, x15, x16, x17, x18, x19, x20, x21, x22, x23] M = .ok (fr (x - y)) M := by simp [mVar_z, mVar_s, law_less_ok hx' hy']
  have a3 : mCall 2 f_law_mul (aCons (mVar 3) (aCons (mVar 4) aNil)) [x0, some (.ref b), x2, some (fr x), some (fr y), x5, x6, x7, x8, some (.ref i), x10, x11, x12, x13, x14, x15, x16, x17, x18, x19, x20, x21, x22, x23] M = .ok (fr (x * y)) M := by simp [mVar_z, mVar_s, law_mul_ok hx' hy']
  have mo1 := mulOk_by (hx'.1.mono (by decide : 4000 ≤ 8000)) (hy'.2.mono (by decide : 4000 ≤ 8000))
  have mo2 := mulOk_by (hy'.1.mono (by decide : 4000 ≤ 8000)) (hx'.2.mono (by decide : 4000 ≤ 8000))
  have a4 : (mBin fLt (mBin fMul (mBin fIx (mVar 3) (mC (.int 0))) (mBin fIx (mVar 4) (mC (.int 1)))) (mBin fMul (mBin fIx (mVar 4) (mC (.int 0))) (mBin fIx (mVar 3) (mC (.int 1))))) [x0, some (.ref b), x2, some (fr x), some (fr y), x5, x6, x7, x8, some (.ref i), x10, x11, x12, x13, x14, x15, x16, x17, x18, x19, x20, x21, x22, x23] M = .ok (.bl (decide (x.num * y.den < y.num * x.den))) M := by
    simp [mVar_z, mVar_s, mo1, mo2]
  have a5 : mCall 2 f_law_add (aCons (mCall 2 f_law_add (aCons (mVar 3) (aCons (mVar 4) aNil))) (aCons (mVar 3) aNil)) [x0, some (.ref b), x2, some (fr x), some (fr y), x5, x6, x7, x8, some (.ref i), x10, x11, x12, x13, x14, x15, x16, x17, x18, x19, x20, x21, x22, x23] M = .ok (fr (x + y + x)) M := by simp [mVar_z, mVar_s, law_add_ok hx' hy', law_add_ok hxy hx']
  have ls : (mLst (aCons (mCall 2 f_law_add (aCons (mVar 3) (aCons (mVar 4) aNil))) (aCons (mCall 2 f_law_less (aCons (mVar 3) (aCons (mVar 4) aNil))) (aCons (mCall 2 f_law_mul (aCons (mVar 3) (aCons (mVar 4) aNil))) (aCons (mBin fLt (mBin fMul (mBin fIx (mVar 3) (mC (.int 0))) (mBin fIx (mVar 4) (mC (.int 1)))) (mBin fMul (mBin fIx (mVar 4) (mC (.int 0))) (mBin fIx (mVar 3) (mC (.int 1))))) (aCons (mCall 2 f_law_add (aCons (mCall 2 f_law_add (aCons (mVar 3) (aCons (mVar 4) aNil))) (aCons (mVar 3) aNil))) (aCons (mTup (aCons (mC (.int 0)) (aCons (mC (.int 1)) aNil))) aNil))))))) [x0, some (.ref b), x2, some (fr x), some (fr y), x5, x6, x7, x8, some (.ref i), x10, x11, x12, x13, x14, x15, x16, x17, x18, x19, x20, x21, x22, x23] M = .ok (.ref M.length) (M ++ [MO.lst (Fnd x y)]) := by
    rw [mLst_eq, aCons_eq, a1, Res.bind_ok, aCons_eq, a2, Res.bind_ok, aCons_eq, a3, Res.bind_ok, aCons_eq, a4, Res.bind_ok, aCons_eq, a5]
    rfl
  have cl : tNotB (tB1 (mCall 2 f_law_alike (aCons (mVar 9) (aCons (mLst (aCons (mCall 2 f_law_add (aCons (mVar 3) (aCons (mVar 4) aNil))) (aCons (mCall 2 f_law_less (aCons (mVar 3) (aCons (mVar 4) aNil))) (aCons (mCall 2 f_law_mul (aCons (mVar 3) (aCons (mVar 4) aNil))) (aCons (mBin fLt (mBin fMul (mBin fIx (mVar 3) (mC (.int 0))) (mBin fIx (mVar 4) (mC (.int 1)))) (mBin fMul (mBin fIx (mVar 4) (mC (.int 0))) (mBin fIx (mVar 3) (mC (.int 1))))) (aCons (mCall 2 f_law_add (aCons (mCall 2 f_law_add (aCons (mVar 3) (aCons (mVar 4) aNil))) (aCons (mVar 3) aNil))) (aCons (mTup (aCons (mC (.int 0)) (aCons (mC (.int 1)) aNil))) aNil))))))) aNil)))) [x0, some (.ref b), x2, some (fr x), some (fr y), x5, x6, x7, x8, some (.ref i), x10, x11, x12, x13, x14, x15, x16, x17, x18, x19, x20, x21, x22, x23] M = .ok false (M ++ [MO.lst (Fnd x y)]) := by
    rw [tNotB_eq, tB1_eq, mCall_eq, aCons_eq]
    have e9 : mVar 9 [x0, some (.ref b), x2, some (fr x), some (fr y), x5, x6, x7, x8, some (.ref i), x10, x11, x12, x13, x14, x15, x16, x17, x18, x19, x20, x21, x22, x23] M = .ok (.ref i) M := rfl
    rw [e9, Res.bind_ok, aCons_eq, ls]
    simp [al]
  rw [if_f cl]
  rfl
end
end K13
namespace K13
open PySem PySem.Spec PyProof.Rows L2 Mp
/-! ### what a share is -/
def okShare (p q : Int) : Bool := decide (0 < q) && (decide (Int.gcd p q = 1) && (decide (0 ≤ p) && decide (p ≤ q)))
def shareB : D → Bool
  | .tup [.int p, .int q] => okShare p q
  | _ => false
theorem fEq_intn {M : MH} (i j : Int) : fEq true (.int i) (.int j) M = .ok (.bl (!decide (i = j))) M := fEq_int true i j M
theorem ints_all {M : MH} {l : List D} {x1 : Option D} (h : ∀ x ∈ l, Tm M 0 0 x) (hl : l.length ≤ 1000) :
    (mBlt fAll (aCons (mLc [1] (sSq (mVar 0)) (gN 1) tYesD (mCall 1 f_is_integer (aCons (mVar 1) aNil))) aNil)) [some (.tup l), x1] M = .ok (.bl (l.all intB)) (M ++ [MO.lst (l.map fun x => .bl (intB x))]) := by
  have lc := lc_map (g := gN 1) (te := mCall 1 f_is_integer (aCons (mVar 1) aNil)) (chk := []) (ρ := wipeD [some (.tup l), x1] [1]) (M := M) (ρx := fun x => [some (.tup l), some x]) (f := fun x => .bl (intB x)) rfl (l := l) fun x hx => ⟨rfl, by
    simp [mVar_z, mVar_s, integer_ok (h x hx)]⟩
  have lo := K13.lc_ok (sm := sSq (mVar 0)) (M := M) (M1 := M) (by simp [mVar_z, sSeqOf]) (by omega : l.length ≤ 16777216) lc
  rw [mBlt_eq, aCons_eq, lo]
  simp only [Res.bind_ok, aNil_eq]
  exact fAll_ref get_end
theorem share_int {M : MH} {p q : Int} (sq : Sz 100000 q) : f_is_share [.tup [.int p, .int q]] M = .ok (.bl (okShare p q)) M := by
  unfold f_is_share
  have al := ints_all (M := M) (l := [.int p, .int q]) (x1 := none) (fun x hx => by
    simp only [List.mem_cons, List.not_mem_nil, or_false] at hx
    rcases hx with rfl | rfl
    · exact .int _
    · exact .int _) (by simp)
  refine (run_rt (np := 1) (M' := M ++ [MO.lst [.bl true, .bl true]]) rfl ?_).trans (gcRet_app _ _ _ rfl)
  have g := divisor_ok (a := p) (M := M ++ [MO.lst [.bl true, .bl true]]) sq
  refine seq_step (ρ' := [some (.tup [.int p, .int q]), none]) (M' := M ++ [MO.lst [.bl true, .bl true]]) ?_ (ret_step ?_)
  · refine (if_f (tor_f (M' := M) ?_ (tor_f (M' := M) ?_ ?_))).trans rfl
    · simp [mVar_z, fIsi, isTy]
    · simp [mVar_z]
    · exact congrArg (fun z : Res D => (z.bind fun d M1 => match d with | .bl b => Res.ok b M1 | _ => .err).bind fun b M1 => Res.ok (!b) M1) al
  · unfold okShare
    by_cases h1 : 0 < q
    · by_cases h2 : 0 ≤ p
      · by_cases h3 : p ≤ q
        · have h4 : ((Int.gcd p q : Int) = 1) ↔ Int.gcd p q = 1 := by omega
          simp [mVar_z, mVar_s, h1, h2, h3, g, h4]
        · simp [mVar_z, mVar_s, h1, h2, h3]
      · simp [mVar_z, mVar_s, h1, h2]
    · simp [mVar_z, mVar_s, h1]
theorem share_not {M : MH} {l : List D} (h : ∀ x ∈ l, Tm M 0 0 x) (hl : l.length ≤ 1000) (hb : l.length ≠ 2 ∨ l.all intB = false) : f_is_share [.tup l] M = .ok (.bl false) M := by
  unfold f_is_share
  have al := ints_all (x1 := none) h hl
  by_cases h2 : l.length = 2
  · have h3 : l.all intB = false := by rcases hb with z | z; exact absurd h2 z; exact z
    rw [h3] at al
    refine (run_rt (np := 1) (M' := M ++ [MO.lst (l.map fun x => .bl (intB x))]) rfl (seq_ret ?_)).trans (gcRet_app _ _ _ rfl)
    refine (if_t (tor_f (M' := M) ?_ (tor_f (M' := M) ?_ ?_))).trans rfl
    · simp [mVar_z, fIsi, isTy]
    · simp [mVar_z, h2]
    · exact congrArg (fun z : Res D => (z.bind fun d M1 => match d with | .bl b => Res.ok b M1 | _ => .err).bind fun b M1 => Res.ok (!b) M1) al
  · refine run_id rfl (seq_ret ?_)
    have h2' : ¬ (l.length : Int) = 2 := by omega
    refine (if_t (tor_f (M' := M) ?_ (tor_t (M' := M) ?_))).trans rfl
    · simp [mVar_z, fIsi, isTy]
    · simp [mVar_z, h2']
theorem share_other {M : MH} {d : D} {k n : Nat} (h : Tm M k n d) (hd : tyB .tuple d = false) : f_is_share [d] M = .ok (.bl false) M := by
  unfold f_is_share
  refine run_id rfl (seq_ret ?_)
  refine (if_t (tor_t (M' := M) ?_)).trans rfl
  simp [mVar_z, fIsi_tm h, hd]
end K13
namespace K13
open PySem PySem.Spec PyProof.Rows L2 Mp
theorem for_keep {i : Nat} {bd : S} {chk : List (Nat × List D)} {M : MH} {I : Ev → Prop} (hc : chkOk chk M = true) : ∀ (l : List D) (ρ : Ev), I ρ → (∀ d ∈ l, ∀ ρ, I ρ → ∃ ρ', bd (ρ.set i (some d)) M = .nx ρ' M ∧ I ρ') → ∃ ρ', forGo (gN i) bd chk l ρ M = .nx ρ' M ∧ I ρ'
  | [], ρ, h, _ => ⟨ρ, by
    show (if chkOk chk M = true then SRes.nx ρ M else .err) = _
    rw [if_pos hc], h⟩
  | d :: l, ρ, h, hb => by
    obtain ⟨ρ1, e1, h1⟩ := hb d List.mem_cons_self ρ h
    obtain ⟨ρ2, e2, h2⟩ := for_keep hc l ρ1 h1 fun d hd => hb d (List.mem_cons_of_mem _ hd)
    refine ⟨ρ2, ?_, h2⟩
    show (if chkOk chk M = true then (match bd (ρ.set i (some d)) M with
        | .nx ρ2 M2 => forGo (gN i) bd chk l ρ2 M2
        | .ct ρ2 M2 => forGo (gN i) bd chk l ρ2 M2
        | .bk ρ2 M2 => .nx ρ2 M2
        | r => r) else .err) = _
    rw [if_pos hc, e1]
    exact e2
section
variable {x0 x2 x3 x4 x5 x6 x7 x8 x9 x10 x11 x12 x13 x14 x15 x16 x17 x18 x19 x20 x21 x22 x23 : Option D} {b r : Nat} {M : MH} {x y : Rat}
theorem b1_end {d : D} {v : Bool} (h : f_is_share [d] M = .ok (.bl v) M) : ((sIf (tB1 (mBin (fEq true) (mCall 1 f_is_share (aCons (mVar 10) aNil)) (mVar 11))) (sRet (mC (.bl false))) sNil)) [x0, some (.ref b), x2, x3, x4, x5, x6, x7, x8, x9, some d, some (.bl v), x12, x13, x14, x15, x16, x17, x18, x19, x20, x21, x22, x23] M = .nx [x0, some (.ref b), x2, x3, x4, x5, x6, x7, x8, x9, some d, some (.bl v), x12, x13, x14, x15, x16, x17, x18, x19, x20, x21, x22, x23] M := by
  have e : fEq true (.bl v) (.bl v) M = .ok (.bl false) M := by rw [fEq_bl]; cases v <;> rfl
  simp [mVar_z, mVar_s, h, e]
theorem b1_false {d : D} (hA : (mAnd (mUn (fIsi .tuple) (mVar 10)) (mAnd (mBin (fEq false) (mBlt fLen (aCons (mVar 10) aNil)) (mC (.int 2))) (mAnd (mCall 1 f_law_is_int (aCons (mBin fIx (mVar 10) (mC (.int 0))) aNil)) (mCall 1 f_law_is_int (aCons (mBin fIx (mVar 10) (mC (.int 1))) aNil))))) [x0, some (.ref b), x2, x3, x4, x5, x6, x7, x8, x9, some d, x11, x12, x13, x14, x15, x16, x17, x18, x19, x20, x21, x22, x23] M = .ok (.bl false) M) (h : f_is_share [d] M = .ok (.bl false) M) :
    ∃ y11, law_b1 [x0, some (.ref b), x2, x3, x4, x5, x6, x7, x8, x9, some d, x11, x12, x13, x14, x15, x16, x17, x18, x19, x20, x21, x22, x23] M = .nx [x0, some (.ref b), x2, x3, x4, x5, x6, x7, x8, x9, some d, y11, x12, x13, x14, x15, x16, x17, x18, x19, x20, x21, x22, x23] M := by
  refine ⟨some (.bl false), ?_⟩
  unfold law_b1
  refine seq_step (set_step hA) (seq_step (ρ' := [x0, some (.ref b), x2, x3, x4, x5, x6, x7, x8, x9, some d, some (.bl false), x12, x13, x14, x15, x16, x17, x18, x19, x20, x21, x22, x23]) (M' := M) (set_step (and_f (M' := M) rfl)) (b1_end h))
theorem b1_pair {p q : Int} (sq : Sz 100000 q) {d : D} (hd : d = .tup [.int p, .int q]) : ∃ y11, law_b1 [x0, some (.ref b), x2, x3, x4, x5, x6, x7, x8, x9, some d, x11, x12, x13, x14, x15, x16, x17, x18, x19, x20, x21, x22, x23] M = .nx [x0, some (.ref b), x2, x3, x4, x5, x6, x7, x8, x9, some d, y11, x12, x13, x14, x15, x16, x17, x18, x19, x20, x21, x22, x23] M := by
  subst hd
  refine ⟨some (.bl (okShare p q)), ?_⟩
  unfold law_b1
  have i1 := law_int_ok (M := M) (Tm.int (k := 0) (n := 0) p)
  have i2 := law_int_ok (M := M) (Tm.int (k := 0) (n := 0) q)
  have g := law_gcd_ok (a := p) (M := M) sq
  refine seq_step (ρ' := [x0, some (.ref b), x2, x3, x4, x5, x6, x7, x8, x9, some (.tup [.int p, .int q]), some (.bl true), x12, x13, x14, x15, x16, x17, x18, x19, x20, x21, x22, x23]) (M' := M) ?_ (seq_step (ρ' := [x0, some (.ref b), x2, x3, x4, x5, x6, x7, x8, x9, some (.tup [.int p, .int q]), some (.bl (okShare p q)), x12, x13, x14, x15, x16, x17, x18, x19, x20, x21, x22, x23]) (M' := M) ?_ (b1_end (share_int sq)))
  · simp [mVar_z, mVar_s, fIsi, isTy, i1, i2, intB]
  · unfold okShare
    by_cases h1 : 0 < q
    · by_cases h4 : Int.gcd p q = 1
      · by_cases h2 : 0 ≤ p
        · simp [mVar_z, mVar_s, h1, h2, g, h4]
        · simp [mVar_z, mVar_s, h1, h2, g, h4]
      · have h5 : ¬ ((Int.gcd p q : Int) = 1) := by omega
        simp [mVar_z, mVar_s, h1, g, h4, h5]
    · simp [mVar_z, mVar_s, h1]
theorem b1_not {l : List D} (h : ∀ x ∈ l, Tm M 0 0 x) (hl : l.length ≤ 1000) (hb : l.length ≠ 2 ∨ ∃ u v, l = [u, v] ∧ (intB u && intB v) = false) {d : D} (hd : d = .tup l) : ∃ y11, law_b1 [x0, some (.ref b), x2, x3, x4, x5, x6, x7, x8, x9, some d, x11, x12, x13, x14, x15, x16, x17, x18, x19, x20, x21, x22, x23] M = .nx [x0, some (.ref b), x2, x3, x4, x5, x6, x7, x8, x9, some d, y11, x12, x13, x14, x15, x16, x17, x18, x19, x20, x21, x22, x23] M := by
  subst hd
  refine b1_false ?_ (share_not h hl ?_)
  · rcases hb with hb | ⟨u, v, rfl, hb⟩
    · have h2' : ¬ (l.length : Int) = 2 := by omega
      simp [mVar_z, mVar_s, fIsi, isTy, h2']
    · have i1 := law_int_ok (h u (by simp))
      have i2 := law_int_ok (h v (by simp))
      cases h1 : intB u with
      | false => simp [mVar_z, mVar_s, fIsi, isTy, i1, h1]
      | true =>
        rw [h1, Bool.true_and] at hb
        simp [mVar_z, mVar_s, fIsi, isTy, i1, i2, h1, hb]
  · rcases hb with hb | ⟨u, v, rfl, hb⟩
    · exact .inl hb
    · exact .inr (by simpa using hb)
theorem b1_other {k n : Nat} {d : D} (h : Tm M k n d) (hd : tyB .tuple d = false) : ∃ y11, law_b1 [x0, some (.ref b), x2, x3, x4, x5, x6, x7, x8, x9, some d, x11, x12, x13, x14, x15, x16, x17, x18, x19, x20, x21, x22, x23] M = .nx [x0, some (.ref b), x2, x3, x4, x5, x6, x7, x8, x9, some d, y11, x12, x13, x14, x15, x16, x17, x18, x19, x20, x21, x22, x23] M := by
  refine b1_false (and_f ?_) (share_other h hd)
  simp [mVar_z, mVar_s, fIsi_tm h, hd]
theorem lap9 (hx : SzQ 3 x) : ∃ y10 y11, law_s9 [x0, some (.ref b), x2, some (fr x), x4, x5, x6, x7, x8, x9, x10, x11, x12, x13, x14, x15, x16, x17, x18, x19, x20, x21, x22, x23] M = .nx [x0, some (.ref b), x2, some (fr x), x4, x5, x6, x7, x8, x9, y10, y11, x12, x13, x14, x15, x16, x17, x18, x19, x20, x21, x22, x23] (M ++ [MO.lst [.int 1, .int 2]]) := by
  have g1 : (M ++ [MO.lst [.int 1, .int 2]])[M.length]? = some (MO.lst [.int 1, .int 2]) := get_end
  have fl : ∀ {d : D}, flatD d = true → (∀ s, d ≠ .str s) → Tm (M ++ [MO.lst [.int 1, .int 2]]) 0 0 d := fun {d} h hs => by
    cases d with
    | non => exact .non
    | bl c => exact .bl c
    | int c => exact .int c
    | str s => exact absurd rfl (hs s)
    | _ => cases h
  obtain ⟨ρ', e, y10, y11, rfl⟩ := for_keep (i := 10) (bd := law_b1) (chk := []) (M := M ++ [MO.lst [.int 1, .int 2]]) (I := fun ρ => ∃ y10 y11, ρ = [x0, some (.ref b), x2, some (fr x), x4, x5, x6, x7, x8, x9, y10, y11, x12, x13, x14, x15, x16, x17, x18, x19, x20, x21, x22, x23]) rfl
    [fr x, .tup [.int 0, .int 1], .tup [.int 1, .int 1], .tup [.int 2, .int 4], .tup [.int 3, .int 2], .tup [.int (-1), .int 2], .tup [.int 1, .int 0], .tup [.bl true, .int 1], .tup [.int 1, .bl true], .ref M.length, .tup [.int 1], .non, .int 1, .tup [.int 1, .int 2, .int 3]]
    [x0, some (.ref b), x2, some (fr x), x4, x5, x6, x7, x8, x9, x10, x11, x12, x13, x14, x15, x16, x17, x18, x19, x20, x21, x22, x23] ⟨x10, x11, rfl⟩ (fun d hd ρ ⟨z10, z11, hρ⟩ => by
      subst hρ
      have fin : (∃ y11, law_b1 [x0, some (.ref b), x2, some (fr x), x4, x5, x6, x7, x8, x9, some d, z11, x12, x13, x14, x15, x16, x17, x18, x19, x20, x21, x22, x23] (M ++ [MO.lst [.int 1, .int 2]]) = .nx [x0, some (.ref b), x2, some (fr x), x4, x5, x6, x7, x8, x9, some d, y11, x12, x13, x14, x15, x16, x17, x18, x19, x20, x21, x22, x23] (M ++ [MO.lst [.int 1, .int 2]])) → ∃ ρ', law_b1 ([x0, some (.ref b), x2, some (fr x), x4, x5, x6, x7, x8, x9, z10, z11, x12, x13, x14, x15, x16, x17, x18, x19, x20, x21, x22, x23].set 10 (some d)) (M ++ [MO.lst [.int 1, .int 2]]) = .nx ρ' (M ++ [MO.lst [.int 1, .int 2]]) ∧ ∃ y10 y11, ρ' = [x0, some (.ref b), x2, some (fr x), x4, x5, x6, x7, x8, x9, y10, y11, x12, x13, x14, x15, x16, x17, x18, x19, x20, x21, x22, x23] := fun ⟨y, e⟩ => ⟨_, e, _, y, rfl⟩
      refine fin ?_
      simp only [List.mem_cons, List.not_mem_nil, or_false] at hd
      rcases hd with h | h | h | h | h | h | h | h | h | h | h | h | h | h
      · exact b1_pair (p := x.num) (q := x.den) (hx.2.mono (by decide)) h
      · exact b1_pair ((show Sz 3 1 from ⟨by decide⟩).mono (by decide)) h
      · exact b1_pair ((show Sz 3 1 from ⟨by decide⟩).mono (by decide)) h
      · exact b1_pair ((show Sz 3 4 from ⟨by decide⟩).mono (by decide)) h
      · exact b1_pair ((show Sz 3 2 from ⟨by decide⟩).mono (by decide)) h
      · exact b1_pair ((show Sz 3 2 from ⟨by decide⟩).mono (by decide)) h
      · exact b1_pair ((show Sz 3 0 from ⟨by decide⟩).mono (by decide)) h
      · exact b1_not (l := [.bl true, .int 1]) (fun z hz => by
          simp only [List.mem_cons, List.not_mem_nil, or_false] at hz
          rcases hz with rfl | rfl
          · exact .bl _
          · exact .int _) (by decide) (.inr ⟨_, _, rfl, rfl⟩) h
      · exact b1_not (l := [.int 1, .bl true]) (fun z hz => by
          simp only [List.mem_cons, List.not_mem_nil, or_false] at hz
          rcases hz with rfl | rfl
          · exact .int _
          · exact .bl _) (by decide) (.inr ⟨_, _, rfl, rfl⟩) h
      · subst h
        exact b1_other (k := 1) (n := 1) (.ref g1 (by decide) (fun z hz => by
          simp only [List.mem_cons, List.not_mem_nil, or_false] at hz
          rcases hz with rfl | rfl
          · exact .int _
          · exact .int _)) rfl
      · exact b1_not (l := [.int 1]) (fun z hz => by
          simp only [List.mem_cons, List.not_mem_nil, or_false] at hz
          subst hz
          exact .int _) (by decide) (.inl (by decide)) h
      · subst h
        exact b1_other (k := 0) (n := 0) .non rfl
      · subst h
        exact b1_other (k := 0) (n := 0) (.int _) rfl
      · exact b1_not (l := [.int 1, .int 2, .int 3]) (fun z hz => by
          simp only [List.mem_cons, List.not_mem_nil, or_false] at hz
          rcases hz with rfl | rfl | rfl
          · exact .int _
          · exact .int _
          · exact .int _) (by decide) (.inl (by decide)) h)
  refine ⟨y10, y11, ?_⟩
  rw [← e]
  rfl
end
end K13
namespace K13
open PySem PySem.Spec PyProof.Rows L2 Mp
theorem lc_drawi {i b r : Nat} {te : E} {ρ : Ev} {P : D → Prop} (hd : ∀ (M : MH) (d : D), Bag M b r → ∃ x M', te (ρ.set i (some d)) M = .ok x M' ∧ P x ∧ Ge b r M M') : ∀ (l : List D) (M : MH), Bag M b r →
    ∃ L M', lcGo (gN i) tYesD te [] ρ l M = .ok L M' ∧ L.length = l.length ∧ (∀ x ∈ L, P x) ∧ Ge b r M M'
  | [], M, h => ⟨[], M, rfl, rfl, by simp, Ge.refl h⟩
  | d :: l, M, h => by
    obtain ⟨x, M1, e1, p1, g1⟩ := hd M d h
    obtain ⟨L, M2, e2, n2, p2, g2⟩ := lc_drawi hd l M1 g1.bag
    refine ⟨x :: L, M2, ?_, by rw [List.length_cons, List.length_cons, n2], fun y hy => ?_, g1.trans g2⟩
    · simp [lcGo, chkOk, e1, e2]
    · rcases List.mem_cons.mp hy with rfl | hy
      · exact p1
      · exact p2 y hy
theorem as_rw : ∀ {n s : Nat} {L : List D}, L.length = n → (∀ x ∈ L, ∃ q, x = fr q ∧ SzQ s q) → ∃ f : Nat → Rat, L = rw_ n f ∧ ∀ j, j < n → SzQ s (f j)
  | 0, s, L, hl, _ => ⟨fun _ => 0, by
    have : L = [] := List.length_eq_zero_iff.mp hl
    subst this
    rfl, fun j hj => absurd hj (Nat.not_lt_zero _)⟩
  | n + 1, s, L, hl, h => by
    rcases last_cases L with rfl | ⟨A, x, rfl⟩
    · cases hl
    · obtain ⟨f, e, hf⟩ := as_rw (n := n) (s := s) (L := A) (by simpa using hl) fun y hy => h y (List.mem_append_left _ hy)
      obtain ⟨q, rfl, hq⟩ := h x (by simp)
      refine ⟨fun j => if j = n then q else f j, ?_, fun j hj => ?_⟩
      · rw [← rw_succ, e]
        congr 1
        · exact List.map_congr_left fun j hj => by
            have hj2 := List.mem_range.mp hj
            show fr (f j) = fr (if j = n then q else f j)
            rw [if_neg (by omega)]
        · show [fr q] = [fr (if n = n then q else f n)]
          rw [if_pos rfl]
      · by_cases e2 : j = n
        · simp only [e2, if_true]; exact hq
        · simp only [e2, if_false]; exact hf j (by omega)
/-- the rows so far -/
structure Rl (M0 M : MH) (b r R n t : Nat) (rr : Nat → Nat) (g : Gd) : Prop where
  ge : Ge b r M0 M
  low : M0.length ≤ R
  hb : b < M0.length ∧ r < M0.length
  at_ : M[R]? = some (MO.lst ((List.range t).map fun i => .tup [.ref (rr i), fr (g i n)]))
  row : ∀ i, i < t → M[rr i]? = some (MO.lst (rw_ n (g i))) ∧ rr i ≠ R ∧ rr i ≠ b
  sz : ∀ i, i < t → ∀ j, j ≤ n → SzQ 3 (g i j)
theorem Rl.step {M0 M M' : MH} {b r R n t : Nat} {rr : Nat → Nat} {g : Gd} (h : Rl M0 M b r R n t rr g) (s : Ge b r M M') : Rl M0 M' b r R n t rr g := by
  have hRb : R ≠ b := by have := h.low; have := h.hb; omega
  exact ⟨h.ge.trans s, h.low, h.hb, s.get h.at_ hRb, fun i hi => ⟨s.get (h.row i hi).1 (h.row i hi).2.2, (h.row i hi).2⟩, h.sz⟩
section
variable {x0 x2 x3 x4 x5 x6 x7 x8 x9 x10 x11 x12 x13 x14 x15 x16 x17 x18 x19 x20 x21 x22 x23 : Option D} {b r n t R : Nat} {M0 M : MH} {x y : Rat}
theorem lap10 (hB : Bag M b r) : ∃ (n : Nat) (M' : MH), law_s10 [x0, some (.ref b), x2, x3, x4, x5, x6, x7, x8, x9, x10, x11, x12, x13, x14, x15, x16, x17, x18, x19, x20, x21, x22, x23] M = .nx [x0, some (.ref b), x2, x3, x4, x5, x6, x7, x8, x9, x10, x11, some (.int (n : Int)), x13, x14, x15, x16, x17, x18, x19, x20, x21, x22, x23] M' ∧ n ≤ 3 ∧ Step b r M M' := by
  obtain ⟨v, M1, e1, v0, v1, S1⟩ := take_ok hB (many := 4) (by decide) (by decide)
  obtain ⟨k, rfl⟩ : ∃ k : Nat, v = k := ⟨v.toNat, by omega⟩
  refine ⟨k, M1, ?_, by omega, S1⟩
  unfold law_s10
  simp [mVar_z, mVar_s, e1]
theorem draw_row (hB : Bag M b r) (hn : n ≤ 3) : ∃ (f : Nat → Rat) (q : Nat) (M' : MH), (sSet 15 (mLc [16] (sArg fRng1 (aCons (mVar 12) aNil)) (gN 16) tYesD (mCall 2 f_law_some (aCons (mVar 1) (aCons (mLst (aCons (mTup (aCons (mC (.int 0)) (aCons (mC (.int 1)) aNil))) (aCons (mCall 1 f_law_small (aCons (mVar 1) aNil)) aNil))) aNil))))) [x0, some (.ref b), x2, x3, x4, x5, x6, x7, x8, x9, x10, x11, some (.int (n : Int)), some (.ref R), some (.int (t : Int)), x15, x16, x17, x18, x19, x20, x21, x22, x23] M = .nx [x0, some (.ref b), x2, x3, x4, x5, x6, x7, x8, x9, x10, x11, some (.int (n : Int)), some (.ref R), some (.int (t : Int)), some (.ref q), x16, x17, x18, x19, x20, x21, x22, x23] M' ∧ M'[q]? = some (MO.lst (rw_ n f)) ∧ M.length ≤ q ∧ (∀ j, j < n → SzQ 3 (f j)) ∧ Ge b r M M' := by
  obtain ⟨L, M1, e1, n1, p1, g1⟩ := lc_drawi (i := 16) (te := (mCall 2 f_law_some (aCons (mVar 1) (aCons (mLst (aCons (mTup (aCons (mC (.int 0)) (aCons (mC (.int 1)) aNil))) (aCons (mCall 1 f_law_small (aCons (mVar 1) aNil)) aNil))) aNil)))) (ρ := wipeD [x0, some (.ref b), x2, x3, x4, x5, x6, x7, x8, x9, x10, x11, some (.int (n : Int)), some (.ref R), some (.int (t : Int)), x15, x16, x17, x18, x19, x20, x21, x22, x23] [16]) (P := fun x => ∃ q, x = fr q ∧ SzQ 3 q) (fun M d hM => by
    obtain ⟨q, M1, e1, z1, S1⟩ := small_ok hM
    have g2 : (M1 ++ [MO.lst [fr 0, fr q]])[M1.length]? = some (MO.lst [fr 0, fr q]) := get_end
    obtain ⟨x, M2, e2, hx, S2⟩ := some_ok (S1.bag.app [MO.lst [fr 0, fr q]]) g2 (by have := S1.bag.lt.1; omega) (by simp) (by simp) (by
      intro x hx
      simp only [List.mem_cons, List.not_mem_nil, or_false] at hx
      rcases hx with rfl | rfl <;> rfl)
    refine ⟨x, M2, ?_, ?_, (S1.ge.app _).step S2⟩
    · have l : (mLst (aCons (mTup (aCons (mC (.int 0)) (aCons (mC (.int 1)) aNil))) (aCons (mCall 1 f_law_small (aCons (mVar 1) aNil)) aNil))) (([x0, some (.ref b), x2, x3, x4, x5, x6, x7, x8, x9, x10, x11, some (.int (n : Int)), some (.ref R), some (.int (t : Int)), x15, none, x17, x18, x19, x20, x21, x22, x23] : Ev).set 16 (some d)) M = .ok (.ref M1.length) (M1 ++ [MO.lst [fr 0, fr q]]) := by
        have a : mCall 1 f_law_small (aCons (mVar 1) aNil) (([x0, some (.ref b), x2, x3, x4, x5, x6, x7, x8, x9, x10, x11, some (.int (n : Int)), some (.ref R), some (.int (t : Int)), x15, none, x17, x18, x19, x20, x21, x22, x23] : Ev).set 16 (some d)) M = .ok (fr q) M1 := by simp [mVar_z, mVar_s, e1]
        rw [mLst_eq, aCons_eq]
        have c : (mTup (aCons (mC (.int 0)) (aCons (mC (.int 1)) aNil))) (([x0, some (.ref b), x2, x3, x4, x5, x6, x7, x8, x9, x10, x11, some (.int (n : Int)), some (.ref R), some (.int (t : Int)), x15, none, x17, x18, x19, x20, x21, x22, x23] : Ev).set 16 (some d)) M = .ok (fr 0) M := rfl
        rw [c, Res.bind_ok, aCons_eq, a]
        rfl
      show (mCall 2 f_law_some (aCons (mVar 1) (aCons (mLst (aCons (mTup (aCons (mC (.int 0)) (aCons (mC (.int 1)) aNil))) (aCons (mCall 1 f_law_small (aCons (mVar 1) aNil)) aNil))) aNil))) (([x0, some (.ref b), x2, x3, x4, x5, x6, x7, x8, x9, x10, x11, some (.int (n : Int)), some (.ref R), some (.int (t : Int)), x15, none, x17, x18, x19, x20, x21, x22, x23] : Ev).set 16 (some d)) M = _
      rw [mCall_eq, aCons_eq]
      have ev : mVar 1 (([x0, some (.ref b), x2, x3, x4, x5, x6, x7, x8, x9, x10, x11, some (.int (n : Int)), some (.ref R), some (.int (t : Int)), x15, none, x17, x18, x19, x20, x21, x22, x23] : Ev).set 16 (some d)) M = .ok (.ref b) M := rfl
      rw [ev, Res.bind_ok, aCons_eq, l]
      exact e2
    · simp only [List.mem_cons, List.not_mem_nil, or_false] at hx
      rcases hx with rfl | rfl
      · exact ⟨0, rfl, sz_zero.mono (by decide)⟩
      · exact ⟨q, rfl, z1⟩) ((List.range' 0 n).map fun k : Nat => D.int (k : Int)) M hB
  obtain ⟨f, rfl, hf⟩ := as_rw (n := n) (by rw [n1]; simp) p1
  have src : sArg fRng1 (aCons (mVar 12) aNil) [x0, some (.ref b), x2, x3, x4, x5, x6, x7, x8, x9, x10, x11, some (.int (n : Int)), some (.ref R), some (.int (t : Int)), x15, x16, x17, x18, x19, x20, x21, x22, x23] M = .ok ⟨(List.range' 0 n).map fun k : Nat => D.int (k : Int), []⟩ M := by simp [mVar_z, mVar_s, rng1_src (by omega : n ≤ 1000)]
  have lo := K13.lc_ok (vs := [16]) (sm := sArg fRng1 (aCons (mVar 12) aNil)) (ρ := [x0, some (.ref b), x2, x3, x4, x5, x6, x7, x8, x9, x10, x11, some (.int (n : Int)), some (.ref R), some (.int (t : Int)), x15, x16, x17, x18, x19, x20, x21, x22, x23]) (M := M) (M1 := M) src (by simp; omega) e1
  exact ⟨f, M1.length, M1 ++ [MO.lst (rw_ n f)], set_step lo, get_end, g1.len, hf, g1.app _⟩
theorem lap12_step {rr : Nat → Nat} {g : Gd} (H : Rl M0 M b r R n t rr g) (hn : n ≤ 3) (ht : t < n) : ∃ (rr' : Nat → Nat) (g' : Gd) (y15 : Option D) (M' : MH), law_b2 [x0, some (.ref b), x2, x3, x4, x5, x6, x7, x8, x9, x10, x11, some (.int (n : Int)), some (.ref R), some (.int (t : Int)), x15, x16, x17, x18, x19, x20, x21, x22, x23] M = .nx [x0, some (.ref b), x2, x3, x4, x5, x6, x7, x8, x9, x10, x11, some (.int (n : Int)), some (.ref R), some (.int (t : Int)), y15, x16, x17, x18, x19, x20, x21, x22, x23] M' ∧ Rl M0 M' b r R n (t + 1) rr' g' := by
  obtain ⟨f, q, M1, e1, hq, hlq, hf, G1⟩ := draw_row (t := t) (R := R) (x0 := x0) (x2 := x2) (x3 := x3) (x4 := x4) (x5 := x5) (x6 := x6) (x7 := x7) (x8 := x8) (x9 := x9) (x10 := x10) (x11 := x11) (x15 := x15) (x16 := x16) (x17 := x17) (x18 := x18) (x19 := x19) (x20 := x20) (x21 := x21) (x22 := x22) (x23 := x23) H.ge.bag hn
  have H1 := H.step G1
  obtain ⟨w, M2, e2, zw, S2⟩ := small_ok H1.ge.bag
  have hqb : q ≠ b := by have := H.ge.bag.lt.1; omega
  have hqR : q ≠ R := by have := get_lt H.at_; omega
  have hq2 := S2.ge.get hq hqb
  have H2 := H1.step S2.ge
  have hRb : R ≠ b := by have := H.low; have := H.hb; omega
  have hRr : R ≠ r := by have := H.low; have := H.hb; omega
  have ap : fAppend (.ref R) [.tup [.ref q, fr w]] M2 = .ok .non (M2.set R (MO.lst (((List.range t).map fun i => D.tup [.ref (rr i), fr (g i n)]) ++ [D.tup [.ref q, fr w]]))) := by
    show (match M2[R]? with
      | some (.lst l) => if l.length < LINE then Res.ok D.non (M2.set R (MO.lst (l ++ [D.tup [.ref q, fr w]]))) else .err
      | _ => .err) = _
    rw [H2.at_]
    show (if ((List.range t).map fun i => D.tup [.ref (rr i), fr (g i n)]).length < LINE then _ else _) = _
    rw [if_pos (by simp; omega)]
  refine ⟨fun i => if i = t then q else rr i, fun i => if i = t then (fun j => if j = n then w else f j) else g i, some (.ref q), M2.set R (MO.lst (((List.range t).map fun i => D.tup [.ref (rr i), fr (g i n)]) ++ [D.tup [.ref q, fr w]])), ?_, ?_⟩
  · unfold law_b2
    refine seq_step e1 (expr_step (d := .non) ?_)
    have e13 : mVar 13 [x0, some (.ref b), x2, x3, x4, x5, x6, x7, x8, x9, x10, x11, some (.int (n : Int)), some (.ref R), some (.int (t : Int)), some (.ref q), x16, x17, x18, x19, x20, x21, x22, x23] M1 = .ok (.ref R) M1 := rfl
    have a2 : (aCons (mTup (aCons (mVar 15) (aCons (mCall 1 f_law_small (aCons (mVar 1) aNil)) aNil))) aNil) [x0, some (.ref b), x2, x3, x4, x5, x6, x7, x8, x9, x10, x11, some (.int (n : Int)), some (.ref R), some (.int (t : Int)), some (.ref q), x16, x17, x18, x19, x20, x21, x22, x23] M1 = .ok [.tup [.ref q, fr w]] M2 := by
      have a : mCall 1 f_law_small (aCons (mVar 1) aNil) [x0, some (.ref b), x2, x3, x4, x5, x6, x7, x8, x9, x10, x11, some (.int (n : Int)), some (.ref R), some (.int (t : Int)), some (.ref q), x16, x17, x18, x19, x20, x21, x22, x23] M1 = .ok (fr w) M2 := by simp [mVar_z, mVar_s, e2]
      have a15 : mVar 15 [x0, some (.ref b), x2, x3, x4, x5, x6, x7, x8, x9, x10, x11, some (.int (n : Int)), some (.ref R), some (.int (t : Int)), some (.ref q), x16, x17, x18, x19, x20, x21, x22, x23] M1 = .ok (.ref q) M1 := rfl
      rw [aCons_eq, mTup_eq, aCons_eq, a15, Res.bind_ok, aCons_eq, a]
      rfl
    unfold mLMeth
    rw [e13, Res.bind_ok, lstOf_ref H1.at_]
    show (aCons _ aNil _ M1).bind _ = _
    rw [a2]
    exact ap
  · have hRl := get_lt H2.at_
    refine ⟨⟨by rw [List.length_set]; exact H2.ge.len, fun k hk hb => by
      have := H.low
      rw [List.getElem?_set_ne (by omega)]
      exact H2.ge.rest k hk hb, ?_⟩, H.low, H.hb, ?_, fun i hi => ?_, fun i hi j hj => ?_⟩
    · obtain ⟨c, s', i, cells, B⟩ := H2.ge.bag
      exact ⟨c, s', i, cells, ⟨by rw [List.getElem?_set_ne hRb, B.at_], by rw [List.getElem?_set_ne hRr, B.cl], B.cp, B.c0, B.i0, B.ne, B.few⟩⟩
    · rw [List.getElem?_set_self hRl, List.range_succ, List.map_append]
      congr 3
      · exact List.map_congr_left fun i hi => by
          have := List.mem_range.mp hi
          show D.tup [.ref (rr i), fr (g i n)] = D.tup [.ref (if i = t then q else rr i), fr ((if i = t then (fun j => if j = n then w else f j) else g i) n)]
          rw [if_neg (by omega), if_neg (by omega)]
      · simp
    · by_cases e : i = t
      · subst e
        simp only [if_true]
        refine ⟨?_, hqR, hqb⟩
        rw [List.getElem?_set_ne (Ne.symm hqR), hq2]
        congr 2
        exact List.map_congr_left fun j hj => by
          have := List.mem_range.mp hj
          show fr (f j) = fr (if j = n then w else f j)
          rw [if_neg (by omega)]
      · simp only [e, if_false]
        have h1 := H2.row i (by omega)
        exact ⟨by rw [List.getElem?_set_ne (Ne.symm h1.2.1), h1.1], h1.2⟩
    · by_cases e : i = t
      · simp only [e, if_true]
        by_cases e2 : j = n
        · simp only [e2, if_true]; exact zw
        · simp only [e2, if_false]; exact hf j (by omega)
      · simp only [e, if_false]
        exact H.sz i (by omega) j hj
end
end K13
namespace K13
open PySem PySem.Spec PyProof.Rows L2 Mp
section
variable {x0 x2 x3 x4 x5 x6 x7 x8 x9 x10 x11 x12 x13 x14 x15 x16 x17 x18 x19 x20 x21 x22 x23 : Option D} {b r n t R : Nat} {M0 M : MH} {x y : Rat}
theorem lap12 (hB : Bag M b r) (hn : n ≤ 3) : ∃ (R : Nat) (rr : Nat → Nat) (g : Gd) (y14 y15 : Option D) (M' : MH), (sSeq law_s11 law_s12) [x0, some (.ref b), x2, x3, x4, x5, x6, x7, x8, x9, x10, x11, some (.int (n : Int)), x13, x14, x15, x16, x17, x18, x19, x20, x21, x22, x23] M = .nx [x0, some (.ref b), x2, x3, x4, x5, x6, x7, x8, x9, x10, x11, some (.int (n : Int)), some (.ref R), y14, y15, x16, x17, x18, x19, x20, x21, x22, x23] M' ∧ Rl M M' b r R n n rr g := by
  have H0 : Rl M (M ++ [MO.lst []]) b r M.length n 0 (fun _ => 0) (fun _ _ => 0) := ⟨(Ge.refl hB).app _, Nat.le_refl _, hB.lt, get_end, fun i hi => absurd hi (Nat.not_lt_zero _), fun i hi => absurd hi (Nat.not_lt_zero _)⟩
  have main := for_rng (i := 14) (n := n) (b := law_b2)
    (P := fun t ρ M' => ∃ z14 z15 rr g, ρ = [x0, some (.ref b), x2, x3, x4, x5, x6, x7, x8, x9, x10, x11, some (.int (n : Int)), some (.ref M.length), z14, z15, x16, x17, x18, x19, x20, x21, x22, x23] ∧ Rl M M' b r M.length n t rr g) (R := fun _ _ => False)
    (fun t ρ M' ht ⟨z14, z15, rr, g, hρ, H⟩ => by
      subst hρ
      obtain ⟨rr', g', y15, M2, e, H2⟩ := lap12_step (x0 := x0) (x2 := x2) (x3 := x3) (x4 := x4) (x5 := x5) (x6 := x6) (x7 := x7) (x8 := x8) (x9 := x9) (x10 := x10) (x11 := x11) (x16 := x16) (x17 := x17) (x18 := x18) (x19 := x19) (x20 := x20) (x21 := x21) (x22 := x22) (x23 := x23) (x15 := z15) H hn ht
      exact .inl ⟨_, M2, e, _, y15, rr', g', rfl, H2⟩)
    n 0 [x0, some (.ref b), x2, x3, x4, x5, x6, x7, x8, x9, x10, x11, some (.int (n : Int)), some (.ref M.length), x14, x15, x16, x17, x18, x19, x20, x21, x22, x23] (M ++ [MO.lst []]) (by omega) ⟨x14, x15, _, _, rfl, H0⟩
  rcases main with ⟨ρ', M', e, z14, z15, rr, g, hρ, H⟩ | ⟨_, _, _, z⟩
  · subst hρ
    refine ⟨M.length, rr, g, z14, z15, M', seq_step (ρ' := [x0, some (.ref b), x2, x3, x4, x5, x6, x7, x8, x9, x10, x11, some (.int (n : Int)), some (.ref M.length), x14, x15, x16, x17, x18, x19, x20, x21, x22, x23]) (M' := M ++ [MO.lst []]) rfl ?_, H⟩
    unfold law_s12
    have src : sArg fRng1 (aCons (mVar 12) aNil) [x0, some (.ref b), x2, x3, x4, x5, x6, x7, x8, x9, x10, x11, some (.int (n : Int)), some (.ref M.length), x14, x15, x16, x17, x18, x19, x20, x21, x22, x23] (M ++ [MO.lst []]) = .ok ⟨(List.range' 0 n).map fun k : Nat => D.int (k : Int), []⟩ (M ++ [MO.lst []]) := by simp [mVar_z, mVar_s, rng1_src (by omega : n ≤ 1000)]
    rw [sFor_eq, src]
    exact e
  · exact z.elim
theorem Rl.rws {rr : Nat → Nat} {g : Gd} (H : Rl M0 M b r R n n rr g) : Rws M R n rr g := ⟨H.at_, fun i hi => (H.row i hi).1⟩
theorem lap13 {rr : Nat → Nat} {g : Gd} (H : Rl M0 M b r R n n rr g) (hn : n ≤ 3) : ∃ (rr' : Nat → Nat) (g' : Gd) (M' : MH), law_s13 [x0, some (.ref b), x2, x3, x4, x5, x6, x7, x8, x9, x10, x11, some (.int (n : Int)), some (.ref R), x14, x15, x16, x17, x18, x19, x20, x21, x22, x23] M = .nx [x0, some (.ref b), x2, x3, x4, x5, x6, x7, x8, x9, x10, x11, some (.int (n : Int)), some (.ref R), x14, x15, x16, x17, x18, x19, x20, x21, x22, x23] M' ∧ Rws M' R n rr' g' ∧ (∀ i, i < n → ∀ j, j ≤ n → SzQ 5 (g' i j)) ∧ Ge b r M0 M' := by
  have s5 : ∀ i, i < n → ∀ j, j ≤ n → SzQ 5 (g i j) := fun i hi j hj => (H.sz i hi j hj).mono (by decide)
  by_cases h1 : 1 < n
  · have c1 : tB1 (mBin fGt (mVar 12) (mC (.int 1))) [x0, some (.ref b), x2, x3, x4, x5, x6, x7, x8, x9, x10, x11, some (.int (n : Int)), some (.ref R), x14, x15, x16, x17, x18, x19, x20, x21, x22, x23] M = .ok true M := by
      have : (1 : Int) < n := by omega
      simp [mVar_z, mVar_s, this]
    obtain ⟨v, M1, e1, v0, v1, S1⟩ := take_ok H.ge.bag (many := 4) (by decide) (by decide)
    have H1 := H.step S1.ge
    by_cases hv : v = 0
    · subst hv
      have c2 : tB1 (mBin (fEq false) (mCall 2 f_law_take (aCons (mVar 1) (aCons (mC (.int 4)) aNil))) (mC (.int 0))) [x0, some (.ref b), x2, x3, x4, x5, x6, x7, x8, x9, x10, x11, some (.int (n : Int)), some (.ref R), x14, x15, x16, x17, x18, x19, x20, x21, x22, x23] M = .ok true M1 := by
        simp [mVar_z, mVar_s, e1]
      have i1 : fIx (.ref R) (.int 1) M1 = .ok (.tup [.ref (rr 1), fr (g 1 n)]) M1 := by
        rw [fIx_ref H1.at_, show atI ((List.range n).map fun i => D.tup [.ref (rr i), fr (g i n)]) 1 = some (D.tup [.ref (rr 1), fr (g 1 n)]) from atI_at (k := 1) (range_get _ h1)]
      have r1 := (H1.row 1 h1).1
      have sq : sSeqOf (.ref (rr 1)) M1 = .ok ⟨rw_ n (g 1), [(rr 1, rw_ n (g 1))]⟩ M1 := by
        show (match M1[rr 1]? with | some (.lst l) => Res.ok (Src.mk l [(rr 1, l)]) M1 | _ => .err) = _
        rw [r1]
      have two : SzQ 2 (2 : Rat) := ⟨⟨by decide⟩, ⟨by decide⟩⟩
      have lc := lc_mi (g := gN 17) (te := mCall 2 f_law_mul (aCons (mVar 17) (aCons (mTup (aCons (mC (.int 2)) (aCons (mC (.int 1)) aNil))) aNil))) (chk := [(rr 1, rw_ n (g 1))]) (ρ := wipeD [x0, some (.ref b), x2, x3, x4, x5, x6, x7, x8, x9, x10, x11, some (.int (n : Int)), some (.ref R), x14, x15, x16, x17, x18, x19, x20, x21, x22, x23] [17]) (M := M1)
        (ρx := fun j => [x0, some (.ref b), x2, x3, x4, x5, x6, x7, x8, x9, x10, x11, some (.int (n : Int)), some (.ref R), x14, x15, x16, some (fr (g 1 j)), x18, x19, x20, x21, x22, x23]) (it := fun j => fr (g 1 j)) (f := fun j => fr (g 1 j * 2)) (by simp [chkOk, r1]) (l := List.range n) fun j hj => ⟨rfl, by
          have hj2 := List.mem_range.mp hj
          have m1 := law_mul_ok (M := M1) ((H.sz 1 h1 j (by omega)).mono (by decide : 3 ≤ 4000)) (two.mono (by decide : 2 ≤ 4000))
          have e17 : mVar 17 [x0, some (.ref b), x2, x3, x4, x5, x6, x7, x8, x9, x10, x11, some (.int (n : Int)), some (.ref R), x14, x15, x16, some (fr (g 1 j)), x18, x19, x20, x21, x22, x23] M1 = .ok (fr (g 1 j)) M1 := rfl
          rw [mCall_eq, aCons_eq, e17]
          exact m1⟩
      have lo := K13.lc_ok (vs := [17]) (sm := sSq (mBin fIx (mBin fIx (mVar 13) (mC (.int 1))) (mC (.int 0)))) (ρ := [x0, some (.ref b), x2, x3, x4, x5, x6, x7, x8, x9, x10, x11, some (.int (n : Int)), some (.ref R), x14, x15, x16, x17, x18, x19, x20, x21, x22, x23]) (M := M1) (M1 := M1) (by simp [mVar_z, mVar_s, i1, sq]; rfl) (by simp [rw_]; omega) lc
      generalize hM2 : M1 ++ [MO.lst ((List.range n).map fun j => fr (g 1 j * 2))] = M2 at lo
      have S2 : Ge b r M1 M2 := by rw [← hM2]; exact (Ge.refl H1.ge.bag).app _
      have H2 := H1.step S2
      have hnew : M2[M1.length]? = some (MO.lst (rw_ n fun j => g 1 j * 2)) := by rw [← hM2]; exact get_end
      have i0 : fIx (.ref R) (.int 0) M2 = .ok (.tup [.ref (rr 0), fr (g 0 n)]) M2 := by
        rw [fIx_ref H2.at_, show atI ((List.range n).map fun i => D.tup [.ref (rr i), fr (g i n)]) 0 = some (D.tup [.ref (rr 0), fr (g 0 n)]) from atI_at (k := 0) (range_get _ (by omega))]
      have st : fSetL (.ref R) (.int 0) (.tup [.ref M1.length, fr (g 0 n)]) M2 = some (M2.set R (MO.lst ((List.range n).map fun i => if i = 0 then D.tup [.ref M1.length, fr (g 0 n)] else D.tup [.ref (rr i), fr (g i n)]))) := by
        have := fSetL_ref H2.at_ 0 (by simp; omega) (.tup [.ref M1.length, fr (g 0 n)])
        rw [range_set] at this
        exact this
      have hRl := get_lt H2.at_
      have hRn : M1.length ≠ R := by have := get_lt H1.at_; omega
      refine ⟨fun i => if i = 0 then M1.length else rr i, fun i => if i = 0 then (fun j => if j = n then g 0 n else g 1 j * 2) else g i, M2.set R (MO.lst ((List.range n).map fun i => if i = 0 then D.tup [.ref M1.length, fr (g 0 n)] else D.tup [.ref (rr i), fr (g i n)])), ?_, ⟨?_, fun i hi => ?_⟩, fun i hi j hj => ?_, ?_⟩
      · unfold law_s13
        rw [if_t (tand_t c1 c2), sAsg_eq, mTup_eq, aCons_eq, lo]
        simp [mVar_z, mVar_s, i0, st]
      · rw [List.getElem?_set_self hRl]
        congr 2
        exact List.map_congr_left fun i hi => by
          by_cases e : i = 0
          · subst e; simp
          · simp [e]
      · by_cases e : i = 0
        · subst e
          simp only [if_true]
          rw [List.getElem?_set_ne (Ne.symm hRn), hnew]
          congr 2
          exact List.map_congr_left fun j hj => by
            have := List.mem_range.mp hj
            show fr (g 1 j * 2) = fr (if j = n then g 0 n else g 1 j * 2)
            rw [if_neg (by omega)]
        · simp only [e, if_false]
          rw [List.getElem?_set_ne (Ne.symm (H2.row i hi).2.1), (H2.row i hi).1]
      · by_cases e : i = 0
        · simp only [e, if_true]
          by_cases e2 : j = n
          · simp only [e2, if_true]
            exact s5 0 (by omega) n (Nat.le_refl _)
          · simp only [e2, if_false]
            exact sz_mul2 (H.sz 1 h1 j hj) two
        · simp only [e, if_false]
          exact s5 i hi j hj
      · refine ⟨by rw [List.length_set]; exact H2.ge.len, fun k hk hb => ?_, ?_⟩
        · have := H.low
          rw [List.getElem?_set_ne (by omega)]
          exact H2.ge.rest k hk hb
        · have h8 := H.low
          have h9 := H.hb
          obtain ⟨c, s', i, cells, B⟩ := H2.ge.bag
          exact ⟨c, s', i, cells, ⟨by rw [List.getElem?_set_ne (by omega), B.at_], by rw [List.getElem?_set_ne (by omega), B.cl], B.cp, B.c0, B.i0, B.ne, B.few⟩⟩
    · have c2 : tB1 (mBin (fEq false) (mCall 2 f_law_take (aCons (mVar 1) (aCons (mC (.int 4)) aNil))) (mC (.int 0))) [x0, some (.ref b), x2, x3, x4, x5, x6, x7, x8, x9, x10, x11, some (.int (n : Int)), some (.ref R), x14, x15, x16, x17, x18, x19, x20, x21, x22, x23] M = .ok false M1 := by
        simp [mVar_z, mVar_s, e1, hv]
      refine ⟨rr, g, M1, ?_, H1.rws, s5, H1.ge⟩
      unfold law_s13
      rw [if_f (tand_t c1 c2)]
      rfl
  · have c1 : tB1 (mBin fGt (mVar 12) (mC (.int 1))) [x0, some (.ref b), x2, x3, x4, x5, x6, x7, x8, x9, x10, x11, some (.int (n : Int)), some (.ref R), x14, x15, x16, x17, x18, x19, x20, x21, x22, x23] M = .ok false M := by
      have : ¬ (1 : Int) < n := by omega
      simp [mVar_z, mVar_s, this]
    refine ⟨rr, g, M, ?_, H.rws, s5, H.ge⟩
    unfold law_s13
    rw [if_f (tand_f c1)]
    rfl
end
end K13
namespace K13
open PySem PySem.Spec PyProof.Rows L2 Mp
theorem for_rngG {n : Nat} {g : G} {chk : List (Nat × List D)} {it : Nat → D} {bd : S} {M : MH} {P : Nat → Ev → Prop} (hc : chkOk chk M = true) (h : ∀ p ρ, p < n → P p ρ → ∃ ρ1 ρ', g (it p) ρ = some ρ1 ∧ bd ρ1 M = .nx ρ' M ∧ P (p + 1) ρ') :
    ∀ (m p : Nat) (ρ : Ev), p + m = n → P p ρ → ∃ ρ', forGo g bd chk ((List.range' p m).map it) ρ M = .nx ρ' M ∧ P n ρ'
  | 0, p, ρ, e, hP => ⟨ρ, by
    show (if chkOk chk M = true then SRes.nx ρ M else .err) = _
    rw [if_pos hc], by rw [← e]; exact hP⟩
  | m + 1, p, ρ, e, hP => by
    obtain ⟨ρ1, ρ2, e1, e2, h2⟩ := h p ρ (by omega) hP
    obtain ⟨ρ3, e3, h3⟩ := for_rngG hc h m (p + 1) ρ2 (by omega) h2
    refine ⟨ρ3, ?_, h3⟩
    show (if chkOk chk M = true then (match g (it p) ρ with
      | some ρ1 => (match bd ρ1 M with
        | .nx ρ2 M2 => forGo g bd chk ((List.range' (p + 1) m).map it) ρ2 M2
        | .ct ρ2 M2 => forGo g bd chk ((List.range' (p + 1) m).map it) ρ2 M2
        | .bk ρ2 M2 => .nx ρ2 M2
        | r => r)
      | none => .err) else .err) = _
    rw [if_pos hc, e1]
    show (match bd ρ1 M with
        | .nx ρ2 M2 => forGo g bd chk ((List.range' (p + 1) m).map it) ρ2 M2
        | .ct ρ2 M2 => forGo g bd chk ((List.range' (p + 1) m).map it) ρ2 M2
        | .bk ρ2 M2 => .nx ρ2 M2
        | r => r) = _
    rw [e2]
    exact e3
theorem sz_add2 {x y : Rat} {n m : Nat} (hx : SzQ n x) (hy : SzQ m y) : SzQ (n + m + 1) (x + y) := by
  rw [← add_eq]
  exact sz_divInt (mul_ne (den_ne x) (den_ne y)) ((hx.1.mul hy.2).add ((hy.1.mul hx.2).mono (by omega))) ((hx.2.mul hy.2).mono (by omega))
theorem zip_src2 {M : MH} {i n : Nat} {f x : Nat → Rat} (h1 : M[i]? = some (MO.lst (rw_ n f))) : fZip [.ref i, .tup (rw_ n x)] M = .ok ⟨(List.range' 0 n).map fun j => .tup [fr (f j), fr (x j)], [(i, rw_ n f)]⟩ M := by
  have e1 : sSeqOf (.ref i) M = .ok ⟨rw_ n f, [(i, rw_ n f)]⟩ M := by
    show (match M[i]? with | some (.lst l) => Res.ok (Src.mk l [(i, l)]) M | _ => .err) = _
    rw [h1]
  have e2 : sSeqOf (.tup (rw_ n x)) M = .ok ⟨rw_ n x, []⟩ M := rfl
  show (match sSeqOf (.ref i) M, sSeqOf (.tup (rw_ n x)) M with
    | .ok s _, .ok t _ => Res.ok (Src.mk (List.zipWith (fun a b => .tup [a, b]) s.items t.items) (s.chk ++ t.chk)) M
    | _, _ => .err) = _
  rw [e1, e2]
  show Res.ok (Src.mk (List.zipWith (fun a b => .tup [a, b]) (rw_ n f) (rw_ n x)) _) M = _
  unfold rw_
  rw [zip_map, List.range_eq_range']
  rfl
theorem neq_frac {M : MH} (q : Rat) : fEq true (fr q) (fr q) M = .ok (.bl false) M := fEq_same (p := pfr q) (fun s z => by cases z) (py_fr q) (py_fr q) rfl true
section
variable {x0 x2 x3 x4 x5 x6 x7 x8 x9 x10 x11 x12 x13 x14 x15 x16 x17 x18 x19 x20 x21 x22 x23 : Option D} {b r n R : Nat} {M0 M : MH} {x : Nat → Rat} {rr : Nat → Nat} {g : Gd}
theorem row_sum {i : Nat} (W : Rws M R n rr g) (hn : n ≤ 3) (hi : i < n) (sz : ∀ i, i < n → ∀ j, j ≤ n → SzQ 5 (g i j)) (hx : ∀ i, i < n → SzQ 341 (x i)) (hs : sm n (fun j => g i j * x j) = g i n) :
    ∃ y17 y19 y20, law_b4 [x0, some (.ref b), x2, x3, x4, x5, x6, x7, x8, some (.tup (rw_ n x)), x10, x11, some (.int (n : Int)), some (.ref R), x14, some (.ref (rr i)), x16, x17, some (fr (g i n)), x19, x20, x21, x22, x23] M = .nx [x0, some (.ref b), x2, x3, x4, x5, x6, x7, x8, some (.tup (rw_ n x)), x10, x11, some (.int (n : Int)), some (.ref R), x14, some (.ref (rr i)), x16, y17, some (fr (g i n)), y19, y20, x21, x22, x23] M := by
  have r1 := W.row i hi
  obtain ⟨ρ', e, z17, z20, hρ, _⟩ := for_rngG (n := n) (g := gT 2 (gConsD (gN 17) (gConsD (gN 20) gNilD))) (chk := [(rr i, rw_ n (g i))]) (it := fun j => D.tup [fr (g i j), fr (x j)]) (bd := law_b3) (M := M)
    (P := fun p ρ => ∃ z17 z20, ρ = [x0, some (.ref b), x2, x3, x4, x5, x6, x7, x8, some (.tup (rw_ n x)), x10, x11, some (.int (n : Int)), some (.ref R), x14, some (.ref (rr i)), x16, z17, some (fr (g i n)), some (fr (sm p (fun j => g i j * x j))), z20, x21, x22, x23] ∧ SzQ (1 + 347 * p) (sm p (fun j => g i j * x j))) (by simp [chkOk, r1])
    (fun p ρ hp ⟨z17, z20, hρ, hz⟩ => by
      subst hρ
      have m0 := (sz i hi p (by omega))
      have m1 := law_mul_ok (M := M) (m0.mono (by decide : 5 ≤ 4000)) ((hx p hp).mono (by decide : 341 ≤ 4000))
      have m2 := sz_mul2 m0 (hx p hp)
      have m3 := law_add_ok (M := M) (hz.mono (by omega : 1 + 347 * p ≤ 4000)) (m2.mono (by decide : 5 + 341 ≤ 4000))
      refine ⟨_, [x0, some (.ref b), x2, x3, x4, x5, x6, x7, x8, some (.tup (rw_ n x)), x10, x11, some (.int (n : Int)), some (.ref R), x14, some (.ref (rr i)), x16, some (fr (g i p)), some (fr (g i n)), some (fr (sm (p + 1) (fun j => g i j * x j))), some (fr (x p)), x21, x22, x23], rfl, ?_, some (fr (g i p)), some (fr (x p)), rfl, ?_⟩
      · show law_b3 [x0, some (.ref b), x2, x3, x4, x5, x6, x7, x8, some (.tup (rw_ n x)), x10, x11, some (.int (n : Int)), some (.ref R), x14, some (.ref (rr i)), x16, some (fr (g i p)), some (fr (g i n)), some (fr (sm p (fun j => g i j * x j))), some (fr (x p)), x21, x22, x23] M = _
        unfold law_b3
        refine (set_step (d := fr (sm p (fun j => g i j * x j) + g i p * x p)) ?_)
        simp [mVar_z, mVar_s, m1, m3]
      · exact (sz_add2 hz m2).mono (by omega))
    n 0 [x0, some (.ref b), x2, x3, x4, x5, x6, x7, x8, some (.tup (rw_ n x)), x10, x11, some (.int (n : Int)), some (.ref R), x14, some (.ref (rr i)), x16, x17, some (fr (g i n)), some (fr 0), x20, x21, x22, x23] (by omega) ⟨x17, x20, rfl, sz_zero.mono (by omega)⟩
  subst hρ
  rw [hs] at e
  refine ⟨z17, some (fr (g i n)), z20, ?_⟩
  unfold law_b4
  refine seq_step (ρ' := [x0, some (.ref b), x2, x3, x4, x5, x6, x7, x8, some (.tup (rw_ n x)), x10, x11, some (.int (n : Int)), some (.ref R), x14, some (.ref (rr i)), x16, x17, some (fr (g i n)), some (fr 0), x20, x21, x22, x23]) (M' := M) rfl (seq_step (ρ' := [x0, some (.ref b), x2, x3, x4, x5, x6, x7, x8, some (.tup (rw_ n x)), x10, x11, some (.int (n : Int)), some (.ref R), x14, some (.ref (rr i)), x16, z17, some (fr (g i n)), some (fr (g i n)), z20, x21, x22, x23]) (M' := M) ?_ ?_)
  · rw [sFor_eq]
    have src : sArg fZip (aCons (mVar 15) (aCons (mVar 9) aNil)) [x0, some (.ref b), x2, x3, x4, x5, x6, x7, x8, some (.tup (rw_ n x)), x10, x11, some (.int (n : Int)), some (.ref R), x14, some (.ref (rr i)), x16, x17, some (fr (g i n)), some (fr 0), x20, x21, x22, x23] M = .ok ⟨(List.range' 0 n).map fun j => .tup [fr (g i j), fr (x j)], [(rr i, rw_ n (g i))]⟩ M := by
      simp [mVar_z, mVar_s, zip_src2 r1]
    rw [src]
    exact e
  · simp [mVar_z, mVar_s, neq_frac]
theorem lap16 (W : Rws M R n rr g) (hn : n ≤ 3) (sz : ∀ i, i < n → ∀ j, j ≤ n → SzQ 5 (g i j)) : ∃ d y15 y17 y18 y19 y20 M', (sSeq law_s14 (sSeq law_s15 law_s16)) [x0, some (.ref b), x2, x3, x4, x5, x6, x7, x8, x9, x10, x11, some (.int (n : Int)), some (.ref R), x14, x15, x16, x17, x18, x19, x20, x21, x22, x23] M = .nx [x0, some (.ref b), x2, x3, x4, x5, x6, x7, x8, some d, x10, x11, some (.int (n : Int)), some (.ref R), x14, y15, x16, y17, y18, y19, y20, x21, x22, x23] M' ∧ M <+: M' := by
  rcases solve_both W hn sz with ⟨e1, e2⟩ | ⟨x, e1, e2, hx, hs⟩
  · refine ⟨.non, x15, x17, x18, x19, x20, M ++ [MO.lst []], ?_, List.prefix_append _ _⟩
    refine seq_step (ρ' := [x0, some (.ref b), x2, x3, x4, x5, x6, x7, x8, some .non, x10, x11, some (.int (n : Int)), some (.ref R), x14, x15, x16, x17, x18, x19, x20, x21, x22, x23]) (M' := M) ?_ (seq_step (ρ' := [x0, some (.ref b), x2, x3, x4, x5, x6, x7, x8, some .non, x10, x11, some (.int (n : Int)), some (.ref R), x14, x15, x16, x17, x18, x19, x20, x21, x22, x23]) (M' := M) ?_ ?_)
    · unfold law_s14
      simp [mVar_z, mVar_s, e1]
    · unfold law_s15
      simp [mVar_z, mVar_s, e2, alike_non]
    · unfold law_s16
      rw [sFor_eq]
      have src : sSq (mIf (tB1 (mBin (fIs true) (mVar 9) (mC .non))) (mVar 13) (mLst aNil)) [x0, some (.ref b), x2, x3, x4, x5, x6, x7, x8, some .non, x10, x11, some (.int (n : Int)), some (.ref R), x14, x15, x16, x17, x18, x19, x20, x21, x22, x23] (M) = .ok ⟨[], [(M.length, [])]⟩ (M ++ [MO.lst []]) := by
        have f1 : fIs true .non .non M = .ok (.bl false) M := rfl
        have f2 : sSeqOf (.ref M.length) (M ++ [MO.lst []]) = .ok ⟨[], [(M.length, [])]⟩ (M ++ [MO.lst []]) := by
          show (match (M ++ [MO.lst []])[M.length]? with | some (.lst l) => Res.ok (Src.mk l [(M.length, l)]) (M ++ [MO.lst []]) | _ => .err) = _
          rw [get_end]
        simp [mVar_z, mVar_s, f1, f2]
      rw [src]
      have hc : chkOk [(M.length, [])] (M ++ [MO.lst []]) = true := by simp [chkOk]
      show (if chkOk [(M.length, [])] (M ++ [MO.lst []]) = true then SRes.nx _ (M ++ [MO.lst []]) else .err) = _
      rw [if_pos hc]
  · obtain ⟨ρ', e, z15, z17, z18, z19, z20, hρ⟩ := for_rngG (n := n) (g := gT 2 (gConsD (gN 15) (gConsD (gN 18) gNilD))) (chk := [(R, (List.range n).map fun i => .tup [.ref (rr i), fr (g i n)])]) (it := fun i => D.tup [.ref (rr i), fr (g i n)]) (bd := law_b4) (M := M)
      (P := fun p ρ => ∃ z15 z17 z18 z19 z20, ρ = [x0, some (.ref b), x2, x3, x4, x5, x6, x7, x8, some (.tup (rw_ n x)), x10, x11, some (.int (n : Int)), some (.ref R), x14, z15, x16, z17, z18, z19, z20, x21, x22, x23]) (by simp [chkOk, W.at_])
      (fun p ρ hp ⟨z15, z17, z18, z19, z20, hρ⟩ => by
        subst hρ
        obtain ⟨y17, y19, y20, e⟩ := row_sum (x0 := x0) (x2 := x2) (x3 := x3) (x4 := x4) (x5 := x5) (x6 := x6) (x7 := x7) (x8 := x8) (x10 := x10) (x11 := x11) (x14 := x14) (x16 := x16) (x17 := z17) (x19 := z19) (x20 := z20) (x21 := x21) (x22 := x22) (x23 := x23) (b := b) W hn hp sz hx (hs p hp)
        exact ⟨_, _, rfl, e, _, y17, _, y19, y20, rfl⟩)
      n 0 [x0, some (.ref b), x2, x3, x4, x5, x6, x7, x8, some (.tup (rw_ n x)), x10, x11, some (.int (n : Int)), some (.ref R), x14, x15, x16, x17, x18, x19, x20, x21, x22, x23] (by omega) ⟨x15, x17, x18, x19, x20, rfl⟩
    subst hρ
    refine ⟨.tup (rw_ n x), z15, z17, z18, z19, z20, M, ?_, List.prefix_refl _⟩
    refine seq_step (ρ' := [x0, some (.ref b), x2, x3, x4, x5, x6, x7, x8, some (.tup (rw_ n x)), x10, x11, some (.int (n : Int)), some (.ref R), x14, x15, x16, x17, x18, x19, x20, x21, x22, x23]) (M' := M) ?_ (seq_step (ρ' := [x0, some (.ref b), x2, x3, x4, x5, x6, x7, x8, some (.tup (rw_ n x)), x10, x11, some (.int (n : Int)), some (.ref R), x14, x15, x16, x17, x18, x19, x20, x21, x22, x23]) (M' := M) ?_ ?_)
    · unfold law_s14
      simp [mVar_z, mVar_s, e1]
    · unfold law_s15
      simp [mVar_z, mVar_s, e2, alike_rw hn hx]
    · unfold law_s16
      rw [sFor_eq]
      have src : sSq (mIf (tB1 (mBin (fIs true) (mVar 9) (mC .non))) (mVar 13) (mLst aNil)) [x0, some (.ref b), x2, x3, x4, x5, x6, x7, x8, some (.tup (rw_ n x)), x10, x11, some (.int (n : Int)), some (.ref R), x14, x15, x16, x17, x18, x19, x20, x21, x22, x23] M = .ok ⟨(List.range' 0 n).map fun i => .tup [.ref (rr i), fr (g i n)], [(R, (List.range n).map fun i => .tup [.ref (rr i), fr (g i n)])]⟩ M := by
        have f1 : fIs true (.tup (rw_ n x)) .non M = .ok (.bl true) M := by
          show Res.ok (D.bl (!decide (D.tup (rw_ n x) = D.non))) M = _
          rw [decide_eq_false (by intro z; cases z)]
          rfl
        have f2 : sSeqOf (.ref R) M = .ok ⟨(List.range' 0 n).map fun i => .tup [.ref (rr i), fr (g i n)], [(R, (List.range n).map fun i => .tup [.ref (rr i), fr (g i n)])]⟩ M := by
          show (match M[R]? with | some (.lst l) => Res.ok (Src.mk l [(R, l)]) M | _ => .err) = _
          rw [W.at_, List.range_eq_range']
        simp [mVar_z, mVar_s, f1, f2]
      rw [src]
      exact e
end
end K13
namespace K13
open PySem PySem.Spec PyProof.Rows L2 Mp
/-- fit for both checkers -/
structure Fit (M : MH) (d : D) : Prop where
  tm : Tm M 3 11 d
  lo : lo d = true
  sz : sz d ≤ 1000000
theorem Fit.heap {M M' : MH} {d : D} (h : Fit M d) (e : M <+: M') : Fit M' d := ⟨h.tm.heap fun i o hi => pre_get e hi, h.lo, h.sz⟩
theorem szs_mem {d : D} : ∀ {l : List D}, d ∈ l → sz d ≤ szs l
  | e :: l, h => by
    rcases List.mem_cons.mp h with rfl | h
    · simp only [szs]; omega
    · have := szs_mem h
      simp only [szs]; omega
theorem szs_cut {l : List D} (lo hi : Option Int) : szs (cutL l lo hi) ≤ szs l := by
  have drop : ∀ (k : Nat) (l : List D), szs (l.drop k) ≤ szs l := by
    intro k
    induction k with
    | zero => intro l; exact Nat.le_refl _
    | succ k ih =>
      intro l
      cases l with
      | nil => exact Nat.le_refl _
      | cons d l =>
        have := ih l
        simp only [List.drop_succ_cons, szs]
        omega
  have take : ∀ (k : Nat) (l : List D), szs (l.take k) ≤ szs l := by
    intro k
    induction k with
    | zero => intro l; simp [szs]
    | succ k ih =>
      intro l
      cases l with
      | nil => simp
      | cons d l =>
        have := ih l
        simp only [List.take_succ_cons, szs]
        omega
  unfold cutL
  exact Nat.le_trans (take _ _) (drop _ _)
theorem szs_append (a c : List D) : szs (a ++ c) = szs a + szs c := by
  induction a with
  | nil => simp [szs]
  | cons d a ih => simp only [List.cons_append, szs, ih]; omega
section
variable {x0 x2 x3 x4 x5 x6 x7 x8 x9 x10 x11 x12 x13 x14 x15 x16 x17 x18 x19 x20 x21 x22 x23 : Option D} {b r i : Nat} {M : MH} {l : List D}
theorem b5_ok {d : D} (h : Fit M d) : law_b5 [x0, some (.ref b), x2, x3, x4, x5, x6, x7, x8, x9, some d, x11, x12, x13, x14, x15, x16, x17, x18, x19, x20, x21, x22, x23] M = .nx [x0, some (.ref b), x2, x3, x4, x5, x6, x7, x8, x9, some d, x11, x12, x13, x14, x15, x16, x17, x18, x19, x20, x21, x22, x23] M := by
  have e1 := form_ok (h.tm.mono (Nat.le_refl _) (by decide : 11 ≤ 50)) h.sz
  have e2 : f_law_is_going 12 [d, .int 11] M = .ok (.bl (chk 11 d)) M := lg_all 11 h.tm (by decide) h.lo
  have e3 : chk 12 d = chk 11 d := (chk_more 11 11 h.tm (Nat.le_refl _)).symm
  have e4 : fEq true (.bl (chk 11 d)) (.bl (chk 11 d)) M = .ok (.bl false) M := by rw [fEq_bl]; cases chk 11 d <;> rfl
  rw [e3] at e1
  unfold law_b5
  simp [mVar_z, mVar_s, e1, e2, e4]
theorem lap21 {O : List D} (hi : M[i]? = some (MO.lst O)) (h : ∀ d ∈ O, Fit M d) : ∃ y10, law_s21 [x0, some (.ref b), x2, x3, x4, x5, x6, x7, x8, x9, x10, x11, x12, x13, x14, x15, x16, x17, x18, x19, x20, x21, some (.ref i), x23] M = .nx [x0, some (.ref b), x2, x3, x4, x5, x6, x7, x8, x9, y10, x11, x12, x13, x14, x15, x16, x17, x18, x19, x20, x21, some (.ref i), x23] M := by
  obtain ⟨ρ', e, y10, rfl⟩ := for_keep (i := 10) (bd := law_b5) (chk := [(i, O)]) (M := M) (I := fun ρ => ∃ y10, ρ = [x0, some (.ref b), x2, x3, x4, x5, x6, x7, x8, x9, y10, x11, x12, x13, x14, x15, x16, x17, x18, x19, x20, x21, some (.ref i), x23]) (by simp [chkOk, hi]) O [x0, some (.ref b), x2, x3, x4, x5, x6, x7, x8, x9, x10, x11, x12, x13, x14, x15, x16, x17, x18, x19, x20, x21, some (.ref i), x23] ⟨x10, rfl⟩ fun d hd ρ ⟨z, hρ⟩ => by
    subst hρ
    exact ⟨[x0, some (.ref b), x2, x3, x4, x5, x6, x7, x8, x9, some d, x11, x12, x13, x14, x15, x16, x17, x18, x19, x20, x21, some (.ref i), x23], b5_ok (h d hd), some d, rfl⟩
  refine ⟨y10, ?_⟩
  have sq : sSeqOf (.ref i) M = .ok ⟨O, [(i, O)]⟩ M := by
    show (match M[i]? with | some (.lst l) => Res.ok (Src.mk l [(i, l)]) M | _ => .err) = _
    rw [hi]
  unfold law_s21
  rw [sFor_eq, sSq_eq]
  have e22 : mVar 22 [x0, some (.ref b), x2, x3, x4, x5, x6, x7, x8, x9, x10, x11, x12, x13, x14, x15, x16, x17, x18, x19, x20, x21, some (.ref i), x23] M = .ok (.ref i) M := rfl
  rw [e22, Res.bind_ok, sq]
  exact e
def odd1 (l : List D) (w : Nat) : List D := [.tup l, .non, .ref w, .tup (l ++ [.tup [.str "work"]]), .tup (cutL l none (some (-1))), .tup [.str "one", .int (-1), .tup l], .tup [.str "one", .bl true, .tup l], .tup [.str "one", .int 2, .tup l], .tup [.str "row"], .tup [.str "again"]]
def odd2 (l : List D) (w : Nat) : List D := [.tup [.str "beside", .tup [.int 1, .int 2]], .tup [.str "beside", .tup [.int 0, .int (-1)], .tup l], .tup [.str "beside", .ref w, .tup l]]
def odd3 (l : List D) : List D := [.tup [.str "beside", .tup [], .tup l], .tup [.str "row", .tup l, .tup [.str "zz"]], .tup [.str "work", .str "work"], .tup [.str "quiet", .tup []], .tup [], .tup [.tup l], .str "work", .tup [.str "again", .tup l, .tup l]]
theorem lap18 (hl : l.length ≤ 4) : law_s18 [x0, some (.ref b), x2, x3, x4, x5, x6, x7, x8, x9, x10, x11, x12, x13, x14, x15, x16, x17, x18, x19, x20, some (.tup l), x22, x23] M = .nx [x0, some (.ref b), x2, x3, x4, x5, x6, x7, x8, x9, x10, x11, x12, x13, x14, x15, x16, x17, x18, x19, x20, some (.tup l), some (.ref (M.length + 1)), x23] (M ++ [MO.lst l] ++ [MO.lst (odd1 l M.length)]) := by
  unfold law_s18
  have e3 : fList [.tup l] M = .ok (.ref M.length) (M ++ [MO.lst l]) := rfl
  have hL : l.length + 1 ≤ 16777216 := by omega
  refine (set_step (d := .ref (M.length + 1)) (M' := M ++ [MO.lst l] ++ [MO.lst (odd1 l M.length)]) ?_)
  simp [mVar_z, mVar_s, e3, hL, odd1]
theorem lap19 {O : List D} (hi : M[i]? = some (MO.lst O)) (hO : O.length ≤ 100) : law_s19 [x0, some (.ref b), x2, x3, x4, x5, x6, x7, x8, x9, x10, x11, x12, x13, x14, x15, x16, x17, x18, x19, x20, some (.tup l), some (.ref i), x23] M = .nx [x0, some (.ref b), x2, x3, x4, x5, x6, x7, x8, x9, x10, x11, x12, x13, x14, x15, x16, x17, x18, x19, x20, some (.tup l), some (.ref (M.length + 2)), x23] (M ++ [MO.lst [.int 0]] ++ [MO.lst (odd2 l M.length)] ++ [MO.lst (O ++ odd2 l M.length)]) := by
  unfold law_s19
  refine set_step ?_
  have e22 : mVar 22 [x0, some (.ref b), x2, x3, x4, x5, x6, x7, x8, x9, x10, x11, x12, x13, x14, x15, x16, x17, x18, x19, x20, some (.tup l), some (.ref i), x23] M = .ok (.ref i) M := rfl
  have ls : (mLst (aCons (mTup (aCons (mC (.str ("beside" : Str))) (aCons (mTup (aCons (mC (.int 1)) (aCons (mC (.int 2)) aNil))) aNil))) (aCons (mTup (aCons (mC (.str ("beside" : Str))) (aCons (mTup (aCons (mC (.int 0)) (aCons (mUn fNeg (mC (.int 1))) aNil))) (aCons (mVar 21) aNil)))) (aCons (mTup (aCons (mC (.str ("beside" : Str))) (aCons (mLst (aCons (mC (.int 0)) aNil)) (aCons (mVar 21) aNil)))) aNil)))) [x0, some (.ref b), x2, x3, x4, x5, x6, x7, x8, x9, x10, x11, x12, x13, x14, x15, x16, x17, x18, x19, x20, some (.tup l), some (.ref i), x23] M = .ok (.ref (M.length + 1)) (M ++ [MO.lst [.int 0]] ++ [MO.lst (odd2 l M.length)]) := by
    simp [mVar_z, mVar_s, odd2]
  have hi2 : (M ++ [MO.lst [.int 0]] ++ [MO.lst (odd2 l M.length)])[i]? = some (MO.lst O) := get_app (get_app hi)
  have hj : (M ++ [MO.lst [.int 0]] ++ [MO.lst (odd2 l M.length)])[M.length + 1]? = some (MO.lst (odd2 l M.length)) := by
    have := get_end (M := M ++ [MO.lst [.int 0]]) (o := MO.lst (odd2 l M.length))
    simpa using this
  have ad := add_ref hi2 hj (by simp [odd2]; omega)
  rw [mBin_eq, e22, Res.bind_ok, ls, Res.bind_ok, ad]
  simp
theorem lap20 {O : List D} (hi : M[i]? = some (MO.lst O)) (hO : O.length ≤ 100) : law_s20 [x0, some (.ref b), x2, x3, x4, x5, x6, x7, x8, x9, x10, x11, x12, x13, x14, x15, x16, x17, x18, x19, x20, some (.tup l), some (.ref i), x23] M = .nx [x0, some (.ref b), x2, x3, x4, x5, x6, x7, x8, x9, x10, x11, x12, x13, x14, x15, x16, x17, x18, x19, x20, some (.tup l), some (.ref (M.length + 1)), x23] (M ++ [MO.lst (odd3 l)] ++ [MO.lst (O ++ odd3 l)]) := by
  unfold law_s20
  refine set_step ?_
  have e22 : mVar 22 [x0, some (.ref b), x2, x3, x4, x5, x6, x7, x8, x9, x10, x11, x12, x13, x14, x15, x16, x17, x18, x19, x20, some (.tup l), some (.ref i), x23] M = .ok (.ref i) M := rfl
  have hi2 : (M ++ [MO.lst (odd3 l)])[i]? = some (MO.lst O) := get_app hi
  have ad := add_ref hi2 get_end (by simp [odd3]; omega)
  rw [mBin_eq, e22, Res.bind_ok]
  refine Eq.trans (congrArg (fun z : Res D => z.bind fun y M2 => fAdd (.ref i) y M2) (show _ = Res.ok (D.ref M.length) (M ++ [MO.lst (odd3 l)]) from ?_)) ?_
  · simp [mVar_z, mVar_s, odd3]
  · rw [Res.bind_ok, ad]
    simp
end
end K13
namespace K13
open PySem PySem.Spec PyProof.Rows L2 Mp
def Itm (M : MH) (x : D) : Prop := Tm M 3 10 x ∧ lo x = true ∧ sz x ≤ 1000
theorem tupF {M : MH} {L : List D} (h : ∀ x ∈ L, Itm M x) (hl : L.length ≤ 100) : Fit M (.tup L) := by
  refine ⟨.tup (by omega) fun x hx => (h x hx).1, los_of fun x hx => (h x hx).2.1, ?_⟩
  have := szs_le (B := 1000) (l := L) fun x hx => (h x hx).2.2
  simp only [sz]
  have h2 : L.length * 1000 ≤ 100 * 1000 := Nat.mul_le_mul_right _ hl
  omega
theorem itm_str {M : MH} {s : Str} (h : PyData.canLay0 (.str s) = true) : Itm M (.str s) := ⟨.str h, rfl, by simp [sz]⟩
theorem itm_int {M : MH} {i : Int} (h : i < 1000000000) : Itm M (.int i) := ⟨.int i, by simp [lo, h], by simp [sz]⟩
theorem itm_bl {M : MH} {i : Bool} : Itm M (.bl i) := ⟨.bl i, rfl, by simp [sz]⟩
theorem itm_tup {M : MH} {L : List D} (h : ∀ x ∈ L, Tm M 3 9 x ∧ lo x = true ∧ sz x ≤ 10) (hl : L.length ≤ 10) : Itm M (.tup L) := by
  refine ⟨.tup (by omega) fun x hx => (h x hx).1, los_of fun x hx => (h x hx).2.1, ?_⟩
  have := szs_le (B := 10) (l := L) fun x hx => (h x hx).2.2
  simp only [sz]
  have h2 : L.length * 10 ≤ 10 * 10 := Nat.mul_le_mul_right _ hl
  omega
theorem itm_ref {M : MH} {i : Nat} (h : M[i]? = some (MO.lst [.int 0])) : Itm M (.ref i) := ⟨.ref h (by decide) fun x hx => by
  obtain rfl := List.mem_singleton.mp hx
  exact .int 0, rfl, by simp [sz]⟩
section
variable {M : MH} {l : List D}
theorem gg_items (h : Gg 3 (.tup l)) : l.length ≤ 4 ∧ szs l ≤ 216 ∧ ∀ x ∈ l, Itm M x := by
  obtain ⟨l', e, hl⟩ := h.tup
  cases e
  have hz := h.sz
  simp only [sz] at hz
  refine ⟨hl, by omega, fun x hx => ?_⟩
  have hm := szs_mem hx
  refine ⟨?_, los_mem h.lo x hx, by omega⟩
  cases h.tm with
  | tup _ t => exact (Tm.any (t x hx)).mono (by decide) (by decide)
theorem gg_itm (h : Gg 3 (.tup l)) : Itm M (.tup l) := ⟨(Tm.any h.tm).mono (by decide) (by decide), h.lo, by have := h.sz; omega⟩
theorem fit1 (h : Gg 3 (.tup l)) {w : Nat} (hw : M[w]? = some (MO.lst l)) : ∀ d ∈ odd1 l w, Fit M d := by
  obtain ⟨h1, h2, h3⟩ := gg_items (M := M) h
  have hg := gg_itm (M := M) h
  intro d hd
  unfold odd1 at hd
  simp only [List.mem_cons, List.not_mem_nil, or_false] at hd
  rcases hd with rfl | rfl | rfl | rfl | rfl | rfl | rfl | rfl | rfl | rfl
  · exact tupF h3 (by omega)
  · exact ⟨.non, rfl, by simp [sz]⟩
  · refine ⟨.ref hw (by omega) fun x hx => ?_, rfl, by simp [sz]⟩
    obtain ⟨_, _, h4⟩ := gg_items (M := M) h
    cases h.tm with
    | tup _ t => exact (Tm.any (t x hx)).mono (by decide) (by decide)
  · refine tupF (fun x hx => ?_) (by simp; omega)
    rcases List.mem_append.mp hx with hx | hx
    · exact h3 x hx
    · obtain rfl := List.mem_singleton.mp hx
      exact itm_tup (fun z hz => by
        obtain rfl := List.mem_singleton.mp hz
        exact ⟨.str (by decide +kernel), rfl, by simp [sz]⟩) (by decide)
  · refine tupF (fun x hx => h3 x ?_) ?_
    · unfold cutL at hx
      exact List.mem_of_mem_drop (List.mem_of_mem_take hx)
    · unfold cutL
      rw [List.length_take, List.length_drop]
      omega
  · refine tupF (fun x hx => ?_) (by simp)
    simp only [List.mem_cons, List.not_mem_nil, or_false] at hx
    rcases hx with rfl | rfl | rfl
    · exact itm_str (by decide +kernel)
    · exact itm_int (by decide)
    · exact hg
  · refine tupF (fun x hx => ?_) (by simp)
    simp only [List.mem_cons, List.not_mem_nil, or_false] at hx
    rcases hx with rfl | rfl | rfl
    · exact itm_str (by decide +kernel)
    · exact itm_bl
    · exact hg
  · refine tupF (fun x hx => ?_) (by simp)
    simp only [List.mem_cons, List.not_mem_nil, or_false] at hx
    rcases hx with rfl | rfl | rfl
    · exact itm_str (by decide +kernel)
    · exact itm_int (by decide)
    · exact hg
  · refine tupF (fun x hx => ?_) (by simp)
    obtain rfl := List.mem_singleton.mp hx
    exact itm_str (by decide +kernel)
  · refine tupF (fun x hx => ?_) (by simp)
    obtain rfl := List.mem_singleton.mp hx
    exact itm_str (by decide +kernel)
theorem fit2 (h : Gg 3 (.tup l)) {w : Nat} (hw : M[w]? = some (MO.lst [.int 0])) : ∀ d ∈ odd2 l w, Fit M d := by
  have hg := gg_itm (M := M) h
  have two : ∀ i j : Int, i < 1000000000 → j < 1000000000 → Itm M (.tup [.int i, .int j]) := fun i j hi hj => itm_tup (fun z hz => by
    simp only [List.mem_cons, List.not_mem_nil, or_false] at hz
    rcases hz with rfl | rfl
    · exact ⟨.int _, by simp [lo, hi], by simp [sz]⟩
    · exact ⟨.int _, by simp [lo, hj], by simp [sz]⟩) (by simp)
  intro d hd
  unfold odd2 at hd
  simp only [List.mem_cons, List.not_mem_nil, or_false] at hd
  rcases hd with rfl | rfl | rfl
  · refine tupF (fun x hx => ?_) (by simp)
    simp only [List.mem_cons, List.not_mem_nil, or_false] at hx
    rcases hx with rfl | rfl
    · exact itm_str (by decide +kernel)
    · exact two _ _ (by decide) (by decide)
  · refine tupF (fun x hx => ?_) (by simp)
    simp only [List.mem_cons, List.not_mem_nil, or_false] at hx
    rcases hx with rfl | rfl | rfl
    · exact itm_str (by decide +kernel)
    · exact two _ _ (by decide) (by decide)
    · exact hg
  · refine tupF (fun x hx => ?_) (by simp)
    simp only [List.mem_cons, List.not_mem_nil, or_false] at hx
    rcases hx with rfl | rfl | rfl
    · exact itm_str (by decide +kernel)
    · exact itm_ref hw
    · exact hg
theorem fit3 (h : Gg 3 (.tup l)) : ∀ d ∈ odd3 l, Fit M d := by
  have hg := gg_itm (M := M) h
  have e0 : Itm M (.tup []) := itm_tup (fun z hz => by cases hz) (by simp)
  intro d hd
  unfold odd3 at hd
  simp only [List.mem_cons, List.not_mem_nil, or_false] at hd
  rcases hd with rfl | rfl | rfl | rfl | rfl | rfl | rfl | rfl
  · refine tupF (fun x hx => ?_) (by simp)
    simp only [List.mem_cons, List.not_mem_nil, or_false] at hx
    rcases hx with rfl | rfl | rfl
    · exact itm_str (by decide +kernel)
    · exact e0
    · exact hg
  · refine tupF (fun x hx => ?_) (by simp)
    simp only [List.mem_cons, List.not_mem_nil, or_false] at hx
    rcases hx with rfl | rfl | rfl
    · exact itm_str (by decide +kernel)
    · exact hg
    · exact itm_tup (fun z hz => by
        obtain rfl := List.mem_singleton.mp hz
        exact ⟨.str (by decide +kernel), rfl, by simp [sz]⟩) (by simp)
  · refine tupF (fun x hx => ?_) (by simp)
    simp only [List.mem_cons, List.not_mem_nil, or_false] at hx
    rcases hx with rfl | rfl
    · exact itm_str (by decide +kernel)
    · exact itm_str (by decide +kernel)
  · refine tupF (fun x hx => ?_) (by simp)
    simp only [List.mem_cons, List.not_mem_nil, or_false] at hx
    rcases hx with rfl | rfl
    · exact itm_str (by decide +kernel)
    · exact e0
  · exact tupF (fun x hx => by cases hx) (by simp)
  · refine tupF (fun x hx => ?_) (by simp)
    obtain rfl := List.mem_singleton.mp hx
    exact hg
  · exact ⟨.str (by decide +kernel), rfl, by simp [sz]⟩
  · refine tupF (fun x hx => ?_) (by simp)
    simp only [List.mem_cons, List.not_mem_nil, or_false] at hx
    rcases hx with rfl | rfl | rfl
    · exact itm_str (by decide +kernel)
    · exact hg
    · exact hg
end
section
variable {x0 x2 x3 x4 x5 x6 x7 x8 x9 x10 x11 x12 x13 x14 x15 x16 x17 x18 x19 x20 x21 x22 x23 : Option D} {b r : Nat} {M : MH}
theorem lap17 (hB : Bag M b r) : ∃ y10 y21 y22 M', (sSeq law_s17 (sSeq law_s18 (sSeq law_s19 (sSeq law_s20 law_s21)))) [x0, some (.ref b), x2, x3, x4, x5, x6, x7, x8, x9, x10, x11, x12, x13, x14, x15, x16, x17, x18, x19, x20, x21, x22, x23] M = .nx [x0, some (.ref b), x2, x3, x4, x5, x6, x7, x8, x9, y10, x11, x12, x13, x14, x15, x16, x17, x18, x19, x20, y21, y22, x23] M' ∧ Ge b r M M' := by
  obtain ⟨g, M1, e1, hg, S1⟩ := going_ok 3 hB
  obtain ⟨l, rfl, hl⟩ := hg.tup
  have s17 : law_s17 [x0, some (.ref b), x2, x3, x4, x5, x6, x7, x8, x9, x10, x11, x12, x13, x14, x15, x16, x17, x18, x19, x20, x21, x22, x23] M = .nx [x0, some (.ref b), x2, x3, x4, x5, x6, x7, x8, x9, x10, x11, x12, x13, x14, x15, x16, x17, x18, x19, x20, some (.tup l), x22, x23] M1 := by
    unfold law_s17
    have e1' : f_law_going 4 [.ref b, .int 3] M = .ok (.tup l) M1 := e1
    simp [mVar_z, mVar_s, e1']
  have s18 := lap18 (x0 := x0) (x2 := x2) (x3 := x3) (x4 := x4) (x5 := x5) (x6 := x6) (x7 := x7) (x8 := x8) (x9 := x9) (x10 := x10) (x11 := x11) (x12 := x12) (x13 := x13) (x14 := x14) (x15 := x15) (x16 := x16) (x17 := x17) (x18 := x18) (x19 := x19) (x20 := x20) (x22 := x22) (x23 := x23) (b := b) (M := M1) hl
  generalize hM2 : M1 ++ [MO.lst l] ++ [MO.lst (odd1 l M1.length)] = M2 at s18
  have g2 : M2[M1.length]? = some (MO.lst l) := by rw [← hM2]; exact get_app get_end
  have g2' : M2[M1.length + 1]? = some (MO.lst (odd1 l M1.length)) := by
    rw [← hM2]
    have := get_end (M := M1 ++ [MO.lst l]) (o := MO.lst (odd1 l M1.length))
    simpa using this
  have s19 := lap19 (l := l) (x0 := x0) (x2 := x2) (x3 := x3) (x4 := x4) (x5 := x5) (x6 := x6) (x7 := x7) (x8 := x8) (x9 := x9) (x10 := x10) (x11 := x11) (x12 := x12) (x13 := x13) (x14 := x14) (x15 := x15) (x16 := x16) (x17 := x17) (x18 := x18) (x19 := x19) (x20 := x20) (x23 := x23) (b := b) g2' (by simp [odd1])
  generalize hM3 : M2 ++ [MO.lst [.int 0]] ++ [MO.lst (odd2 l M2.length)] ++ [MO.lst (odd1 l M1.length ++ odd2 l M2.length)] = M3 at s19
  have p23 : M2 <+: M3 := by rw [← hM3]; exact pre_app (pre_app (pre_app (List.prefix_refl _) _) _) _
  have g3 : M3[M2.length]? = some (MO.lst [.int 0]) := by rw [← hM3]; exact get_app (get_app get_end)
  have g3' : M3[M2.length + 2]? = some (MO.lst (odd1 l M1.length ++ odd2 l M2.length)) := by
    rw [← hM3]
    have := get_end (M := M2 ++ [MO.lst [.int 0]] ++ [MO.lst (odd2 l M2.length)]) (o := MO.lst (odd1 l M1.length ++ odd2 l M2.length))
    simpa using this
  have s20 := lap20 (l := l) (x0 := x0) (x2 := x2) (x3 := x3) (x4 := x4) (x5 := x5) (x6 := x6) (x7 := x7) (x8 := x8) (x9 := x9) (x10 := x10) (x11 := x11) (x12 := x12) (x13 := x13) (x14 := x14) (x15 := x15) (x16 := x16) (x17 := x17) (x18 := x18) (x19 := x19) (x20 := x20) (x23 := x23) (b := b) g3' (by simp [odd1, odd2])
  generalize hM4 : M3 ++ [MO.lst (odd3 l)] ++ [MO.lst (odd1 l M1.length ++ odd2 l M2.length ++ odd3 l)] = M4 at s20
  have p34 : M3 <+: M4 := by rw [← hM4]; exact pre_app (pre_app (List.prefix_refl _) _) _
  have g4 : M4[M3.length + 1]? = some (MO.lst (odd1 l M1.length ++ odd2 l M2.length ++ odd3 l)) := by
    rw [← hM4]
    have := get_end (M := M3 ++ [MO.lst (odd3 l)]) (o := MO.lst (odd1 l M1.length ++ odd2 l M2.length ++ odd3 l))
    simpa using this
  obtain ⟨y10, s21⟩ := lap21 (x0 := x0) (x2 := x2) (x3 := x3) (x4 := x4) (x5 := x5) (x6 := x6) (x7 := x7) (x8 := x8) (x9 := x9) (x10 := x10) (x11 := x11) (x12 := x12) (x13 := x13) (x14 := x14) (x15 := x15) (x16 := x16) (x17 := x17) (x18 := x18) (x19 := x19) (x20 := x20) (x23 := x23) (x21 := some (.tup l)) (b := b) g4 (fun d hd => by
    rcases List.mem_append.mp hd with hd | hd
    · rcases List.mem_append.mp hd with hd | hd
      · exact (fit1 hg g2 d hd).heap (p23.trans p34)
      · exact (fit2 hg g3 d hd).heap p34
    · exact fit3 hg d hd)
  have G4 : Ge b r M M4 := by
    have a := (S1.ge.app [MO.lst l]).app [MO.lst (odd1 l M1.length)]
    rw [hM2] at a
    have c := ((a.app [MO.lst [.int 0]]).app [MO.lst (odd2 l M2.length)]).app [MO.lst (odd1 l M1.length ++ odd2 l M2.length)]
    rw [hM3] at c
    have d := (c.app [MO.lst (odd3 l)]).app [MO.lst (odd1 l M1.length ++ odd2 l M2.length ++ odd3 l)]
    rw [hM4] at d
    exact d
  exact ⟨y10, some (.tup l), some (.ref (M3.length + 1)), M4, seq_step s17 (seq_step s18 (seq_step s19 (seq_step s20 s21))), G4⟩
theorem Ge.pre {M M' : MH} (hB : Bag M b r) (h : M <+: M') : Ge b r M M' := by
  obtain ⟨X, rfl⟩ := h
  exact (Ge.refl hB).app X
end
end K13
namespace K13
open PySem PySem.Spec PyProof.Rows L2 Mp
theorem seq_step2 {a c d : S} {ρ ρ' : Ev} {M M' : MH} {res : SRes} (h : sSeq a c ρ M = .nx ρ' M') (h2 : d ρ' M' = res) : sSeq a (sSeq c d) ρ M = res := by
  rw [sSeq_eq] at h ⊢
  cases e : a ρ M with
  | nx ρ1 M1 =>
    rw [e] at h
    simp only [seq_nx] at h ⊢
    exact seq_step h h2
  | _ => rw [e] at h; cases h
theorem seq_step3 {a c d f : S} {ρ ρ' : Ev} {M M' : MH} {res : SRes} (h : sSeq a (sSeq c d) ρ M = .nx ρ' M') (h2 : f ρ' M' = res) : sSeq a (sSeq c (sSeq d f)) ρ M = res := by
  rw [sSeq_eq] at h ⊢
  cases e : a ρ M with
  | nx ρ1 M1 =>
    rw [e] at h
    simp only [seq_nx] at h ⊢
    exact seq_step2 h h2
  | _ => rw [e] at h; cases h
def Sh (b : Nat) (ρ : Ev) : Prop := ∃ x0 x2 x3 x4 x5 x6 x7 x8 x9 x10 x11 x12 x13 x14 x15 x16 x17 x18 x19 x20 x21 x22 x23 : Option D, ρ = [x0, some (.ref b), x2, x3, x4, x5, x6, x7, x8, x9, x10, x11, x12, x13, x14, x15, x16, x17, x18, x19, x20, x21, x22, x23]
theorem lap_ok {b r : Nat} {M : MH} {ρ : Ev} (hρ : Sh b ρ) (hB : Bag M b r) : ∃ ρ' M', (sSeq law_s1 (sSeq law_s2 (sSeq law_s3 (sSeq law_s4 (sSeq law_s5 (sSeq law_s6 (sSeq law_s7 (sSeq law_s8 (sSeq law_s9 (sSeq law_s10 (sSeq law_s11 (sSeq law_s12 (sSeq law_s13 (sSeq law_s14 (sSeq law_s15 (sSeq law_s16 (sSeq law_s17 (sSeq law_s18 (sSeq law_s19 (sSeq law_s20 law_s21)))))))))))))))))))) ρ M = .nx ρ' M' ∧ Sh b ρ' ∧ Bag M' b r := by
  obtain ⟨x0, x2, x3, x4, x5, x6, x7, x8, x9, x10, x11, x12, x13, x14, x15, x16, x17, x18, x19, x20, x21, x22, x23, rfl⟩ := hρ
  obtain ⟨x, y, M1, e1, zx, zy, S1⟩ := lap1 (x0 := x0) (x2 := x2) (x3 := x3) (x4 := x4) (x5 := x5) (x6 := x6) (x7 := x7) (x8 := x8) (x9 := x9) (x10 := x10) (x11 := x11) (x12 := x12) (x13 := x13) (x14 := x14) (x15 := x15) (x16 := x16) (x17 := x17) (x18 := x18) (x19 := x19) (x20 := x20) (x21 := x21) (x22 := x22) (x23 := x23) (M := M) hB
  obtain ⟨a, c, M2, e2, c0, c1, S2, za⟩ := lap2 (x0 := x0) (x2 := x2) (x3 := some (fr x)) (x4 := some (fr y)) (x5 := x5) (x6 := x6) (x7 := x7) (x8 := x8) (x9 := x9) (x10 := x10) (x11 := x11) (x12 := x12) (x13 := x13) (x14 := x14) (x15 := x15) (x16 := x16) (x17 := x17) (x18 := x18) (x19 := x19) (x20 := x20) (x21 := x21) (x22 := x22) (x23 := x23) S1.bag
  obtain ⟨d7, e3, e4⟩ := lap34 (x0 := x0) (x2 := x2) (x3 := some (fr x)) (x4 := some (fr y)) (x7 := x7) (x8 := x8) (x9 := x9) (x10 := x10) (x11 := x11) (x12 := x12) (x13 := x13) (x14 := x14) (x15 := x15) (x16 := x16) (x17 := x17) (x18 := x18) (x19 := x19) (x20 := x20) (x21 := x21) (x22 := x22) (x23 := x23) (b := b) (M := M2) c0 c1 za
  obtain ⟨d8, e5, e8⟩ := lap5 (x0 := x0) (x2 := x2) (x5 := some (.int a)) (x6 := some (.int c)) (x7 := some d7) (x8 := x8) (x10 := x10) (x11 := x11) (x12 := x12) (x13 := x13) (x14 := x14) (x15 := x15) (x16 := x16) (x17 := x17) (x18 := x18) (x19 := x19) (x20 := x20) (x21 := x21) (x22 := x22) (x23 := x23) (b := b) (x9 := x9) (M := M2) zx zy
  obtain ⟨i9, M6, e6, p6, h9⟩ := lap6 (x0 := x0) (x2 := x2) (x5 := some (.int a)) (x6 := some (.int c)) (x7 := some d7) (x8 := some d8) (x9 := x9) (x10 := x10) (x11 := x11) (x12 := x12) (x13 := x13) (x14 := x14) (x15 := x15) (x16 := x16) (x17 := x17) (x18 := x18) (x19 := x19) (x20 := x20) (x21 := x21) (x22 := x22) (x23 := x23) (b := b) (M := M2) zx zy
  have e7 := lap7 (x0 := x0) (x2 := x2) (x5 := some (.int a)) (x6 := some (.int c)) (x7 := some d7) (x8 := some d8) (x10 := x10) (x11 := x11) (x12 := x12) (x13 := x13) (x14 := x14) (x15 := x15) (x16 := x16) (x17 := x17) (x18 := x18) (x19 := x19) (x20 := x20) (x21 := x21) (x22 := x22) (x23 := x23) (b := b) (M := M6) zx zy h9
  have e8' := e8 (M6 ++ [MO.lst (Fnd x y)]) (some (.ref i9))
  obtain ⟨y10, y11, e9⟩ := lap9 (x0 := x0) (x2 := x2) (x4 := some (fr y)) (x5 := some (.int a)) (x6 := some (.int c)) (x7 := some d7) (x8 := some d8) (x9 := some (.ref i9)) (x10 := x10) (x11 := x11) (x12 := x12) (x13 := x13) (x14 := x14) (x15 := x15) (x16 := x16) (x17 := x17) (x18 := x18) (x19 := x19) (x20 := x20) (x21 := x21) (x22 := x22) (x23 := x23) (b := b) (M := M6 ++ [MO.lst (Fnd x y)]) zx
  have G9 : Ge b r M2 (M6 ++ [MO.lst (Fnd x y)] ++ [MO.lst [.int 1, .int 2]]) := Ge.pre S2.bag (pre_app (pre_app p6 _) _)
  obtain ⟨n, M10, e10, hn, S10⟩ := lap10 (x0 := x0) (x2 := x2) (x3 := some (fr x)) (x4 := some (fr y)) (x5 := some (.int a)) (x6 := some (.int c)) (x7 := some d7) (x8 := some d8) (x9 := some (.ref i9)) (x10 := y10) (x11 := y11) (x12 := x12) (x13 := x13) (x14 := x14) (x15 := x15) (x16 := x16) (x17 := x17) (x18 := x18) (x19 := x19) (x20 := x20) (x21 := x21) (x22 := x22) (x23 := x23) G9.bag
  obtain ⟨R, rr, g, y14, y15, M12, e12, H12⟩ := lap12 (x0 := x0) (x2 := x2) (x3 := some (fr x)) (x4 := some (fr y)) (x5 := some (.int a)) (x6 := some (.int c)) (x7 := some d7) (x8 := some d8) (x9 := some (.ref i9)) (x10 := y10) (x11 := y11) (x13 := x13) (x14 := x14) (x15 := x15) (x16 := x16) (x17 := x17) (x18 := x18) (x19 := x19) (x20 := x20) (x21 := x21) (x22 := x22) (x23 := x23) (n := n) S10.bag hn
  obtain ⟨rr', g', M13, e13, W13, z13, G13⟩ := lap13 (x0 := x0) (x2 := x2) (x3 := some (fr x)) (x4 := some (fr y)) (x5 := some (.int a)) (x6 := some (.int c)) (x7 := some d7) (x8 := some d8) (x9 := some (.ref i9)) (x10 := y10) (x11 := y11) (x14 := y14) (x15 := y15) (x16 := x16) (x17 := x17) (x18 := x18) (x19 := x19) (x20 := x20) (x21 := x21) (x22 := x22) (x23 := x23) H12 hn
  obtain ⟨d, w15, w17, w18, w19, w20, M16, e16, p16⟩ := lap16 (x0 := x0) (x2 := x2) (x3 := some (fr x)) (x4 := some (fr y)) (x5 := some (.int a)) (x6 := some (.int c)) (x7 := some d7) (x8 := some d8) (x9 := some (.ref i9)) (x10 := y10) (x11 := y11) (x14 := y14) (x15 := y15) (x16 := x16) (x17 := x17) (x18 := x18) (x19 := x19) (x20 := x20) (x21 := x21) (x22 := x22) (x23 := x23) (b := b) W13 hn z13
  have G16 := Ge.pre G13.bag p16
  obtain ⟨v10, v21, v22, M21, e17, G21⟩ := lap17 (x0 := x0) (x2 := x2) (x3 := some (fr x)) (x4 := some (fr y)) (x5 := some (.int a)) (x6 := some (.int c)) (x7 := some d7) (x8 := some d8) (x9 := some d) (x10 := y10) (x11 := y11) (x12 := some (.int (n : Int))) (x13 := some (.ref R)) (x14 := y14) (x15 := w15) (x16 := x16) (x17 := w17) (x18 := w18) (x19 := w19) (x20 := w20) (x21 := x21) (x22 := x22) (x23 := x23) G16.bag
  refine ⟨_, M21, seq_step (e1) (seq_step (e2) (seq_step (e3) (seq_step (e4) (seq_step (e5) (seq_step (e6) (seq_step (e7) (seq_step (e8') (seq_step (e9) (seq_step (e10) (seq_step2 (e12) (seq_step (e13) (seq_step3 (e16) (e17))))))))))))), ⟨_, _, _, _, _, _, _, _, _, _, _, _, _, _, _, _, _, _, _, _, _, _, _, rfl⟩, G21.bag⟩
end K13
namespace K13
open PySem PySem.Spec PyProof.Rows L2 Mp
def dp : Nat → D
  | 0 => .tup [.str "work"]
  | n + 1 => .tup [.str "row", dp n]
theorem dp_tm {M : MH} : ∀ n, Tm M 3 (n + 1) (dp n)
  | 0 => .tup (by decide) fun x hx => by
    obtain rfl := List.mem_singleton.mp hx
    exact .str (by decide +kernel)
  | n + 1 => .tup (by simp) fun x hx => by
    simp only [List.mem_cons, List.not_mem_nil, or_false] at hx
    rcases hx with rfl | rfl
    · exact .str (by decide +kernel)
    · exact dp_tm n
theorem dp_sz : ∀ n, sz (dp n) = 2 + 2 * n
  | 0 => rfl
  | n + 1 => by simp [dp, sz, szs, dp_sz n]; omega
def shal : D := .tup [.str "row", .tup [.str "row", .tup [.str "again", .tup [.str "one", .int 3, .tup [.str "work"]]]]]
theorem shal_tm {M : MH} : Tm M 3 50 shal := by
  have w : Tm M 3 46 (.tup [.str "work"]) := .tup (by decide) fun x hx => by
    obtain rfl := List.mem_singleton.mp hx
    exact .str (by decide +kernel)
  have o1 : Tm M 3 47 (.tup [.str "one", .int 3, .tup [.str "work"]]) := .tup (by decide) fun x hx => by
    simp only [List.mem_cons, List.not_mem_nil, or_false] at hx
    rcases hx with rfl | rfl | rfl
    · exact .str (by decide +kernel)
    · exact .int _
    · exact w
  have o2 : Tm M 3 48 (.tup [.str "again", .tup [.str "one", .int 3, .tup [.str "work"]]]) := .tup (by decide) fun x hx => by
    simp only [List.mem_cons, List.not_mem_nil, or_false] at hx
    rcases hx with rfl | rfl
    · exact .str (by decide +kernel)
    · exact o1
  have o3 : Tm M 3 49 (.tup [.str "row", .tup [.str "again", .tup [.str "one", .int 3, .tup [.str "work"]]]]) := .tup (by decide) fun x hx => by
    simp only [List.mem_cons, List.not_mem_nil, or_false] at hx
    rcases hx with rfl | rfl
    · exact .str (by decide +kernel)
    · exact o2
  exact .tup (by decide) fun x hx => by
    simp only [List.mem_cons, List.not_mem_nil, or_false] at hx
    rcases hx with rfl | rfl
    · exact .str (by decide +kernel)
    · exact o3
theorem dp_no : chk 12 (dp 20) = false := by decide +kernel
theorem shal_yes : chk 12 shal = true := by decide +kernel
theorem law_true (ns : List Int) : ∃ M', f_law [.ro (ns.map D.int)] [] = .ok (.bl true) M' := by
  obtain ⟨M1, e1, hB⟩ := bag_ok ns
  have laps := for_rng (i := 2) (n := 6) (b := _) (P := fun t ρ M' => Sh 2 ρ ∧ Bag M' 2 1) (R := fun _ _ => False)
    (fun t ρ M' ht ⟨hρ, hB⟩ => by
      obtain ⟨x0, x2, x3, x4, x5, x6, x7, x8, x9, x10, x11, x12, x13, x14, x15, x16, x17, x18, x19, x20, x21, x22, x23, rfl⟩ := hρ
      obtain ⟨ρ', M2, e, h1, h2⟩ := lap_ok (b := 2) (r := 1) (M := M') (ρ := [x0, some (.ref 2), some (.int (t : Int)), x3, x4, x5, x6, x7, x8, x9, x10, x11, x12, x13, x14, x15, x16, x17, x18, x19, x20, x21, x22, x23]) ⟨_, _, _, _, _, _, _, _, _, _, _, _, _, _, _, _, _, _, _, _, _, _, _, rfl⟩ hB
      exact .inl ⟨ρ', M2, e, h1, h2⟩)
    6 0 [some (.ro (ns.map D.int)), some (.ref 2), none, none, none, none, none, none, none, none, none, none, none, none, none, none, none, none, none, none, none, none, none, none] M1 (by omega) ⟨⟨_, _, _, _, _, _, _, _, _, _, _, _, _, _, _, _, _, _, _, _, _, _, _, rfl⟩, hB⟩
  rcases laps with ⟨ρ', M2, e2, hρ, hB2⟩ | ⟨_, _, _, z⟩
  · obtain ⟨x0, x2, x3, x4, x5, x6, x7, x8, x9, x10, x11, x12, x13, x14, x15, x16, x17, x18, x19, x20, x21, x22, x23, rfl⟩ := hρ
    have deep := for_rng (i := 14) (n := 20) (b := sSet 23 (mTup (aCons (mC (.str ("row" : Str))) (aCons (mVar 23) aNil)))) (P := fun t ρ M' => M' = M2 ∧ ∃ y14, ρ = [x0, some (.ref 2), x2, x3, x4, x5, x6, x7, x8, x9, x10, x11, x12, x13, y14, x15, x16, x17, x18, x19, x20, x21, x22, some (dp t)]) (R := fun _ _ => False)
      (fun t ρ M' ht ⟨hM, y14, hρ⟩ => by
        subst hM; subst hρ
        exact .inl ⟨[x0, some (.ref 2), x2, x3, x4, x5, x6, x7, x8, x9, x10, x11, x12, x13, some (.int (t : Int)), x15, x16, x17, x18, x19, x20, x21, x22, some (dp (t + 1))], M', by simp [mVar_z, mVar_s, dp], rfl, _, rfl⟩)
      20 0 [x0, some (.ref 2), x2, x3, x4, x5, x6, x7, x8, x9, x10, x11, x12, x13, x14, x15, x16, x17, x18, x19, x20, x21, x22, some (dp 0)] M2 (by omega) ⟨rfl, x14, rfl⟩
    rcases deep with ⟨ρ3, M3, e3, hM, y14, hρ⟩ | ⟨_, _, _, z⟩
    · subst hM; subst hρ
      have f1 := form_ok (M := M3) ((dp_tm 20).mono (Nat.le_refl _) (by decide : 21 ≤ 50)) (by rw [dp_sz]; decide)
      have f2 := form_ok (M := M3) shal_tm (by decide +kernel)
      rw [dp_no] at f1
      rw [shal_yes] at f2
      have i1 : fIs false (.bl false) (.bl false) M3 = .ok (.bl true) M3 := rfl
      have i2 : fIs false (.bl true) (.bl true) M3 = .ok (.bl true) M3 := rfl
      unfold f_law
      refine ⟨_, (run_rt (np := 1) (d := .bl true) (M' := M3) rfl ?_).trans (gcRet_keep _ _ _ rfl (List.nil_prefix))⟩
      refine seq_step (ρ' := [some (.ro (ns.map D.int)), some (.ref 2), none, none, none, none, none, none, none, none, none, none, none, none, none, none, none, none, none, none, none, none, none, none]) (M' := M1) ?_ (seq_step (ρ' := _) (M' := M3) (Eq.trans ?_ e2) (seq_step (ρ' := [x0, some (.ref 2), x2, x3, x4, x5, x6, x7, x8, x9, x10, x11, x12, x13, x14, x15, x16, x17, x18, x19, x20, x21, x22, some (dp 0)]) (M' := M3) rfl (seq_step (ρ' := _) (M' := M3) (Eq.trans ?_ e3) (ret_step ?_))))
      · simp [mVar_z, mVar_s, e1]
      · rw [sFor_eq]
        have src : sArg fRng1 (aCons (mC (.int 6)) aNil) [some (.ro (ns.map D.int)), some (.ref 2), none, none, none, none, none, none, none, none, none, none, none, none, none, none, none, none, none, none, none, none, none, none] M1 = .ok ⟨(List.range' 0 6).map fun k : Nat => D.int (k : Int), []⟩ M1 := by
          have := rng1_src (M := M1) (n := 6) (by decide)
          simpa using this
        rw [src, Res.toS_ok]
      · rw [sFor_eq]
        have src : ∀ ρ : Ev, sArg fRng1 (aCons (mC (.int 20)) aNil) ρ M3 = .ok ⟨(List.range' 0 20).map fun k : Nat => D.int (k : Int), []⟩ M3 := fun ρ => by
          have := rng1_src (M := M3) (n := 20) (by decide)
          simpa using this
        rw [src, Res.toS_ok]
      · have g1 : mCall 1 f_is_going_form (aCons (mVar 23) aNil) [x0, some (.ref 2), x2, x3, x4, x5, x6, x7, x8, x9, x10, x11, x12, x13, y14, x15, x16, x17, x18, x19, x20, x21, x22, some (dp 20)] M3 = .ok (.bl false) M3 := by
          rw [← f1]
          rfl
        refine and_t (M' := M3) ?_ ?_
        · rw [mBin_eq, g1]
          rfl
        · rw [mBin_eq]
          refine Eq.trans (congrArg (fun z : Res D => z.bind fun x M1 => (mC (.bl true) _ M1).bind fun y M2 => fIs false x y M2) (show _ = Res.ok (D.bl true) M3 from ?_)) ?_
          · rw [← f2]
            rfl
          · rfl
    · exact z.elim
  · exact z.elim
end K13
namespace K13
open PySem PySem.Spec PyProof.Rows L2 Mp
def top (i : Nat) : Stmt := PySem.Challenge.pw_casetrees_k13_whole_shares_solved_and_go.main.body.getD i (.Pass ⟨0, 0, 0, 0⟩)
structure Hd (K : PySem.W.Frag) (mg : Str → Option Value) : Prop where
  z_abs : mg "abs" = none
  z_all : mg "all" = none
  z_bool : mg "bool" = none
  z_int : mg "int" = none
  z_isinstance : mg "isinstance" = none
  z_len : mg "len" = none
  z_list : mg "list" = none
  z_range : mg "range" = none
  z_repr : mg "repr" = none
  z_str : mg "str" = none
  z_tuple : mg "tuple" = none
  z_zip : mg "zip" = none
  c_MOST_DEPTH : Glob K mg "MOST_DEPTH" c_MOST_DEPTH
  c_NIL : Glob K mg "NIL" c_NIL
  x_Nothing : ExcOwn K mg "Nothing"
  d_divisor_of : DefAt K mg "divisor_of" (top 8)
  d_made : DefAt K mg "made" (top 11)
  d_plus : DefAt K mg "plus" (top 12)
  d_minus : DefAt K mg "minus" (top 13)
  d_times : DefAt K mg "times" (top 14)
  d_over_by : DefAt K mg "over_by" (top 15)
  d_is_less : DefAt K mg "is_less" (top 16)
  d_is_integer : DefAt K mg "is_integer" (top 5)
  d_is_share : DefAt K mg "is_share" (top 17)
  d_sum_of : DefAt K mg "sum_of" (top 18)
  d_solved : DefAt K mg "solved" (top 19)
  d_is_count : DefAt K mg "is_count" (top 6)
  d_is_few : DefAt K mg "is_few" (top 22)
  d_is_tuple_of : DefAt K mg "is_tuple_of" (top 7)
  d_is_counts : DefAt K mg "is_counts" (top 23)
  d_inner_goings : DefAt K mg "inner_goings" (top 24)
  d_is_going_form : DefAt K mg "is_going_form" (top 25)
  d_law_bag : DefAt K mg "_law_bag" (top 27)
  d_law_take : DefAt K mg "_law_take" (top 28)
  d_law_some : DefAt K mg "_law_some" (top 29)
  d_law_alike : DefAt K mg "_law_alike" (top 30)
  d_law_is_int : DefAt K mg "_law_is_int" (top 31)
  d_law_gcd : DefAt K mg "_law_gcd" (top 32)
  d_law_fr : DefAt K mg "_law_fr" (top 33)
  d_law_add : DefAt K mg "_law_add" (top 34)
  d_law_less : DefAt K mg "_law_less" (top 35)
  d_law_mul : DefAt K mg "_law_mul" (top 36)
  d_law_small : DefAt K mg "_law_small" (top 37)
  d_law_heard : DefAt K mg "_law_heard" (top 38)
  d_law_solved : DefAt K mg "_law_solved" (top 39)
  d_law_is_going : DefAt K mg "_law_is_going" (top 40)
  d_law_going : DefAt K mg "_law_going" (top 41)
  d_law : DefAt K mg "law" (top 42)
section
variable {P : Program} {w : World} {K : PySem.W.Frag} {mg : Str → Option Value} {base : Heap} {Tb : List (Addr × Str)}
theorem sc_divisor_of : FnScope ["one", "other"] ["one", "other"] (defScope (top 8)) := ⟨rfl, rfl, rfl, by decide +kernel, rfl, by decide +kernel, by decide +kernel⟩
theorem ok_divisor_of (T : Hd K mg) : FnI P w K mg base Tb false "divisor_of" 1 2 f_divisor_of := by
  unfold f_divisor_of
  exact fnI_at T.d_divisor_of (fun _ _ _ _ _ _ us hl => match us, hl with | [_, _], _ => rfl) sc_divisor_of fun f cdv A outer s H E hr hg =>
    (mss_cons (ms_par 0 1 rfl sc_divisor_of.nd (ma_cons (me_callB call_abs absOk T.z_abs (ma_cons (me_var 0) ma_nil)) (ma_cons (me_callB call_abs absOk T.z_abs (ma_cons (me_var 1) ma_nil)) ma_nil)))
      (mss_cons (ms_while passes_cx (mt_cmp op_gt (cmpOk _) (me_var 1) me_int (nomark _)) (mss_one (ms_par 0 1 rfl sc_divisor_of.nd (ma_cons (me_var 1) (ma_cons (me_bin op_modN modOk (me_var 0) (me_var 1)) ma_nil)))))
      (mss_one (ms_ret (me_var 0)))))
theorem sc_made : FnScope ["over", "under", "shared", "sign"] ["over", "under"] (defScope (top 11)) := ⟨rfl, rfl, rfl, by decide +kernel, rfl, by decide +kernel, by decide +kernel⟩
theorem ok_made (T : Hd K mg) : FnI P w K mg base Tb false "made" 2 2 f_made := by
  unfold f_made
  exact fnI_at T.d_made (fun _ _ _ _ _ _ us hl => match us, hl with | [_, _], _ => rfl) sc_made fun f cdv A outer s H E hr hg =>
    (mss_cons (ms_if (mt_cmp (op_eqA (hr).units) eqOk (me_var 1) me_int (nomark _)) (mss_one (ms_raise rfl takes_cx T.x_Nothing)) mss_nil)
      (mss_cons (ms_set 2 sc_made.nd (me_call ((ok_divisor_of T).calls ((hr).mono (by decide)) noGd) takes_cx (ma_cons (me_var 0) (ma_cons (me_var 1) ma_nil))))
      (mss_cons (ms_set 3 sc_made.nd (me_if (mt_cmp op_lt (cmpOk _) (me_var 1) me_int (nomark _)) (me_un un_neg negOk me_int) me_int))
      (mss_one (ms_ret (me_tup (ma_cons (me_bin op_divAll divOk_ok (me_bin op_mulAll mulOk_ok (me_var 3) (me_var 0)) (me_var 2)) (ma_cons (me_bin op_divAll divOk_ok (me_bin op_mulAll mulOk_ok (me_var 3) (me_var 1)) (me_var 2)) ma_nil))))))))
theorem sc_plus : FnScope ["one", "other"] ["one", "other"] (defScope (top 12)) := ⟨rfl, rfl, rfl, by decide +kernel, rfl, by decide +kernel, by decide +kernel⟩
theorem ok_plus (T : Hd K mg) : FnI P w K mg base Tb false "plus" 3 2 f_plus := by
  unfold f_plus
  exact fnI_at T.d_plus (fun _ _ _ _ _ _ us hl => match us, hl with | [_, _], _ => rfl) sc_plus fun f cdv A outer s H E hr hg =>
    (mss_one (ms_ret (me_call ((ok_made T).calls ((hr).mono (by decide)) noGd) takes_cx (ma_cons (me_bin op_addAll addOk (me_bin op_mulAll mulOk_ok (me_ix ix_seq ixOk (me_var 0) me_int) (me_ix ix_seq ixOk (me_var 1) me_int)) (me_bin op_mulAll mulOk_ok (me_ix ix_seq ixOk (me_var 1) me_int) (me_ix ix_seq ixOk (me_var 0) me_int))) (ma_cons (me_bin op_mulAll mulOk_ok (me_ix ix_seq ixOk (me_var 0) me_int) (me_ix ix_seq ixOk (me_var 1) me_int)) ma_nil)))))
theorem sc_minus : FnScope ["one", "other"] ["one", "other"] (defScope (top 13)) := ⟨rfl, rfl, rfl, by decide +kernel, rfl, by decide +kernel, by decide +kernel⟩
theorem ok_minus (T : Hd K mg) : FnI P w K mg base Tb false "minus" 3 2 f_minus := by
  unfold f_minus
  exact fnI_at T.d_minus (fun _ _ _ _ _ _ us hl => match us, hl with | [_, _], _ => rfl) sc_minus fun f cdv A outer s H E hr hg =>
    (mss_one (ms_ret (me_call ((ok_made T).calls ((hr).mono (by decide)) noGd) takes_cx (ma_cons (me_bin op_sub subOk (me_bin op_mulAll mulOk_ok (me_ix ix_seq ixOk (me_var 0) me_int) (me_ix ix_seq ixOk (me_var 1) me_int)) (me_bin op_mulAll mulOk_ok (me_ix ix_seq ixOk (me_var 1) me_int) (me_ix ix_seq ixOk (me_var 0) me_int))) (ma_cons (me_bin op_mulAll mulOk_ok (me_ix ix_seq ixOk (me_var 0) me_int) (me_ix ix_seq ixOk (me_var 1) me_int)) ma_nil)))))
theorem sc_times : FnScope ["one", "other"] ["one", "other"] (defScope (top 14)) := ⟨rfl, rfl, rfl, by decide +kernel, rfl, by decide +kernel, by decide +kernel⟩
theorem ok_times (T : Hd K mg) : FnI P w K mg base Tb false "times" 3 2 f_times := by
  unfold f_times
  exact fnI_at T.d_times (fun _ _ _ _ _ _ us hl => match us, hl with | [_, _], _ => rfl) sc_times fun f cdv A outer s H E hr hg =>
    (mss_one (ms_ret (me_call ((ok_made T).calls ((hr).mono (by decide)) noGd) takes_cx (ma_cons (me_bin op_mulAll mulOk_ok (me_ix ix_seq ixOk (me_var 0) me_int) (me_ix ix_seq ixOk (me_var 1) me_int)) (ma_cons (me_bin op_mulAll mulOk_ok (me_ix ix_seq ixOk (me_var 0) me_int) (me_ix ix_seq ixOk (me_var 1) me_int)) ma_nil)))))
theorem sc_over_by : FnScope ["one", "other"] ["one", "other"] (defScope (top 15)) := ⟨rfl, rfl, rfl, by decide +kernel, rfl, by decide +kernel, by decide +kernel⟩
theorem ok_over_by (T : Hd K mg) : FnI P w K mg base Tb false "over_by" 3 2 f_over_by := by
  unfold f_over_by
  exact fnI_at T.d_over_by (fun _ _ _ _ _ _ us hl => match us, hl with | [_, _], _ => rfl) sc_over_by fun f cdv A outer s H E hr hg =>
    (mss_one (ms_ret (me_call ((ok_made T).calls ((hr).mono (by decide)) noGd) takes_cx (ma_cons (me_bin op_mulAll mulOk_ok (me_ix ix_seq ixOk (me_var 0) me_int) (me_ix ix_seq ixOk (me_var 1) me_int)) (ma_cons (me_bin op_mulAll mulOk_ok (me_ix ix_seq ixOk (me_var 0) me_int) (me_ix ix_seq ixOk (me_var 1) me_int)) ma_nil)))))
theorem sc_is_less : FnScope ["one", "other"] ["one", "other"] (defScope (top 16)) := ⟨rfl, rfl, rfl, by decide +kernel, rfl, by decide +kernel, by decide +kernel⟩
theorem ok_is_less (T : Hd K mg) : FnI P w K mg base Tb false "is_less" 1 2 f_is_less := by
  unfold f_is_less
  exact fnI_at T.d_is_less (fun _ _ _ _ _ _ us hl => match us, hl with | [_, _], _ => rfl) sc_is_less fun f cdv A outer s H E hr hg =>
    (mss_one (ms_ret (me_cmp op_lt (cmpOk _) (me_bin op_mulAll mulOk_ok (me_ix ix_seq ixOk (me_var 0) me_int) (me_ix ix_seq ixOk (me_var 1) me_int)) (me_bin op_mulAll mulOk_ok (me_ix ix_seq ixOk (me_var 1) me_int) (me_ix ix_seq ixOk (me_var 0) me_int)) (nomark _))))
theorem sc_is_integer : FnScope ["thing"] ["thing"] (defScope (top 5)) := ⟨rfl, rfl, rfl, by decide +kernel, rfl, by decide +kernel, by decide +kernel⟩
theorem ok_is_integer (T : Hd K mg) : FnI P w K mg base Tb false "is_integer" 1 1 f_is_integer := by
  unfold f_is_integer
  exact fnI_at T.d_is_integer (fun _ _ _ _ _ _ us hl => match us, hl with | [_], _ => rfl) sc_is_integer fun f cdv A outer s H E hr hg =>
    (mss_one (ms_ret (me_and (me_isinst .int T.z_isinstance T.z_int (me_var 0)) (me_one (me_not (me_isinst .bool T.z_isinstance T.z_bool (me_var 0)))))))
theorem sc_is_share : FnScope ["thing", "one"] ["thing"] (defScope (top 17)) := ⟨rfl, rfl, rfl, by decide +kernel, rfl, by decide +kernel, by decide +kernel⟩
theorem ok_is_share (T : Hd K mg) : FnI P w K mg base Tb false "is_share" 2 1 f_is_share := by
  unfold f_is_share
  exact fnI_at T.d_is_share (fun _ _ _ _ _ _ us hl => match us, hl with | [_], _ => rfl) sc_is_share fun f cdv A outer s H E hr hg =>
    (mss_cons (ms_if (MW.pt (mw_or (mt_not (mt_val (me_isinst .tuple T.z_isinstance T.z_tuple (me_var 0)))) (mw_or (mt_cmp (op_neA (hr).units) neOk (me_callB call_len lenOk T.z_len (ma_cons (me_var 0) ma_nil)) me_int (nomark _)) (mw_or1 (mt_not (mt_val (me_callB (cr_all rfl) allOk T.z_all (ma_cons (me_lc rfl sc_is_share.nd (mi_seq (me_var 0)) (blkOk_by (own := [("one", 1)]) (by kernel_rfl)) (by decide) (fun _ _ _ _ _ => (mg_name 1 sc_is_share.nd)) (fun _ _ _ _ _ => mts_nil) (fun _ _ _ _ _ => (me_call ((ok_is_integer T).calls ((hr).mono (by decide)) noGd) takes_none (ma_cons (me_var 1) ma_nil)))) ma_nil)))))))) (mss_one (ms_ret me_bl)) mss_nil)
      (mss_one (ms_ret (me_and (me_cmp op_gt (cmpOk _) (me_ix ix_seq ixOk (me_var 0) me_int) me_int (nomark _)) (me_and (me_chain op_le op_le (cmpOk _) (cmpOk _) me_int (me_ix ix_seq ixOk (me_var 0) me_int) (me_ix ix_seq ixOk (me_var 0) me_int)) (me_one (me_cmp (op_eqA (hr).units) eqOk (me_call ((ok_divisor_of T).calls ((hr).mono (by decide)) noGd) takes_cx (ma_cons (me_ix ix_seq ixOk (me_var 0) me_int) (ma_cons (me_ix ix_seq ixOk (me_var 0) me_int) ma_nil))) me_int (nomark _))))))))
theorem sc_sum_of : FnScope ["fractions", "found", "one"] ["fractions"] (defScope (top 18)) := ⟨rfl, rfl, rfl, by decide +kernel, rfl, by decide +kernel, by decide +kernel⟩
theorem ok_sum_of (T : Hd K mg) : FnI P w K mg base Tb false "sum_of" 4 1 f_sum_of := by
  unfold f_sum_of
  exact fnI_at T.d_sum_of (fun _ _ _ _ _ _ us hl => match us, hl with | [_], _ => rfl) sc_sum_of fun f cdv A outer s H E hr hg =>
    (mss_cons (ms_set 1 sc_sum_of.nd (me_glob T.c_NIL))
      (mss_cons (ms_for passes_cx rfl (mi_seq (me_var 0)) (mg_name 2 sc_sum_of.nd) (mss_one (ms_set 1 sc_sum_of.nd (me_call ((ok_plus T).calls ((hr).mono (by decide)) noGd) takes_cx (ma_cons (me_var 1) (ma_cons (me_var 2) ma_nil))))))
      (mss_one (ms_ret (me_var 1)))))
theorem sc_solved : FnScope ["rows", "left", "many", "row", "one", "place", "at", "number", "lead", "factor", "its"] ["rows"] (defScope (top 19)) := ⟨rfl, rfl, rfl, by decide +kernel, rfl, by decide +kernel, by decide +kernel⟩
theorem ok_solved (T : Hd K mg) : FnI P w K mg base Tb false "solved" 4 1 f_solved := by
  unfold f_solved
  exact fnI_at T.d_solved (fun _ _ _ _ _ _ us hl => match us, hl with | [_], _ => rfl) sc_solved fun f cdv A outer s H E hr hg =>
    (mss_cons (ms_asg (me_tup (ma_cons (me_lc rfl sc_solved.nd (mi_seq (me_var 0)) (blkOk_by (own := [("row", 3), ("one", 4)]) (by kernel_rfl)) (by decide) (fun _ _ _ _ _ => (mg_tup rfl (mgs_cons (mg_name 3 sc_solved.nd) (mgs_cons (mg_name 4 sc_solved.nd) mgs_nil)))) (fun _ _ _ _ _ => mts_nil) (fun _ _ _ _ _ => (me_bin op_addAll addOk (me_callTy call_list_of listOk T.z_list (ma_cons (me_var 3) ma_nil)) (me_lst (ma_cons (me_var 4) ma_nil))))) (ma_cons (me_callB call_len lenOk T.z_len (ma_cons (me_var 0) ma_nil)) ma_nil))) (mu_tup rfl (mus_cons (mu_name 1 sc_solved.nd) (mus_cons (mu_name 2 sc_solved.nd) mus_nil))))
      (mss_cons (ms_for passes_cx rfl (mi_range1 T.z_range (ma_cons (me_var 2) ma_nil)) (mg_name 5 sc_solved.nd) (mss_cons (ms_setLc 6 rfl sc_solved.nd (sw_true rfl rfl rfl (by kernel_rfl)) (mi_range2 T.z_range (ma_cons (me_var 5) (ma_cons (me_var 2) ma_nil))) (blkOk_by (own := [("number", 7)]) (by kernel_rfl)) (by decide) (fun _ _ _ _ _ => (mg_name 7 sc_solved.nd)) (fun _ _ _ _ _ => (mts_one (mt_cmp (op_neA (hr).units) neOk (me_ix ix_seq ixOk (me_ix ix_seq ixOk (me_var 1) (me_var 7)) (me_var 5)) (me_glob T.c_NIL) (nomark _)))) (fun _ _ _ _ _ => (me_var 7)))
      (mss_cons (ms_if (mt_cmp (op_eqA (hr).units) eqOk (me_var 6) (me_lst ma_nil) (nomark _)) (mss_one (ms_ret me_non)) mss_nil)
      (mss_cons (ms_asg (me_tup (ma_cons (me_ix ix_seq ixOk (me_var 1) (me_ix ix_seq ixOk (me_var 6) me_int)) (ma_cons (me_ix ix_seq ixOk (me_var 1) (me_var 5)) ma_nil))) (mu_tup rfl (mus_cons (mu_sub (W := fun cls d _ H' => E cls d H') (me_var 1) (me_var 5)) (mus_cons (mu_sub (W := fun cls d _ H' => E cls d H') (me_var 1) (me_ix ix_seq ixOk (me_var 6) me_int)) mus_nil))))
      (mss_cons (ms_set 8 sc_solved.nd (me_ix ix_seq ixOk (me_ix ix_seq ixOk (me_var 1) (me_var 5)) (me_var 5)))
      (mss_cons (ms_asg (me_lc rfl sc_solved.nd (mi_seq (me_ix ix_seq ixOk (me_var 1) (me_var 5))) (blkOk_by (own := [("one", 4)]) (by kernel_rfl)) (by decide) (fun _ _ _ _ _ => (mg_name 4 sc_solved.nd)) (fun _ _ _ _ _ => mts_nil) (fun _ _ _ _ _ => (me_call ((ok_over_by T).calls ((hr).mono (by decide)) noGd) takes_none (ma_cons (me_var 4) (ma_cons (me_var 8) ma_nil))))) (mu_sub (W := fun cls d _ H' => E cls d H') (me_var 1) (me_var 5)))
      (mss_one (ms_for passes_cx rfl (mi_range1 T.z_range (ma_cons (me_var 2) ma_nil)) (mg_name 7 sc_solved.nd) (mss_cons (ms_set 9 sc_solved.nd (me_ix ix_seq ixOk (me_ix ix_seq ixOk (me_var 1) (me_var 7)) (me_var 5)))
      (mss_one (ms_if (MW.pt (mw_and (mt_cmp (op_neA (hr).units) neOk (me_var 7) (me_var 5) (nomark _)) (mw_and1 (mt_cmp (op_neA (hr).units) neOk (me_var 9) (me_glob T.c_NIL) (nomark _))))) (mss_one (ms_asg (me_lc rfl sc_solved.nd (mi_zip T.z_zip (ma_cons (me_ix ix_seq ixOk (me_var 1) (me_var 7)) (ma_cons (me_ix ix_seq ixOk (me_var 1) (me_var 5)) ma_nil))) (blkOk_by (own := [("one", 4), ("its", 10)]) (by kernel_rfl)) (by decide) (fun _ _ _ _ _ => (mg_tup rfl (mgs_cons (mg_name 4 sc_solved.nd) (mgs_cons (mg_name 10 sc_solved.nd) mgs_nil)))) (fun _ _ _ _ _ => mts_nil) (fun _ _ _ _ _ => (me_call ((ok_minus T).calls ((hr).mono (by decide)) noGd) takes_none (ma_cons (me_var 4) (ma_cons (me_call ((ok_times T).calls ((hr).mono (by decide)) noGd) takes_none (ma_cons (me_var 9) (ma_cons (me_var 10) ma_nil))) ma_nil))))) (mu_sub (W := fun cls d _ H' => E cls d H') (me_var 1) (me_var 7)))) mss_nil)))))))))))
      (mss_one (ms_ret (me_callTy call_tuple_of tupleOk T.z_tuple (ma_cons (me_lc rfl sc_solved.nd (mi_seq (me_var 1)) (blkOk_by (own := [("row", 3)]) (by kernel_rfl)) (by decide) (fun _ _ _ _ _ => (mg_name 3 sc_solved.nd)) (fun _ _ _ _ _ => mts_nil) (fun _ _ _ _ _ => (me_ix ix_seq ixOk (me_var 3) (me_var 2)))) ma_nil))))))
theorem sc_is_count : FnScope ["thing"] ["thing"] (defScope (top 6)) := ⟨rfl, rfl, rfl, by decide +kernel, rfl, by decide +kernel, by decide +kernel⟩
theorem ok_is_count (T : Hd K mg) : FnI P w K mg base Tb false "is_count" 2 1 f_is_count := by
  unfold f_is_count
  exact fnI_at T.d_is_count (fun _ _ _ _ _ _ us hl => match us, hl with | [_], _ => rfl) sc_is_count fun f cdv A outer s H E hr hg =>
    (mss_one (ms_ret (me_and (me_call ((ok_is_integer T).calls ((hr).mono (by decide)) noGd) takes_cx (ma_cons (me_var 0) ma_nil)) (me_one (me_cmp op_ge (cmpOk _) (me_var 0) me_int (nomark _))))))
theorem sc_is_few : FnScope ["thing"] ["thing"] (defScope (top 22)) := ⟨rfl, rfl, rfl, by decide +kernel, rfl, by decide +kernel, by decide +kernel⟩
theorem ok_is_few (T : Hd K mg) : FnI P w K mg base Tb false "is_few" 3 1 f_is_few := by
  unfold f_is_few
  exact fnI_at T.d_is_few (fun _ _ _ _ _ _ us hl => match us, hl with | [_], _ => rfl) sc_is_few fun f cdv A outer s H E hr hg =>
    (mss_one (ms_ret (me_and (me_call ((ok_is_count T).calls ((hr).mono (by decide)) noGd) takes_cx (ma_cons (me_var 0) ma_nil)) (me_one (me_cmp op_lt (cmpOk _) (me_var 0) (me_bin op_pow powOk me_int me_int) (nomark _))))))
theorem tab_is_tuple_of_ok {X : Cx} (T : Hd X.K X.mg) (hr : Room 3 X.A) {x : Str} {F : List D → MH → Res D} (h : tab_is_tuple_of.lookup x = some F) : CallsTo Tb X x 1 F := by
  unfold tab_is_tuple_of at h
  simp only [List.lookup] at h
  split at h
  · rename_i e; obtain rfl := eq_of_beq e; cases h; exact (ok_is_few T).calls (hr.mono (by decide)) noGd
  cases h
theorem sc_is_tuple_of : FnScope ["thing", "is_item", "item"] ["thing", "is_item"] (defScope (top 7)) := ⟨rfl, rfl, rfl, by decide +kernel, rfl, by decide +kernel, by decide +kernel⟩
theorem ok_is_tuple_of (T : Hd K mg) : FnI P w K mg base Tb false "is_tuple_of" 4 2 f_is_tuple_of := by
  unfold f_is_tuple_of
  exact fnI_at T.d_is_tuple_of (fun _ _ _ _ _ _ us hl => match us, hl with | [_, _], _ => rfl) sc_is_tuple_of fun f cdv A outer s H E hr hg =>
    (mss_one (ms_ret (me_and (me_isinst .tuple T.z_isinstance T.z_tuple (me_var 0)) (me_one (me_callB (cr_all rfl) allOk T.z_all (ma_cons (me_lc rfl sc_is_tuple_of.nd (mi_seq (me_var 0)) (blkOk_by (own := [("item", 2)]) (by kernel_rfl)) (by decide) (fun _ _ _ _ _ => (mg_name 2 sc_is_tuple_of.nd)) (fun _ _ _ _ _ => mts_nil) (fun _ _ _ _ _ => (me_callV (tab := tab_is_tuple_of) (fun x F h => tab_is_tuple_of_ok T (hr) h) takes_none (ma_cons (me_var 2) ma_nil)))) ma_nil))))))
theorem sc_is_counts : FnScope ["thing"] ["thing"] (defScope (top 23)) := ⟨rfl, rfl, rfl, by decide +kernel, rfl, by decide +kernel, by decide +kernel⟩
theorem ok_is_counts (T : Hd K mg) : FnI P w K mg base Tb false "is_counts" 5 1 f_is_counts := by
  unfold f_is_counts
  exact fnI_at T.d_is_counts (fun _ _ _ _ _ _ us hl => match us, hl with | [_], _ => rfl) sc_is_counts fun f cdv A outer s H E hr hg =>
    (mss_one (ms_ret (me_call ((ok_is_tuple_of T).calls ((hr).mono (by decide)) noGd) takes_cx (ma_cons (me_var 0) (ma_cons (me_fnD T.d_is_few) ma_nil)))))
theorem sc_inner_goings : FnScope ["thing"] ["thing"] (defScope (top 24)) := ⟨rfl, rfl, rfl, by decide +kernel, rfl, by decide +kernel, by decide +kernel⟩
theorem ok_inner_goings (T : Hd K mg) : FnI P w K mg base Tb false "inner_goings" 6 1 f_inner_goings := by
  unfold f_inner_goings
  exact fnI_at T.d_inner_goings (fun _ _ _ _ _ _ us hl => match us, hl with | [_], _ => rfl) sc_inner_goings fun f cdv A outer s H E hr hg =>
    (mss_cons (ms_if (MW.pt (mw_or (mt_not (mt_val (me_isinst .tuple T.z_isinstance T.z_tuple (me_var 0)))) (mw_or (mt_cmp (op_eqA (hr).units) eqOk (me_var 0) (me_tup ma_nil) (nomark _)) (mw_or1 (mt_not (mt_val (me_isinst .str T.z_isinstance T.z_str (me_ix ix_seq ixOk (me_var 0) me_int)))))))) (mss_one (ms_ret me_non)) mss_nil)
      (mss_cons (ms_if (mt_cmp op_in_seq (inOk false) (me_ix ix_seq ixOk (me_var 0) me_int) (me_tup (ma_cons me_str (ma_cons me_str ma_nil))) (by rfl)) (mss_one (ms_ret (me_if (mt_cmp (op_eqA (hr).units) eqOk (me_callB call_len lenOk T.z_len (ma_cons (me_var 0) ma_nil)) me_int (nomark _)) (me_tup ma_nil) me_non))) mss_nil)
      (mss_cons (ms_if (mt_cmp op_in_seq (inOk false) (me_ix ix_seq ixOk (me_var 0) me_int) (me_tup (ma_cons me_str (ma_cons me_str ma_nil))) (by rfl)) (mss_one (ms_ret (me_if (mt_cmp op_gt (cmpOk _) (me_callB call_len lenOk T.z_len (ma_cons (me_var 0) ma_nil)) me_int (nomark _)) (me_slice (me_var 0) (mo_some me_int) mo_none) me_non))) mss_nil)
      (mss_cons (ms_if (mt_cmp (op_eqA (hr).units) eqOk (me_ix ix_seq ixOk (me_var 0) me_int) me_str (nomark _)) (mss_one (ms_ret (me_if (MW.pt (mw_and (mt_cmp (op_eqA (hr).units) eqOk (me_callB call_len lenOk T.z_len (ma_cons (me_var 0) ma_nil)) me_int (nomark _)) (mw_and1 (mt_val (me_call ((ok_is_few T).calls ((hr).mono (by decide)) noGd) takes_cx (ma_cons (me_ix ix_seq ixOk (me_var 0) me_int) ma_nil)))))) (me_slice (me_var 0) (mo_some me_int) mo_none) me_non))) mss_nil)
      (mss_one (ms_ret (me_if (MW.pt (mw_and (mt_cmp (op_eqA (hr).units) eqOk (me_ix ix_seq ixOk (me_var 0) me_int) me_str (nomark _)) (mw_and (mt_cmp op_gt (cmpOk _) (me_callB call_len lenOk T.z_len (ma_cons (me_var 0) ma_nil)) me_int (nomark _)) (mw_and1 (mt_val (me_call ((ok_is_counts T).calls ((hr).mono (by decide)) noGd) takes_cx (ma_cons (me_ix ix_seq ixOk (me_var 0) me_int) ma_nil))))))) (me_slice (me_var 0) (mo_some me_int) mo_none) me_non)))))))
theorem sc_is_going_form : FnScope ["thing", "waiting", "item", "deep", "inner", "one"] ["thing"] (defScope (top 25)) := ⟨rfl, rfl, rfl, by decide +kernel, rfl, by decide +kernel, by decide +kernel⟩
theorem ok_is_going_form (T : Hd K mg) : FnI P w K mg base Tb false "is_going_form" 7 1 f_is_going_form := by
  unfold f_is_going_form
  exact fnI_at T.d_is_going_form (fun _ _ _ _ _ _ us hl => match us, hl with | [_], _ => rfl) sc_is_going_form fun f cdv A outer s H E hr hg =>
    (mss_cons (ms_set 1 sc_is_going_form.nd (me_lst (ma_cons (me_tup (ma_cons (me_var 0) (ma_cons me_int ma_nil))) ma_nil)))
      (mss_cons (ms_while passes_cx (mt_cmp (op_neA (hr).units) neOk (me_var 1) (me_lst ma_nil) (nomark _)) (mss_cons (ms_asg (me_lmeth0 PySem.F.slot_list_pop PySem.F.type_list_pop mt_pop popOk (me_var 1)) (mu_tup rfl (mus_cons (mu_name 2 sc_is_going_form.nd) (mus_cons (mu_name 3 sc_is_going_form.nd) mus_nil))))
      (mss_cons (ms_set 4 sc_is_going_form.nd (me_call ((ok_inner_goings T).calls ((hr).mono (by decide)) noGd) takes_cx (ma_cons (me_var 2) ma_nil)))
      (mss_cons (ms_if (MW.pt (mw_or (mt_cmp op_isAll isOk (me_var 4) me_non (nomark _)) (mw_or1 (mt_cmp op_gt (cmpOk _) (me_var 3) (me_glob T.c_MOST_DEPTH) (nomark _))))) (mss_one (ms_ret me_bl)) mss_nil)
      (mss_one (ms_expr (me_lmeth PySem.F.slot_list_extend PySem.F.type_list_extend mt_extend extendOk (me_var 1) (ma_cons (me_lc rfl sc_is_going_form.nd (mi_seq (me_var 4)) (blkOk_by (own := [("one", 5)]) (by kernel_rfl)) (by decide) (fun _ _ _ _ _ => (mg_name 5 sc_is_going_form.nd)) (fun _ _ _ _ _ => mts_nil) (fun _ _ _ _ _ => (me_tup (ma_cons (me_var 5) (ma_cons (me_bin op_addAll addOk (me_var 3) me_int) ma_nil))))) ma_nil))))))))
      (mss_one (ms_ret me_bl))))
theorem sc_law_bag : FnScope ["script", "cell"] ["script"] (defScope (top 27)) := ⟨rfl, rfl, rfl, by decide +kernel, rfl, by decide +kernel, by decide +kernel⟩
theorem ok_law_bag (T : Hd K mg) : FnI P w K mg base Tb false "_law_bag" 1 1 f_law_bag := by
  unfold f_law_bag
  exact fnI_at T.d_law_bag (fun _ _ _ _ _ _ us hl => match us, hl with | [_], _ => rfl) sc_law_bag fun f cdv A outer s H E hr hg =>
    (mss_one (ms_ret (me_lst (ma_cons me_int (ma_cons me_int (ma_cons me_int (ma_cons (me_lc rfl sc_law_bag.nd (mi_seq (me_slice (me_var 0) mo_none (mo_some me_int))) (blkOk_by (own := [("cell", 1)]) (by kernel_rfl)) (by decide) (fun _ _ _ _ _ => (mg_name 1 sc_law_bag.nd)) (fun _ _ _ _ _ => mts_nil) (fun _ _ _ _ _ => (me_callB call_abs absOk T.z_abs (ma_cons (me_var 1) ma_nil)))) ma_nil)))))))
theorem sc_law_take : FnScope ["bag", "many", "cell", "stirred", "value", "begin", "second"] ["bag", "many"] (defScope (top 28)) := ⟨rfl, rfl, rfl, by decide +kernel, rfl, by decide +kernel, by decide +kernel⟩
theorem ok_law_take (T : Hd K mg) : FnI P w K mg base Tb false "_law_take" 1 2 f_law_take := by
  unfold f_law_take
  exact fnI_at T.d_law_take (fun _ _ _ _ _ _ us hl => match us, hl with | [_, _], _ => rfl) sc_law_take fun f cdv A outer s H E hr hg =>
    (mss_cons (ms_if (mt_cmp (op_eqA (hr).units) eqOk (me_ix ix_seq ixOk (me_var 0) me_int) me_int (nomark _)) (mss_cons (ms_set 2 sc_law_take.nd (me_ix ix_seq ixOk (me_bin op_addAll addOk (me_slice (me_ix ix_seq ixOk (me_var 0) me_int) (mo_some (me_ix ix_seq ixOk (me_var 0) me_int)) mo_none) (me_lst (ma_cons me_int ma_nil))) me_int))
      (mss_cons (ms_augS ip_add (ipIntOk _) (me_var 0) me_int me_int)
      (mss_cons (ms_if (mt_cmp op_ge (cmpOk _) (me_var 2) (me_bin op_pow powOk me_int me_int) (nomark _)) (mss_one (ms_asg (me_var 2) (mu_sub (W := fun cls d _ H' => E cls d H') (me_var 0) me_int))) mss_nil)
      (mss_cons (ms_set 3 sc_law_take.nd (me_bin op_addAll addOk (me_bin op_addAll addOk (me_bin op_mulAll mulOk_ok (me_ix ix_seq ixOk (me_var 0) me_int) me_int) (me_bin op_modN modOk (me_callTy call_int1 intOk T.z_int (ma_cons (me_var 2) ma_nil)) me_int)) (me_bin op_mulAll mulOk_ok me_int (me_ix ix_seq ixOk (me_var 0) me_int))))
      (mss_one (ms_asg (me_bin op_modN modOk (me_callTy call_int1 intOk T.z_int (ma_cons (me_var 3) ma_nil)) me_int) (mu_sub (W := fun cls d _ H' => E cls d H') (me_var 0) me_int))))))) mss_nil)
      (mss_cons (ms_if (mt_cmp op_gt (cmpOk _) (me_ix ix_seq ixOk (me_var 0) me_int) me_int (nomark _)) (mss_cons (ms_set 4 sc_law_take.nd (me_bin op_modN modOk (me_callTy call_int1 intOk T.z_int (ma_cons (me_ix ix_seq ixOk (me_var 0) me_int) ma_nil)) (me_var 1)))
      (mss_cons (ms_asg (me_bin op_divAll divOk_ok (me_callTy call_int1 intOk T.z_int (ma_cons (me_ix ix_seq ixOk (me_var 0) me_int) ma_nil)) (me_var 1)) (mu_sub (W := fun cls d _ H' => E cls d H') (me_var 0) me_int))
      (mss_one (ms_ret (me_var 4))))) mss_nil)
      (mss_cons (ms_set 5 sc_law_take.nd (me_bin op_modN modOk (me_callTy call_int1 intOk T.z_int (ma_cons (me_bin op_mulAll mulOk_ok (me_bin op_addAll addOk (me_ix ix_seq ixOk (me_var 0) me_int) me_int) me_int) ma_nil)) me_int))
      (mss_cons (ms_set 6 sc_law_take.nd (me_bin op_modN modOk (me_callTy call_int1 intOk T.z_int (ma_cons (me_bin op_mulAll mulOk_ok (me_bin op_modN modOk (me_callTy call_int1 intOk T.z_int (ma_cons (me_bin op_mulAll mulOk_ok (me_var 5) (me_var 5)) ma_nil)) me_int) me_int) ma_nil)) me_int))
      (mss_one (ms_ret (me_bin op_modN modOk (me_callTy call_int1 intOk T.z_int (ma_cons (me_bin op_divAll divOk_ok (me_var 6) me_int) ma_nil)) (me_var 1))))))))
theorem sc_law_some : FnScope ["bag", "things"] ["bag", "things"] (defScope (top 29)) := ⟨rfl, rfl, rfl, by decide +kernel, rfl, by decide +kernel, by decide +kernel⟩
theorem ok_law_some (T : Hd K mg) : FnI P w K mg base Tb false "_law_some" 2 2 f_law_some := by
  unfold f_law_some
  exact fnI_at T.d_law_some (fun _ _ _ _ _ _ us hl => match us, hl with | [_, _], _ => rfl) sc_law_some fun f cdv A outer s H E hr hg =>
    (mss_one (ms_ret (me_ix ix_seq ixOk (me_var 1) (me_call ((ok_law_take T).calls ((hr).mono (by decide)) noGd) takes_cx (ma_cons (me_var 0) (ma_cons (me_callB call_len lenOk T.z_len (ma_cons (me_var 1) ma_nil)) ma_nil))))))
theorem sc_law_alike : FnScope ["found", "due"] ["found", "due"] (defScope (top 30)) := ⟨rfl, rfl, rfl, by decide +kernel, rfl, by decide +kernel, by decide +kernel⟩
theorem ok_law_alike (T : Hd K mg) : FnI P w K mg base Tb true "_law_alike" 1 2 f_law_alike := by
  unfold f_law_alike
  exact fnI_at T.d_law_alike (fun _ _ _ _ _ _ us hl => match us, hl with | [_, _], _ => rfl) sc_law_alike fun f cdv A outer s H E hr hg =>
    (mss_one (ms_ret (me_and (me_cmp (op_eqA (hr).units) eqOk (me_callB (call_repr (hg rfl) (reprRoom hr)) reprOk_ok T.z_repr (ma_cons (me_var 0) ma_nil)) (me_callB (call_repr (hg rfl) (reprRoom hr)) reprOk_ok T.z_repr (ma_cons (me_var 1) ma_nil)) (nomark _)) (me_one (me_cmp (op_eqA (hr).units) eqOk (me_var 0) (me_var 1) (nomark _))))))
theorem sc_law_is_int : FnScope ["thing"] ["thing"] (defScope (top 31)) := ⟨rfl, rfl, rfl, by decide +kernel, rfl, by decide +kernel, by decide +kernel⟩
theorem ok_law_is_int (T : Hd K mg) : FnI P w K mg base Tb false "_law_is_int" 1 1 f_law_is_int := by
  unfold f_law_is_int
  exact fnI_at T.d_law_is_int (fun _ _ _ _ _ _ us hl => match us, hl with | [_], _ => rfl) sc_law_is_int fun f cdv A outer s H E hr hg =>
    (mss_one (ms_ret (me_and (me_isinst .int T.z_isinstance T.z_int (me_var 0)) (me_one (me_not (me_isinst .bool T.z_isinstance T.z_bool (me_var 0)))))))
theorem sc_law_gcd : FnScope ["a", "b"] ["a", "b"] (defScope (top 32)) := ⟨rfl, rfl, rfl, by decide +kernel, rfl, by decide +kernel, by decide +kernel⟩
theorem ok_law_gcd (T : Hd K mg) : FnI P w K mg base Tb false "_law_gcd" 1 2 f_law_gcd := by
  unfold f_law_gcd
  exact fnI_at T.d_law_gcd (fun _ _ _ _ _ _ us hl => match us, hl with | [_, _], _ => rfl) sc_law_gcd fun f cdv A outer s H E hr hg =>
    (mss_cons (ms_par 0 1 rfl sc_law_gcd.nd (ma_cons (me_callB call_abs absOk T.z_abs (ma_cons (me_var 0) ma_nil)) (ma_cons (me_callB call_abs absOk T.z_abs (ma_cons (me_var 1) ma_nil)) ma_nil)))
      (mss_cons (ms_while passes_cx (mt_cmp (op_neA (hr).units) neOk (me_var 1) me_int (nomark _)) (mss_one (ms_par 0 1 rfl sc_law_gcd.nd (ma_cons (me_var 1) (ma_cons (me_bin op_modN modOk (me_var 0) (me_var 1)) ma_nil)))))
      (mss_one (ms_ret (me_var 0)))))
theorem sc_law_fr : FnScope ["a", "b", "part"] ["a", "b"] (defScope (top 33)) := ⟨rfl, rfl, rfl, by decide +kernel, rfl, by decide +kernel, by decide +kernel⟩
theorem ok_law_fr (T : Hd K mg) : FnI P w K mg base Tb false "_law_fr" 2 2 f_law_fr := by
  unfold f_law_fr
  exact fnI_at T.d_law_fr (fun _ _ _ _ _ _ us hl => match us, hl with | [_, _], _ => rfl) sc_law_fr fun f cdv A outer s H E hr hg =>
    (mss_cons (ms_set 2 sc_law_fr.nd (me_call ((ok_law_gcd T).calls ((hr).mono (by decide)) noGd) takes_cx (ma_cons (me_var 0) (ma_cons (me_var 1) ma_nil))))
      (mss_cons (ms_set 2 sc_law_fr.nd (me_if (mt_cmp op_gt (cmpOk _) (me_var 1) me_int (nomark _)) (me_var 2) (me_bin op_sub subOk me_int (me_var 2))))
      (mss_one (ms_ret (me_tup (ma_cons (me_bin op_divAll divOk_ok (me_var 0) (me_var 2)) (ma_cons (me_bin op_divAll divOk_ok (me_var 1) (me_var 2)) ma_nil)))))))
theorem sc_law_add : FnScope ["one", "other"] ["one", "other"] (defScope (top 34)) := ⟨rfl, rfl, rfl, by decide +kernel, rfl, by decide +kernel, by decide +kernel⟩
theorem ok_law_add (T : Hd K mg) : FnI P w K mg base Tb false "_law_add" 3 2 f_law_add := by
  unfold f_law_add
  exact fnI_at T.d_law_add (fun _ _ _ _ _ _ us hl => match us, hl with | [_, _], _ => rfl) sc_law_add fun f cdv A outer s H E hr hg =>
    (mss_one (ms_ret (me_call ((ok_law_fr T).calls ((hr).mono (by decide)) noGd) takes_cx (ma_cons (me_bin op_addAll addOk (me_bin op_mulAll mulOk_ok (me_ix ix_seq ixOk (me_var 0) me_int) (me_ix ix_seq ixOk (me_var 1) me_int)) (me_bin op_mulAll mulOk_ok (me_ix ix_seq ixOk (me_var 1) me_int) (me_ix ix_seq ixOk (me_var 0) me_int))) (ma_cons (me_bin op_mulAll mulOk_ok (me_ix ix_seq ixOk (me_var 0) me_int) (me_ix ix_seq ixOk (me_var 1) me_int)) ma_nil)))))
theorem sc_law_less : FnScope ["one", "other"] ["one", "other"] (defScope (top 35)) := ⟨rfl, rfl, rfl, by decide +kernel, rfl, by decide +kernel, by decide +kernel⟩
theorem ok_law_less (T : Hd K mg) : FnI P w K mg base Tb false "_law_less" 3 2 f_law_less := by
  unfold f_law_less
  exact fnI_at T.d_law_less (fun _ _ _ _ _ _ us hl => match us, hl with | [_, _], _ => rfl) sc_law_less fun f cdv A outer s H E hr hg =>
    (mss_one (ms_ret (me_call ((ok_law_fr T).calls ((hr).mono (by decide)) noGd) takes_cx (ma_cons (me_bin op_sub subOk (me_bin op_mulAll mulOk_ok (me_ix ix_seq ixOk (me_var 0) me_int) (me_ix ix_seq ixOk (me_var 1) me_int)) (me_bin op_mulAll mulOk_ok (me_ix ix_seq ixOk (me_var 1) me_int) (me_ix ix_seq ixOk (me_var 0) me_int))) (ma_cons (me_bin op_mulAll mulOk_ok (me_ix ix_seq ixOk (me_var 0) me_int) (me_ix ix_seq ixOk (me_var 1) me_int)) ma_nil)))))
theorem sc_law_mul : FnScope ["one", "other"] ["one", "other"] (defScope (top 36)) := ⟨rfl, rfl, rfl, by decide +kernel, rfl, by decide +kernel, by decide +kernel⟩
theorem ok_law_mul (T : Hd K mg) : FnI P w K mg base Tb false "_law_mul" 3 2 f_law_mul := by
  unfold f_law_mul
  exact fnI_at T.d_law_mul (fun _ _ _ _ _ _ us hl => match us, hl with | [_, _], _ => rfl) sc_law_mul fun f cdv A outer s H E hr hg =>
    (mss_one (ms_ret (me_call ((ok_law_fr T).calls ((hr).mono (by decide)) noGd) takes_cx (ma_cons (me_bin op_mulAll mulOk_ok (me_ix ix_seq ixOk (me_var 0) me_int) (me_ix ix_seq ixOk (me_var 1) me_int)) (ma_cons (me_bin op_mulAll mulOk_ok (me_ix ix_seq ixOk (me_var 0) me_int) (me_ix ix_seq ixOk (me_var 1) me_int)) ma_nil)))))
theorem sc_law_small : FnScope ["bag"] ["bag"] (defScope (top 37)) := ⟨rfl, rfl, rfl, by decide +kernel, rfl, by decide +kernel, by decide +kernel⟩
theorem ok_law_small (T : Hd K mg) : FnI P w K mg base Tb false "_law_small" 3 1 f_law_small := by
  unfold f_law_small
  exact fnI_at T.d_law_small (fun _ _ _ _ _ _ us hl => match us, hl with | [_], _ => rfl) sc_law_small fun f cdv A outer s H E hr hg =>
    (mss_one (ms_ret (me_call ((ok_law_fr T).calls ((hr).mono (by decide)) noGd) takes_cx (ma_cons (me_bin op_sub subOk (me_call ((ok_law_take T).calls ((hr).mono (by decide)) noGd) takes_cx (ma_cons (me_var 0) (ma_cons me_int ma_nil))) me_int) (ma_cons (me_call ((ok_law_some T).calls ((hr).mono (by decide)) noGd) takes_cx (ma_cons (me_var 0) (ma_cons (me_lst (ma_cons me_int (ma_cons me_int (ma_cons me_int (ma_cons me_int ma_nil))))) ma_nil))) ma_nil)))))
theorem sc_law_solved : FnScope ["rows", "many", "grid", "row", "goal", "at", "some", "k", "factor", "one", "other"] ["rows"] (defScope (top 39)) := ⟨rfl, rfl, rfl, by decide +kernel, rfl, by decide +kernel, by decide +kernel⟩
theorem ok_law_solved (T : Hd K mg) : FnI P w K mg base Tb false "_law_solved" 4 1 f_law_solved := by
  unfold f_law_solved
  exact fnI_at T.d_law_solved (fun _ _ _ _ _ _ us hl => match us, hl with | [_], _ => rfl) sc_law_solved fun f cdv A outer s H E hr hg =>
    (mss_cons (ms_set 1 sc_law_solved.nd (me_callB call_len lenOk T.z_len (ma_cons (me_var 0) ma_nil)))
      (mss_cons (ms_set 2 sc_law_solved.nd (me_lc rfl sc_law_solved.nd (mi_seq (me_var 0)) (blkOk_by (own := [("row", 3), ("goal", 4)]) (by kernel_rfl)) (by decide) (fun _ _ _ _ _ => (mg_tup rfl (mgs_cons (mg_name 3 sc_law_solved.nd) (mgs_cons (mg_name 4 sc_law_solved.nd) mgs_nil)))) (fun _ _ _ _ _ => mts_nil) (fun _ _ _ _ _ => (me_bin op_addAll addOk (me_callTy call_list_of listOk T.z_list (ma_cons (me_var 3) ma_nil)) (me_lst (ma_cons (me_var 4) ma_nil))))))
      (mss_cons (ms_for passes_cx rfl (mi_range1 T.z_range (ma_cons (me_var 1) ma_nil)) (mg_name 5 sc_law_solved.nd) (mss_cons (ms_setLc 6 rfl sc_law_solved.nd (sw_true rfl rfl rfl (by kernel_rfl)) (mi_range2 T.z_range (ma_cons (me_var 5) (ma_cons (me_var 1) ma_nil))) (blkOk_by (own := [("k", 7)]) (by kernel_rfl)) (by decide) (fun _ _ _ _ _ => (mg_name 7 sc_law_solved.nd)) (fun _ _ _ _ _ => (mts_one (mt_cmp (op_neA (hr).units) neOk (me_ix ix_seq ixOk (me_ix ix_seq ixOk (me_ix ix_seq ixOk (me_var 2) (me_var 7)) (me_var 5)) me_int) me_int (nomark _)))) (fun _ _ _ _ _ => (me_var 7)))
      (mss_cons (ms_if (mt_cmp (op_eqA (hr).units) eqOk (me_var 6) (me_lst ma_nil) (nomark _)) (mss_one (ms_ret me_non)) mss_nil)
      (mss_cons (ms_asg (me_tup (ma_cons (me_ix ix_seq ixOk (me_var 2) (me_ix ix_seq ixOk (me_var 6) me_int)) (ma_cons (me_ix ix_seq ixOk (me_var 2) (me_var 5)) ma_nil))) (mu_tup rfl (mus_cons (mu_sub (W := fun cls d _ H' => E cls d H') (me_var 2) (me_var 5)) (mus_cons (mu_sub (W := fun cls d _ H' => E cls d H') (me_var 2) (me_ix ix_seq ixOk (me_var 6) me_int)) mus_nil))))
      (mss_one (ms_for passes_cx rfl (mi_range1 T.z_range (ma_cons (me_var 1) ma_nil)) (mg_name 7 sc_law_solved.nd) (mss_one (ms_if (mt_cmp (op_neA (hr).units) neOk (me_var 7) (me_var 5) (nomark _)) (mss_cons (ms_set 8 sc_law_solved.nd (me_call ((ok_law_fr T).calls ((hr).mono (by decide)) noGd) takes_cx (ma_cons (me_bin op_mulAll mulOk_ok (me_ix ix_seq ixOk (me_ix ix_seq ixOk (me_ix ix_seq ixOk (me_var 2) (me_var 7)) (me_var 5)) me_int) (me_ix ix_seq ixOk (me_ix ix_seq ixOk (me_ix ix_seq ixOk (me_var 2) (me_var 5)) (me_var 5)) me_int)) (ma_cons (me_bin op_mulAll mulOk_ok (me_ix ix_seq ixOk (me_ix ix_seq ixOk (me_ix ix_seq ixOk (me_var 2) (me_var 7)) (me_var 5)) me_int) (me_ix ix_seq ixOk (me_ix ix_seq ixOk (me_ix ix_seq ixOk (me_var 2) (me_var 5)) (me_var 5)) me_int)) ma_nil))))
      (mss_one (ms_asg (me_lc rfl sc_law_solved.nd (mi_zip T.z_zip (ma_cons (me_ix ix_seq ixOk (me_var 2) (me_var 7)) (ma_cons (me_ix ix_seq ixOk (me_var 2) (me_var 5)) ma_nil))) (blkOk_by (own := [("one", 9), ("other", 10)]) (by kernel_rfl)) (by decide) (fun _ _ _ _ _ => (mg_tup rfl (mgs_cons (mg_name 9 sc_law_solved.nd) (mgs_cons (mg_name 10 sc_law_solved.nd) mgs_nil)))) (fun _ _ _ _ _ => mts_nil) (fun _ _ _ _ _ => (me_call ((ok_law_less T).calls ((hr).mono (by decide)) noGd) takes_none (ma_cons (me_var 9) (ma_cons (me_call ((ok_law_mul T).calls ((hr).mono (by decide)) noGd) takes_none (ma_cons (me_var 8) (ma_cons (me_var 10) ma_nil))) ma_nil))))) (mu_sub (W := fun cls d _ H' => E cls d H') (me_var 2) (me_var 7))))) mss_nil))))))))
      (mss_one (ms_ret (me_callTy call_tuple_of tupleOk T.z_tuple (ma_cons (me_lc rfl sc_law_solved.nd (mi_range1 T.z_range (ma_cons (me_var 1) ma_nil)) (blkOk_by (own := [("k", 7)]) (by kernel_rfl)) (by decide) (fun _ _ _ _ _ => (mg_name 7 sc_law_solved.nd)) (fun _ _ _ _ _ => mts_nil) (fun _ _ _ _ _ => (me_call ((ok_law_fr T).calls ((hr).mono (by decide)) noGd) takes_none (ma_cons (me_bin op_mulAll mulOk_ok (me_ix ix_seq ixOk (me_ix ix_seq ixOk (me_ix ix_seq ixOk (me_var 2) (me_var 7)) (me_var 1)) me_int) (me_ix ix_seq ixOk (me_ix ix_seq ixOk (me_ix ix_seq ixOk (me_var 2) (me_var 7)) (me_var 7)) me_int)) (ma_cons (me_bin op_mulAll mulOk_ok (me_ix ix_seq ixOk (me_ix ix_seq ixOk (me_ix ix_seq ixOk (me_var 2) (me_var 7)) (me_var 1)) me_int) (me_ix ix_seq ixOk (me_ix ix_seq ixOk (me_ix ix_seq ixOk (me_var 2) (me_var 7)) (me_var 7)) me_int)) ma_nil))))) ma_nil)))))))
theorem sc_law_is_going : FnScope ["thing", "deep", "word", "first", "one"] ["thing", "deep"] (defScope (top 40)) := ⟨rfl, rfl, rfl, by decide +kernel, rfl, by decide +kernel, by decide +kernel⟩
theorem ok_law_is_going (T : Hd K mg) : ∀ n, FnI P w K mg base Tb false "_law_is_going" (1 + n) 2 (f_law_is_going n)
  | 0 => by
    rw [f_law_is_going_z]
    exact fnI_err T.d_law_is_going
  | n + 1 => by
    have ih := ok_law_is_going T n
    rw [f_law_is_going_s]
    generalize f_law_is_going n = self at ih
    unfold g_law_is_going
    exact fnI_at (k := 1 + n) T.d_law_is_going (fun _ _ _ _ _ _ us hl => match us, hl with | [_, _], _ => rfl) sc_law_is_going fun f cdv A outer s H E hr hg =>
    (mss_cons (ms_if (MW.pt (mw_or (mt_cmp (op_eqA (hr).units) eqOk (me_var 1) me_int (nomark _)) (mw_or (mt_not (mt_val (me_isinst .tuple T.z_isinstance T.z_tuple (me_var 0)))) (mw_or (mt_cmp (op_eqA (hr).units) eqOk (me_var 0) (me_tup ma_nil) (nomark _)) (mw_or1 (mt_not (mt_val (me_isinst .str T.z_isinstance T.z_str (me_ix ix_seq ixOk (me_var 0) me_int))))))))) (mss_one (ms_ret me_bl)) mss_nil)
      (mss_cons (ms_set 2 sc_law_is_going.nd (me_ix ix_seq ixOk (me_var 0) me_int))
      (mss_cons (ms_if (mt_cmp op_in_seq (inOk false) (me_var 2) (me_tup (ma_cons me_str (ma_cons me_str ma_nil))) (by rfl)) (mss_one (ms_ret (me_cmp (op_eqA (hr).units) eqOk (me_callB call_len lenOk T.z_len (ma_cons (me_var 0) ma_nil)) me_int (nomark _)))) mss_nil)
      (mss_cons (ms_if (mt_cmp (op_eqA (hr).units) eqOk (me_var 2) me_str (nomark _)) (mss_one (ms_ret (me_and (me_cmp (op_eqA (hr).units) eqOk (me_callB call_len lenOk T.z_len (ma_cons (me_var 0) ma_nil)) me_int (nomark _)) (me_and (me_call ((ok_law_is_int T).calls ((hr).mono (by omega)) noGd) takes_cx (ma_cons (me_ix ix_seq ixOk (me_var 0) me_int) ma_nil)) (me_and (me_cmp op_ge (cmpOk _) (me_ix ix_seq ixOk (me_var 0) me_int) me_int (nomark _)) (me_one (me_call ((ih).calls ((hr).mono (by omega)) noGd) takes_cx (ma_cons (me_ix ix_seq ixOk (me_var 0) me_int) (ma_cons (me_bin op_sub subOk (me_var 1) me_int) ma_nil))))))))) mss_nil)
      (mss_cons (ms_if (mt_cmp op_notIn_seq (inOk true) (me_var 2) (me_tup (ma_cons me_str (ma_cons me_str (ma_cons me_str ma_nil)))) (by rfl)) (mss_one (ms_ret me_bl)) mss_nil)
      (mss_cons (ms_set 3 sc_law_is_going.nd (me_if (mt_cmp (op_eqA (hr).units) eqOk (me_var 2) me_str (nomark _)) me_int me_int))
      (mss_cons (ms_if (MW.pt (mw_and (mt_cmp (op_eqA (hr).units) eqOk (me_var 2) me_str (nomark _)) (mw_and1 (MW.pt (mw_or (mt_cmp op_lt (cmpOk _) (me_callB call_len lenOk T.z_len (ma_cons (me_var 0) ma_nil)) me_int (nomark _)) (mw_or (mt_not (mt_val (me_isinst .tuple T.z_isinstance T.z_tuple (me_ix ix_seq ixOk (me_var 0) me_int)))) (mw_or1 (mt_cmp (op_neA (hr).units) neOk (me_lc rfl sc_law_is_going.nd (mi_seq (me_ix ix_seq ixOk (me_var 0) me_int)) (blkOk_by (own := [("one", 4)]) (by kernel_rfl)) (by decide) (fun _ _ _ _ _ => (mg_name 4 sc_law_is_going.nd)) (fun _ _ _ _ _ => (mts_one (MW.pt (mw_or (mt_not (mt_val (me_call ((ok_law_is_int T).calls ((hr).mono (by omega)) noGd) takes_none (ma_cons (me_var 4) ma_nil)))) (mw_or1 (mt_cmp op_lt (cmpOk _) (me_var 4) me_int (nomark _))))))) (fun _ _ _ _ _ => (me_var 4))) (me_lst ma_nil) (nomark _))))))))) (mss_one (ms_ret me_bl)) mss_nil)
      (mss_one (ms_ret (me_and (me_cmp op_gt (cmpOk _) (me_callB call_len lenOk T.z_len (ma_cons (me_var 0) ma_nil)) (me_var 3) (nomark _)) (me_one (me_cmp (op_eqA (hr).units) eqOk (me_lc rfl sc_law_is_going.nd (mi_seq (me_slice (me_var 0) (mo_some (me_var 3)) mo_none)) (blkOk_by (own := [("one", 4)]) (by kernel_rfl)) (by decide) (fun _ _ _ _ _ => (mg_name 4 sc_law_is_going.nd)) (fun _ _ _ _ _ => (mts_one (mt_not (mt_val (me_call ((ih).calls ((hr).mono (by omega)) noGd) takes_none (ma_cons (me_var 4) (ma_cons (me_bin op_sub subOk (me_var 1) me_int) ma_nil))))))) (fun _ _ _ _ _ => (me_var 4))) (me_lst ma_nil) (nomark _)))))))))))))
theorem sc_law_going : FnScope ["bag", "deep", "way", "some", "k"] ["bag", "deep"] (defScope (top 41)) := ⟨rfl, rfl, rfl, by decide +kernel, rfl, by decide +kernel, by decide +kernel⟩
theorem ok_law_going (T : Hd K mg) : ∀ n, FnI P w K mg base Tb false "_law_going" (2 + n) 2 (f_law_going n)
  | 0 => by
    rw [f_law_going_z]
    exact fnI_err T.d_law_going
  | n + 1 => by
    have ih := ok_law_going T n
    rw [f_law_going_s]
    generalize f_law_going n = self at ih
    unfold g_law_going
    exact fnI_at (k := 2 + n) T.d_law_going (fun _ _ _ _ _ _ us hl => match us, hl with | [_, _], _ => rfl) sc_law_going fun f cdv A outer s H E hr hg =>
    (mss_cons (ms_set 2 sc_law_going.nd (me_if (mt_cmp op_gt (cmpOk _) (me_var 1) me_int (nomark _)) (me_call ((ok_law_take T).calls ((hr).mono (by omega)) noGd) takes_cx (ma_cons (me_var 0) (ma_cons me_int ma_nil))) (me_call ((ok_law_take T).calls ((hr).mono (by omega)) noGd) takes_cx (ma_cons (me_var 0) (ma_cons me_int ma_nil)))))
      (mss_cons (ms_if (mt_cmp op_lt (cmpOk _) (me_var 2) me_int (nomark _)) (mss_one (ms_ret (me_if (mt_cmp (op_eqA (hr).units) eqOk (me_var 2) me_int (nomark _)) (me_tup (ma_cons me_str ma_nil)) (me_tup (ma_cons me_str ma_nil))))) mss_nil)
      (mss_cons (ms_if (mt_cmp (op_eqA (hr).units) eqOk (me_var 2) me_int (nomark _)) (mss_one (ms_ret (me_tup (ma_cons me_str (ma_cons (me_call ((ok_law_take T).calls ((hr).mono (by omega)) noGd) takes_cx (ma_cons (me_var 0) (ma_cons me_int ma_nil))) (ma_cons (me_call ((ih).calls ((hr).mono (by omega)) noGd) takes_cx (ma_cons (me_var 0) (ma_cons (me_bin op_sub subOk (me_var 1) me_int) ma_nil))) ma_nil)))))) mss_nil)
      (mss_cons (ms_set 3 sc_law_going.nd (me_callTy call_tuple_of tupleOk T.z_tuple (ma_cons (me_lc rfl sc_law_going.nd (mi_range1 T.z_range (ma_cons (me_bin op_addAll addOk me_int (me_call ((ok_law_take T).calls ((hr).mono (by omega)) noGd) takes_cx (ma_cons (me_var 0) (ma_cons me_int ma_nil)))) ma_nil)) (blkOk_by (own := [("k", 4)]) (by kernel_rfl)) (by decide) (fun _ _ _ _ _ => (mg_name 4 sc_law_going.nd)) (fun _ _ _ _ _ => mts_nil) (fun _ _ _ _ _ => (me_call ((ih).calls ((hr).mono (by omega)) noGd) takes_none (ma_cons (me_var 0) (ma_cons (me_bin op_sub subOk (me_var 1) me_int) ma_nil))))) ma_nil)))
      (mss_cons (ms_if (mt_cmp (op_eqA (hr).units) eqOk (me_var 2) me_int (nomark _)) (mss_one (ms_ret (me_bin op_addAll addOk (me_tup (ma_cons me_str (ma_cons (me_callTy call_tuple_of tupleOk T.z_tuple (ma_cons (me_lc rfl sc_law_going.nd (mi_range1 T.z_range (ma_cons (me_call ((ok_law_take T).calls ((hr).mono (by omega)) noGd) takes_cx (ma_cons (me_var 0) (ma_cons me_int ma_nil))) ma_nil)) (blkOk_by (own := [("k", 4)]) (by kernel_rfl)) (by decide) (fun _ _ _ _ _ => (mg_name 4 sc_law_going.nd)) (fun _ _ _ _ _ => mts_nil) (fun _ _ _ _ _ => (me_call ((ok_law_take T).calls ((hr).mono (by omega)) noGd) takes_none (ma_cons (me_var 0) (ma_cons me_int ma_nil))))) ma_nil)) ma_nil))) (me_var 3)))) mss_nil)
      (mss_one (ms_ret (me_bin op_addAll addOk (me_tup (ma_cons (me_call ((ok_law_some T).calls ((hr).mono (by omega)) noGd) takes_cx (ma_cons (me_var 0) (ma_cons (me_lst (ma_cons me_str (ma_cons me_str ma_nil))) ma_nil))) ma_nil)) (me_var 3)))))))))
theorem tabOne {a b : Addr} {q : Str} : ∀ p ∈ [(a, q)], p.1 = b → p.2 = q := fun p hp _ => by
  obtain rfl := List.mem_singleton.mp hp
  rfl
theorem sc_law_heard : FnScope ["act"] ["act"] (defScope (top 38)) := ⟨rfl, rfl, rfl, by decide +kernel, rfl, by decide +kernel, by decide +kernel⟩
theorem me_heard {Tb : List (Addr × Str)} {X : Cx} {W : WX} (T : Hd X.K X.mg) {c tb : Addr} {k : Nat} {params : Arguments} {body : Expr} {scope : Scope} {m : E} {p lpos pos : Pos} (TB : LamX.TabB X.base X.mg c tb) (hcode : X.env.code = .ref c) (hmT : (tb, X.env.qual ++ "<lambda>") ∈ Tb) (hu : ∀ p ∈ Tb, p.1 = tb → p.2 = X.env.qual ++ "<lambda>") (hr : Room (k + 2) X.A) (L : LamX.LamS X.env.scope scope)
    (hbody : ∀ (A : Around) (outer : List Env) (s : Shared) (H : Hp) (E : XK) (f c' : Addr), Room k (A.deeper (LamX.lamEnv X scope s.heap.objs.size f c')) → ME Tb (LamX.lamCx X A outer s H E scope f c') (fun cls d _ H' => E cls d H') body m)
    (hdef : defaultsOf params X.env = ([], []) := by rfl)
    (hbind : ∀ (q : Str) (cl : List (Str × Addr)) (pm cv ctv : Value), bindArgs (PySem.W.kla_fn "<lambda>" q params body scope cl pm cv ctv) ⟨[], []⟩ = pure [] := by exact fun _ _ _ _ _ => rfl) (hg : Gl X "_law_heard" := by rfl) :
    ME Tb X W (.Call (.Name "_law_heard" p) [.Lambda params body scope lpos] [] pos) (mThunk (okTup "told") (exTup "Nothing" "nothing") m) := by
  obtain ⟨g, fd, hm, F⟩ := T.d_law_heard.ex
  obtain ⟨C, gC, _, _, _, _, xC⟩ := T.x_Nothing.ex
  exact me_lam (Ng := ["act"]) (a := "act") hm F (F.bindsN fun _ _ _ _ _ _ us hl => match us, hl with | [_], _ => rfl) sc_law_heard rfl (Or.inl rfl) (fun cdv => tup_gives (q := X.env.qual ++ "<lambda>") (e := "Nothing") (s1 := "told") (s2 := "nothing") rfl gC (by decide) (fun _ => rfl)) (fun σ H Q h H1 en t => tup_tt gC xC σ H Q h H1 en t) TB hcode hmT hu hr L hbody hdef hbind hg
theorem sc_law : FnScope ["script", "bag", "lap", "one", "other", "a", "b", "due", "ratio", "found", "thing", "so", "many", "rows", "k", "row", "j", "part", "goal", "total", "worth", "going", "odds", "deep"] ["script"] (defScope (top 42)) := ⟨rfl, rfl, rfl, by decide +kernel, rfl, by decide +kernel, by decide +kernel⟩
theorem ok_law (T : Hd K mg) {f c tb : Addr} {fd : FuncData} (hm : mg "law" = some (.ref f)) (Fl : L2.FunD K "law" "law" (defArgs (top 42)) (defBody (top 42)) (defScope (top 42)) [] [] f fd) (hcd : fd.code = .ref c) (TB : LamX.TabB base mg c tb) : FnI P w K mg base [(tb, "law.<locals>.<lambda>")] true "law" 16 1 f_law := by
  unfold f_law
  exact fnI_atC hm Fl hcd (fun _ _ _ _ _ _ us hl => match us, hl with | [_], _ => rfl) sc_law fun A outer s H E hr hg =>
    have hcode : Value.ref c = Value.ref c := rfl
    (mss_cons (ms_set 1 sc_law.nd (me_call ((ok_law_bag T).calls ((hr).mono (by decide)) noGd) takes_cx (ma_cons (me_var 0) ma_nil)))
      (mss_cons (ms_for passes_cx rfl (mi_range1 T.z_range (ma_cons me_int ma_nil)) (mg_name 2 sc_law.nd) (mss_cons (ms_asg (me_tup (ma_cons (me_call ((ok_law_small T).calls ((hr).mono (by decide)) noGd) takes_cx (ma_cons (me_var 1) ma_nil)) (ma_cons (me_call ((ok_law_small T).calls ((hr).mono (by decide)) noGd) takes_cx (ma_cons (me_var 1) ma_nil)) ma_nil))) (mu_tup rfl (mus_cons (mu_name 3 sc_law.nd) (mus_cons (mu_name 4 sc_law.nd) mus_nil))))
      (mss_cons (ms_asg (me_tup (ma_cons (me_bin op_sub subOk (me_call ((ok_law_take T).calls ((hr).mono (by decide)) noGd) takes_cx (ma_cons (me_var 1) (ma_cons me_int ma_nil))) me_int) (ma_cons (me_bin op_sub subOk (me_call ((ok_law_take T).calls ((hr).mono (by decide)) noGd) takes_cx (ma_cons (me_var 1) (ma_cons me_int ma_nil))) me_int) ma_nil))) (mu_tup rfl (mus_cons (mu_name 5 sc_law.nd) (mus_cons (mu_name 6 sc_law.nd) mus_nil))))
      (mss_cons (ms_set 7 sc_law.nd (me_if (mt_cmp (op_neA (hr).units) neOk (me_var 6) me_int (nomark _)) (me_tup (ma_cons me_str (ma_cons (me_call ((ok_law_fr T).calls ((hr).mono (by decide)) noGd) takes_cx (ma_cons (me_var 5) (ma_cons (me_var 6) ma_nil))) ma_nil))) (me_tup (ma_cons me_str ma_nil))))
      (mss_cons (ms_if (mt_cmp (op_neA (hr).units) neOk (me_heard T TB hcode (by exact List.mem_singleton.mpr rfl) tabOne hr (LamX.lamS_by (by kernel_rfl)) (fun A outer s H E f c' hr' => (me_call ((ok_made T).calls ((hr').mono (by decide)) noGd) takes_lam (ma_cons (me_var 5) (ma_cons (me_var 6) ma_nil))))) (me_var 7) (nomark _)) (mss_one (ms_ret me_bl)) mss_nil)
      (mss_cons (ms_set 8 sc_law.nd (me_if (mt_cmp (op_neA (hr).units) neOk (me_ix ix_seq ixOk (me_var 4) me_int) me_int (nomark _)) (me_tup (ma_cons me_str (ma_cons (me_call ((ok_law_fr T).calls ((hr).mono (by decide)) noGd) takes_cx (ma_cons (me_bin op_mulAll mulOk_ok (me_ix ix_seq ixOk (me_var 3) me_int) (me_ix ix_seq ixOk (me_var 4) me_int)) (ma_cons (me_bin op_mulAll mulOk_ok (me_ix ix_seq ixOk (me_var 3) me_int) (me_ix ix_seq ixOk (me_var 4) me_int)) ma_nil))) ma_nil))) (me_tup (ma_cons me_str ma_nil))))
      (mss_cons (ms_set 9 sc_law.nd (me_lst (ma_cons (me_call ((ok_plus T).calls ((hr).mono (by decide)) noGd) takes_cx (ma_cons (me_var 3) (ma_cons (me_var 4) ma_nil))) (ma_cons (me_call ((ok_minus T).calls ((hr).mono (by decide)) noGd) takes_cx (ma_cons (me_var 3) (ma_cons (me_var 4) ma_nil))) (ma_cons (me_call ((ok_times T).calls ((hr).mono (by decide)) noGd) takes_cx (ma_cons (me_var 3) (ma_cons (me_var 4) ma_nil))) (ma_cons (me_call ((ok_is_less T).calls ((hr).mono (by decide)) noGd) takes_cx (ma_cons (me_var 3) (ma_cons (me_var 4) ma_nil))) (ma_cons (me_call ((ok_sum_of T).calls ((hr).mono (by decide)) noGd) takes_cx (ma_cons (me_lst (ma_cons (me_var 3) (ma_cons (me_var 4) (ma_cons (me_var 3) ma_nil)))) ma_nil)) (ma_cons (me_call ((ok_sum_of T).calls ((hr).mono (by decide)) noGd) takes_cx (ma_cons (me_tup ma_nil) ma_nil)) ma_nil))))))))
      (mss_cons (ms_if (mt_not (mt_val (me_call ((ok_law_alike T).calls ((hr).mono (by decide)) hg) takes_cx (ma_cons (me_var 9) (ma_cons (me_lst (ma_cons (me_call ((ok_law_add T).calls ((hr).mono (by decide)) noGd) takes_cx (ma_cons (me_var 3) (ma_cons (me_var 4) ma_nil))) (ma_cons (me_call ((ok_law_less T).calls ((hr).mono (by decide)) noGd) takes_cx (ma_cons (me_var 3) (ma_cons (me_var 4) ma_nil))) (ma_cons (me_call ((ok_law_mul T).calls ((hr).mono (by decide)) noGd) takes_cx (ma_cons (me_var 3) (ma_cons (me_var 4) ma_nil))) (ma_cons (me_cmp op_lt (cmpOk _) (me_bin op_mulAll mulOk_ok (me_ix ix_seq ixOk (me_var 3) me_int) (me_ix ix_seq ixOk (me_var 4) me_int)) (me_bin op_mulAll mulOk_ok (me_ix ix_seq ixOk (me_var 4) me_int) (me_ix ix_seq ixOk (me_var 3) me_int)) (nomark _)) (ma_cons (me_call ((ok_law_add T).calls ((hr).mono (by decide)) noGd) takes_cx (ma_cons (me_call ((ok_law_add T).calls ((hr).mono (by decide)) noGd) takes_cx (ma_cons (me_var 3) (ma_cons (me_var 4) ma_nil))) (ma_cons (me_var 3) ma_nil))) (ma_cons (me_tup (ma_cons me_int (ma_cons me_int ma_nil))) ma_nil))))))) ma_nil))))) (mss_one (ms_ret me_bl)) mss_nil)
      (mss_cons (ms_if (mt_cmp (op_neA (hr).units) neOk (me_heard T TB hcode (by exact List.mem_singleton.mpr rfl) tabOne hr (LamX.lamS_by (by kernel_rfl)) (fun A outer s H E f c' hr' => (me_call ((ok_over_by T).calls ((hr').mono (by decide)) noGd) takes_lam (ma_cons (me_var 3) (ma_cons (me_var 4) ma_nil))))) (me_var 8) (nomark _)) (mss_one (ms_ret me_bl)) mss_nil)
      (mss_cons (ms_for passes_cx rfl (mi_seq (me_tup (ma_cons (me_var 3) (ma_cons (me_tup (ma_cons me_int (ma_cons me_int ma_nil))) (ma_cons (me_tup (ma_cons me_int (ma_cons me_int ma_nil))) (ma_cons (me_tup (ma_cons me_int (ma_cons me_int ma_nil))) (ma_cons (me_tup (ma_cons me_int (ma_cons me_int ma_nil))) (ma_cons (me_tup (ma_cons (me_un un_neg negOk me_int) (ma_cons me_int ma_nil))) (ma_cons (me_tup (ma_cons me_int (ma_cons me_int ma_nil))) (ma_cons (me_tup (ma_cons me_bl (ma_cons me_int ma_nil))) (ma_cons (me_tup (ma_cons me_int (ma_cons me_bl ma_nil))) (ma_cons (me_lst (ma_cons me_int (ma_cons me_int ma_nil))) (ma_cons (me_tup (ma_cons me_int ma_nil)) (ma_cons me_non (ma_cons me_int (ma_cons (me_tup (ma_cons me_int (ma_cons me_int (ma_cons me_int ma_nil)))) ma_nil)))))))))))))))) (mg_name 10 sc_law.nd) (mss_cons (ms_set 11 sc_law.nd (me_and (me_isinst .tuple T.z_isinstance T.z_tuple (me_var 10)) (me_and (me_cmp (op_eqA (hr).units) eqOk (me_callB call_len lenOk T.z_len (ma_cons (me_var 10) ma_nil)) me_int (nomark _)) (me_and (me_call ((ok_law_is_int T).calls ((hr).mono (by decide)) noGd) takes_cx (ma_cons (me_ix ix_seq ixOk (me_var 10) me_int) ma_nil)) (me_one (me_call ((ok_law_is_int T).calls ((hr).mono (by decide)) noGd) takes_cx (ma_cons (me_ix ix_seq ixOk (me_var 10) me_int) ma_nil)))))))
      (mss_cons (ms_set 11 sc_law.nd (me_and (me_var 11) (me_and (me_cmp op_gt (cmpOk _) (me_ix ix_seq ixOk (me_var 10) me_int) me_int (nomark _)) (me_and (me_cmp (op_eqA (hr).units) eqOk (me_call ((ok_law_gcd T).calls ((hr).mono (by decide)) noGd) takes_cx (ma_cons (me_ix ix_seq ixOk (me_var 10) me_int) (ma_cons (me_ix ix_seq ixOk (me_var 10) me_int) ma_nil))) me_int (nomark _)) (me_one (me_chain op_le op_le (cmpOk _) (cmpOk _) me_int (me_ix ix_seq ixOk (me_var 10) me_int) (me_ix ix_seq ixOk (me_var 10) me_int)))))))
      (mss_one (ms_if (mt_cmp (op_neA (hr).units) neOk (me_call ((ok_is_share T).calls ((hr).mono (by decide)) noGd) takes_cx (ma_cons (me_var 10) ma_nil)) (me_var 11) (nomark _)) (mss_one (ms_ret me_bl)) mss_nil)))))
      (mss_cons (ms_set 12 sc_law.nd (me_call ((ok_law_take T).calls ((hr).mono (by decide)) noGd) takes_cx (ma_cons (me_var 1) (ma_cons me_int ma_nil))))
      (mss_cons (ms_set 13 sc_law.nd (me_lst ma_nil))
      (mss_cons (ms_for passes_cx rfl (mi_range1 T.z_range (ma_cons (me_var 12) ma_nil)) (mg_name 14 sc_law.nd) (mss_cons (ms_setLc 15 rfl sc_law.nd (sw_true rfl rfl rfl (by kernel_rfl)) (mi_range1 T.z_range (ma_cons (me_var 12) ma_nil)) (blkOk_by (own := [("j", 16)]) (by kernel_rfl)) (by decide) (fun _ _ _ _ _ => (mg_name 16 sc_law.nd)) (fun _ _ _ _ _ => mts_nil) (fun _ _ _ _ _ => (me_call ((ok_law_some T).calls ((hr).mono (by decide)) noGd) takes_none (ma_cons (me_var 1) (ma_cons (me_lst (ma_cons (me_tup (ma_cons me_int (ma_cons me_int ma_nil))) (ma_cons (me_call ((ok_law_small T).calls ((hr).mono (by decide)) noGd) takes_none (ma_cons (me_var 1) ma_nil)) ma_nil))) ma_nil)))))
      (mss_one (ms_expr (me_lmeth PySem.F.slot_list_append PySem.F.type_list_append mt_append appendOk (me_var 13) (ma_cons (me_tup (ma_cons (me_var 15) (ma_cons (me_call ((ok_law_small T).calls ((hr).mono (by decide)) noGd) takes_cx (ma_cons (me_var 1) ma_nil)) ma_nil))) ma_nil))))))
      (mss_cons (ms_if (MW.pt (mw_and (mt_cmp op_gt (cmpOk _) (me_var 12) me_int (nomark _)) (mw_and1 (mt_cmp (op_eqA (hr).units) eqOk (me_call ((ok_law_take T).calls ((hr).mono (by decide)) noGd) takes_cx (ma_cons (me_var 1) (ma_cons me_int ma_nil))) me_int (nomark _))))) (mss_one (ms_asg (me_tup (ma_cons (me_lc rfl sc_law.nd (mi_seq (me_ix ix_seq ixOk (me_ix ix_seq ixOk (me_var 13) me_int) me_int)) (blkOk_by (own := [("part", 17)]) (by kernel_rfl)) (by decide) (fun _ _ _ _ _ => (mg_name 17 sc_law.nd)) (fun _ _ _ _ _ => mts_nil) (fun _ _ _ _ _ => (me_call ((ok_law_mul T).calls ((hr).mono (by decide)) noGd) takes_none (ma_cons (me_var 17) (ma_cons (me_tup (ma_cons me_int (ma_cons me_int ma_nil))) ma_nil))))) (ma_cons (me_ix ix_seq ixOk (me_ix ix_seq ixOk (me_var 13) me_int) me_int) ma_nil))) (mu_sub (W := fun cls d _ H' => E cls d H') (me_var 13) me_int))) mss_nil)
      (mss_cons (ms_set 9 sc_law.nd (me_call ((ok_solved T).calls ((hr).mono (by decide)) noGd) takes_cx (ma_cons (me_var 13) ma_nil)))
      (mss_cons (ms_if (mt_not (mt_val (me_call ((ok_law_alike T).calls ((hr).mono (by decide)) hg) takes_cx (ma_cons (me_var 9) (ma_cons (me_call ((ok_law_solved T).calls ((hr).mono (by decide)) noGd) takes_cx (ma_cons (me_var 13) ma_nil)) ma_nil))))) (mss_one (ms_ret me_bl)) mss_nil)
      (mss_cons (ms_for passes_cx rfl (mi_seq (me_if (mt_cmp op_notAll notOk (me_var 9) me_non (nomark _)) (me_var 13) (me_lst ma_nil))) (mg_tup rfl (mgs_cons (mg_name 15 sc_law.nd) (mgs_cons (mg_name 18 sc_law.nd) mgs_nil))) (mss_cons (ms_set 19 sc_law.nd (me_tup (ma_cons me_int (ma_cons me_int ma_nil))))
      (mss_cons (ms_for passes_cx rfl (mi_zip T.z_zip (ma_cons (me_var 15) (ma_cons (me_var 9) ma_nil))) (mg_tup rfl (mgs_cons (mg_name 17 sc_law.nd) (mgs_cons (mg_name 20 sc_law.nd) mgs_nil))) (mss_one (ms_set 19 sc_law.nd (me_call ((ok_law_add T).calls ((hr).mono (by decide)) noGd) takes_cx (ma_cons (me_var 19) (ma_cons (me_call ((ok_law_mul T).calls ((hr).mono (by decide)) noGd) takes_cx (ma_cons (me_var 17) (ma_cons (me_var 20) ma_nil))) ma_nil))))))
      (mss_one (ms_if (mt_cmp (op_neA (hr).units) neOk (me_var 19) (me_var 18) (nomark _)) (mss_one (ms_ret me_bl)) mss_nil)))))
      (mss_cons (ms_set 21 sc_law.nd (me_call ((ok_law_going T 4).calls ((hr).mono (by decide)) noGd) takes_cx (ma_cons (me_var 1) (ma_cons me_int ma_nil))))
      (mss_cons (ms_set 22 sc_law.nd (me_lst (ma_cons (me_var 21) (ma_cons me_non (ma_cons (me_callTy call_list_of listOk T.z_list (ma_cons (me_var 21) ma_nil)) (ma_cons (me_bin op_addAll addOk (me_var 21) (me_tup (ma_cons (me_tup (ma_cons me_str ma_nil)) ma_nil))) (ma_cons (me_slice (me_var 21) mo_none (mo_some (me_un un_neg negOk me_int))) (ma_cons (me_tup (ma_cons me_str (ma_cons (me_un un_neg negOk me_int) (ma_cons (me_var 21) ma_nil)))) (ma_cons (me_tup (ma_cons me_str (ma_cons me_bl (ma_cons (me_var 21) ma_nil)))) (ma_cons (me_tup (ma_cons me_str (ma_cons me_int (ma_cons (me_var 21) ma_nil)))) (ma_cons (me_tup (ma_cons me_str ma_nil)) (ma_cons (me_tup (ma_cons me_str ma_nil)) ma_nil))))))))))))
      (mss_cons (ms_set 22 sc_law.nd (me_bin op_addAll addOk (me_var 22) (me_lst (ma_cons (me_tup (ma_cons me_str (ma_cons (me_tup (ma_cons me_int (ma_cons me_int ma_nil))) ma_nil))) (ma_cons (me_tup (ma_cons me_str (ma_cons (me_tup (ma_cons me_int (ma_cons (me_un un_neg negOk me_int) ma_nil))) (ma_cons (me_var 21) ma_nil)))) (ma_cons (me_tup (ma_cons me_str (ma_cons (me_lst (ma_cons me_int ma_nil)) (ma_cons (me_var 21) ma_nil)))) ma_nil))))))
      (mss_cons (ms_set 22 sc_law.nd (me_bin op_addAll addOk (me_var 22) (me_lst (ma_cons (me_tup (ma_cons me_str (ma_cons (me_tup ma_nil) (ma_cons (me_var 21) ma_nil)))) (ma_cons (me_tup (ma_cons me_str (ma_cons (me_var 21) (ma_cons (me_tup (ma_cons me_str ma_nil)) ma_nil)))) (ma_cons (me_tup (ma_cons me_str (ma_cons me_str ma_nil))) (ma_cons (me_tup (ma_cons me_str (ma_cons (me_tup ma_nil) ma_nil))) (ma_cons (me_tup ma_nil) (ma_cons (me_tup (ma_cons (me_var 21) ma_nil)) (ma_cons me_str (ma_cons (me_tup (ma_cons me_str (ma_cons (me_var 21) (ma_cons (me_var 21) ma_nil)))) ma_nil)))))))))))
      (mss_one (ms_for passes_cx rfl (mi_seq (me_var 22)) (mg_name 10 sc_law.nd) (mss_one (ms_if (mt_cmp (op_neA (hr).units) neOk (me_call ((ok_is_going_form T).calls ((hr).mono (by decide)) noGd) takes_cx (ma_cons (me_var 10) ma_nil)) (me_call ((ok_law_is_going T 12).calls ((hr).mono (by decide)) noGd) takes_cx (ma_cons (me_var 10) (ma_cons me_int ma_nil))) (nomark _)) (mss_one (ms_ret me_bl)) mss_nil)))))))))))))))))))))))))
      (mss_cons (ms_set 23 sc_law.nd (me_tup (ma_cons me_str ma_nil)))
      (mss_cons (ms_for passes_cx rfl (mi_range1 T.z_range (ma_cons me_int ma_nil)) (mg_name 14 sc_law.nd) (mss_one (ms_set 23 sc_law.nd (me_tup (ma_cons me_str (ma_cons (me_var 23) ma_nil))))))
      (mss_one (ms_ret (me_and (me_cmp op_isAll isOk (me_call ((ok_is_going_form T).calls ((hr).mono (by decide)) noGd) takes_cx (ma_cons (me_var 23) ma_nil)) me_bl (nomark _)) (me_one (me_cmp op_isAll isOk (me_call ((ok_is_going_form T).calls ((hr).mono (by decide)) noGd) takes_cx (ma_cons (me_tup (ma_cons me_str (ma_cons (me_tup (ma_cons me_str (ma_cons (me_tup (ma_cons me_str (ma_cons (me_tup (ma_cons me_str (ma_cons me_int (ma_cons (me_tup (ma_cons me_str ma_nil)) ma_nil)))) ma_nil))) ma_nil))) ma_nil))) ma_nil)) me_bl (nomark _))))))))))
end
end K13
namespace K13
open PySem PySem.Spec PyProof.Rows L2 Mp
/-! ### the head -/
def dd (x : Str) (i : Nat) : He.DefD := ⟨(x, none), x, x, defArgs (top i), defBody (top i), defScope (top i), [], []⟩
def fn : List He.DefD := [dd "divisor_of" 8, dd "made" 11, dd "plus" 12, dd "minus" 13, dd "times" 14, dd "over_by" 15, dd "is_less" 16, dd "is_integer" 5, dd "is_share" 17, dd "sum_of" 18, dd "solved" 19, dd "is_count" 6, dd "is_few" 22, dd "is_tuple_of" 7, dd "is_counts" 23, dd "inner_goings" 24, dd "is_going_form" 25, dd "_law_bag" 27, dd "_law_take" 28, dd "_law_some" 29, dd "_law_alike" 30, dd "_law_is_int" 31, dd "_law_gcd" 32, dd "_law_fr" 33, dd "_law_add" 34, dd "_law_less" 35, dd "_law_mul" 36, dd "_law_small" 37, dd "_law_heard" 38, dd "_law_solved" 39, dd "_law_is_going" 40, dd "_law_going" 41, dd "law" 42]
def fa : List He.Fa := [.glo "divisor_of", .glo "made", .glo "plus", .glo "minus", .glo "times", .glo "over_by", .glo "is_less", .glo "is_integer", .glo "is_share", .glo "sum_of", .glo "solved", .glo "is_count", .glo "is_few", .glo "is_tuple_of", .glo "is_counts", .glo "inner_goings", .glo "is_going_form", .glo "_law_bag", .glo "_law_take", .glo "_law_some", .glo "_law_alike", .glo "_law_is_int", .glo "_law_gcd", .glo "_law_fr", .glo "_law_add", .glo "_law_less", .glo "_law_mul", .glo "_law_small", .glo "_law_heard", .glo "_law_solved", .glo "_law_is_going", .glo "_law_going", .glo "law", .free "abs", .free "all", .free "bool", .free "int", .free "isinstance", .free "len", .free "list", .free "range", .free "repr", .free "str", .free "tuple", .free "zip", .int "MOST_DEPTH" 12, .glo "NIL", .glo "Nothing", .exc "Nothing", .exm "Nothing" "Nothing" true]
def tf : List He.Defn := [("law", none)]
def ex (K : PySem.W.Frag) : Bool := He.tupB K "NIL" [.int 0, .int 1]
abbrev R : PySem.W.OpenRow := PySem.W.OpenLaw.row PySem.Challenge.rw_casetrees_k13_whole_shares_solved_and_go
abbrev hk : PySem.W.Hook := He.hookX 60 fa fn [] tf ex
def ob (s : PySem.W.SharedT) : He.AlX := He.obsX 60 fa fn [] tf ex (HandSHeadRun.getT s)
theorem ob_eq (s : PySem.W.SharedT) : ob s = hk.obs s.abs := He.obsX_eq (HandSHeadRun.getT_eq s)
theorem hd_of {w : World} {h : Heap} {K : PySem.W.Frag} {mg : Str → Option Value} (X : K.In h) (G : h.Ns mainGlobals mg) (c : He.SaysX fa fn [] tf ex w h K) : Hd K mg where
  z_abs := He.free_ok X G (c.t.d.fact 33 (f := .free "abs") rfl)
  z_all := He.free_ok X G (c.t.d.fact 34 (f := .free "all") rfl)
  z_bool := He.free_ok X G (c.t.d.fact 35 (f := .free "bool") rfl)
  z_int := He.free_ok X G (c.t.d.fact 36 (f := .free "int") rfl)
  z_isinstance := He.free_ok X G (c.t.d.fact 37 (f := .free "isinstance") rfl)
  z_len := He.free_ok X G (c.t.d.fact 38 (f := .free "len") rfl)
  z_list := He.free_ok X G (c.t.d.fact 39 (f := .free "list") rfl)
  z_range := He.free_ok X G (c.t.d.fact 40 (f := .free "range") rfl)
  z_repr := He.free_ok X G (c.t.d.fact 41 (f := .free "repr") rfl)
  z_str := He.free_ok X G (c.t.d.fact 42 (f := .free "str") rfl)
  z_tuple := He.free_ok X G (c.t.d.fact 43 (f := .free "tuple") rfl)
  z_zip := He.free_ok X G (c.t.d.fact 44 (f := .free "zip") rfl)
  d_divisor_of := by
    obtain ⟨fd, F⟩ := c.t.d.def_ 0 (d := dd "divisor_of" 8) rfl
    exact ⟨_, fd, He.glo_ok X G (c.t.d.fact 0 (f := .glo "divisor_of") rfl), F⟩
  d_made := by
    obtain ⟨fd, F⟩ := c.t.d.def_ 1 (d := dd "made" 11) rfl
    exact ⟨_, fd, He.glo_ok X G (c.t.d.fact 1 (f := .glo "made") rfl), F⟩
  d_plus := by
    obtain ⟨fd, F⟩ := c.t.d.def_ 2 (d := dd "plus" 12) rfl
    exact ⟨_, fd, He.glo_ok X G (c.t.d.fact 2 (f := .glo "plus") rfl), F⟩
  d_minus := by
    obtain ⟨fd, F⟩ := c.t.d.def_ 3 (d := dd "minus" 13) rfl
    exact ⟨_, fd, He.glo_ok X G (c.t.d.fact 3 (f := .glo "minus") rfl), F⟩
  d_times := by
    obtain ⟨fd, F⟩ := c.t.d.def_ 4 (d := dd "times" 14) rfl
    exact ⟨_, fd, He.glo_ok X G (c.t.d.fact 4 (f := .glo "times") rfl), F⟩
  d_over_by := by
    obtain ⟨fd, F⟩ := c.t.d.def_ 5 (d := dd "over_by" 15) rfl
    exact ⟨_, fd, He.glo_ok X G (c.t.d.fact 5 (f := .glo "over_by") rfl), F⟩
  d_is_less := by
    obtain ⟨fd, F⟩ := c.t.d.def_ 6 (d := dd "is_less" 16) rfl
    exact ⟨_, fd, He.glo_ok X G (c.t.d.fact 6 (f := .glo "is_less") rfl), F⟩
  d_is_integer := by
    obtain ⟨fd, F⟩ := c.t.d.def_ 7 (d := dd "is_integer" 5) rfl
    exact ⟨_, fd, He.glo_ok X G (c.t.d.fact 7 (f := .glo "is_integer") rfl), F⟩
  d_is_share := by
    obtain ⟨fd, F⟩ := c.t.d.def_ 8 (d := dd "is_share" 17) rfl
    exact ⟨_, fd, He.glo_ok X G (c.t.d.fact 8 (f := .glo "is_share") rfl), F⟩
  d_sum_of := by
    obtain ⟨fd, F⟩ := c.t.d.def_ 9 (d := dd "sum_of" 18) rfl
    exact ⟨_, fd, He.glo_ok X G (c.t.d.fact 9 (f := .glo "sum_of") rfl), F⟩
  d_solved := by
    obtain ⟨fd, F⟩ := c.t.d.def_ 10 (d := dd "solved" 19) rfl
    exact ⟨_, fd, He.glo_ok X G (c.t.d.fact 10 (f := .glo "solved") rfl), F⟩
  d_is_count := by
    obtain ⟨fd, F⟩ := c.t.d.def_ 11 (d := dd "is_count" 6) rfl
    exact ⟨_, fd, He.glo_ok X G (c.t.d.fact 11 (f := .glo "is_count") rfl), F⟩
  d_is_few := by
    obtain ⟨fd, F⟩ := c.t.d.def_ 12 (d := dd "is_few" 22) rfl
    exact ⟨_, fd, He.glo_ok X G (c.t.d.fact 12 (f := .glo "is_few") rfl), F⟩
  d_is_tuple_of := by
    obtain ⟨fd, F⟩ := c.t.d.def_ 13 (d := dd "is_tuple_of" 7) rfl
    exact ⟨_, fd, He.glo_ok X G (c.t.d.fact 13 (f := .glo "is_tuple_of") rfl), F⟩
  d_is_counts := by
    obtain ⟨fd, F⟩ := c.t.d.def_ 14 (d := dd "is_counts" 23) rfl
    exact ⟨_, fd, He.glo_ok X G (c.t.d.fact 14 (f := .glo "is_counts") rfl), F⟩
  d_inner_goings := by
    obtain ⟨fd, F⟩ := c.t.d.def_ 15 (d := dd "inner_goings" 24) rfl
    exact ⟨_, fd, He.glo_ok X G (c.t.d.fact 15 (f := .glo "inner_goings") rfl), F⟩
  d_is_going_form := by
    obtain ⟨fd, F⟩ := c.t.d.def_ 16 (d := dd "is_going_form" 25) rfl
    exact ⟨_, fd, He.glo_ok X G (c.t.d.fact 16 (f := .glo "is_going_form") rfl), F⟩
  d_law_bag := by
    obtain ⟨fd, F⟩ := c.t.d.def_ 17 (d := dd "_law_bag" 27) rfl
    exact ⟨_, fd, He.glo_ok X G (c.t.d.fact 17 (f := .glo "_law_bag") rfl), F⟩
  d_law_take := by
    obtain ⟨fd, F⟩ := c.t.d.def_ 18 (d := dd "_law_take" 28) rfl
    exact ⟨_, fd, He.glo_ok X G (c.t.d.fact 18 (f := .glo "_law_take") rfl), F⟩
  d_law_some := by
    obtain ⟨fd, F⟩ := c.t.d.def_ 19 (d := dd "_law_some" 29) rfl
    exact ⟨_, fd, He.glo_ok X G (c.t.d.fact 19 (f := .glo "_law_some") rfl), F⟩
  d_law_alike := by
    obtain ⟨fd, F⟩ := c.t.d.def_ 20 (d := dd "_law_alike" 30) rfl
    exact ⟨_, fd, He.glo_ok X G (c.t.d.fact 20 (f := .glo "_law_alike") rfl), F⟩
  d_law_is_int := by
    obtain ⟨fd, F⟩ := c.t.d.def_ 21 (d := dd "_law_is_int" 31) rfl
    exact ⟨_, fd, He.glo_ok X G (c.t.d.fact 21 (f := .glo "_law_is_int") rfl), F⟩
  d_law_gcd := by
    obtain ⟨fd, F⟩ := c.t.d.def_ 22 (d := dd "_law_gcd" 32) rfl
    exact ⟨_, fd, He.glo_ok X G (c.t.d.fact 22 (f := .glo "_law_gcd") rfl), F⟩
  d_law_fr := by
    obtain ⟨fd, F⟩ := c.t.d.def_ 23 (d := dd "_law_fr" 33) rfl
    exact ⟨_, fd, He.glo_ok X G (c.t.d.fact 23 (f := .glo "_law_fr") rfl), F⟩
  d_law_add := by
    obtain ⟨fd, F⟩ := c.t.d.def_ 24 (d := dd "_law_add" 34) rfl
    exact ⟨_, fd, He.glo_ok X G (c.t.d.fact 24 (f := .glo "_law_add") rfl), F⟩
  d_law_less := by
    obtain ⟨fd, F⟩ := c.t.d.def_ 25 (d := dd "_law_less" 35) rfl
    exact ⟨_, fd, He.glo_ok X G (c.t.d.fact 25 (f := .glo "_law_less") rfl), F⟩
  d_law_mul := by
    obtain ⟨fd, F⟩ := c.t.d.def_ 26 (d := dd "_law_mul" 36) rfl
    exact ⟨_, fd, He.glo_ok X G (c.t.d.fact 26 (f := .glo "_law_mul") rfl), F⟩
  d_law_small := by
    obtain ⟨fd, F⟩ := c.t.d.def_ 27 (d := dd "_law_small" 37) rfl
    exact ⟨_, fd, He.glo_ok X G (c.t.d.fact 27 (f := .glo "_law_small") rfl), F⟩
  d_law_heard := by
    obtain ⟨fd, F⟩ := c.t.d.def_ 28 (d := dd "_law_heard" 38) rfl
    exact ⟨_, fd, He.glo_ok X G (c.t.d.fact 28 (f := .glo "_law_heard") rfl), F⟩
  d_law_solved := by
    obtain ⟨fd, F⟩ := c.t.d.def_ 29 (d := dd "_law_solved" 39) rfl
    exact ⟨_, fd, He.glo_ok X G (c.t.d.fact 29 (f := .glo "_law_solved") rfl), F⟩
  d_law_is_going := by
    obtain ⟨fd, F⟩ := c.t.d.def_ 30 (d := dd "_law_is_going" 40) rfl
    exact ⟨_, fd, He.glo_ok X G (c.t.d.fact 30 (f := .glo "_law_is_going") rfl), F⟩
  d_law_going := by
    obtain ⟨fd, F⟩ := c.t.d.def_ 31 (d := dd "_law_going" 41) rfl
    exact ⟨_, fd, He.glo_ok X G (c.t.d.fact 31 (f := .glo "_law_going") rfl), F⟩
  d_law := by
    obtain ⟨fd, F⟩ := c.t.d.def_ 32 (d := dd "law" 42) rfl
    exact ⟨_, fd, He.glo_ok X G (c.t.d.fact 32 (f := .glo "law") rfl), F⟩
  c_MOST_DEPTH := by
    obtain ⟨t, e⟩ := He.int_ok X G (c.t.d.fact 45 (f := .int "MOST_DEPTH" 12) rfl)
    exact ⟨_, .int 12, e, ⟨t, rfl⟩, fun _ _ => rfl⟩
  c_NIL := ⟨_, .ref (He.ga K "NIL"), He.glo_ok X G (c.t.d.fact 46 (f := .glo "NIL") rfl), rfl, fun ι H => ⟨_, _, rfl, He.tupB_ok c.more H, ⟨_, _, rfl, rfl, ⟨_, _, rfl, rfl, rfl⟩⟩⟩⟩
  x_Nothing := by
    obtain ⟨e1, e2, e3, e4⟩ := He.exc_ok (c.t.d.fact 48 (f := .exc "Nothing") rfl)
    exact ⟨_, He.glo_ok X G (c.t.d.fact 47 (f := .glo "Nothing") rfl), e1, e2, e3, e4, He.exm_ok (c.t.d.fact 49 (f := .exm "Nothing" "Nothing" true) rfl)⟩
end K13
namespace K13
open PySem PySem.Spec PyProof.Rows L2 Mp
def loose : List Str := (["_wall", "TreeError", "Nothing", "is_integer", "is_count", "is_tuple_of", "divisor_of", "NIL", "made", "plus", "minus", "times", "over_by", "is_less", "is_share", "sum_of", "solved", "MOST_DEPTH", "is_few", "is_counts", "inner_goings", "is_going_form", "_law_bag", "_law_take", "_law_some", "_law_alike", "_law_is_int", "_law_gcd", "_law_fr", "_law_add"] : List Str) ++ (["_law_less", "_law_mul", "_law_small", "_law_heard", "_law_solved", "_law_is_going", "_law_going"] : List Str)
theorem run (w : World) : HandSHeadRun.RunEq R (PySem.W.view R.prog [42]) hk ob 4000 loose w := by
  intro os
  kernel_rfl
end K13
open PySem PySem.W PySem.Calls PyProof.Rows Mp
theorem PySem.Challenge.cw_casetrees_k13_whole_shares_solved_and_go_holds : PySem.Challenge.rw_casetrees_k13_whole_shares_solved_and_go.Holds := by
  w_on; o_law
  refine HandSHeadRun.head_any (r := OpenLaw.row PySem.Challenge.rw_casetrees_k13_whole_shares_solved_and_go) (q := view (OpenLaw.row PySem.Challenge.rw_casetrees_k13_whole_shares_solved_and_go).prog [42]) (H := K13.hk) (ob := K13.ob) (M := 4000) (loose := K13.loose) (d := HandSHeadRun.topDef (OpenLaw.row PySem.Challenge.rw_casetrees_k13_whole_shares_solved_and_go).prog 42) (kwd := []) K13.ob_eq
    (by kernel_rfl) (fun s => by kernel_rfl) K13.run (by kernel_rfl) (by kernel_rfl) (by kernel_rfl) (by rfl) (by first | assumption | decide +kernel) (by decide +kernel) ⟨rfl, rfl, rfl, rfl, rfl, by decide +kernel⟩ ?hw ?hc
  case hw => w_witness2
  case hc =>
    refine Att.attach_callB (n := 63) rfl (by kernel_rfl) fun w s₀ s₁ mg mb fa o pm cd doc a vs ns G Y ho hd hcd hmg0 hobj hints hlen hbits hg => ?_
    obtain ⟨K, KX, c⟩ := Y
    have hmg : mg ("law" : PySem.Str) = some (.ref fa) := by
      have e : (HandSHeadRun.topDef (OpenLaw.row PySem.Challenge.rw_casetrees_k13_whole_shares_solved_and_go).prog 42).name = ("law" : PySem.Str) := by kernel_rfl
      rw [← e]
      exact hmg0
    have T := K13.hd_of KX G.T.g c
    obtain ⟨fdl, Fl⟩ := c.t.d.def_ 32 (d := K13.dd "law" 42) rfl
    have el := hmg.symm.trans (He.glo_ok KX G.T.g (c.t.d.fact 32 (f := .glo "law") rfl))
    cases el
    obtain ⟨M', res⟩ := K13.law_true ns
    have hcT := c.hd ("law", none) (by simp [K13.tf])
    have code : fdl.code = .ref (He.cT K ("law", none)).1 := by
      obtain ⟨oc, od, dV, kV, doc, pm, an, cdv, ct, osl, rfl, lk, hcd, hD, hK⟩ := Fl.ex
      obtain ⟨c0, e0⟩ := He.codeIn_ref hcd
      have := He.codeOf_eq (p := ("law", none)) lk e0
      show cdv = .ref (He.codeOf K ("law", none))
      rw [this]
      exact e0
    refine Mp.law_end (x := "law") (k := 100) (Tb := [((He.cT K ("law", none)).2, "law.<locals>.<lambda>")]) (cs := [He.cT K ("law", none)]) KX G.T.g G.T.b G.T.builtins G.T.nolimit hg (fun p hp => ?_) (fun p hp => ?_) (fun p hp => ?_) G.T.bmain hobj hints (Nat.le_trans hlen (by decide)) ⟨rfl, by decide, by decide⟩ (fun q hq => ?_) hmg (fun base hK hns TB => ?_) res
    · obtain rfl := List.mem_singleton.mp hp
      exact c.empty ("law", none) (by simp [K13.tf])
    · obtain rfl := List.mem_singleton.mp hp
      exact c.out ("law", none) (by simp [K13.tf])
    · obtain rfl := List.mem_singleton.mp hp
      exact hcT
    · obtain rfl := List.mem_singleton.mp hq
      simp
    · exact (K13.ok_law T hmg Fl code (TB _ (by simp))).mono (by decide)
