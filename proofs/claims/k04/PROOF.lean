import PyProof.Rows.All
import Wide.All
import OpenK.AllK
import Wide.FinOn
import HandS.Base
import HandS.Call
import HandS.List
import HandS.Comp
import HandS.Exc
import HandS.Dict
import HandS.Iter
import HandS.Flow
import HandS.CallSlots
import HandS.Walk
import KE.GoesNew
import KE.GoesEnum
import KE.GoesMore
import KE.DataEq
import HandS.Wide
import HandS.TupAny
import HandS.TupMul
import HandS.Text
import HandS.More
import HandS.TupSets
import HandS.Style
import HandS.IsInst
import HandS.SortInts
import HandS.WordsDict
import HandS.TupLen
import HandS.Conv
import HandS.WordsExc
import HandS.Defaults
import HandS.Codes
import HandS.Ends
import HandS.HeadEnd
import HandS.HeadHook1
import HandS.HeadHook2
import KE.KStateDown
import HandS.Head0
import HandS.Head1
import HandS.Head2
import PySem.Challenge.RW_eachturnsall_k04_main_linear_tables
set_option Elab.async false
set_option linter.all false
set_option maxRecDepth 100000
set_option maxHeartbeats 2000000
/-! VS 1: data as trees, how they lie in the abstract heap, slots of a frame, transitions. -/
namespace VS
open PySem PySem.Spec PyProof.Rows L2

/-- data, the heap left out -/
inductive D where
  | non | bl (b : Bool) | int (i : Int) | str (x : Str)
  | tup (l : List D) | lst (l : List D) | rng (lo hi : Int) | dic (tk : Bool) (l : List (D × D))
  | scr (l : List Int) | fn (x : Str)

def Sub (F H : Hp) : Prop := ∀ a o, F a = some o → H a = some o
theorem Sub.refl {F : Hp} : Sub F F := fun _ _ h => h
theorem Sub.trans {F G H : Hp} (a : Sub F G) (b : Sub G H) : Sub F H := fun x o h => b x o (a x o h)
theorem sub_rd {F H : Hp} (s : Sub F H) {a : Addr} {u : HO} (r : Rd F a u) : Rd H a u := r.elim (fun h => .inl (s _ _ h)) fun ⟨o, h⟩ => .inr ⟨o, s _ _ h⟩
theorem sub_sqT {K : PySem.W.Frag} {F H : Hp} (s : Sub F H) {a : Addr} {xs : List V} (r : SqT K F a xs) : SqT K H a xs := r.elim (fun h => .inl (sub_rd s h)) .inr
theorem sub_sqL {K : PySem.W.Frag} {F H : Hp} (s : Sub F H) {a : Addr} {xs : List V} (r : SqL K F a xs) : SqL K H a xs := r.elim (fun h => .inl (sub_rd s h)) .inr

def kD : Key → D
  | .inl i => .int i
  | .inr x => .str x
def kT (l : List Key) : D := .tup (l.map kD)

/-- what a context of a run knows: the written part, the module's names -/
structure Kn where
  K : PySem.W.Frag
  mg : Str → Option Value

mutual
def RepV (k : Kn) (F : Hp) : D → V → Prop
  | .non, x => x = .non
  | .bl b, x => x = .bl b
  | .int i, x => x = .int i
  | .str z, x => x = .str z
  | .tup l, x => ∃ a xs, x = .ref a ∧ SqT k.K F a xs ∧ RepL k F l xs
  | .lst l, x => ∃ a xs, x = .ref a ∧ F a = some (.lst xs) ∧ RepL k F l xs
  | .rng lo hi, x => ∃ a, x = .ref a ∧ F a = some (.rng lo hi)
  | .dic false l, x => ∃ a kvs, x = .ref a ∧ F a = some (.dK kvs) ∧ RepK k F l kvs
  | .dic true l, x => ∃ a kvs, x = .ref a ∧ F a = some (.dT kvs) ∧ RepT k F l kvs
  | .scr l, x => ∃ a, x = .ref a ∧ SqL k.K F a (l.map V.int)
  | .fn z, x => ∃ a, x = .ref a ∧ k.mg z = some (.ref a)
def RepL (k : Kn) (F : Hp) : List D → List V → Prop
  | [], xs => xs = []
  | d :: l, xs => ∃ x r, xs = x :: r ∧ RepV k F d x ∧ RepL k F l r
def RepK (k : Kn) (F : Hp) : List (D × D) → List (Key × V) → Prop
  | [], xs => xs = []
  | (q, d) :: l, xs => ∃ w x r, xs = (w, x) :: r ∧ q = kD w ∧ RepV k F d x ∧ RepK k F l r
def RepT (k : Kn) (F : Hp) : List (D × D) → List (List Key × V) → Prop
  | [], xs => xs = []
  | (q, d) :: l, xs => ∃ w x r, xs = (w, x) :: r ∧ q = kT w ∧ RepV k F d x ∧ RepT k F l r
end

mutual
theorem RepV.mono {k : Kn} {F G : Hp} (s : Sub F G) : ∀ {d : D} {x : V}, RepV k F d x → RepV k G d x
  | .non, _, h => h
  | .bl _, _, h => h
  | .int _, _, h => h
  | .str _, _, h => h
  | .tup l, x, h => by
    unfold RepV at h ⊢
    obtain ⟨a, xs, h1, h2, h3⟩ := h
    exact ⟨a, xs, h1, sub_sqT s h2, RepL.mono s h3⟩
  | .lst l, x, h => by
    unfold RepV at h ⊢
    obtain ⟨a, xs, h1, h2, h3⟩ := h
    exact ⟨a, xs, h1, s _ _ h2, RepL.mono s h3⟩
  | .rng _ _, x, h => by
    unfold RepV at h ⊢
    obtain ⟨a, h1, h2⟩ := h
    exact ⟨a, h1, s _ _ h2⟩
  | .dic false l, x, h => by
    unfold RepV at h ⊢
    obtain ⟨a, xs, h1, h2, h3⟩ := h
    exact ⟨a, xs, h1, s _ _ h2, RepK.mono s h3⟩
  | .dic true l, x, h => by
    unfold RepV at h ⊢
    obtain ⟨a, xs, h1, h2, h3⟩ := h
    exact ⟨a, xs, h1, s _ _ h2, RepT.mono s h3⟩
  | .scr l, x, h => by
    unfold RepV at h ⊢
    obtain ⟨a, h1, h2⟩ := h
    exact ⟨a, h1, sub_sqL s h2⟩
  | .fn _, _, h => h
theorem RepL.mono {k : Kn} {F G : Hp} (s : Sub F G) : ∀ {l : List D} {xs : List V}, RepL k F l xs → RepL k G l xs
  | [], _, h => h
  | d :: l, xs, h => by
    unfold RepL at h ⊢
    obtain ⟨x, r, h1, h2, h3⟩ := h
    exact ⟨x, r, h1, RepV.mono s h2, RepL.mono s h3⟩
theorem RepK.mono {k : Kn} {F G : Hp} (s : Sub F G) : ∀ {l : List (D × D)} {xs : List (Key × V)}, RepK k F l xs → RepK k G l xs
  | [], _, h => h
  | (q, d) :: l, xs, h => by
    unfold RepK at h ⊢
    obtain ⟨w, x, r, h1, h2, h3, h4⟩ := h
    exact ⟨w, x, r, h1, h2, RepV.mono s h3, RepK.mono s h4⟩
theorem RepT.mono {k : Kn} {F G : Hp} (s : Sub F G) : ∀ {l : List (D × D)} {xs : List (List Key × V)}, RepT k F l xs → RepT k G l xs
  | [], _, h => h
  | (q, d) :: l, xs, h => by
    unfold RepT at h ⊢
    obtain ⟨w, x, r, h1, h2, h3, h4⟩ := h
    exact ⟨w, x, r, h1, h2, RepV.mono s h3, RepT.mono s h4⟩
end

theorem RepL.length {k : Kn} {F : Hp} : ∀ {l : List D} {xs : List V}, RepL k F l xs → xs.length = l.length
  | [], _, h => by
    unfold RepL at h
    rw [h]
    rfl
  | d :: l, xs, h => by
    unfold RepL at h
    obtain ⟨x, r, rfl, _, h3⟩ := h
    rw [List.length_cons, List.length_cons, RepL.length h3]
theorem RepL.nil {k : Kn} {F : Hp} : RepL k F [] [] := by
  unfold RepL
  rfl
theorem RepL.cons {k : Kn} {F : Hp} {d : D} {l : List D} {x : V} {r : List V} (h : RepV k F d x) (t : RepL k F l r) : RepL k F (d :: l) (x :: r) := by
  unfold RepL
  exact ⟨x, r, rfl, h, t⟩
theorem RepL.get {k : Kn} {F : Hp} : ∀ {l : List D} {xs : List V} {i : Nat} {d : D}, RepL k F l xs → l[i]? = some d → ∃ x, xs[i]? = some x ∧ RepV k F d x
  | [], _, i, d, _, h => by simp at h
  | e :: l, xs, 0, d, hr, h => by
    unfold RepL at hr
    obtain ⟨x, r, rfl, h2, _⟩ := hr
    simp at h
    subst h
    exact ⟨x, rfl, h2⟩
  | e :: l, xs, i + 1, d, hr, h => by
    unfold RepL at hr
    obtain ⟨x, r, rfl, _, h3⟩ := hr
    obtain ⟨y, h4, h5⟩ := RepL.get (i := i) h3 (by simpa using h)
    exact ⟨y, by simpa using h4, h5⟩
theorem RepL.append {k : Kn} {F : Hp} : ∀ {l m : List D} {xs ys : List V}, RepL k F l xs → RepL k F m ys → RepL k F (l ++ m) (xs ++ ys)
  | [], m, xs, ys, h, h' => by
    unfold RepL at h
    rw [h]
    exact h'
  | d :: l, m, xs, ys, h, h' => by
    unfold RepL at h
    obtain ⟨x, r, rfl, h2, h3⟩ := h
    exact RepL.cons h2 (RepL.append h3 h')
theorem RepL.take {k : Kn} {F : Hp} : ∀ {l : List D} {xs : List V} (n : Nat), RepL k F l xs → RepL k F (l.take n) (xs.take n)
  | l, xs, 0, _ => by
    rw [List.take_zero, List.take_zero]
    exact RepL.nil
  | [], xs, n + 1, h => by
    unfold RepL at h
    rw [h]
    exact RepL.nil
  | d :: l, xs, n + 1, h => by
    unfold RepL at h
    obtain ⟨x, r, rfl, h2, h3⟩ := h
    exact RepL.cons h2 (RepL.take n h3)
theorem RepL.drop {k : Kn} {F : Hp} : ∀ {l : List D} {xs : List V} (n : Nat), RepL k F l xs → RepL k F (l.drop n) (xs.drop n)
  | l, xs, 0, h => by
    rw [List.drop_zero, List.drop_zero]
    exact h
  | [], xs, n + 1, h => by
    unfold RepL at h
    rw [h]
    exact RepL.nil
  | d :: l, xs, n + 1, h => by
    unfold RepL at h
    obtain ⟨x, r, rfl, h2, h3⟩ := h
    exact RepL.drop n h3
theorem RepL.set {k : Kn} {F : Hp} {d : D} {x : V} (hd : RepV k F d x) : ∀ {l : List D} {xs : List V} (n : Nat), RepL k F l xs → RepL k F (l.set n d) (xs.set n x)
  | [], xs, n, h => by
    unfold RepL at h
    rw [h]
    exact RepL.nil
  | e :: l, xs, 0, h => by
    unfold RepL at h
    obtain ⟨y, r, rfl, h2, h3⟩ := h
    exact RepL.cons hd h3
  | e :: l, xs, n + 1, h => by
    unfold RepL at h
    obtain ⟨y, r, rfl, h2, h3⟩ := h
    exact RepL.cons h2 (RepL.set hd n h3)
theorem RepL.eraseIdx {k : Kn} {F : Hp} : ∀ {l : List D} {xs : List V} (n : Nat), RepL k F l xs → RepL k F (l.eraseIdx n) (xs.eraseIdx n)
  | [], xs, n, h => by
    unfold RepL at h
    rw [h]
    exact RepL.nil
  | e :: l, xs, 0, h => by
    unfold RepL at h
    obtain ⟨y, r, rfl, h2, h3⟩ := h
    exact h3
  | e :: l, xs, n + 1, h => by
    unfold RepL at h
    obtain ⟨y, r, rfl, h2, h3⟩ := h
    exact RepL.cons h2 (RepL.eraseIdx n h3)

/-! ### as it is looked at: a list or a dict by the heap as it stands, what lies within by F -/
def RepP (k : Kn) (F H : Hp) (d : D) (x : V) : Prop := match d with
  | .lst l => ∃ a xs, x = .ref a ∧ H a = some (.lst xs) ∧ RepL k F l xs
  | .dic false l => ∃ a kvs, x = .ref a ∧ H a = some (.dK kvs) ∧ RepK k F l kvs
  | .dic true l => ∃ a kvs, x = .ref a ∧ H a = some (.dT kvs) ∧ RepT k F l kvs
  | d => RepV k F d x
theorem RepV.peek {k : Kn} {F H : Hp} (s : Sub F H) {d : D} {x : V} (h : RepV k F d x) : RepP k F H d x := by
  cases d with
  | lst l =>
    unfold RepV at h
    obtain ⟨a, xs, h1, h2, h3⟩ := h
    exact ⟨a, xs, h1, s _ _ h2, h3⟩
  | dic b l =>
    cases b with
    | false =>
      unfold RepV at h
      obtain ⟨a, xs, h1, h2, h3⟩ := h
      exact ⟨a, xs, h1, s _ _ h2, h3⟩
    | true =>
      unfold RepV at h
      obtain ⟨a, xs, h1, h2, h3⟩ := h
      exact ⟨a, xs, h1, s _ _ h2, h3⟩
  | _ => exact h
/-- a thing that may change -/
def D.mut : D → Bool
  | .lst _ => true
  | .dic _ _ => true
  | _ => false
/-- what may change stands at an address of its own -/
theorem RepP.at {k : Kn} {F H : Hp} {d : D} {x : V} (h : RepP k F H d x) (m : d.mut = true) : ∃ a o, x = .ref a ∧ H a = some o := by
  cases d with
  | lst l => obtain ⟨a, xs, h1, h2, _⟩ := h; exact ⟨a, _, h1, h2⟩
  | dic b l =>
    cases b with
    | false => obtain ⟨a, xs, h1, h2, _⟩ := h; exact ⟨a, _, h1, h2⟩
    | true => obtain ⟨a, xs, h1, h2, _⟩ := h; exact ⟨a, _, h1, h2⟩
  | _ => cases m
theorem RepP.mono {k : Kn} {F G H J : Hp} (s : Sub F G) {d : D} {x : V} (h : RepP k F H d x) (e : d.mut = true → ∀ a o, x = .ref a → H a = some o → J a = some o) : RepP k G J d x := by
  cases d with
  | lst l => obtain ⟨a, xs, h1, h2, h3⟩ := h; exact ⟨a, xs, h1, e rfl a _ h1 h2, h3.mono s⟩
  | dic b l =>
    cases b with
    | false => obtain ⟨a, xs, h1, h2, h3⟩ := h; exact ⟨a, xs, h1, e rfl a _ h1 h2, h3.mono s⟩
    | true => obtain ⟨a, xs, h1, h2, h3⟩ := h; exact ⟨a, xs, h1, e rfl a _ h1 h2, h3.mono s⟩
  | _ => exact RepV.mono s h
/-- looked at, and its object is in F -/
theorem RepP.frozen {k : Kn} {F H : Hp} {d : D} {x : V} (h : RepP k F H d x) (e : d.mut = true → ∀ a o, x = .ref a → H a = some o → F a = some o) : RepV k F d x := by
  cases d with
  | lst l =>
    obtain ⟨a, xs, h1, h2, h3⟩ := h
    unfold RepV
    exact ⟨a, xs, h1, e rfl a _ h1 h2, h3⟩
  | dic b l =>
    cases b with
    | false =>
      obtain ⟨a, xs, h1, h2, h3⟩ := h
      unfold RepV
      exact ⟨a, xs, h1, e rfl a _ h1 h2, h3⟩
    | true =>
      obtain ⟨a, xs, h1, h2, h3⟩ := h
      unfold RepV
      exact ⟨a, xs, h1, e rfl a _ h1 h2, h3⟩
  | _ => exact h

/-! ### the slots of a frame -/
/-- nothing known | frozen | owned | lent by the caller | lent and then frozen | locked (looked at alone) -/
inductive Sl where
  | un | fz (d : D) | ow (d : D) | le (d : D) | lz (d : D) | lk (d : D)
abbrev Env := List Sl
/-- owned: may be changed through this slot -/
def Sl.own : Sl → Option D
  | .ow d => some d
  | .le d => some d
  | _ => none
/-- the slot of a caller's thing: it keeps its value -/
def Sl.fixd : Sl → Bool
  | .le _ => true
  | .lz _ => true
  | .lk _ => true
  | _ => false
/-- a thing that stands at an address of its own, not in F -/
def Sl.con : Sl → Option D
  | .ow d => some d
  | .le d => some d
  | .lk d => some d
  | _ => none
/-- what a caller's thing may become -/
def Sl.follows : Sl → Sl → Prop
  | .le _, s => (∃ d, s = .le d) ∨ ∃ d, s = .lz d
  | .lz d, s => s = .lz d
  | .lk d, s => s = .lk d
  | _, _ => True
theorem Sl.follows_refl (s : Sl) : s.follows s := by
  cases s with
  | le d => exact .inl ⟨d, rfl⟩
  | lz d => rfl
  | lk d => rfl
  | _ => trivial
theorem Sl.follows_trans {a b c : Sl} (ha : a.fixd = true) (h : a.follows b) (h' : b.follows c) : a.follows c := by
  cases a with
  | le d =>
    rcases h with ⟨e, rfl⟩ | ⟨e, rfl⟩
    · exact h'
    · exact .inr ⟨e, h'⟩
  | lz d =>
    cases h
    exact h'
  | lk d =>
    cases h
    exact h'
  | _ => cases ha
theorem Sl.follows_fixd {a b : Sl} (ha : a.fixd = true) (h : a.follows b) : b.fixd = true := by
  cases a with
  | le d => rcases h with ⟨e, rfl⟩ | ⟨e, rfl⟩ <;> rfl
  | lz d =>
    cases h
    rfl
  | lk d =>
    cases h
    rfl
  | _ => cases ha

/-- address a is owned through some slot -/
def Ow (σ : L2.St) (ρ : Env) (a : Addr) : Prop := ∃ (i : Nat) (s : Sl) (d : D), ρ[i]? = some s ∧ s.own = some d ∧ σ[i]? = some (some (.ref a))
/-- .. or looked at through a locked one -/
def Hd (σ : L2.St) (ρ : Env) (a : Addr) : Prop := ∃ (i : Nat) (s : Sl) (d : D), ρ[i]? = some s ∧ s.con = some d ∧ σ[i]? = some (some (.ref a))
theorem Ow.hd {σ : L2.St} {ρ : Env} {a : Addr} (h : Ow σ ρ a) : Hd σ ρ a := by
  obtain ⟨i, s, d, h1, h2, h3⟩ := h
  refine ⟨i, s, d, h1, ?_, h3⟩
  cases s <;> first | exact h2 | cases h2
def SlOk (k : Kn) (F H : Hp) (v : Option (Option V)) : Sl → Prop
  | .un => True
  | .fz d => ∃ x, v = some (some x) ∧ RepV k F d x
  | .lz d => ∃ x, v = some (some x) ∧ RepV k F d x
  | .ow d => ∃ a, v = some (some (.ref a)) ∧ F a = none ∧ d.mut = true ∧ RepP k F H d (.ref a)
  | .le d => ∃ a, v = some (some (.ref a)) ∧ F a = none ∧ d.mut = true ∧ RepP k F H d (.ref a)
  | .lk d => ∃ a, v = some (some (.ref a)) ∧ d.mut = true ∧ RepP k F H d (.ref a)
structure Rp (k : Kn) (ρ : Env) (F : Hp) (σ : L2.St) (H : Hp) : Prop where
  len : ρ.length = σ.length
  sub : Sub F H
  slot : ∀ (i : Nat) (s : Sl), ρ[i]? = some s → SlOk k F H (σ[i]?) s
  disj : ∀ (i j : Nat) (s t : Sl) (d e : D) (a : Addr), ρ[i]? = some s → ρ[j]? = some t → s.own = some d → t.own = some e → σ[i]? = some (some (.ref a)) → σ[j]? = some (some (.ref a)) → i = j
  lkd : ∀ (i j : Nat) (t : Sl) (d e : D) (a : Addr), ρ[i]? = some (.lk d) → ρ[j]? = some t → t.own = some e → σ[i]? = some (some (.ref a)) → ¬ σ[j]? = some (some (.ref a))
/-- from one state to a later one -/
structure Tr (k : Kn) (σ : L2.St) (ρ : Env) (F H : Hp) (σ' : L2.St) (ρ' : Env) (F' H' : Hp) : Prop where
  rp : Rp k ρ' F' σ' H'
  keep : ∀ a o, H a = some o → ¬ Ow σ ρ a → H' a = some o ∧ F' a = F a
  dom : ∀ a, H' a = none → H a = none
  own : ∀ a, Ow σ' ρ' a → Ow σ ρ a ∨ H a = none
  hld : ∀ a, Hd σ' ρ' a → Hd σ ρ a ∨ H a = none
  fix : ∀ (i : Nat) (s : Sl), ρ[i]? = some s → s.fixd = true → σ'[i]? = σ[i]? ∧ ∃ s', ρ'[i]? = some s' ∧ s.follows s'
  lks : ∀ (i : Nat) (d : D), ρ'[i]? = some (.lk d) → ρ[i]? = some (.lk d) ∧ σ'[i]? = σ[i]?
section
variable {k : Kn} {σ σ' σ2 : L2.St} {ρ ρ' ρ2 : Env} {F F' F2 H H' H2 : Hp}
theorem Rp.notF (r : Rp k ρ F σ H) {a : Addr} (h : Ow σ ρ a) : F a = none := by
  obtain ⟨i, s, d, h1, h2, h3⟩ := h
  have q := r.slot i s h1
  cases s <;> simp only [Sl.own] at h2 <;> try cases h2
  all_goals
    obtain ⟨b, e, f, _⟩ := q
    rw [h3] at e
    cases e
    exact f
theorem Tr.sub (t : Tr k σ ρ F H σ' ρ' F' H') (r : Rp k ρ F σ H) : Sub F F' := fun a o h => by
  by_cases q : Ow σ ρ a
  · rw [r.notF q] at h
    cases h
  · rw [(t.keep a o (r.sub a o h) q).2]
    exact h
theorem Tr.refl (r : Rp k ρ F σ H) : Tr k σ ρ F H σ ρ F H :=
  ⟨r, fun _ _ h _ => ⟨h, rfl⟩, fun _ h => h, fun _ h => .inl h, fun _ h => .inl h, fun i s h _ => ⟨rfl, s, h, s.follows_refl⟩, fun _ _ h => ⟨h, rfl⟩⟩
theorem Tr.trans (t : Tr k σ ρ F H σ' ρ' F' H') (u : Tr k σ' ρ' F' H' σ2 ρ2 F2 H2) : Tr k σ ρ F H σ2 ρ2 F2 H2 where
  rp := u.rp
  keep := fun a o h q => by
    obtain ⟨h1, h2⟩ := t.keep a o h q
    have n : ¬ Ow σ' ρ' a := fun z => by
      rcases t.own a z with z | z
      · exact q z
      · rw [z] at h
        cases h
    obtain ⟨h3, h4⟩ := u.keep a o h1 n
    exact ⟨h3, h4.trans h2⟩
  dom := fun a h => t.dom a (u.dom a h)
  own := fun a h => by
    rcases u.own a h with z | z
    · exact t.own a z
    · exact .inr (t.dom a z)
  hld := fun a h => by
    rcases u.hld a h with z | z
    · exact t.hld a z
    · exact .inr (t.dom a z)
  fix := fun i s h f => by
    obtain ⟨h1, s', h2, h3⟩ := t.fix i s h f
    obtain ⟨h4, s2, h5, h6⟩ := u.fix i s' h2 (Sl.follows_fixd f h3)
    exact ⟨h4.trans h1, s2, h5, Sl.follows_trans f h3 h6⟩
  lks := fun i d h => by
    obtain ⟨h1, h2⟩ := u.lks i d h
    obtain ⟨h3, h4⟩ := t.lks i d h1
    exact ⟨h3, h2.trans h4⟩

/-! ### results -/
inductive Rr where
  | fz (d : D) | fr (d : D) | own (i : Nat)
/-- an expression's value x, the run began with the heap H₀ -/
def RR (k : Kn) (σ : L2.St) (H0 : Hp) (ρ : Env) (F H : Hp) (r : Rr) (x : V) : Prop := match r with
  | .fz d => RepV k F d x
  | .fr d => ∃ a, x = .ref a ∧ H0 a = none ∧ ¬ Hd σ ρ a ∧ F a = none ∧ d.mut = true ∧ RepP k F H d (.ref a)
  | .own i => σ[i]? = some (some x) ∧ ∃ s, ρ[i]? = some s ∧ (s.own.isSome = true ∨ ∃ d, s = .lk d)
/-- how a computation ends -/
inductive Out (α : Type) where
  | ok (a : α) (ρ : Env) | exc (c : Str) (v : Option D) (ρ : Env) | bad
def Out.bind {α β : Type} (m : Out α) (f : α → Env → Out β) : Out β := match m with
  | .ok a ρ => f a ρ
  | .exc c v ρ => .exc c v ρ
  | .bad => .bad
end
end VS

set_option Elab.async false
set_option linter.all false
set_option maxRecDepth 100000
set_option maxHeartbeats 2000000
/-! VS 2: programs without places, and what they compute. -/
namespace VS
open PySem PySem.Spec PyProof.Rows L2

inductive Bop where
  | add | sub | mul | fdv | mod | pow
inductive Cop where
  | eq | ne | lt | le | gt | ge | is | isn | isin | nin
inductive Ty where
  | int | bool | str | tup | lst
/-- built-in functions of values -/
inductive Bf where
  | len | abs | int | bool | str | tup | lst | sorted | sum | min | max | all | any | range
/-- what changes a list, a dict -/
inductive Mf where
  | append | extend | pop | popAt
/-- methods that change nothing -/
inductive Vf where
  | index | get | join | split | replace
/-- how what is walked comes of values -/
inductive Ik where
  | val | enum | zip | rng
inductive Tg where
  | nm (i : Nat) | tp (l : List Nat)

inductive Ex where
  | var (i : Nat)
  | con (d : D)
  | glo (d : D)
  | bin (o : Bop) (a b : Ex)
  | neg (a : Ex)
  | cmp (o : Cop) (a b : Ex)
  | chain (o p : Cop) (a b c : Ex)
  | band (l : List Ex)
  | bor (l : List Ex)
  | bnot (a : Ex)
  | ite (c a b : Ex)
  | tup (l : List Ex)
  | lst (l : List Ex)
  | ix (a i : Ex)
  | sl (a : Ex) (lo hi : Option Ex)
  | rev (a : Ex)
  | isi (a : Ex) (t : List Ty)
  | bf (f : Bf) (l : List Ex)
  | mf (f : Mf) (i : Nat) (l : List Ex)
  | call (f : Nat) (l : List Ex)
  | lend (i : Nat)
  | look (i : Nat)
  | bad
  | dic0
  | dic1 (a b : Ex)
  | sset (a : Ex)
  | comp (e : Ex) (t : Tg) (k : Ik) (it : List Ex) (ifs : List Ex) (own : List Nat)
  | comp2 (e : Ex) (t : Tg) (k : Ik) (it : List Ex) (ifs : List Ex) (t2 : Tg) (k2 : Ik) (it2 : List Ex) (ifs2 : List Ex) (own : List Nat)
inductive Sm where
  | asg (t : Tg) (e : Ex)
  | par (l : List Nat) (es : List Ex)
  | seti (i : Nat) (j e : Ex)
  | setsl (i : Nat) (lo hi e : Ex)
  | ex (e : Ex)
  | ret (e : Ex)
  | ite (c : Ex) (a b : List Sm)
  | for (t : Tg) (k : Ik) (it : List Ex) (b : List Sm)
  | whl (c : Ex) (b : List Sm)
  | brk | cnt | pas | bad
  | raise (c : Str) (l : List Ex)
structure Fn where
  np : Nat
  ns : Nat
  body : List Sm

/-! ### values -/
def szB (n : Nat) : Bool := Nat.ble n 16777216
def b2z (b : Bool) : Int := if b then 1 else 0
mutual
def D.eqv : D → D → Bool
  | .non, .non => true
  | .bl a, .bl b => a == b
  | .bl a, .int j => b2z a == j
  | .int i, .bl b => i == b2z b
  | .int i, .int j => i == j
  | .str x, .str y => decide (x = y)
  | .tup l, .tup m => D.eqvs l m
  | .lst l, .lst m => D.eqvs l m
  | _, _ => false
def D.eqvs : List D → List D → Bool
  | [], [] => true
  | a :: l, b :: m => a.eqv b && D.eqvs l m
  | _, _ => false
end
/-- data for ==: flat things and lists, tuples of them, not too deep -/
def D.ok : Nat → D → Bool
  | _, .non => true
  | _, .bl _ => true
  | _, .int _ => true
  | _, .str _ => true
  | n + 1, .tup l => l.all (D.ok n)
  | n + 1, .lst l => l.all (D.ok n)
  | _, _ => false
def D.eqD (a b : D) : Option Bool := if a.ok 40 && b.ok 40 then some (a.eqv b) else none
def D.truth : D → Option Bool
  | .non => some false
  | .bl b => some b
  | .int i => some (i != 0)
  | .str x => if szB x.length then some (x.length != 0) else none
  | .tup l => some (!l.isEmpty)
  | .lst l => some (!l.isEmpty)
  | .scr l => some (!l.isEmpty)
  | .dic false l => some (!l.isEmpty)
  | _ => none
def D.len : D → Option Nat
  | .tup l => some l.length
  | .lst l => some l.length
  | .scr l => some l.length
  | .dic _ l => some l.length
  | .str x => if szB x.length then some x.length else none
  | _ => none
/-- the values of a sequence -/
def D.seq : D → Option (List D)
  | .tup l => some l
  | .lst l => some l
  | .scr l => some (l.map .int)
  | _ => none
def ints? : List D → Option (List Int)
  | [] => some []
  | .int i :: l => (ints? l).map (i :: ·)
  | _ => none
def bools? : List D → Option (List Bool)
  | [] => some []
  | .bl i :: l => (bools? l).map (i :: ·)
  | _ => none
/-- the results of value operations -/
inductive Vr where
  | fz (d : D) | fr (d : D)
def Vr.rr : Vr → Rr
  | .fz d => .fz d
  | .fr d => .fr d
def rgOk : Int → Bool
  | .ofNat n => Nat.blt n 4611686018427387904
  | .negSucc n => Nat.blt n 4611686018427387904
def fitB : Int → Bool
  | .ofNat n => Nat.blt n 18446744073709551616
  | .negSucc n => Nat.blt n 18446744073709551615
/-- xs[i] -/
def getI {α : Type} (xs : List α) : Int → Option α
  | .ofNat n => xs[n]?
  | .negSucc n => if Nat.ble (n + 1) xs.length then xs[xs.length - (n + 1)]? else none
def binD (o : Bop) (a b : D) : Option Vr := match o, a, b with
  | .add, .int i, .int j => some (.fz (.int (i + j)))
  | .sub, .int i, .int j => some (.fz (.int (i - j)))
  | .mul, .int i, .int j => if fitB i || fitB j then some (.fz (.int (i * j))) else none
  | .fdv, .int i, .int j => if decide (0 < j) && fitB j then some (.fz (.int (i / j))) else none
  | .mod, .int i, .int j => if decide (0 < j) then some (.fz (.int (i % j))) else none
  | .pow, .int i, .int j => if decide (0 ≤ j) && decide (j ≤ 1000) && fitB i then some (.fz (.int (i ^ j.toNat))) else none
  | .add, .tup l, .tup m => if szB (l.length + m.length) then some (.fz (.tup (l ++ m))) else none
  | .add, .lst l, .lst m => if szB (l.length + m.length) then some (.fr (.lst (l ++ m))) else none
  | .add, .str x, .str y => if szB (x.length + y.length) then some (.fz (.str (x ++ y))) else none
  | .mul, .tup l, .int k => if !l.isEmpty && (decide (2 ≤ k) && (decide (k ≤ 1000) && Nat.ble l.length 1000)) then some (.fz (.tup (List.replicate k.toNat l).flatten)) else none
  | .mul, .lst l, .int k => if rgOk k && szB (l.length * k.toNat) then some (.fr (.lst (List.replicate k.toNat l).flatten)) else none
  | _, _, _ => none
mutual
/-- <: ints, texts, tuples of such -/
def D.ltv : D → D → Option Bool
  | .int i, .int j => some (decide (i < j))
  | .str x, .str y => some (decide (x.cps.toList < y.cps.toList))
  | .tup l, .tup m => D.ltvs l m
  | _, _ => none
def D.ltvs : List D → List D → Option Bool
  | [], [] => some false
  | [], _ :: _ => some true
  | _ :: _, [] => some false
  | a :: l, b :: m => if a.eqv b then D.ltvs l m else D.ltv a b
end
def keyOk (tk : Bool) (q : D) : Bool := match tk, q with
  | false, .int _ => true
  | false, .str _ => true
  | true, .tup l => l.all fun d => match d with
    | .int _ => true
    | .str _ => true
    | _ => false
  | _, _ => false
/-- keys alike -/
def D.keq : D → D → Bool
  | .int i, .int j => i == j
  | .str x, .str y => decide (x = y)
  | _, _ => false
def dhas : List (D × D) → D → Bool
  | [], _ => false
  | (k, _) :: l, q => k.keq q || dhas l q
def cmpD (o : Cop) (a b : D) : Option Bool := match o with
  | .eq => a.eqD b
  | .ne => (a.eqD b).map (!·)
  | .lt => (match a, b with
    | .int i, .int j => some (decide (i < j))
    | .str x, .str y => some (decide (x.cps.toList < y.cps.toList))
    | .tup l, .tup m => (match ints? l, ints? m with
      | some ns, some ms => some (HT.lexLt ns ms)
      | _, _ => none)
    | _, _ => none)
  | .gt => (match a, b with
    | .int i, .int j => some (decide (j < i))
    | _, _ => none)
  | .le => (match a, b with
    | .int i, .int j => some (decide (i ≤ j))
    | _, _ => none)
  | .ge => (match a, b with
    | .int i, .int j => some (decide (j ≤ i))
    | _, _ => none)
  | .is => (match a, b with
    | .non, .non => some true
    | _, .non => some false
    | _, _ => none)
  | .isn => (match a, b with
    | .non, .non => some false
    | _, .non => some true
    | _, _ => none)
  | .isin => (match a, b with
    | a, .tup l => if a.ok 40 && l.all (D.ok 40) then some (l.any fun d => d.eqv a) else none
    | a, .lst l => if a.ok 40 && l.all (D.ok 40) then some (l.any fun d => d.eqv a) else none
    | a, .dic false l => if keyOk false a then some (dhas l a) else none
    | .str ⟨#[c]⟩, .str y => some (decide (c ∈ y.cps.toList))
    | _, _ => none)
  | .nin => (match a, b with
    | a, .tup l => if a.ok 40 && l.all (D.ok 40) then some (!l.any fun d => d.eqv a) else none
    | a, .lst l => if a.ok 40 && l.all (D.ok 40) then some (!l.any fun d => d.eqv a) else none
    | a, .dic false l => if keyOk false a then some (!dhas l a) else none
    | .str ⟨#[c]⟩, .str y => some (!decide (c ∈ y.cps.toList))
    | _, _ => none)
/-- x[i] -/
def dget : List (D × D) → D → Option D
  | [], _ => none
  | (k, v) :: l, q => if k.keq q then some v else dget l q
def ixD (a i : D) : Option D := match a, i with
  | .tup l, .int j => getI l j
  | .lst l, .int j => getI l j
  | .scr l, .int j => (getI l j).map .int
  | .str x, .int j => if szB x.length then (getI x.cps.toList j).map fun c => .str ⟨#[c]⟩ else none
  | .dic false l, .int j => dget l (.int j)
  | .dic false l, .str j => dget l (.str j)
  | _, _ => none
def cutD {α : Type} (xs : List α) (lo hi : Option Int) : List α := (xs.drop (HT.sIx xs.length 0 lo)).take (HT.sIx xs.length xs.length hi - HT.sIx xs.length 0 lo)
def slD (a : D) (lo hi : Option Int) : Option Vr := match a with
  | .tup l => some (.fz (.tup (cutD l lo hi)))
  | .lst l => some (.fr (.lst (cutD l lo hi)))
  | .scr l => some (.fr (.lst ((cutD l lo hi).map .int)))
  | .str x => if szB x.length then some (.fz (.str ⟨(cutD x.cps.toList lo hi).toArray⟩)) else none
  | _ => none
inductive Cat where
  | non | bool | int | str | tup | lst | dic
def D.cat : D → Option Cat
  | .non => some .non
  | .bl _ => some .bool
  | .int _ => some .int
  | .str _ => some .str
  | .tup _ => some .tup
  | .lst _ => some .lst
  | .scr _ => some .lst
  | .dic _ _ => some .dic
  | _ => none
def catB (c : Cat) (t : Ty) : Bool := match t, c with
  | .int, .int => true
  | .int, .bool => true
  | .bool, .bool => true
  | .str, .str => true
  | .tup, .tup => true
  | .lst, .lst => true
  | _, _ => false
def tyD (d : D) (t : Ty) : Option Bool := d.cat.map fun c => catB c t
def tysD (d : D) : List Ty → Option Bool
  | [] => some false
  | t :: l => (match tyD d t with
    | some true => some true
    | some false => tysD d l
    | none => none)
def minI : Int → List Int → Int
  | m, [] => m
  | m, i :: l => minI (if i < m then i else m) l
def maxI : Int → List Int → Int
  | m, [] => m
  | m, i :: l => maxI (if m < i then i else m) l
/-- ints put ascending -/
def insI (i : Int) : List Int → List Int
  | [] => [i]
  | j :: l => if i ≤ j then i :: j :: l else j :: insI i l
def sortI : List Int → List Int
  | [] => []
  | i :: l => insI i (sortI l)
/-- a list's values -/
def D.seqL : D → Option (List D)
  | .lst l => some l
  | .scr l => some (l.map .int)
  | _ => none
def rngD (lo hi : Int) : List D := (List.range (hi - lo).toNat).map fun n => .int (lo + (n : Nat))
def minD : List Int → Option Vr
  | [] => none
  | i :: l => some (.fz (.int (minI i l)))
def maxD : List Int → Option Vr
  | [] => none
  | i :: l => some (.fz (.int (maxI i l)))
def intF : D → Option Vr
  | .int i => some (.fz (.int i))
  | .bl b => some (.fz (.int (b2z b)))
  | _ => none
def boolF : D → Option Vr
  | .bl b => some (.fz (.bl b))
  | .int i => some (.fz (.bl (i != 0)))
  | _ => none
def absF : D → Option Vr
  | .int i => some (.fz (.int (if i < 0 then -i else i)))
  | _ => none
def tupF : D → Option Vr
  | .rng lo hi => if szB (hi - lo).toNat && (rgOk lo && rgOk hi) then some (.fz (.tup (rngD lo hi))) else none
  | a => a.seq.map fun l => .fz (.tup l)
def lstF : D → Option Vr
  | .rng lo hi => if szB (hi - lo).toNat && (rgOk lo && rgOk hi) then some (.fr (.lst (rngD lo hi))) else none
  | a => a.seq.map fun l => .fr (.lst l)
def lenF (a : D) : Option Vr := a.len.map fun (n : Nat) => .fz (.int (n : Int))
/-- what sorted puts in order: a list of ints, the int keys of a dict -/
def D.srt : D → Option (List Int)
  | .dic false l => (ints? (l.map (·.1))).bind fun ns => if Nat.blt ns.length 64 then some ns else none
  | a => a.seqL.bind ints?
def sortF (a : D) : Option Vr := a.srt.map fun l => .fr (.lst ((sortI l).map .int))
/-- tuples of ints, all of length n, the ints small -/
def rowsI (n : Nat) : List D → Option (List (List Int))
  | [] => some []
  | .tup l :: r => (ints? l).bind fun ns => if Nat.beq ns.length n && ns.all (fun i => decide (0 ≤ i) && decide (i < 1000)) then (rowsI n r).map (ns :: ·) else none
  | _ => none
def codeI : List Int → Int
  | [] => 0
  | d :: r => d * 1000 ^ r.length + codeI r
/-- put in where it is new -/
def insT (x : List Int) : List (List Int) → List (List Int)
  | [] => [x]
  | y :: l => if codeI x < codeI y then x :: y :: l else if codeI x = codeI y then y :: l else y :: insT x l
def sortT : List (List Int) → List (List Int)
  | [] => []
  | x :: l => insT x (sortT l)
def ssetF : D → Option Vr
  | .lst (.tup a :: l) => (rowsI a.length (.tup a :: l)).bind fun rs => if Nat.blt 0 a.length && Nat.blt rs.length 64 then some (.fr (.lst ((sortT rs).map fun r => .tup (r.map .int)))) else none
  | _ => none
def sumF (a : D) : Option Vr := (a.seqL.bind ints?).map fun l => .fz (.int l.sum)
def min2 (a b : D) : Option Vr := match a, b with
  | .int i, .int j => some (.fz (.int (if j < i then j else i)))
  | _, _ => none
def max2 (a b : D) : Option Vr := match a, b with
  | .int i, .int j => some (.fz (.int (if j > i then j else i)))
  | _, _ => none
def on12 (f : D → Option Vr) (g : D → D → Option Vr) : List D → Option Vr
  | [a] => f a
  | [a, b] => g a b
  | _ => none
def allF (a : D) : Option Vr := (a.seqL.bind bools?).map fun bs => .fz (.bl (bs.all id))
def anyF (a : D) : Option Vr := (a.seqL.bind bools?).map fun bs => .fz (.bl (bs.any id))
def rng1 : D → Option Vr
  | .int i => if rgOk i then some (.fz (.rng 0 i)) else none
  | _ => none
def rng2 (a b : D) : Option Vr := match a, b with
  | .int i, .int j => if rgOk i && rgOk j then some (.fz (.rng i j)) else none
  | _, _ => none
def on1 (f : D → Option Vr) : List D → Option Vr
  | [a] => f a
  | _ => none
def bfD : Bf → List D → Option Vr
  | .len => on1 lenF
  | .abs => on1 absF
  | .int => on1 intF
  | .bool => on1 boolF
  | .tup => on1 tupF
  | .lst => on1 lstF
  | .sorted => on1 sortF
  | .sum => on1 sumF
  | .min => on12 (fun a => (a.seqL.bind ints?).bind minD) min2
  | .max => on12 (fun a => (a.seqL.bind ints?).bind maxD) max2
  | .all => on1 allF
  | .any => on1 anyF
  | .range => on12 rng1 rng2
  | _ => fun _ => none
/-- a changed thing, and the value of the call -/
def dput (l : List (D × D)) (q v : D) : List (D × D) := if dhas l q then l.map (fun p => if p.1.keq q then (p.1, v) else p) else l ++ [(q, v)]
def onL (g : List D → Option (D × D)) : D → Option (D × D)
  | .lst xs => g xs
  | _ => none
def arg1 (l : List D) (g : D → Option (D × D)) : Option (D × D) := match l with
  | [a] => g a
  | _ => none
def appF (xs : List D) (a : D) : Option (D × D) := if Nat.blt xs.length 16777216 then some (.lst (xs ++ [a]), .non) else none
def extF (xs : List D) : D → Option (D × D)
  | .lst ys => if szB (xs.length + ys.length) then some (.lst (xs ++ ys), .non) else none
  | _ => none
def popF (xs : List D) : Option (D × D) := xs[xs.length - 1]?.map fun y => (.lst xs.dropLast, y)
def popAtF (xs : List D) : D → Option (D × D)
  | .int i => if decide (0 ≤ i) && rgOk i then xs[i.toNat]?.map fun y => (.lst (xs.eraseIdx i.toNat), y) else none
  | _ => none
def mfD (f : Mf) (d : D) (l : List D) : Option (D × D) := match f with
  | .append => onL (fun xs => arg1 l (appF xs)) d
  | .extend => onL (fun xs => arg1 l (extF xs)) d
  | .pop => onL (fun xs => if l.isEmpty then popF xs else none) d
  | .popAt => onL (fun xs => arg1 l (popAtF xs)) d
def setF (d j v : D) : Option D := match d with
  | .lst xs => (match j with
    | .int i => (ixN xs.length i).map fun n => .lst (xs.set n v)
    | _ => none)
  | .dic false l => if keyOk false j && Nat.blt l.length 16777216 then some (.dic false (dput l j v)) else none
  | _ => none
/-- what is walked -/
def zip3D : List D → List D → List D → List D
  | a :: l, b :: m, c :: n => .tup [a, b, c] :: zip3D l m n
  | _, _, _ => []
def ikD (k : Ik) (l : List D) : Option (List D) := match k, l with
  | .val, [.rng lo hi] => if rgOk lo && rgOk hi then some (rngD lo hi) else none
  | .val, [.str x] => some (x.cps.toList.map fun c => .str ⟨#[c]⟩)
  | .val, [a] => a.seq
  | .rng, [.int hi] => if rgOk hi then some (rngD 0 hi) else none
  | .rng, [.int lo, .int hi] => if rgOk lo && rgOk hi then some (rngD lo hi) else none
  | .rng, [.int lo, .int hi, .int c] => if decide (c = -1) && (rgOk lo && rgOk hi) then some ((List.range (lo - hi).toNat).map fun n => .int (lo + (n : Nat) * -1)) else none
  | .enum, [a] => a.seq.map fun l => l.zipIdx.map fun p => .tup [.int p.2, p.1]
  | .zip, [a, b] => a.seq.bind fun l => b.seq.map fun m => List.zipWith (fun x y => .tup [x, y]) l m
  | .zip, [a, b, c] => a.seq.bind fun l => b.seq.bind fun m => c.seq.map fun n => zip3D l m n
  | _, _ => none

/-! ### slots -/
def useR (r : Rr) (ρ : Env) : Out D := match r with
  | .fz d => .ok d ρ
  | .fr d => .ok d ρ
  | .own i => (match ρ[i]? with
    | some (.ow d) => .ok d (ρ.set i (.fz d))
    | some (.le d) => .ok d (ρ.set i (.lz d))
    | _ => .bad)
def pkR (r : Rr) (ρ : Env) : Option D := match r with
  | .fz d => some d
  | .fr d => some d
  | .own i => (match ρ[i]? with
    | some (.ow d) => some d
    | some (.le d) => some d
    | some (.lk d) => some d
    | _ => none)
def pkRs : List Rr → Env → Option (List D)
  | [], _ => some []
  | r :: l, ρ => (match pkR r ρ with
    | some d => (pkRs l ρ).map (d :: ·)
    | none => none)
def settle : Rr → Rr
  | .fr d => .fz d
  | r => r
def outV (o : Option Vr) (ρ : Env) : Out Rr := match o with
  | some v => .ok v.rr ρ
  | none => .bad
def outD (o : Option D) (ρ : Env) : Out Rr := match o with
  | some v => .ok (.fz v) ρ
  | none => .bad
def ownsR : List Rr → List Nat
  | [] => []
  | .own i :: l => i :: ownsR l
  | _ :: l => ownsR l
def lock1 (i : Nat) (ρ : Env) : Env := match ρ[i]? with
  | some (.ow d) => ρ.set i (.lk d)
  | some (.le d) => ρ.set i (.lk d)
  | _ => ρ
def lockAll : List Nat → Env → Env
  | [], ρ => ρ
  | i :: l, ρ => lockAll l (lock1 i ρ)
/-- the flags of the slots at l as they were -/
def unlockAll (ρ0 : Env) : List Nat → Env → Env
  | [], ρ => ρ
  | i :: l, ρ => unlockAll ρ0 l (match ρ0[i]? with
    | some s => ρ.set i s
    | none => ρ)
def wipeE : List Nat → Env → Env
  | [], ρ => ρ
  | i :: l, ρ => (wipeE l ρ).set i .un
/-- a stored slot: not where a caller's thing or a locked one is -/
def stoB (ρ : Env) (i : Nat) : Bool := match ρ[i]? with
  | some s => !s.fixd
  | none => false
def sto (ρ : Env) (i : Nat) (s : Sl) : Option Env := if stoB ρ i then some (ρ.set i s) else none
def stos : List Nat → List D → Env → Option Env
  | [], [], ρ => some ρ
  | i :: l, d :: m, ρ => (match sto ρ i (.fz d) with
    | some ρ' => stos l m ρ'
    | none => none)
  | _, _, _ => none
def tgD (t : Tg) (d : D) (ρ : Env) : Option Env := match t with
  | .nm i => sto ρ i (.fz d)
  | .tp l => (match d with
    | .tup m => stos l m ρ
    | _ => none)

/-! ### runs -/
inductive Ar where
  | val (d : D) | lend (i : Nat) | look (i : Nat)
inductive Cr where
  | ok (r : Vr) (o : List Sl) | exc (c : Str) (v : Option D) (o : List Sl) | bad
inductive Fl where
  | nx (ρ : Env) | rt (r : Vr) (ρ : Env) | bk (ρ : Env) | ct (ρ : Env) | exc (c : Str) (v : Option D) (ρ : Env) | bad
def arS (ρ : Env) : Ar → Option Sl
  | .val d => some (.fz d)
  | .lend i => (match ρ[i]? with
    | some (.ow d) => some (.le d)
    | some (.le d) => some (.le d)
    | _ => none)
  | .look i => (match ρ[i]? with
    | some (.ow d) => some (.lk d)
    | some (.le d) => some (.lk d)
    | some (.lk d) => some (.lk d)
    | some (.fz d) => some (.fz d)
    | some (.lz d) => some (.fz d)
    | _ => none)
def arSs (ρ : Env) : List Ar → Option (List Sl)
  | [] => some []
  | a :: l => (match arS ρ a with
    | some s => (arSs ρ l).map (s :: ·)
    | none => none)
def lendB (i : Nat) : Ar → Bool
  | .lend j => Nat.beq i j
  | .look j => Nat.beq i j
  | _ => false
/-- a lent slot is handed over but once -/
def arOk : List Ar → Bool
  | [] => true
  | .lend i :: l => !l.any (lendB i) && arOk l
  | .look i :: l => (l.all fun a => match a with
    | .lend j => !Nat.beq i j
    | _ => true) && arOk l
  | _ :: l => arOk l
/-- a caller's slot behind the call -/
def back1 (i : Nat) (s : Sl) (ρ : Env) : Option Env := match ρ[i]?, s with
  | some (.ow _), .le d => some (ρ.set i (.ow d))
  | some (.le _), .le d => some (ρ.set i (.le d))
  | some (.ow _), .lz d => some (ρ.set i (.fz d))
  | some (.le _), .lz d => some (ρ.set i (.lz d))
  | _, _ => none
def backs : List Ar → List Sl → Env → Option Env
  | [], _, ρ => some ρ
  | .lend i :: l, s :: o, ρ => (match back1 i s ρ with
    | some ρ' => backs l o ρ'
    | none => none)
  | _ :: l, _ :: o, ρ => backs l o ρ
  | _ :: _, [], _ => none
abbrev Cl := Nat → List Sl → Cr
def callR (cl : Cl) (f : Nat) (as : List Ar) (ρ : Env) : Out Rr :=
  if arOk as then
    match arSs ρ as with
    | some ss => (match cl f ss with
      | .ok r o => (match backs as o ρ with
        | some ρ' => .ok r.rr ρ'
        | none => .bad)
      | .exc c v o => (match backs as o ρ with
        | some ρ' => .exc c v ρ'
        | none => .bad)
      | .bad => .bad)
    | none => .bad
  else .bad
/-- a comprehension's laps -/
def laps (f : D → Env → Out (Option D)) : List D → Env → Out (List D)
  | [], ρ => .ok [] ρ
  | d :: l, ρ => (match f d ρ with
    | .ok o ρ' => (match laps f l ρ' with
      | .ok r ρ2 => .ok (match o with
        | some e => e :: r
        | none => r) ρ2
      | _ => .bad)
    | _ => .bad)
def laps2 (f : D → Env → Out (List D)) : List D → Env → Out (List D)
  | [], ρ => .ok [] ρ
  | d :: l, ρ => (match f d ρ with
    | .ok o ρ' => (match laps2 f l ρ' with
      | .ok r ρ2 => .ok (o ++ r) ρ2
      | _ => .bad)
    | _ => .bad)
def turns (f : D → Env → Fl) : List D → Env → Fl
  | [], ρ => .nx ρ
  | d :: l, ρ => (match f d ρ with
    | .nx ρ' => turns f l ρ'
    | .ct ρ' => turns f l ρ'
    | .bk ρ' => .nx ρ'
    | .rt r ρ' => .rt r ρ'
    | .exc c v ρ' => .exc c v ρ'
    | .bad => .bad)
def whiles (t : Env → Out Bool) (f : Env → Fl) : Nat → Env → Fl
  | 0, _ => .bad
  | n + 1, ρ => (match t ρ with
    | .ok true ρ1 => (match f ρ1 with
      | .nx ρ' => whiles t f n ρ'
      | .ct ρ' => whiles t f n ρ'
      | .bk ρ' => .nx ρ'
      | .rt r ρ' => .rt r ρ'
      | .exc c v ρ' => .exc c v ρ'
      | .bad => .bad)
    | .ok false ρ1 => .nx ρ1
    | .exc c v ρ1 => .exc c v ρ1
    | .bad => .bad)
def truR (r : Rr) (ρ : Env) : Out Bool := match (pkR r ρ).bind D.truth with
  | some b => .ok b ρ
  | none => .bad
def compEnd (ρ1 : Env) (own L : List Nat) (o : Out (List D)) : Out Rr := match o with
  | .ok ds ρ => if szB ds.length then .ok (.fr (.lst ds)) (unlockAll ρ1 L (unlockAll (lockAll L ρ1) own ρ)) else .bad
  | _ => .bad
def memB (i : Nat) (l : List Nat) : Bool := l.any (Nat.beq i)
def disjB (l m : List Nat) : Bool := l.all fun i => !memB i m
def subB (l m : List Nat) : Bool := l.all fun i => memB i m
def tgS : Tg → List Nat
  | .nm i => [i]
  | .tp l => l
/-- a lap of a comprehension -/
def lapF (own : List Nat) (t : Tg) (mi : Env → Out Bool) (me : Env → Out Rr) (d : D) (ρ2 : Env) : Out (Option D) := match tgD t d (wipeE own ρ2) with
  | some ρ3 => (mi ρ3).bind fun b ρ4 => (match b with
    | true => (me ρ4).bind fun r ρ5 => (useR r ρ5).bind fun x ρ6 => .ok (some x) ρ6
    | false => .ok none ρ4)
  | none => .bad
def compR (own : List Nat) (t : Tg) (k : Ik) (mi : Env → Out Bool) (me : Env → Out Rr) (rs : List Rr) (ρ1 : Env) : Out Rr := match (pkRs rs ρ1).bind (ikD k) with
  | some ds => if disjB own (ownsR rs) && subB (tgS t) own then compEnd ρ1 own (ownsR rs) (laps (lapF own t mi me) ds (lockAll (ownsR rs) ρ1)) else .bad
  | none => .bad
def useRs : List Rr → Env → Out (List D)
  | [], ρ => .ok [] ρ
  | r :: l, ρ => (useR r ρ).bind fun d ρ1 => (useRs l ρ1).bind fun ds ρ2 => .ok (d :: ds) ρ2
/-- kept values, as what is walked -/
def frzR (k : Ik) (rs : List Rr) (ρ : Env) : Out (List Rr) := match (pkRs rs ρ).bind (ikD k) with
  | some _ => (useRs rs ρ).bind fun ds ρ1 => .ok (ds.map .fz) ρ1
  | none => .bad
/-- the second clause -/
def innF (t2 : Tg) (k2 : Ik) (mi2 : Env → Out Bool) (me : Env → Out Rr) (qs : List Rr) (ρ5 : Env) : Out (List D) := match (pkRs qs ρ5).bind (ikD k2) with
  | some es => laps (lapF (tgS t2) t2 mi2 me) es ρ5
  | none => .bad
def lap2F (own : List Nat) (t : Tg) (k2 : Ik) (mi : Env → Out Bool) (mq : Env → Out (List Rr)) (inn : List Rr → Env → Out (List D)) (d : D) (ρ2 : Env) : Out (List D) := match tgD t d (wipeE own ρ2) with
  | some ρ3 => (mi ρ3).bind fun b ρ4 => (match b with
    | true => (mq ρ4).bind fun qs ρ5 => (frzR k2 qs ρ5).bind inn
    | false => .ok [] ρ4)
  | none => .bad
def comp2R (own : List Nat) (t t2 : Tg) (k k2 : Ik) (mi : Env → Out Bool) (mq : Env → Out (List Rr)) (inn : List Rr → Env → Out (List D)) (rs : List Rr) (ρ1 : Env) : Out Rr := match (pkRs rs ρ1).bind (ikD k) with
  | some ds => if disjB own (ownsR rs) && (subB (tgS t) own && subB (tgS t2) own) then compEnd ρ1 own (ownsR rs) (laps2 (lap2F own t k2 mi mq inn) ds (lockAll (ownsR rs) ρ1)) else .bad
  | none => .bad
def pk2 (r q : Rr) (ρ : Env) : Option (D × D) := match pkR r ρ, pkR q ρ with
  | some a, some b => some (a, b)
  | _, _ => none
def ownL (ρ : Env) (i : Nat) : Bool := match ρ[i]? with
  | some (.ow (.lst _)) => true
  | some (.le (.lst _)) => true
  | _ => false
def hasB (ρ : Env) (i : Nat) : Bool := match ρ[i]? with
  | some .un => false
  | some _ => true
  | none => false
def intOf : D → Option Int
  | .int i => some i
  | _ => none
def mTwo (f : D → D → Option Vr) (ma mb : Env → Out Rr) : Env → Out Rr := fun ρ => (ma ρ).bind fun r ρ1 => (mb ρ1).bind fun q ρ2 => match pk2 r q ρ2 with
  | some (x, y) => outV (f x y) ρ2
  | none => .bad
def mOne (f : D → Option Vr) (ma : Env → Out Rr) : Env → Out Rr := fun ρ => (ma ρ).bind fun r ρ1 => match pkR r ρ1 with
  | some x => outV (f x) ρ1
  | none => .bad
def mVar (i : Nat) : Env → Out Rr := fun ρ => match ρ[i]? with
  | some (.fz d) => .ok (.fz d) ρ
  | some (.lz d) => .ok (.fz d) ρ
  | some (.ow _) => .ok (.own i) ρ
  | some (.le _) => .ok (.own i) ρ
  | some (.lk _) => .ok (.own i) ρ
  | _ => .bad
def mCon (d : D) : Env → Out Rr := fun ρ => .ok (.fz d) ρ
def mTru (ma : Env → Out Rr) : Env → Out Bool := fun ρ => (ma ρ).bind fun r ρ1 => truR r ρ1
def mUs (ma : Env → Out Rr) (ml : Env → Out (List D)) : Env → Out (List D) := fun ρ => (ma ρ).bind fun r ρ1 => (useR r ρ1).bind fun d ρ2 => (ml ρ2).bind fun ds ρ3 => .ok (d :: ds) ρ3
def mLs (ma : Env → Out Rr) (ml : Env → Out (List Rr)) : Env → Out (List Rr) := fun ρ => (ma ρ).bind fun r ρ1 => (ml ρ1).bind fun rs ρ2 => .ok (settle r :: rs) ρ2
def mAndT (ma mr : Env → Out Bool) : Env → Out Bool := fun ρ => (ma ρ).bind fun b ρ1 => match b with
  | true => mr ρ1
  | false => .ok false ρ1
def mOrT (ma mr : Env → Out Bool) : Env → Out Bool := fun ρ => (ma ρ).bind fun b ρ1 => match b with
  | true => .ok true ρ1
  | false => mr ρ1
def mNotT (ma : Env → Out Bool) : Env → Out Bool := fun ρ => (ma ρ).bind fun b ρ1 => .ok (!b) ρ1
def mAndV (ma mr : Env → Out Rr) : Env → Out Rr := fun ρ => (ma ρ).bind fun r ρ1 => (truR r ρ1).bind fun b ρ2 => match b with
  | true => mr ρ2
  | false => .ok r ρ2
def mOrV (ma mr : Env → Out Rr) : Env → Out Rr := fun ρ => (ma ρ).bind fun r ρ1 => (truR r ρ1).bind fun b ρ2 => match b with
  | true => .ok r ρ2
  | false => mr ρ2
def mNotV (ma : Env → Out Rr) : Env → Out Rr := fun ρ => (ma ρ).bind fun r ρ1 => (truR r ρ1).bind fun b ρ2 => .ok (.fz (.bl (!b))) ρ2
def mIte (tc : Env → Out Bool) (ma mb : Env → Out Rr) : Env → Out Rr := fun ρ => (tc ρ).bind fun k ρ2 => match k with
  | true => ma ρ2
  | false => mb ρ2
def mTup (mu : Env → Out (List D)) : Env → Out Rr := fun ρ => (mu ρ).bind fun ds ρ1 => if szB ds.length then .ok (.fz (.tup ds)) ρ1 else .bad
def mLst (mu : Env → Out (List D)) : Env → Out Rr := fun ρ => (mu ρ).bind fun ds ρ1 => if szB ds.length then .ok (.fr (.lst ds)) ρ1 else .bad
def mOpt (ma : Env → Out Rr) : Env → Out (Option Int) := fun ρ => (ma ρ).bind fun r ρ1 => match (pkR r ρ1).bind intOf with
  | some i => .ok (some i) ρ1
  | none => .bad
def mSl (f : D → Option Int → Option Int → Option Vr) (ma : Env → Out Rr) (ml mh : Env → Out (Option Int)) : Env → Out Rr := fun ρ => (ma ρ).bind fun r ρ1 => (ml ρ1).bind fun u ρ2 => (mh ρ2).bind fun v ρ3 => match pkR r ρ3 with
  | some x => outV (f x u v) ρ3
  | none => .bad
def mBf (f : List D → Option Vr) (ml : Env → Out (List Rr)) : Env → Out Rr := fun ρ => (ml ρ).bind fun rs ρ1 => match pkRs rs ρ1 with
  | some ds => outV (f ds) ρ1
  | none => .bad
def mMf (f : D → List D → Option (D × D)) (i : Nat) (mu : Env → Out (List D)) : Env → Out Rr := fun ρ => (mu ρ).bind fun ds ρ1 => match ρ1[i]? with
  | some (.ow d) => (match f d ds with
    | some (d', v) => .ok (.fz v) (ρ1.set i (.ow d'))
    | none => .bad)
  | some (.le d) => (match f d ds with
    | some (d', v) => .ok (.fz v) (ρ1.set i (.le d'))
    | none => .bad)
  | _ => .bad
def mAv (ma : Env → Out Rr) (ml : Env → Out (List Ar)) : Env → Out (List Ar) := fun ρ => (ma ρ).bind fun r ρ1 => (useR r ρ1).bind fun d ρ2 => (ml ρ2).bind fun as ρ3 => .ok (.val d :: as) ρ3
def mAn (a : Ar) (i : Nat) (ml : Env → Out (List Ar)) : Env → Out (List Ar) := fun ρ => if hasB ρ i then (ml ρ).bind fun as ρ1 => .ok (a :: as) ρ1 else .bad
def mCall (c : List Sl → Cr) (ml : Env → Out (List Ar)) : Env → Out Rr := fun ρ => (ml ρ).bind fun as ρ1 => if arOk as then
    match arSs ρ1 as with
    | some ss => (match c ss with
      | .ok r o => (match backs as o ρ1 with
        | some ρ' => .ok r.rr ρ'
        | none => .bad)
      | .exc c v o => (match backs as o ρ1 with
        | some ρ' => .exc c v ρ'
        | none => .bad)
      | .bad => .bad)
    | none => .bad
  else .bad
def mComp (own : List Nat) (t : Tg) (ik : Ik) (ml : Env → Out (List Rr)) (mi : Env → Out Bool) (me : Env → Out Rr) : Env → Out Rr := fun ρ => (ml ρ).bind (compR own t ik mi me)
def mFrz (ik : Ik) (mq : Env → Out (List Rr)) : Env → Out (List Rr) := fun ρ => (mq ρ).bind (frzR ik)
def mComp2 (own : List Nat) (t t2 : Tg) (ik k2 : Ik) (ml : Env → Out (List Rr)) (mi : Env → Out Bool) (mq : Env → Out (List Rr)) (mi2 : Env → Out Bool) (me : Env → Out Rr) : Env → Out Rr := fun ρ => (ml ρ).bind (comp2R own t t2 ik k2 mi mq (innF t2 k2 mi2 me))
def negD : D → Option Vr
  | .int i => some (.fz (.int (-i)))
  | _ => none
def cmpV (o : Cop) (a b : D) : Option Vr := (cmpD o a b).map fun t => .fz (.bl t)
def ixV (a i : D) : Option Vr := (ixD a i).map .fz
def isiV (t : List Ty) (d : D) : Option Vr := (tysD d t).map fun b => .fz (.bl b)
def revD : D → Option Vr
  | .lst l => some (.fr (.lst l.reverse))
  | .scr l => some (.fr (.lst (l.reverse.map .int)))
  | _ => none
def mMfO (f : D → List D → Option (D × D)) (i : Nat) (mu : Env → Out (List D)) : Env → Out Rr := fun ρ => if ownL ρ i then mMf f i mu ρ else .bad
def mNil {α : Type} : Env → Out (List α) := fun ρ => .ok [] ρ
def mBad {α : Type} : Env → Out α := fun _ => .bad
def mNone : Env → Out (Option Int) := fun ρ => .ok none ρ
def mDic0 : Env → Out Rr := fun ρ => .ok (.fr (.dic false [])) ρ
def mDic1 (ma mb : Env → Out Rr) : Env → Out Rr := fun ρ => (ma ρ).bind fun r ρ1 => (useR r ρ1).bind fun a ρ2 => (mb ρ2).bind fun q ρ3 => (useR q ρ3).bind fun b ρ4 => if keyOk false a then .ok (.fr (.dic false [(a, b)])) ρ4 else .bad
def mYes : Env → Out Bool := fun ρ => .ok true ρ
/-- a < b < c -/
def mChain (f g : D → D → Option Vr) (ma mb mc : Env → Out Rr) : Env → Out Rr := fun ρ => (ma ρ).bind fun r ρ1 => (mb ρ1).bind fun q ρ2 => match pk2 r q ρ2 with
  | some (x, y) => (match f x y with
    | some (.fz (.bl true)) => (mc ρ2).bind fun t ρ3 => (match pk2 q t ρ3 with
      | some (y, z) => outV (g y z) ρ3
      | none => .bad)
    | some (.fz (.bl false)) => .ok (.fz (.bl false)) ρ2
    | _ => .bad)
  | none => .bad
mutual
def evE (cl : Cl) : Ex → Env → Out Rr
  | .var i => mVar i
  | .con d => mCon d
  | .glo d => mCon d
  | .bin o a b => mTwo (binD o) (evE cl a) (evE cl b)
  | .neg a => mOne negD (evE cl a)
  | .cmp o a b => mTwo (cmpV o) (evE cl a) (evE cl b)
  | .chain o p a b c => mChain (cmpV o) (cmpV p) (evE cl a) (evE cl b) (evE cl c)
  | .band l => evAnd cl l
  | .bor l => evOr cl l
  | .bnot a => mNotV (evE cl a)
  | .ite c a b => mIte (mTru (evE cl c)) (evE cl a) (evE cl b)
  | .tup l => mTup (evUs cl l)
  | .lst l => mLst (evUs cl l)
  | .ix a i => mTwo ixV (evE cl a) (evE cl i)
  | .sl a lo hi => mSl slD (evE cl a) (evO cl lo) (evO cl hi)
  | .rev a => mOne revD (evE cl a)
  | .isi a t => mOne (isiV t) (evE cl a)
  | .bf f l => mBf (bfD f) (evEs cl l)
  | .mf f i l => mMfO (mfD f) i (evUs cl l)
  | .call f l => mCall (cl f) (evAs cl l)
  | .lend _ => mBad
  | .look _ => mBad
  | .bad => mBad
  | .dic0 => mDic0
  | .dic1 a b => mDic1 (evE cl a) (evE cl b)
  | .sset a => mOne ssetF (evE cl a)
  | .comp e t k it ifs own => mComp own t k (evEs cl it) (evIf cl ifs) (evE cl e)
  | .comp2 e t k it ifs t2 k2 it2 ifs2 own => mComp2 own t t2 k k2 (evEs cl it) (evIf cl ifs) (evEs cl it2) (evIf cl ifs2) (evE cl e)
def evAnd (cl : Cl) : List Ex → Env → Out Rr
  | [] => mBad
  | [e] => evE cl e
  | e :: l => mAndV (evE cl e) (evAnd cl l)
def evOr (cl : Cl) : List Ex → Env → Out Rr
  | [] => mBad
  | [e] => evE cl e
  | e :: l => mOrV (evE cl e) (evOr cl l)
/-- tests of a comprehension -/
def evIf (cl : Cl) : List Ex → Env → Out Bool
  | [] => mYes
  | [e] => mTru (evE cl e)
  | _ :: _ => mBad
/-- an optional int -/
def evO (cl : Cl) : Option Ex → Env → Out (Option Int)
  | none => mNone
  | some e => mOpt (evE cl e)
/-- looked at -/
def evEs (cl : Cl) : List Ex → Env → Out (List Rr)
  | [] => mNil
  | e :: l => mLs (evE cl e) (evEs cl l)
/-- kept -/
def evUs (cl : Cl) : List Ex → Env → Out (List D)
  | [] => mNil
  | e :: l => mUs (evE cl e) (evUs cl l)
/-- arguments -/
def evAs (cl : Cl) : List Ex → Env → Out (List Ar)
  | [] => mNil
  | .lend i :: l => mAn (.lend i) i (evAs cl l)
  | .look i :: l => mAn (.look i) i (evAs cl l)
  | e :: l => mAv (evE cl e) (evAs cl l)
end
/-! ### statements -/
def Fl.map (f : Env → Env) : Fl → Fl
  | .nx ρ => .nx (f ρ)
  | .rt r ρ => .rt r (f ρ)
  | .bk ρ => .bk (f ρ)
  | .ct ρ => .ct (f ρ)
  | .exc c v ρ => .exc c v (f ρ)
  | .bad => .bad
def flO (o : Option Env) : Fl := match o with
  | some ρ => .nx ρ
  | none => .bad
def Out.fl {α : Type} (m : Out α) (f : α → Env → Fl) : Fl := match m with
  | .ok a ρ => f a ρ
  | .exc c v ρ => .exc c v ρ
  | .bad => .bad
def asgR (t : Tg) (r : Rr) (ρ : Env) : Fl := match t, r with
  | .nm i, .fr d => flO (sto ρ i (.ow d))
  | t, r => (useR r ρ).fl fun d ρ1 => flO (tgD t d ρ1)
def retR (r : Rr) (ρ : Env) : Fl := match r with
  | .fr d => .rt (.fr d) ρ
  | r => (useR r ρ).fl fun d ρ1 => .rt (.fz d) ρ1
def stoS : List Nat → List Sl → Env → Option Env
  | [], [], ρ => some ρ
  | i :: l, s :: m, ρ => (match sto ρ i s with
    | some ρ' => stoS l m ρ'
    | none => none)
  | _, _, _ => none
def mPs (ma : Env → Out Rr) (ml : Env → Out (List Sl)) : Env → Out (List Sl) := fun ρ => (ma ρ).bind fun r ρ1 => match r with
  | .fr d => (ml ρ1).bind fun ss ρ3 => .ok (.ow d :: ss) ρ3
  | r => (useR r ρ1).bind fun d ρ2 => (ml ρ2).bind fun ss ρ3 => .ok (.fz d :: ss) ρ3
/-- the values of a parallel assignment -/
def evPs (cl : Cl) : List Ex → Env → Out (List Sl)
  | [] => mNil
  | e :: l => mPs (evE cl e) (evPs cl l)
def wmost : Nat := 1048576
def setR (i : Nat) (j v : D) (ρ : Env) : Fl := match ρ[i]? with
  | some (.ow d) => (match setF d j v with
    | some d' => .nx (ρ.set i (.ow d'))
    | none => .bad)
  | some (.le d) => (match setF d j v with
    | some d' => .nx (ρ.set i (.le d'))
    | none => .bad)
  | _ => .bad
def mAsg (t : Tg) (me : Env → Out Rr) : Env → Fl := fun ρ => (me ρ).fl fun r ρ1 => asgR t r ρ1
def mExp (me : Env → Out Rr) : Env → Fl := fun ρ => (me ρ).fl fun _ ρ1 => .nx ρ1
def mRet (me : Env → Out Rr) : Env → Fl := fun ρ => (me ρ).fl fun r ρ1 => retR r ρ1
def mIf (tc : Env → Out Bool) (ma mb : Env → Fl) : Env → Fl := fun ρ => (tc ρ).fl fun k ρ1 => match k with
  | true => ma ρ1
  | false => mb ρ1
def mPar (l : List Nat) (ms : Env → Out (List Sl)) : Env → Fl := fun ρ => (ms ρ).fl fun ss ρ1 => flO (stoS l ss ρ1)
def mSeti (i : Nat) (mj me : Env → Out Rr) : Env → Fl := fun ρ => (me ρ).fl fun r ρ1 => (useR r ρ1).fl fun v ρ2 => if hasB ρ2 i then (mj ρ2).fl fun q ρ3 => match pkR q ρ3 with
  | some x => setR i x v ρ3
  | none => .bad else .bad
def mRaise (c : Str) (mu : Env → Out (List D)) : Env → Fl := fun ρ => (mu ρ).fl fun ds ρ1 => match ds with
  | [] => .exc c none ρ1
  | [d] => .exc c (some d) ρ1
  | _ => .bad
def mBadS : Env → Fl := fun _ => .bad
def mSeq (ma mb : Env → Fl) : Env → Fl := fun ρ => match ma ρ with
  | .nx ρ' => mb ρ'
  | o => o
def mFor (t : Tg) (ik : Ik) (ml : Env → Out (List Rr)) (mb : Env → Fl) : Env → Fl := fun ρ => (ml ρ).fl fun rs ρ1 => match (pkRs rs ρ1).bind (ikD ik) with
  | some ds => (turns (fun d ρ2 => match tgD t d ρ2 with
    | some ρ3 => mb ρ3
    | none => .bad) ds (lockAll (ownsR rs) ρ1)).map (unlockAll ρ1 (ownsR rs))
  | none => .bad
mutual
def evS (cl : Cl) : Sm → Env → Fl
  | .asg t e => mAsg t (evE cl e)
  | .par l es => mPar l (evPs cl es)
  | .seti i j e => mSeti i (evE cl j) (evE cl e)
  | .setsl _ _ _ _ => mBadS
  | .ex e => mExp (evE cl e)
  | .ret e => mRet (evE cl e)
  | .ite c a b => mIf (mTru (evE cl c)) (evB cl a) (evB cl b)
  | .for t k it b => mFor t k (evEs cl it) (evB cl b)
  | .whl c b => whiles (mTru (evE cl c)) (evB cl b) wmost
  | .brk => .bk
  | .cnt => .ct
  | .pas => .nx
  | .bad => mBadS
  | .raise c l => mRaise c (evUs cl l)
def evB (cl : Cl) : List Sm → Env → Fl
  | [] => .nx
  | s :: l => mSeq (evS cl s) (evB cl l)
end
/-- the caller's things behind a run -/
def outs : List Sl → Env → List Sl
  | [], _ => []
  | .le d :: l, s :: ρ => s :: outs l ρ
  | a :: l, _ :: ρ => a :: outs l ρ
  | a :: l, [] => a :: outs l []
def fin (ss : List Sl) (r : Fl) : Cr := match r with
  | .nx ρ => .ok (.fz .non) (outs ss ρ)
  | .rt v ρ => .ok v (outs ss ρ)
  | .exc c v ρ => .exc c v (outs ss ρ)
  | _ => .bad
def runF (cl : Cl) (fn : Fn) (ss : List Sl) : Cr :=
  if Nat.beq ss.length fn.np then fin ss (evB cl fn.body (ss ++ List.replicate (fn.ns - fn.np) .un)) else .bad
def callF (G : Nat → Option Fn) : Nat → Cl
  | 0, _, _ => .bad
  | n + 1, f, ss => (match G f with
    | some fn => runF (callF G n) fn ss
    | none => .bad)
end VS

set_option Elab.async false
set_option linter.all false
set_option maxRecDepth 100000
set_option maxHeartbeats 2000000
/-! VS 3: judgements; values' operations; how evaluations follow one another. -/
namespace VS
open PySem PySem.Spec PyProof.Rows L2

section
variable {k : Kn} {σ σ' : L2.St} {ρ ρ' : Env} {F F' H H' : Hp}
theorem Rp.ownAt (r : Rp k ρ F σ H) {i : Nat} {s : Sl} {d : D} (h : ρ[i]? = some s) (e : s.con = some d) : ∃ a, σ[i]? = some (some (.ref a)) ∧ d.mut = true ∧ RepP k F H d (.ref a) := by
  have q := r.slot i s h
  cases s with
  | ow d' => cases e; obtain ⟨a, h1, _, h3, h4⟩ := q; exact ⟨a, h1, h3, h4⟩
  | le d' => cases e; obtain ⟨a, h1, _, h3, h4⟩ := q; exact ⟨a, h1, h3, h4⟩
  | lk d' => cases e; obtain ⟨a, h1, h3, h4⟩ := q; exact ⟨a, h1, h3, h4⟩
  | _ => cases e
theorem Rp.hdSome (r : Rp k ρ F σ H) {a : Addr} (h : Hd σ ρ a) : ∃ o, H a = some o := by
  obtain ⟨i, s, d, h1, h2, h3⟩ := h
  obtain ⟨b, e, m, p⟩ := r.ownAt h1 h2
  rw [h3] at e
  cases e
  obtain ⟨c, o, e, ho⟩ := p.at m
  cases e
  exact ⟨o, ho⟩
/-- the heap grows, what stood stands -/
theorem Tr.grow (r : Rp k ρ F σ H) (g : ∀ a o, H a = some o → H' a = some o ∧ F' a = F a) (s : Sub F' H') : Tr k σ ρ F H σ ρ F' H' := by
  have sF : Sub F F' := fun a o h => by rw [(g a o (r.sub a o h)).2]; exact h
  have pk : ∀ {d : D} {a : Addr}, d.mut = true → RepP k F H d (.ref a) → RepP k F' H' d (.ref a) := fun {d a} m h => h.mono sF fun _ b o e ho => (g b o ho).1
  have nF : ∀ {d : D} {a : Addr}, d.mut = true → RepP k F H d (.ref a) → F a = none → F' a = none := fun {d a} m h e => by
    obtain ⟨b, o, e1, ho⟩ := h.at m
    cases e1
    rw [(g a o ho).2]
    exact e
  refine ⟨⟨r.len, s, fun i t h => ?_, r.disj, r.lkd⟩, fun a o h _ => g a o h, fun a h => ?_, fun a h => .inl h, fun a h => .inl h, fun i t h f => ⟨rfl, t, h, t.follows_refl⟩, fun _ _ h => ⟨h, rfl⟩⟩
  · have q := r.slot i t h
    cases t with
    | un => trivial
    | fz d => obtain ⟨x, h1, h2⟩ := q; exact ⟨x, h1, h2.mono sF⟩
    | lz d => obtain ⟨x, h1, h2⟩ := q; exact ⟨x, h1, h2.mono sF⟩
    | ow d => obtain ⟨a, h1, h2, h3, h4⟩ := q; exact ⟨a, h1, nF h3 h4 h2, h3, pk h3 h4⟩
    | le d => obtain ⟨a, h1, h2, h3, h4⟩ := q; exact ⟨a, h1, nF h3 h4 h2, h3, pk h3 h4⟩
    | lk d => obtain ⟨a, h1, h3, h4⟩ := q; exact ⟨a, h1, h3, pk h3 h4⟩
  · cases e : H a with
    | none => rfl
    | some o =>
      rw [(g a o e).1] at h
      cases h
/-- a thing of its own is frozen -/
theorem Tr.freeze {H0 : Hp} {a : Addr} {d : D} (r : Rp k ρ F σ H) (nh : ¬ Hd σ ρ a) (m : d.mut = true) (p : RepP k F H d (.ref a)) :
    ∃ F1, Sub F F1 ∧ Rp k ρ F1 σ H ∧ RepV k F1 d (.ref a) ∧ ∀ b, b ≠ a → F1 b = F b := by
  obtain ⟨b, o, e1, ho⟩ := p.at m
  cases e1
  have sF : Sub F (fun b => if b = a then H a else F b) := fun b u h => by
    show (if b = a then H a else F b) = some u
    by_cases q : b = a
    · rw [if_pos q, ← q]; exact r.sub b u h
    · rw [if_neg q]; exact h
  have ne : ∀ {i : Nat} {s : Sl} {d : D} {c : Addr}, ρ[i]? = some s → s.con = some d → σ[i]? = some (some (.ref c)) → c ≠ a := fun {i s d c} h1 h2 h3 e => nh ⟨i, s, d, h1, h2, e ▸ h3⟩
  refine ⟨fun b => if b = a then H a else F b, sF, ⟨r.len, fun b u h => ?_, fun i t h => ?_, r.disj, r.lkd⟩, (p.mono (J := H) sF fun _ _ _ _ h => h).frozen fun _ c u e h => ?_, fun b q => if_neg q⟩
  · by_cases q : b = a
    · have h' : (if b = a then H a else F b) = some u := h
      rw [if_pos q] at h'
      rw [q]; exact h'
    · have h' : (if b = a then H a else F b) = some u := h
      rw [if_neg q] at h'
      exact r.sub b u h'
  · have q := r.slot i t h
    cases t with
    | un => trivial
    | fz d => obtain ⟨x, h1, h2⟩ := q; exact ⟨x, h1, h2.mono sF⟩
    | lz d => obtain ⟨x, h1, h2⟩ := q; exact ⟨x, h1, h2.mono sF⟩
    | ow d => obtain ⟨c, h1, h2, h3, h4⟩ := q; exact ⟨c, h1, by show (if c = a then H a else F c) = none; rw [if_neg (ne h rfl h1)]; exact h2, h3, h4.mono sF fun _ _ _ _ z => z⟩
    | le d => obtain ⟨c, h1, h2, h3, h4⟩ := q; exact ⟨c, h1, by show (if c = a then H a else F c) = none; rw [if_neg (ne h rfl h1)]; exact h2, h3, h4.mono sF fun _ _ _ _ z => z⟩
    | lk d => obtain ⟨c, h1, h3, h4⟩ := q; exact ⟨c, h1, h3, h4.mono sF fun _ _ _ _ z => z⟩
  · cases e
    show (if a = a then H a else F a) = some u
    rw [if_pos rfl]
    exact h
end

/-! ### how an evaluation ends -/
/-- an exception of the class named c, its one field v -/
def XOk (k : Kn) (c : Str) (v : Option D) (cls : Value) (dx : Option Addr) (F H : Hp) : Prop :=
  ∃ C, k.mg c = some (.ref C) ∧ cls = .ref C ∧ match v with
    | none => dx = none
    | some d => ∃ a f x, dx = some a ∧ H a = some (.xd [(f, x)]) ∧ RepV k F d x
def Pv (k : Kn) (W : WX) (σ : L2.St) (ρ : Env) (F H : Hp) {α : Type} (res : Out α) (R : α → Env → Hp → Hp → Prop) : Prop := match res with
  | .ok a ρ' => ∀ F' H', Tr k σ ρ F H σ ρ' F' H' → R a ρ' F' H'
  | .exc c v ρ' => ∀ F' H', Tr k σ ρ F H σ ρ' F' H' → ∀ cls dx, XOk k c v cls dx F' H' → W cls dx σ H'
  | .bad => False
section
variable {k : Kn} {W : WX} {σ : L2.St} {ρ ρ1 : Env} {F F1 H H1 : Hp} {α β : Type}
theorem Pv.shift {res : Out α} {R : α → Env → Hp → Hp → Prop} (t : Tr k σ ρ F H σ ρ1 F1 H1) (p : Pv k W σ ρ F H res R) : Pv k W σ ρ1 F1 H1 res R := by
  cases res with
  | ok a ρ' => exact fun F' H' u => p F' H' (t.trans u)
  | exc c v ρ' => exact fun F' H' u => p F' H' (t.trans u)
  | bad => exact p
/-- the first of two in a row -/
theorem Pv.bind {m : Out α} {f : α → Env → Out β} {R : β → Env → Hp → Hp → Prop} {R1 : α → Env → Hp → Hp → Prop} (p : Pv k W σ ρ F H (m.bind f) R)
    (h : ∀ a ρ1 F1 H1, m = .ok a ρ1 → Tr k σ ρ F H σ ρ1 F1 H1 → Pv k W σ ρ1 F1 H1 (f a ρ1) R → R1 a ρ1 F1 H1) : Pv k W σ ρ F H m R1 := by
  cases m with
  | ok a ρ' => exact fun F' H' t => h a ρ' F' H' rfl t (Pv.shift t p)
  | exc c v ρ' => exact p
  | bad => exact p
theorem Pv.ok {a : α} {R : α → Env → Hp → Hp → Prop} (r : Rp k ρ F σ H) (p : Pv k W σ ρ F H (.ok a ρ) R) : R a ρ F H := p F H (Tr.refl r)
end
abbrev Cx.kn (X : Cx) : Kn := ⟨X.K, X.mg⟩
/-- an expression's reading by its value -/
def tV (k : Kn) (W : WX) (m : Env → Out Rr) : TE := fun σ H Q => ∃ ρ F, Rp k ρ F σ H ∧ Pv k W σ ρ F H (m ρ) fun r ρ' F' H' => ∀ x, RR k σ H ρ' F' H' r x → Q x H'
def tB (k : Kn) (W : WX) (m : Env → Out Bool) : TT := fun σ H Q => ∃ ρ F, Rp k ρ F σ H ∧ Pv k W σ ρ F H (m ρ) fun b ρ' F' H' => Q b H'
structure EV (X : Cx) (W : WX) (e : Expr) (m : Env → Out Rr) : Prop where
  pe : PE X e (tV (Cx.kn X) W m)
structure ET (X : Cx) (W : WX) (e : Expr) (m : Env → Out Bool) : Prop where
  pt : PT X e (tB (Cx.kn X) W m)
theorem pe_mono {X : Cx} {e : Expr} {t u : TE} (h : PE X e t) (g : ∀ σ H Q, u σ H Q → t σ H Q) : PE X e u := ⟨fun pins s σ H Q I w => h.run pins s σ H Q I (g σ H Q w)⟩
theorem pt_mono {X : Cx} {e : Expr} {t u : TT} (h : PT X e t) (g : ∀ σ H Q, u σ H Q → t σ H Q) : PT X e u := ⟨fun pins s σ H Q I w => h.run pins s σ H Q I (g σ H Q w)⟩

/-- the values ds, looked at, are xs -/
def RepPs (k : Kn) (F H : Hp) : List D → List V → Prop
  | [], xs => xs = []
  | d :: l, xs => ∃ x r, xs = x :: r ∧ RepP k F H d x ∧ RepPs k F H l r
/-- a value's operation made x of the heap H -/
def VR (k : Kn) (H F' H' : Hp) (v : Vr) (x : V) : Prop := match v with
  | .fz d => RepV k F' d x
  | .fr d => ∃ a, x = .ref a ∧ H a = none ∧ F' a = none ∧ d.mut = true ∧ RepP k F' H' d (.ref a)
/-- a reading of an operation on values -/
def rP (k : Kn) (g : List D → Option Vr) : List V → Hp → VK → Prop := fun xs H Q => ∃ F ds v, Sub F H ∧ RepPs k F H ds xs ∧ g ds = some v ∧
  ∀ x F' H', (∀ a o, H a = some o → H' a = some o ∧ F' a = F a) → Sub F' H' → VR k H F' H' v x → Q x H'

section
variable {k : Kn} {W : WX} {σ : L2.St} {ρ ρ1 ρ2 : Env} {F F1 F2 H H1 H2 : Hp}
theorem RR.base {H0 : Hp} {r : Rr} {x : V} (t : ∀ a, H a = none → H0 a = none) (h : RR k σ H ρ F1 H1 r x) : RR k σ H0 ρ F1 H1 r x := by
  cases r with
  | fz d => exact h
  | fr d => obtain ⟨a, h1, h2, h3, h4⟩ := h; exact ⟨a, h1, t a h2, h3, h4⟩
  | own i => exact h
/-- what was made stays so through what follows -/
theorem RR.next {H0 : Hp} {r : Rr} {x : V} (q : Rp k ρ F σ H) (h : RR k σ H0 ρ F H r x) (t : Tr k σ ρ F H σ ρ1 F1 H1) (o : ∀ i, r = .own i → ∃ s, ρ1[i]? = some s ∧ (s.own.isSome = true ∨ ∃ d, s = .lk d)) : RR k σ H0 ρ1 F1 H1 r x := by
  cases r with
  | fz d => exact RepV.mono (t.sub q) h
  | fr d =>
    obtain ⟨a, h1, h2, h3, h4, h5, h6⟩ := h
    obtain ⟨b, u, e, hu⟩ := h6.at h5
    cases e
    have no : ¬ Ow σ ρ a := fun z => h3 z.hd
    obtain ⟨k1, k2⟩ := t.keep a u hu no
    refine ⟨a, h1, h2, fun z => ?_, by rw [k2]; exact h4, h5, h6.mono (t.sub q) fun _ b o e ho => ?_⟩
    · rcases t.hld a z with z | z
      · exact h3 z
      · rw [hu] at z; cases z
    · cases e
      rw [hu] at ho
      cases ho
      exact k1
  | own i => exact ⟨h.1, o i rfl⟩
/-- looked at -/
theorem RR.pk {H0 : Hp} {r : Rr} {x : V} {d : D} (q : Rp k ρ F σ H) (h : RR k σ H0 ρ F H r x) (e : pkR r ρ = some d) : RepP k F H d x := by
  cases r with
  | fz d' => cases e; exact RepV.peek q.sub h
  | fr d' => cases e; obtain ⟨a, h1, _, _, _, _, h6⟩ := h; rw [h1]; exact h6
  | own i =>
    obtain ⟨h1, _⟩ := h
    have e' : (match ρ[i]? with
      | some (.ow d) => some d
      | some (.le d) => some d
      | some (.lk d) => some d
      | _ => none) = some d := e
    cases es : ρ[i]? with
    | none => rw [es] at e'; cases e'
    | some s =>
      rw [es] at e'
      have fin : s.con = some d → RepP k F H d x := fun ec => by
        obtain ⟨a, h3, _, h5⟩ := q.ownAt es ec
        rw [h1] at h3
        cases h3
        exact h5
      cases s <;> first | exact fin e' | cases e'
end
end VS

set_option Elab.async false
set_option linter.all false
set_option maxRecDepth 100000
set_option maxHeartbeats 2000000
/-! VS 4: expressions, one lemma a form. -/
namespace VS
open PySem PySem.Spec PyProof.Rows L2
section
variable {k : Kn} {W : WX} {σ : L2.St} {ρ ρ1 ρ2 : Env} {F F1 F2 H H0 H1 H2 : Hp}
theorem RR.later {r : Rr} {x : V} {d : D} (q : Rp k ρ F σ H) (h : RR k σ H0 ρ F H r x) (t : Tr k σ ρ F H σ ρ2 F2 H2) (e : pkR r ρ2 = some d) : RepP k F2 H2 d x := by
  cases r with
  | fz d' => exact RR.pk t.rp (RR.next q h t fun _ z => by cases z) e
  | fr d' => exact RR.pk t.rp (RR.next q h t fun _ z => by cases z) e
  | own i =>
    have e' : (match ρ2[i]? with
      | some (.ow d) => some d
      | some (.le d) => some d
      | some (.lk d) => some d
      | _ => none) = some d := e
    cases es : ρ2[i]? with
    | none => rw [es] at e'; cases e'
    | some s =>
      rw [es] at e'
      have fin : s.con = some d → RepP k F2 H2 d x := fun ec => by
        obtain ⟨a, h3, _, h5⟩ := t.rp.ownAt es ec
        rw [h.1] at h3
        cases h3
        exact h5
      cases s <;> first | exact fin e' | cases e'
theorem VR.rr {F' H' : Hp} {v : Vr} {x : V} (q : Rp k ρ F σ H) (d : ∀ a, H a = none → H0 a = none) (h : VR k H F' H' v x) : RR k σ H0 ρ F' H' v.rr x := by
  cases v with
  | fz e => exact h
  | fr e =>
    obtain ⟨a, h1, h2, h3, h4, h5⟩ := h
    refine ⟨a, h1, d a h2, fun z => ?_, h3, h4, h5⟩
    obtain ⟨o, ho⟩ := q.hdSome z
    rw [h2] at ho
    cases ho
/-- the end of an operation on values -/
theorem rP_end {g : List D → Option Vr} {ds : List D} {xs : List V} {Q : VK} {H0 : Hp} (r : Rp k ρ F σ H) (rep : RepPs k F H ds xs) (dm : ∀ a, H a = none → H0 a = none)
    (p : Pv k W σ ρ F H (outV (g ds) ρ) fun r ρ' F' H' => ∀ x, RR k σ H0 ρ' F' H' r x → Q x H') : rP k g xs H Q := by
  cases e : g ds with
  | none => rw [e] at p; exact False.elim p
  | some v =>
    rw [e] at p
    exact ⟨F, ds, v, r.sub, rep, e, fun x F' H' gr s vr => p F' H' (Tr.grow r gr s) x (VR.rr r dm vr)⟩
theorem outD_eq (o : Option D) (ρ : Env) : outD o ρ = outV (o.map Vr.fz) ρ := by cases o <;> rfl
theorem RepPs.one {d : D} {x : V} (h : RepP k F H d x) : RepPs k F H [d] [x] := ⟨x, [], rfl, h, rfl⟩
theorem RepPs.two {d e : D} {x y : V} (h : RepP k F H d x) (h' : RepP k F H e y) : RepPs k F H [d, e] [x, y] := ⟨x, [y], rfl, h, y, [], rfl, h', rfl⟩
end

def g2 (f : D → D → Option Vr) : List D → Option Vr
  | [a, b] => f a b
  | _ => none
def g1 (f : D → Option Vr) : List D → Option Vr
  | [a] => f a
  | _ => none
section
variable {X : Cx} {W : WX} {a b c e : Expr} {pos : Pos} {ma mb mc : Env → Out Rr}
theorem pk2_some {r q : Rr} {ρ : Env} {x y : D} (h : pk2 r q ρ = some (x, y)) : pkR r ρ = some x ∧ pkR q ρ = some y := by
  unfold pk2 at h
  split at h
  · cases h
    exact ⟨by assumption, by assumption⟩
  · cases h
theorem tV_two {f : D → D → Option Vr} {σ : L2.St} {H : Hp} {Q : VK} (h : tV (Cx.kn X) W (mTwo f ma mb) σ H Q) :
    tV (Cx.kn X) W ma σ H fun x H1 => tV (Cx.kn X) W mb σ H1 fun y H2 => rP (Cx.kn X) (g2 f) [x, y] H2 Q := by
  obtain ⟨ρ, F, r0, p⟩ := h
  refine ⟨ρ, F, r0, Pv.bind p fun r ρ1 F1 H1 _ t1 p1 x rr => ⟨ρ1, F1, t1.rp, Pv.bind p1 fun q ρ2 F2 H2 _ t2 p2 y rr2 => ?_⟩⟩
  cases e : pk2 r q ρ2 with
  | none => rw [e] at p2; exact False.elim p2
  | some d =>
    obtain ⟨d1, d2⟩ := d
    rw [e] at p2
    obtain ⟨e1, e2⟩ := pk2_some e
    exact rP_end (g := g2 f) (ds := [d1, d2]) (H0 := H) t2.rp (RepPs.two (RR.later t1.rp rr t2 e1) (RR.pk t2.rp rr2 e2)) (fun a z => t1.dom a (t2.dom a z)) p2
theorem ev_bin {op : Operator} {f : D → D → Option Vr} (ho : OpR X (binaryOp op) fun x y H Q => rP (Cx.kn X) (g2 f) [x, y] H Q) (ha : EV X W a ma) (hb : EV X W b mb) : EV X W (.BinOp a op b pos) (mTwo f ma mb) :=
  ⟨pe_mono (pe_op ho ha.pe hb.pe) fun _ _ _ h => tV_two h⟩
theorem ev_cmp {op : CmpOp} {f : D → D → Option Vr} (ho : OpR X (compareOp op) fun x y H Q => rP (Cx.kn X) (g2 f) [x, y] H Q) (ha : EV X W a ma) (hb : EV X W b mb) (hm : behindInMarks op b = false) : EV X W (.Compare a [op] [b] pos) (mTwo f ma mb) :=
  ⟨pe_mono (pe_cmpR ho ha.pe hb.pe hm) fun _ _ _ h => tV_two h⟩
theorem ev_ix {f : D → D → Option Vr} (ho : IxR X fun x y H Q => rP (Cx.kn X) (g2 f) [x, y] H Q) (ha : EV X W a ma) (hb : EV X W b mb) (hs : PlainIx b) : EV X W (.Subscript a b pos) (mTwo f ma mb) :=
  ⟨pe_mono (pe_ix ho ha.pe hb.pe hs) fun _ _ _ h => tV_two h⟩
/-- one operand -/
theorem tV_one {f : D → Option Vr} {σ : L2.St} {H : Hp} {Q : VK} (h : tV (Cx.kn X) W (mOne f ma) σ H Q) : tV (Cx.kn X) W ma σ H fun x H1 => rP (Cx.kn X) (g1 f) [x] H1 Q := by
  obtain ⟨ρ, F, r0, p⟩ := h
  refine ⟨ρ, F, r0, Pv.bind p fun r ρ1 F1 H1 _ t1 p1 x rr => ?_⟩
  cases e : pkR r ρ1 with
  | none => rw [e] at p1; exact False.elim p1
  | some d =>
    rw [e] at p1
    exact rP_end (g := g1 f) (ds := [d]) (H0 := H) t1.rp (RepPs.one (RR.pk t1.rp rr e)) t1.dom p1
theorem ev_un {op : UnaryOp} {f : D → Option Vr} (ho : UnR X (unaryOp op) fun x H Q => rP (Cx.kn X) (g1 f) [x] H Q) (ha : EV X W a ma) : EV X W (.UnaryOp op a pos) (mOne f ma) :=
  ⟨pe_mono (pe_un ho ha.pe) fun _ _ _ h => tV_one h⟩
/-! ### names, constants -/
theorem ev_var {i : Nat} {x : Str} (hN : X.N[i]? = some x) (hv : Vis X.env.scope x) (hd : (x == ("__debug__" : Str)) = false) (hcd : (x == ("__classdict__" : Str)) = false) : EV X W (.Name x pos) (mVar i) := by
  refine ⟨pe_mono (pe_var hN hv hd hcd) fun σ H Q ⟨ρ, F, r0, p⟩ => ?_⟩
  unfold mVar at p
  cases e : ρ[i]? with
  | none => rw [e] at p; exact False.elim p
  | some s =>
    rw [e] at p
    have q := r0.slot i s e
    have con : ∀ d, s.con = some d → Pv (Cx.kn X) W σ ρ F H (.ok (.own i) ρ) (fun r ρ' F' H' => ∀ x, RR (Cx.kn X) σ H ρ' F' H' r x → Q x H') → tVar i σ H Q := fun d ec p => by
      obtain ⟨a, h1, _, _⟩ := r0.ownAt e ec
      refine ⟨_, h1, Pv.ok r0 p _ ⟨h1, s, e, ?_⟩⟩
      cases s <;> first | exact .inl rfl | exact .inr ⟨_, rfl⟩ | cases ec
    cases s with
    | un => exact False.elim p
    | fz d => obtain ⟨v, h1, h2⟩ := q; exact ⟨v, h1, Pv.ok r0 p v h2⟩
    | lz d => obtain ⟨v, h1, h2⟩ := q; exact ⟨v, h1, Pv.ok r0 p v h2⟩
    | ow d => exact con d rfl p
    | le d => exact con d rfl p
    | lk d => exact con d rfl p
theorem ev_c {d : D} {v : V} (h : PE X e (tC v)) (r : ∀ F, RepV (Cx.kn X) F d v) : EV X W e (mCon d) :=
  ⟨pe_mono h fun _ _ _ ⟨_, F, r0, p⟩ => Pv.ok r0 p v (r F)⟩
theorem ev_int {i : Int} {j : Nat} : EV X W (.Constant (.int i) j pos) (mCon (.int i)) := ev_c pe_int fun _ => rfl
theorem ev_bl {i : Bool} {j : Nat} : EV X W (.Constant (.bool i) j pos) (mCon (.bl i)) := ev_c pe_bl fun _ => rfl
theorem ev_non {j : Nat} : EV X W (.Constant .none j pos) (mCon .non) := ev_c pe_non fun _ => rfl
theorem ev_str {i : Str} {j : Nat} : EV X W (.Constant (.str i) j pos) (mCon (.str i)) := ev_c pe_str fun _ => rfl
/-- a module's constant: a value d of the written part -/
structure GloV (X : Cx) (x : Str) (d : D) : Prop where
  ex : ∃ u v, X.mg x = some u ∧ RelV v u ∧ ∀ F, RepV (Cx.kn X) F d v
theorem ev_glo {x : Str} {d : D} (hg : Gl X x) (h : GloV X x d) (hd : (x == ("__debug__" : Str)) = false) : EV X W (.Name x pos) (mCon d) := by
  obtain ⟨u, v, h1, h2, h3⟩ := h.ex
  exact ev_c (pe_glob hg h1 h2 hd) h3
/-! ### tests -/
theorem truth_ok {k : Kn} {F H : Hp} {d : D} {x : V} {b : Bool} (r : RepP k F H d x) (s : Sub F H) (e : d.truth = some b) : TruV k.K x H b := by
  have em : ∀ {l : List D} {xs : List V}, RepL k F l xs → (!l.isEmpty) = !xs.isEmpty := fun {l xs} h => by
    have := h.length
    cases l <;> cases xs <;> simp_all
  cases d with
  | non => cases r; cases e; rfl
  | bl c => cases r; cases e; rfl
  | int i => cases r; cases e; rfl
  | str z =>
    cases r
    simp only [D.truth] at e
    split at e
    · rename_i h
      cases e
      refine ⟨by unfold szB at h; rw [sizeLine_eq]; exact Nat.le_of_ble_eq_true h, ?_⟩
      by_cases q : z.length = 0
      · rw [q]; rfl
      · have q' : ¬ ((z.length : Int) = 0) := by omega
        rw [bne_iff_ne.mpr q, bne_iff_ne.mpr q']
    · cases e
  | tup l =>
    have r' : RepV k F (.tup l) x := r
    unfold RepV at r'
    obtain ⟨a, xs, rfl, h2, h3⟩ := r'
    cases e
    exact .inr (.inl ⟨xs, sub_sqT s h2, em h3⟩)
  | lst l =>
    obtain ⟨a, xs, rfl, h2, h3⟩ := r
    cases e
    exact .inl ⟨xs, SqL.of h2, em h3⟩
  | rng lo hi => cases e
  | dic tk l =>
    cases tk with
    | true => cases e
    | false =>
      obtain ⟨a, xs, rfl, h2, h3⟩ := r
      cases e
      refine .inr (.inr ⟨xs, h2, ?_⟩)
      cases l with
      | nil =>
        unfold RepK at h3
        rw [h3]
        rfl
      | cons p l =>
        obtain ⟨q, d⟩ := p
        unfold RepK at h3
        obtain ⟨w, x, r, rfl, _⟩ := h3
        rfl
  | scr l =>
    have r' : RepV k F (.scr l) x := r
    unfold RepV at r'
    obtain ⟨a, rfl, h2⟩ := r'
    cases e
    refine .inl ⟨_, sub_sqL s h2, ?_⟩
    cases l <;> rfl
  | fn z => cases e
theorem tB_tru {σ : L2.St} {H : Hp} {Q : Bool → Hp → Prop} (h : tB (Cx.kn X) W (mTru ma) σ H Q) : tV (Cx.kn X) W ma σ H fun x H1 => ∃ b, TruV X.K x H1 b ∧ Q b H1 := by
  obtain ⟨ρ, F, r0, p⟩ := h
  refine ⟨ρ, F, r0, Pv.bind p fun r ρ1 F1 H1 _ t1 p1 x rr => ?_⟩
  unfold truR at p1
  cases e : pkR r ρ1 with
  | none => rw [e] at p1; exact False.elim p1
  | some d =>
    rw [e] at p1
    cases e2 : d.truth with
    | none => rw [Option.bind_some, e2] at p1; exact False.elim p1
    | some b =>
      rw [Option.bind_some, e2] at p1
      exact ⟨b, truth_ok (RR.pk t1.rp rr e) t1.rp.sub e2, Pv.ok t1.rp p1⟩
/-- an expression as a test -/
theorem et_val (ha : EV X W a ma) (he : ∀ whole, isTrue a X.env whole = (do let v ← whole; standAt a.pos; holding [v] (truthy v))) : ET X W a (mTru ma) :=
  ⟨pt_mono (pt_truth ha.pe he) fun _ _ _ h => tB_tru h⟩
theorem et_cmp {op : CmpOp} {f : D → D → Option Vr} (ho : OpR X (compareOp op) fun x y H Q => rP (Cx.kn X) (g2 f) [x, y] H Q) (hf : ∀ x y v, f x y = some v → ∃ c, v = .fz (.bl c)) (ha : EV X W a ma) (hb : EV X W b mb) (hm : behindInMarks op b = false) :
    ET X W (.Compare a [op] [b] pos) (mTru (mTwo f ma mb)) := by
  refine ⟨pt_mono (pt_cmpR ho ha.pe hb.pe hm) fun σ H Q h => ?_⟩
  have q := tV_two (tB_tru h)
  obtain ⟨ρ, F, r0, p⟩ := q
  refine ⟨ρ, F, r0, ?_⟩
  have go : ∀ {r1 : Rr} {ρ1 : Env} {F1 H1 : Hp}, (∀ x, RR (Cx.kn X) σ H ρ1 F1 H1 r1 x → tV (Cx.kn X) W mb σ H1 fun y H2 => rP (Cx.kn X) (g2 f) [x, y] H2 fun x H3 => ∃ b, TruV X.K x H3 b ∧ Q b H3) →
      ∀ x, RR (Cx.kn X) σ H ρ1 F1 H1 r1 x → tV (Cx.kn X) W mb σ H1 fun y H2 => rP (Cx.kn X) (g2 f) [x, y] H2 fun x H3 => ∃ k, x = .bl k ∧ Q k H3 := fun {r1 ρ1 F1 H1} hh x rr => by
    obtain ⟨ρ2, F2, r2, p2⟩ := hh x rr
    refine ⟨ρ2, F2, r2, ?_⟩
    cases e : mb ρ2 with
    | bad => rw [e] at p2; exact p2
    | exc c v ρ' => rw [e] at p2; exact p2
    | ok r' ρ' =>
      rw [e] at p2
      intro F' H' t y ry
      obtain ⟨F3, ds, v, s, rep, eg, fin⟩ := p2 F' H' t y ry
      refine ⟨F3, ds, v, s, rep, eg, fun z F4 H4 g4 s4 vr => ?_⟩
      obtain ⟨b, tb, qb⟩ := fin z F4 H4 g4 s4 vr
      obtain ⟨d1, d2, rfl⟩ : ∃ d1 d2, ds = [d1, d2] := by
        unfold g2 at eg
        split at eg
        · exact ⟨_, _, rfl⟩
        · cases eg
      obtain ⟨c, rfl⟩ := hf d1 d2 v eg
      have ez : z = .bl c := vr
      subst ez
      have tb' : b = c := tb
      subst tb'
      exact ⟨b, rfl, qb⟩
  cases e : ma ρ with
  | bad => rw [e] at p; exact p
  | exc c v ρ' => rw [e] at p; exact p
  | ok r' ρ' =>
    rw [e] at p
    intro F' H' t
    exact go (p F' H' t)
end
end VS

set_option Elab.async false
set_option linter.all false
set_option maxRecDepth 100000
set_option maxHeartbeats 2000000
/-! VS 5: what is kept; and, or, not; displays; slices; built-in calls. -/
namespace VS
open PySem PySem.Spec PyProof.Rows L2
section
variable {k : Kn} {W : WX} {σ : L2.St} {ρ ρ1 ρ2 : Env} {F F1 F2 H H0 H1 H2 : Hp}
theorem set_get {α : Type} {l : List α} {i j : Nat} {x y : α} (h : (l.set i x)[j]? = some y) : (i = j ∧ y = x ∧ j < l.length) ∨ (i ≠ j ∧ l[j]? = some y) := by
  by_cases e : i = j
  · subst e
    by_cases hl : i < l.length
    · rw [List.getElem?_set_self hl] at h
      exact .inl ⟨rfl, (Option.some.inj h).symm, hl⟩
    · rw [List.getElem?_eq_none (by rw [List.length_set]; omega)] at h
      cases h
  · rw [List.getElem?_set_ne e] at h
    exact .inr ⟨e, h⟩
/-- a slot's flag changed to one that owns nothing -/
theorem Rp.setN {i : Nat} {s : Sl} (r : Rp k ρ F σ H) (hs : s.con = none) (ok : SlOk k F H (σ[i]?) s) : Rp k (ρ.set i s) F σ H := by
  have no : s.own = none := by cases s <;> first | rfl | cases hs
  refine ⟨by rw [List.length_set]; exact r.len, r.sub, fun j t h => ?_, fun j l t u d e a h1 h2 h3 h4 h5 h6 => ?_, fun j l u d e a h1 h2 h3 h4 => ?_⟩
  · rcases set_get h with ⟨rfl, rfl, _⟩ | ⟨_, h⟩
    · exact ok
    · exact r.slot j t h
  · rcases set_get h1 with ⟨_, rfl, _⟩ | ⟨_, h1⟩
    · rw [no] at h3; cases h3
    · rcases set_get h2 with ⟨_, rfl, _⟩ | ⟨_, h2⟩
      · rw [no] at h4; cases h4
      · exact r.disj j l t u d e a h1 h2 h3 h4 h5 h6
  · rcases set_get h1 with ⟨_, rfl, _⟩ | ⟨_, h1⟩
    · cases hs
    · rcases set_get h2 with ⟨_, rfl, _⟩ | ⟨_, h2⟩
      · rw [no] at h3; cases h3
      · exact r.lkd j l u d e a h1 h2 h3 h4
theorem Ow.setN {i : Nat} {s : Sl} {a : Addr} (hs : s.con = none) (h : Ow σ (ρ.set i s) a) : Ow σ ρ a := by
  have no : s.own = none := by cases s <;> first | rfl | cases hs
  obtain ⟨j, t, d, h1, h2, h3⟩ := h
  rcases set_get h1 with ⟨_, rfl, _⟩ | ⟨_, h1⟩
  · rw [no] at h2; cases h2
  · exact ⟨j, t, d, h1, h2, h3⟩
theorem Hd.setN {i : Nat} {s : Sl} {a : Addr} (hs : s.con = none) (h : Hd σ (ρ.set i s) a) : Hd σ ρ a := by
  obtain ⟨j, t, d, h1, h2, h3⟩ := h
  rcases set_get h1 with ⟨_, rfl, _⟩ | ⟨_, h1⟩
  · rw [hs] at h2; cases h2
  · exact ⟨j, t, d, h1, h2, h3⟩
theorem Sl.own_con {s : Sl} {d : D} (h : s.own = some d) : s.con = some d := by cases s <;> first | exact h | cases h
/-- THE STEP «keep»: what is kept is frozen -/
theorem use_ok {r : Rr} {x : V} {d : D} (r0 : Rp k ρ F σ H0) (t : Tr k σ ρ F H0 σ ρ1 F1 H1) (h : RR k σ H0 ρ1 F1 H1 r x) (e : useR r ρ1 = .ok d ρ2) : ∃ F2, Tr k σ ρ F H0 σ ρ2 F2 H1 ∧ RepV k F2 d x := by
  -- frozen, the slots ρ' own nothing new
  have go : ∀ {ρ' : Env} {a : Addr} {d : D}, Rp k ρ' F1 σ H1 → ¬ Hd σ ρ' a → d.mut = true → RepP k F1 H1 d (.ref a) → (H0 a = none ∨ Ow σ ρ a) →
      (∀ b, Ow σ ρ' b → Ow σ ρ1 b) → (∀ b, Hd σ ρ' b → Hd σ ρ1 b) → (∀ (i : Nat) (s : Sl), ρ[i]? = some s → s.fixd = true → ∃ s', ρ'[i]? = some s' ∧ s.follows s') → (∀ (i : Nat) (d : D), ρ'[i]? = some (.lk d) → ρ[i]? = some (.lk d)) → ∃ F2, Tr k σ ρ F H0 σ ρ' F2 H1 ∧ RepV k F2 d (.ref a) := fun {ρ' a d} q nh m p ha ho hh hf hk => by
    obtain ⟨F2, s2, r2, v2, ne⟩ := Tr.freeze (H0 := H0) q nh m p
    refine ⟨F2, ⟨r2, fun b o hb nb => ?_, t.dom, fun b hb => t.own b (ho b hb), fun b hb => t.hld b (hh b hb), fun i s h1 h2 => ⟨rfl, hf i s h1 h2⟩, fun i d h => ⟨hk i d h, rfl⟩⟩, v2⟩
    obtain ⟨k1, k2⟩ := t.keep b o hb nb
    refine ⟨k1, (ne b fun z => ?_).trans k2⟩
    subst z
    rcases ha with z | z
    · rw [hb] at z; cases z
    · exact nb z
  cases r with
  | fz d' => cases e; exact ⟨F1, t, h⟩
  | fr d' =>
    cases e
    obtain ⟨a, rfl, h2, h3, _, h5, h6⟩ := h
    exact go t.rp h3 h5 h6 (.inl h2) (fun _ z => z) (fun _ z => z) (fun i s h1 h2 => (t.fix i s h1 h2).2) fun i d h => (t.lks i d h).1
  | own i =>
    obtain ⟨h1, _⟩ := h
    have e' : (match ρ1[i]? with
      | some (.ow d) => Out.ok d (ρ1.set i (.fz d))
      | some (.le d) => .ok d (ρ1.set i (.lz d))
      | _ => .bad) = .ok d ρ2 := e
    have both : ∀ {s n : Sl}, ρ1[i]? = some s → s.own = some d → n.con = none → (∀ F2, RepV k F2 d x → SlOk k F2 H1 (σ[i]?) n) → (∀ t : Sl, t.fixd = true → t.follows s → t.follows n) → ∃ F2, Tr k σ ρ F H0 σ (ρ1.set i n) F2 H1 ∧ RepV k F2 d x := fun {s n} es eo nc ok fol => by
      obtain ⟨a, h3, h4, h5⟩ := t.rp.ownAt es (Sl.own_con eo)
      rw [h1] at h3
      cases h3
      have nh : ¬ Hd σ (ρ1.set i .un) a := fun z => by
        obtain ⟨j, u, e2, q1, q2, q3⟩ := z
        rcases set_get q1 with ⟨_, rfl, _⟩ | ⟨ne, q1⟩
        · cases q2
        · cases u with
          | ow w => exact ne (t.rp.disj i j s _ d _ a es q1 eo rfl h1 q3)
          | le w => exact ne (t.rp.disj i j s _ d _ a es q1 eo rfl h1 q3)
          | lk w => exact t.rp.lkd j i s _ d a q1 es eo q3 h1
          | _ => cases q2
      have r1 : Rp k (ρ1.set i .un) F1 σ H1 := t.rp.setN rfl trivial
      obtain ⟨F2, s2, r2, v2, ne⟩ := Tr.freeze (H0 := H0) r1 nh h4 h5
      have r3 : Rp k (ρ1.set i n) F2 σ H1 := by
        have q := r2.setN (i := i) (s := n) nc (ok F2 v2)
        rw [List.set_set] at q
        exact q
      have oa : H0 a = none ∨ Ow σ ρ a := (t.own a ⟨i, s, d, es, eo, h1⟩).symm
      refine ⟨F2, ⟨r3, fun b o hb nb => ?_, t.dom, fun b hb => t.own b (hb.setN nc), fun b hb => t.hld b (hb.setN nc), fun j u h1 h2 => ⟨rfl, ?_⟩, fun j w h => ?_⟩, v2⟩
      · obtain ⟨k1, k2⟩ := t.keep b o hb nb
        refine ⟨k1, (ne b fun z => ?_).trans k2⟩
        subst z
        rcases oa with z | z
        · rw [hb] at z; cases z
        · exact nb z
      · obtain ⟨_, u', q1, q2⟩ := t.fix j u h1 h2
        by_cases ej : i = j
        · subst ej
          rw [es] at q1
          cases q1
          have hl : i < ρ1.length := (List.getElem?_eq_some_iff.mp es).1
          exact ⟨n, List.getElem?_set_self hl, fol u h2 q2⟩
        · exact ⟨u', by rw [List.getElem?_set_ne ej]; exact q1, q2⟩
      · rcases set_get h with ⟨_, e1, _⟩ | ⟨_, h⟩
        · rw [← e1] at nc; cases nc
        · exact t.lks j w h
    cases es : ρ1[i]? with
    | none => rw [es] at e'; cases e'
    | some s =>
      rw [es] at e'
      cases s with
      | ow w =>
        cases e'
        exact both es rfl rfl (fun F2 v => ⟨x, h1, v⟩) fun t ft fo => by
          cases t with
          | le z => rcases fo with ⟨_, q⟩ | ⟨_, q⟩ <;> cases q
          | lz z => cases fo
          | lk z => cases fo
          | _ => cases ft
      | le w =>
        cases e'
        exact both es rfl rfl (fun F2 v => ⟨x, h1, v⟩) fun t ft fo => by
          cases t with
          | le z => exact .inr ⟨_, rfl⟩
          | lz z => cases fo
          | lk z => cases fo
          | _ => cases ft
      | _ => cases e'
/-- .. and on -/
theorem Pv.use {β : Type} {r : Rr} {x : V} {f : D → Env → Out β} {R : β → Env → Hp → Hp → Prop} {G : Prop} (r0 : Rp k ρ F σ H0) (t : Tr k σ ρ F H0 σ ρ1 F1 H1) (h : RR k σ H0 ρ1 F1 H1 r x)
    (p : Pv k W σ ρ F H0 ((useR r ρ1).bind f) R) (g : ∀ d ρ2 F2, Tr k σ ρ F H0 σ ρ2 F2 H1 → RepV k F2 d x → Pv k W σ ρ F H0 (f d ρ2) R → G) : G := by
  cases e : useR r ρ1 with
  | ok d ρ2 =>
    rw [e] at p
    obtain ⟨F2, t2, v⟩ := use_ok r0 t h e
    exact g d ρ2 F2 t2 v p
  | exc c v ρ2 =>
    exfalso
    unfold useR at e
    repeat (first | cases e | split at e)
  | bad =>
    rw [e] at p
    exact False.elim p
/-- the first of two in a row, the start kept -/
theorem Pv.bind0 {α β : Type} {m : Out α} {f : α → Env → Out β} {R : β → Env → Hp → Hp → Prop} {R1 : α → Env → Hp → Hp → Prop} (p : Pv k W σ ρ F H (m.bind f) R)
    (h : ∀ a ρ1 F1 H1, Tr k σ ρ F H σ ρ1 F1 H1 → Pv k W σ ρ F H (f a ρ1) R → R1 a ρ1 F1 H1) : Pv k W σ ρ F H m R1 := by
  cases m with
  | ok a ρ' => exact fun F' H' t => h a ρ' F' H' t p
  | exc c v ρ' => exact p
  | bad => exact p
end

/-- a settled value -/
theorem settle_ok {k : Kn} {σ : L2.St} {ρ ρ1 : Env} {F F1 H0 H1 : Hp} {r : Rr} {x : V} (t : Tr k σ ρ F H0 σ ρ1 F1 H1) (h : RR k σ H0 ρ1 F1 H1 r x) : ∃ F2, Tr k σ ρ F H0 σ ρ1 F2 H1 ∧ RR k σ H0 ρ1 F2 H1 (settle r) x := by
  cases r with
  | fz d => exact ⟨F1, t, h⟩
  | own i => exact ⟨F1, t, h⟩
  | fr d =>
    obtain ⟨a, rfl, h2, h3, h4, h5, h6⟩ := h
    obtain ⟨F2, s2, r2, v2, ne⟩ := Tr.freeze (H0 := H0) t.rp h3 h5 h6
    refine ⟨F2, ⟨r2, fun b o hb nb => ?_, t.dom, t.own, t.hld, t.fix, t.lks⟩, v2⟩
    obtain ⟨k1, k2⟩ := t.keep b o hb nb
    refine ⟨k1, (ne b fun z => ?_).trans k2⟩
    subst z
    rw [hb] at h2
    cases h2
/-! ### argument lists -/
/-- kept -/
def tU (k : Kn) (W : WX) (m : Env → Out (List D)) : TA := fun σ H Q => ∃ ρ F, Rp k ρ F σ H ∧ Pv k W σ ρ F H (m ρ) fun ds ρ' F' H' => ∀ xs, RepL k F' ds xs → Q xs H'
/-- looked at: frozen ones, slots -/
def RS (k : Kn) (σ : L2.St) (F : Hp) (r : Rr) (x : V) : Prop := match r with
  | .fz d => RepV k F d x
  | .fr _ => False
  | .own i => σ[i]? = some (some x)
def RSs (k : Kn) (σ : L2.St) (F : Hp) : List Rr → List V → Prop
  | [], xs => xs = []
  | r :: l, xs => ∃ x t, xs = x :: t ∧ RS k σ F r x ∧ RSs k σ F l t
theorem RS.pk {k : Kn} {σ : L2.St} {ρ : Env} {F H : Hp} {r : Rr} {x : V} {d : D} (q : Rp k ρ F σ H) (h : RS k σ F r x) (e : pkR r ρ = some d) : RepP k F H d x := by
  cases r with
  | fz d' => cases e; exact RepV.peek q.sub h
  | fr d' => exact h.elim
  | own i =>
    have e' : (match ρ[i]? with
      | some (.ow d) => some d
      | some (.le d) => some d
      | some (.lk d) => some d
      | _ => none) = some d := e
    cases es : ρ[i]? with
    | none => rw [es] at e'; cases e'
    | some s =>
      rw [es] at e'
      have fin : s.con = some d → RepP k F H d x := fun ec => by
        obtain ⟨a, h3, _, h5⟩ := q.ownAt es ec
        rw [show σ[i]? = some (some x) from h] at h3
        cases h3
        exact h5
      cases s <;> first | exact fin e' | cases e'
theorem RSs.pk {k : Kn} {σ : L2.St} {ρ : Env} {F H : Hp} (q : Rp k ρ F σ H) : ∀ {rs : List Rr} {xs : List V} {ds : List D}, RSs k σ F rs xs → pkRs rs ρ = some ds → RepPs k F H ds xs
  | [], xs, ds, h, e => by
    cases e
    exact h
  | r :: l, xs, ds, h, e => by
    obtain ⟨x, t, rfl, h1, h2⟩ := h
    have e' : (match pkR r ρ with
      | some d => (pkRs l ρ).map (d :: ·)
      | none => none) = some ds := e
    cases ek : pkR r ρ with
    | none => rw [ek] at e'; cases e'
    | some d =>
      rw [ek] at e'
      obtain ⟨es, e1, e2⟩ := Option.map_eq_some_iff.mp e'
      subst e2
      exact ⟨x, t, rfl, h1.pk q ek, RSs.pk q h2 e1⟩
def tL (k : Kn) (W : WX) (m : Env → Out (List Rr)) : TA := fun σ H Q => ∃ ρ F, Rp k ρ F σ H ∧ Pv k W σ ρ F H (m ρ) fun rs ρ' F' H' => ∀ xs, RSs k σ F' rs xs → Q xs H'
structure EU (X : Cx) (W : WX) (es : List Expr) (m : Env → Out (List D)) : Prop where
  pa : PA X es (tU (Cx.kn X) W m)
structure EL (X : Cx) (W : WX) (es : List Expr) (m : Env → Out (List Rr)) : Prop where
  pa : PA X es (tL (Cx.kn X) W m)
theorem pa_mono {X : Cx} {es : List Expr} {t u : TA} (h : PA X es t) (g : ∀ σ H Q, u σ H Q → t σ H Q) : PA X es u := ⟨fun pos pins s σ H Q I w => h.run pos pins s σ H Q I (g σ H Q w)⟩
section
variable {X : Cx} {W : WX} {a b c e : Expr} {es : List Expr} {pos : Pos} {ma mb mc : Env → Out Rr} {mu : Env → Out (List D)} {ml : Env → Out (List Rr)}
theorem eu_nil : EU X W [] (fun ρ => .ok [] ρ) := ⟨pa_mono pa_nil fun _ _ _ ⟨_, _, r0, p⟩ => Pv.ok r0 p [] RepL.nil⟩
theorem el_nil : EL X W [] (fun ρ => .ok [] ρ) := ⟨pa_mono pa_nil fun _ _ _ ⟨_, _, r0, p⟩ => Pv.ok r0 p [] rfl⟩
theorem eu_cons (ha : EV X W a ma) (hr : EU X W es mu) (hs : starEach (a :: es) X.env = (false, eval a X.env) :: starEach es X.env) : EU X W (a :: es) (mUs ma mu) := by
  refine ⟨pa_mono (pa_cons ha.pe hr.pa hs) fun σ H Q ⟨ρ, F, r0, p⟩ => ?_⟩
  refine ⟨ρ, F, r0, Pv.bind0 p fun r ρ1 F1 H1 t1 p1 x rr => Pv.use r0 t1 rr p1 fun d ρ2 F2 t2 v p2 => ⟨ρ2, F2, t2.rp, ?_⟩⟩
  refine Pv.bind (Pv.shift t2 p2) fun ds ρ3 F3 H3 _ t3 p3 xs hx => ?_
  exact Pv.ok t3.rp p3 (x :: xs) (RepL.cons (RepV.mono (t3.sub t2.rp) v) hx)
theorem pkR_settle (r : Rr) (ρ : Env) : pkR (settle r) ρ = pkR r ρ := by cases r <;> rfl
theorem el_cons (ha : EV X W a ma) (hr : EL X W es ml) (hs : starEach (a :: es) X.env = (false, eval a X.env) :: starEach es X.env) : EL X W (a :: es) (mLs ma ml) := by
  refine ⟨pa_mono (pa_cons ha.pe hr.pa hs) fun σ H Q ⟨ρ, F, r0, p⟩ => ?_⟩
  refine ⟨ρ, F, r0, Pv.bind0 p fun r ρ1 F1 H1 t1 p1 x rr => ?_⟩
  obtain ⟨F2, t2, r2⟩ := settle_ok t1 rr
  refine ⟨ρ1, F2, t2.rp, Pv.bind (Pv.shift t2 p1) fun rs ρ2 F3 H2 _ t3 p2 xs hx => Pv.ok t3.rp p2 (x :: xs) ⟨x, xs, rfl, ?_, hx⟩⟩
  cases r with
  | fz d => exact RepV.mono (t3.sub t2.rp) r2
  | fr d => exact RepV.mono (t3.sub t2.rp) r2
  | own i => exact r2.1

/-! ### and, or, not, conditional expressions -/
structure EW (X : Cx) (W : WX) (e : Expr) (m : Env → Out Bool) : Prop where
  pw : PW X e (tB (Cx.kn X) W m)
theorem EW.et {m : Env → Out Bool} (h : EW X W e m) : ET X W e m := ⟨h.pw.pt⟩
theorem pw_mono {t u : TT} (h : PW X e t) (g : ∀ σ H Q, u σ H Q → t σ H Q) : PW X e u := ⟨fun wh pins s σ H Q I w => h.run wh pins s σ H Q I (g σ H Q w)⟩
variable {ta tb tc : Env → Out Bool} {rest : List Expr}
theorem ew_and1 (ha : ET X W a ta) : EW X W (.BoolOp .And [a] pos) ta := ⟨pw_and1 ha.pt⟩
theorem ew_or1 (ha : ET X W a ta) : EW X W (.BoolOp .Or [a] pos) ta := ⟨pw_or1 ha.pt⟩
theorem ew_and (ha : ET X W a ta) (hr : EW X W (.BoolOp .And (b :: rest) pos) tb) : EW X W (.BoolOp .And (a :: b :: rest) pos) (mAndT ta tb) := by
  refine ⟨pw_mono (pw_and ha.pt hr.pw) fun σ H Q ⟨ρ, F, r0, p⟩ => ⟨ρ, F, r0, Pv.bind p fun c ρ1 F1 H1 _ t1 p1 => ?_⟩⟩
  cases c with
  | true => rw [if_pos rfl]; exact ⟨ρ1, F1, t1.rp, p1⟩
  | false => rw [if_neg Bool.false_ne_true]; exact Pv.ok t1.rp p1
theorem ew_or (ha : ET X W a ta) (hr : EW X W (.BoolOp .Or (b :: rest) pos) tb) : EW X W (.BoolOp .Or (a :: b :: rest) pos) (mOrT ta tb) := by
  refine ⟨pw_mono (pw_or ha.pt hr.pw) fun σ H Q ⟨ρ, F, r0, p⟩ => ⟨ρ, F, r0, Pv.bind p fun c ρ1 F1 H1 _ t1 p1 => ?_⟩⟩
  cases c with
  | false => rw [if_neg Bool.false_ne_true]; exact ⟨ρ1, F1, t1.rp, p1⟩
  | true => rw [if_pos rfl]; exact Pv.ok t1.rp p1
theorem et_not (ha : ET X W a ta) : ET X W (.UnaryOp .Not a pos) (mNotT ta) :=
  ⟨pt_mono (pt_not ha.pt) fun σ H Q ⟨ρ, F, r0, p⟩ => ⟨ρ, F, r0, Pv.bind p fun c ρ1 F1 H1 _ t1 p1 => Pv.ok t1.rp p1⟩⟩
/-- .. as values -/
theorem truR_some {r : Rr} {ρ ρ1 : Env} {b : Bool} (h : truR r ρ = .ok b ρ1) : ρ1 = ρ ∧ ∃ d, pkR r ρ = some d ∧ d.truth = some b := by
  unfold truR at h
  cases e : pkR r ρ with
  | none => rw [e] at h; cases h
  | some d =>
    rw [e, Option.bind_some] at h
    cases e2 : d.truth with
    | none => rw [e2] at h; cases h
    | some c => rw [e2] at h; cases h; exact ⟨rfl, d, rfl, e2⟩
theorem truR_exc {r : Rr} {ρ ρ1 : Env} {c : Str} {v : Option D} (h : truR r ρ = .exc c v ρ1) : False := by
  unfold truR at h
  split at h <;> cases h
theorem ev_and (ha : EV X W a ma) (hr : EV X W (.BoolOp .And (b :: rest) pos) mb) : EV X W (.BoolOp .And (a :: b :: rest) pos) (mAndV ma mb) := by
  refine ⟨pe_mono (pe_andT ha.pe hr.pe) fun σ H Q ⟨ρ, F, r0, p⟩ => ⟨ρ, F, r0, Pv.bind0 p fun r ρ1 F1 H1 t1 p1 x rr => ?_⟩⟩
  cases e : truR r ρ1 with
  | bad => rw [e] at p1; exact False.elim p1
  | exc c v ρ2 => exact (truR_exc e).elim
  | ok c ρ2 =>
    rw [e] at p1
    obtain ⟨rfl, d, e1, e2⟩ := truR_some e
    refine ⟨c, truth_ok (RR.pk t1.rp rr e1) t1.rp.sub e2, ?_⟩
    cases c with
    | true =>
      rw [if_pos rfl]
      refine ⟨ρ2, F1, t1.rp, ?_⟩
      cases em : mb ρ2 with
      | bad =>
        have p1' : Pv (Cx.kn X) W σ ρ F H (mb ρ2) _ := p1
        rw [em] at p1'
        exact p1'
      | exc c v ρ3 =>
        have p1' : Pv (Cx.kn X) W σ ρ F H (mb ρ2) _ := p1
        rw [em] at p1'
        exact fun F' H' u => p1' F' H' (t1.trans u)
      | ok r' ρ3 =>
        have p1' : Pv (Cx.kn X) W σ ρ F H (mb ρ2) _ := p1
        rw [em] at p1'
        exact fun F' H' u y ry => p1' F' H' (t1.trans u) y (RR.base t1.dom ry)
    | false =>
      rw [if_neg Bool.false_ne_true]
      exact p1 F1 H1 t1 x rr
theorem ev_or (ha : EV X W a ma) (hr : EV X W (.BoolOp .Or (b :: rest) pos) mb) : EV X W (.BoolOp .Or (a :: b :: rest) pos) (mOrV ma mb) := by
  refine ⟨pe_mono (pe_orT ha.pe hr.pe) fun σ H Q ⟨ρ, F, r0, p⟩ => ⟨ρ, F, r0, Pv.bind0 p fun r ρ1 F1 H1 t1 p1 x rr => ?_⟩⟩
  cases e : truR r ρ1 with
  | bad => rw [e] at p1; exact False.elim p1
  | exc c v ρ2 => exact (truR_exc e).elim
  | ok c ρ2 =>
    rw [e] at p1
    obtain ⟨rfl, d, e1, e2⟩ := truR_some e
    refine ⟨c, truth_ok (RR.pk t1.rp rr e1) t1.rp.sub e2, ?_⟩
    cases c with
    | false =>
      rw [if_neg Bool.false_ne_true]
      refine ⟨ρ2, F1, t1.rp, ?_⟩
      cases em : mb ρ2 with
      | bad =>
        have p1' : Pv (Cx.kn X) W σ ρ F H (mb ρ2) _ := p1
        rw [em] at p1'
        exact p1'
      | exc c v ρ3 =>
        have p1' : Pv (Cx.kn X) W σ ρ F H (mb ρ2) _ := p1
        rw [em] at p1'
        exact fun F' H' u => p1' F' H' (t1.trans u)
      | ok r' ρ3 =>
        have p1' : Pv (Cx.kn X) W σ ρ F H (mb ρ2) _ := p1
        rw [em] at p1'
        exact fun F' H' u y ry => p1' F' H' (t1.trans u) y (RR.base t1.dom ry)
    | true =>
      rw [if_pos rfl]
      exact p1 F1 H1 t1 x rr
theorem ev_one {op : BoolOp} (ha : EV X W a ma) : EV X W (.BoolOp op [a] pos) ma := ⟨pe_one ha.pe⟩
theorem ev_not (ha : EV X W a ma) : EV X W (.UnaryOp .Not a pos) (mNotV ma) := by
  refine ⟨pe_mono (pe_notT ha.pe) fun σ H Q ⟨ρ, F, r0, p⟩ => ⟨ρ, F, r0, Pv.bind p fun r ρ1 F1 H1 _ t1 p1 x rr => ?_⟩⟩
  cases e : truR r ρ1 with
  | bad => rw [e] at p1; exact False.elim p1
  | exc c v ρ2 => exact (truR_exc e).elim
  | ok c ρ2 =>
    rw [e] at p1
    obtain ⟨rfl, d, e1, e2⟩ := truR_some e
    exact ⟨c, truth_ok (RR.pk t1.rp rr e1) t1.rp.sub e2, Pv.ok t1.rp p1 _ rfl⟩
theorem tV_from {σ : L2.St} {ρ ρ1 : Env} {F F1 H H1 : Hp} {Q : VK} (t1 : Tr (Cx.kn X) σ ρ F H σ ρ1 F1 H1) (p : Pv (Cx.kn X) W σ ρ F H (ma ρ1) fun r ρ' F' H' => ∀ x, RR (Cx.kn X) σ H ρ' F' H' r x → Q x H') : tV (Cx.kn X) W ma σ H1 Q := by
  refine ⟨ρ1, F1, t1.rp, ?_⟩
  cases em : ma ρ1 with
  | bad => rw [em] at p; exact p
  | exc c v ρ3 => rw [em] at p; exact fun F' H' u => p F' H' (t1.trans u)
  | ok r' ρ3 => rw [em] at p; exact fun F' H' u y ry => p F' H' (t1.trans u) y (RR.base t1.dom ry)
theorem ev_ite (hc : ET X W c tc) (ha : EV X W a ma) (hb : EV X W b mb) : EV X W (.IfExp c a b pos) (mIte tc ma mb) := by
  refine ⟨pe_mono (pe_ifExp hc.pt ha.pe hb.pe) fun σ H Q ⟨ρ, F, r0, p⟩ => ⟨ρ, F, r0, Pv.bind0 p fun k ρ1 F1 H1 t1 p1 => ?_⟩⟩
  cases k with
  | true => rw [if_pos rfl]; exact tV_from t1 p1
  | false => rw [if_neg Bool.false_ne_true]; exact tV_from t1 p1

/-! ### displays -/
theorem szB_ok {n : Nat} (h : szB n = true) : n ≤ sizeLine := by
  unfold szB at h
  rw [sizeLine_eq]
  exact Nat.le_of_ble_eq_true h
theorem upd_grow {F H : Hp} {p : Addr} {o : HO} (hp : H p = none) : ∀ a u, H a = some u → upd H p o a = some u ∧ upd F p o a = F a := fun a u h => by
  have ne : a ≠ p := fun z => by rw [z, hp] at h; cases h
  exact ⟨by rw [upd_ne ne]; exact h, upd_ne ne⟩
theorem upd_sub {F H : Hp} {p : Addr} {o : HO} (s : Sub F H) : Sub (upd F p o) (upd H p o) := fun a u h => by
  by_cases e : a = p
  · subst e; rw [upd_same] at h ⊢; exact h
  · rw [upd_ne e] at h ⊢; exact s a u h
theorem upd_grow0 {F H : Hp} {p : Addr} {o : HO} (hp : H p = none) : ∀ a u, H a = some u → upd H p o a = some u ∧ F a = F a := fun a u h => by
  have ne : a ≠ p := fun z => by rw [z, hp] at h; cases h
  exact ⟨by rw [upd_ne ne]; exact h, rfl⟩
theorem sub_upd0 {F H : Hp} {p : Addr} {o : HO} (s : Sub F H) (hp : H p = none) : Sub F (upd H p o) := fun a u h => by
  have ne : a ≠ p := fun z => by rw [z] at h; rw [s p u h] at hp; cases hp
  rw [upd_ne ne]; exact s a u h
theorem sub_none {F H : Hp} {p : Addr} (s : Sub F H) (hp : H p = none) : F p = none := by
  cases e : F p with
  | none => rfl
  | some o => rw [s p o e] at hp; cases hp
theorem subF_upd {F H : Hp} {p : Addr} {o : HO} (s : Sub F H) (hp : H p = none) : Sub F (upd F p o) := fun a u h => by
  have ne : a ≠ p := fun z => by rw [z] at h; rw [sub_none s hp] at h; cases h
  rw [upd_ne ne]; exact h
theorem ev_tup {kk : Nat} (h : EU X W es mu) : EV X W (.Tuple es kk pos) (mTup mu) := by
  refine ⟨pe_mono (pe_tup h.pa) fun σ H Q ⟨ρ, F, r0, p⟩ => ⟨ρ, F, r0, Pv.bind p fun ds ρ1 F1 H1 _ t1 p1 xs hx => ?_⟩⟩
  by_cases z : szB ds.length = true
  · rw [if_pos z] at p1
    refine ⟨by rw [hx.length]; exact szB_ok z, fun q hq => p1 _ _ (Tr.grow t1.rp (upd_grow hq) (upd_sub t1.rp.sub)) _ ?_⟩
    show RepV _ _ (.tup ds) _
    unfold RepV
    exact ⟨q, xs, rfl, SqT.of upd_same, hx.mono (subF_upd t1.rp.sub hq)⟩
  · rw [if_neg z] at p1; exact False.elim p1
theorem ev_lst (h : EU X W es mu) : EV X W (.List es pos) (mLst mu) := by
  refine ⟨pe_mono (pe_lst h.pa) fun σ H Q ⟨ρ, F, r0, p⟩ => ⟨ρ, F, r0, Pv.bind p fun ds ρ1 F1 H1 _ t1 p1 xs hx => ?_⟩⟩
  by_cases z : szB ds.length = true
  · rw [if_pos z] at p1
    refine ⟨by rw [hx.length]; exact szB_ok z, fun q hq => p1 _ _ (Tr.grow t1.rp (upd_grow0 hq) (sub_upd0 t1.rp.sub hq)) _ ?_⟩
    refine ⟨q, rfl, t1.dom q hq, fun z => ?_, sub_none t1.rp.sub hq, rfl, q, xs, rfl, upd_same, hx⟩
    obtain ⟨o, ho⟩ := t1.rp.hdSome z
    rw [hq] at ho
    cases ho
  · rw [if_neg z] at p1; exact False.elim p1

/-! ### slices, built-in calls -/
def tO (k : Kn) (W : WX) (m : Env → Out (Option Int)) : TO := fun σ H Q => ∃ ρ F, Rp k ρ F σ H ∧ Pv k W σ ρ F H (m ρ) fun o ρ' F' H' => Q o H'
structure EO (X : Cx) (W : WX) (e : Option Expr) (m : Env → Out (Option Int)) : Prop where
  po : PO X e (tO (Cx.kn X) W m)
theorem po_mono {e : Option Expr} {t u : TO} (h : PO X e t) (g : ∀ σ H Q, u σ H Q → t σ H Q) : PO X e u := ⟨fun pins s σ H Q I w => h.run pins s σ H Q I (g σ H Q w)⟩
theorem eo_none : EO X W none (fun ρ => .ok none ρ) := ⟨po_mono po_none fun _ _ _ ⟨_, _, r0, p⟩ => Pv.ok r0 p⟩
theorem eo_some (ha : EV X W a ma) : EO X W (some a) (mOpt ma) := by
  refine ⟨po_mono (po_some ha.pe) fun σ H Q ⟨ρ, F, r0, p⟩ => ⟨ρ, F, r0, Pv.bind p fun r ρ1 F1 H1 _ t1 p1 x rr => ?_⟩⟩
  cases e : pkR r ρ1 with
  | none => rw [e] at p1; exact False.elim p1
  | some d =>
    rw [e, Option.bind_some] at p1
    have rep := RR.pk t1.rp rr e
    cases d with
    | int i => exact ⟨i, rep, Pv.ok t1.rp p1⟩
    | _ => exact False.elim p1
theorem ev_sl {f : D → Option Int → Option Int → Option Vr} {lo hi : Option Expr} {p2 : Pos} {ml mh : Env → Out (Option Int)} (hr : SlR X fun x l u H Q => rP (Cx.kn X) (g1 fun d => f d l u) [x] H Q) (ha : EV X W a ma) (hl : EO X W lo ml) (hh : EO X W hi mh) :
    EV X W (.Subscript a (.Slice lo hi none p2) pos) (mSl f ma ml mh) := by
  refine ⟨pe_mono (pe_slice hr ha.pe hl.po hh.po) fun σ H Q ⟨ρ, F, r0, p⟩ => ⟨ρ, F, r0, Pv.bind p fun r ρ1 F1 H1 _ t1 p1 x rr => ⟨ρ1, F1, t1.rp, Pv.bind p1 fun u ρ2 F2 H2 _ t2 p2 => ⟨ρ2, F2, t2.rp, Pv.bind p2 fun v ρ3 F3 H3 _ t3 p3 => ?_⟩⟩⟩⟩
  cases e : pkR r ρ3 with
  | none => rw [e] at p3; exact False.elim p3
  | some d =>
    rw [e] at p3
    exact rP_end (g := g1 fun d => f d u v) (ds := [d]) (H0 := H) t3.rp (RepPs.one (RR.later t1.rp rr (t2.trans t3) e)) (fun a z => t1.dom a (t2.dom a (t3.dom a z))) p3
theorem tL_bf {f : List D → Option Vr} {σ : L2.St} {H : Hp} {Q : VK} (h : tV (Cx.kn X) W (mBf f ml) σ H Q) : tL (Cx.kn X) W ml σ H fun xs H1 => rP (Cx.kn X) f xs H1 Q := by
  obtain ⟨ρ, F, r0, p⟩ := h
  refine ⟨ρ, F, r0, Pv.bind p fun rs ρ1 F1 H1 _ t1 p1 xs hx => ?_⟩
  cases e : pkRs rs ρ1 with
  | none => rw [e] at p1; exact False.elim p1
  | some ds =>
    rw [e] at p1
    exact rP_end (g := f) (ds := ds) (H0 := H) t1.rp (hx.pk t1.rp e) t1.dom p1
theorem ev_bf {f : List D → Option Vr} {id : String} {x : Str} {p : Pos} (hc : CallR X (.builtin id) (rP (Cx.kn X) f)) (hg : Gl X x) (hm : X.mg x = none) (hv : bootBuiltins x = some (.builtin id)) (ha : EL X W (e :: es) ml) (hn : x ≠ "__name__") (hdb : (x == ("__debug__" : Str)) = false)
    (he : starEach (e :: es) X.env = (false, eval e X.env) :: starEach es X.env) (hpl : (backTo pos (starEach es X.env)).any (·.1) = false) : EV X W (.Call (.Name x p) (e :: es) [] pos) (mBf f ml) :=
  ⟨pe_mono (pe_callB hc hg hm hv ha.pa hn hdb he hpl) fun _ _ _ h => tL_bf h⟩
theorem ev_bt {f : List D → Option Vr} {T : String} {x : Str} {p : Pos} (hc : CallR X (.type T) (rP (Cx.kn X) f)) (hg : Gl X x) (hm : X.mg x = none) (hv : bootBuiltins x = some (.type T)) (ha : EL X W (e :: es) ml) (hn : x ≠ "__name__") (hdb : (x == ("__debug__" : Str)) = false)
    (he : starEach (e :: es) X.env = (false, eval e X.env) :: starEach es X.env) (hpl : (backTo pos (starEach es X.env)).any (·.1) = false) : EV X W (.Call (.Name x p) (e :: es) [] pos) (mBf f ml) :=
  ⟨pe_mono (pe_callTy hc hg hm hv ha.pa hn hdb he hpl) fun _ _ _ h => tL_bf h⟩
end
end VS

set_option Elab.async false
set_option linter.all false
set_option maxRecDepth 100000
set_option maxHeartbeats 2000000
/-! VS 6: things that change; calls of defs. -/
namespace VS
open PySem PySem.Spec PyProof.Rows L2
section
variable {k : Kn} {W : WX} {σ : L2.St} {ρ ρ1 ρ2 : Env} {F F1 F2 H H0 H1 H2 : Hp}
theorem RepP.keep {F H : Hp} {d : D} {x : V} {a : Addr} {o : HO} (h : RepP k F H d x) (ne : d.mut = true → x ≠ .ref a) : RepP k F (upd H a o) d x :=
  h.mono Sub.refl fun m b u e hb => by
    have nb : b ≠ a := fun z => ne m (by rw [e, z])
    rw [upd_ne nb]; exact hb
/-- a thing of one's own is changed -/
theorem Tr.write {i : Nat} {s s' : Sl} {d d' : D} {a : Addr} {o : HO} (r : Rp k ρ F σ H) (es : ρ[i]? = some s) (eo : s.own = some d) (ea : σ[i]? = some (some (.ref a))) (eo' : s'.own = some d') (m : d'.mut = true) (p : RepP k F (upd H a o) d' (.ref a))
    (fol : s.fixd = true → s.follows s') : Tr k σ ρ F H σ (ρ.set i s') F (upd H a o) := by
  have oa : Ow σ ρ a := ⟨i, s, d, es, eo, ea⟩
  have nf : F a = none := r.notF oa
  have hl : i < ρ.length := (List.getElem?_eq_some_iff.mp es).1
  have owB : ∀ b, Ow σ (ρ.set i s') b → Ow σ ρ b := fun b hb => by
    obtain ⟨j, t, e, h1, h2, h3⟩ := hb
    rcases set_get h1 with ⟨rfl, rfl, _⟩ | ⟨_, h1⟩
    · rw [ea] at h3; cases h3; exact oa
    · exact ⟨j, t, e, h1, h2, h3⟩
  have hdB : ∀ b, Hd σ (ρ.set i s') b → Hd σ ρ b := fun b hb => by
    obtain ⟨j, t, e, h1, h2, h3⟩ := hb
    rcases set_get h1 with ⟨rfl, rfl, _⟩ | ⟨_, h1⟩
    · rw [ea] at h3; cases h3; exact oa.hd
    · exact ⟨j, t, e, h1, h2, h3⟩
  have other : ∀ {j : Nat} {t : Sl} {e : D} {c : Addr}, i ≠ j → ρ[j]? = some t → t.con = some e → σ[j]? = some (some (.ref c)) → c ≠ a := fun {j t e c} ne h1 h2 h3 z => by
    subst z
    cases t with
    | ow w => exact ne (r.disj i j s _ d _ c es h1 eo rfl ea h3)
    | le w => exact ne (r.disj i j s _ d _ c es h1 eo rfl ea h3)
    | lk w => exact r.lkd j i s w d c h1 es eo h3 ea
    | _ => cases h2
  refine ⟨⟨by rw [List.length_set]; exact r.len, fun b u h => ?_, fun j t h => ?_, fun j l t u e f c h1 h2 h3 h4 h5 h6 => ?_, fun j l u e f c h1 h2 h3 h4 => ?_⟩, fun b u hb nb => ?_, fun b hb => ?_, fun b hb => .inl (owB b hb), fun b hb => .inl (hdB b hb), fun j t h1 h2 => ⟨rfl, ?_⟩, fun j w h => ⟨?_, rfl⟩⟩
  · have ne : b ≠ a := fun z => by rw [z, nf] at h; cases h
    rw [upd_ne ne]; exact r.sub b u h
  · rcases set_get h with ⟨rfl, rfl, _⟩ | ⟨ne, h⟩
    · have fin : ∀ {w : Sl}, w.own = some d' → SlOk k F (upd H a o) (σ[i]?) w := fun {w} e => by
        cases w with
        | ow z => cases e; exact ⟨a, ea, nf, m, p⟩
        | le z => cases e; exact ⟨a, ea, nf, m, p⟩
        | _ => cases e
      exact fin eo'
    · have q := r.slot j t h
      cases t with
      | un => trivial
      | fz w => exact q
      | lz w => exact q
      | ow w => obtain ⟨c, h1, h2, h3, h4⟩ := q; exact ⟨c, h1, h2, h3, h4.keep fun _ z => by cases z; exact other ne h rfl h1 rfl⟩
      | le w => obtain ⟨c, h1, h2, h3, h4⟩ := q; exact ⟨c, h1, h2, h3, h4.keep fun _ z => by cases z; exact other ne h rfl h1 rfl⟩
      | lk w => obtain ⟨c, h1, h3, h4⟩ := q; exact ⟨c, h1, h3, h4.keep fun _ z => by cases z; exact other ne h rfl h1 rfl⟩
  · rcases set_get h1 with ⟨rfl, rfl, _⟩ | ⟨n1, g1⟩
    · rcases set_get h2 with ⟨e2, _, _⟩ | ⟨n2, h2⟩
      · exact e2
      · rw [ea] at h5; cases h5
        exact absurd rfl (other n2 h2 (Sl.own_con h4) h6)
    · rcases set_get h2 with ⟨e2, _, _⟩ | ⟨n2, h2⟩
      · rw [← e2, ea] at h6; cases h6
        exact absurd rfl (other n1 g1 (Sl.own_con h3) h5)
      · exact r.disj j l t u e f c g1 h2 h3 h4 h5 h6
  · rcases set_get h1 with ⟨_, e1, _⟩ | ⟨n1, g1⟩
    · rw [← e1] at eo'; cases eo'
    · intro h5
      rcases set_get h2 with ⟨e2, _, _⟩ | ⟨n2, h2⟩
      · rw [← e2, ea] at h5; cases h5
        exact absurd rfl (other n1 g1 rfl h4)
      · exact r.lkd j l u e f c g1 h2 h3 h4 h5
  · have ne : b ≠ a := fun z => nb (z ▸ oa)
    exact ⟨by rw [upd_ne ne]; exact hb, rfl⟩
  · by_cases z : b = a
    · subst z; rw [upd_same] at hb; cases hb
    · rw [upd_ne z] at hb; exact hb
  · by_cases e : i = j
    · subst e
      rw [es] at h1
      cases h1
      exact ⟨s', List.getElem?_set_self hl, fol h2⟩
    · exact ⟨t, by rw [List.getElem?_set_ne e]; exact h1, t.follows_refl⟩
  · rcases set_get h with ⟨_, e1, _⟩ | ⟨_, h⟩
    · rw [← e1] at eo'; cases eo'
    · exact h
end
/-- a changing method, by values: the thing d at a, the arguments kept -/
def rM (k : Kn) (f : D → List D → Option (D × D)) : V → List V → Hp → VK → Prop := fun x vs H Q => ∃ F a d ds d' v, x = .ref a ∧ Sub F H ∧ F a = none ∧ d.mut = true ∧ RepP k F H d (.ref a) ∧ RepL k F ds vs ∧ f d ds = some (d', v) ∧
  ∀ y o, d'.mut = true → RepP k F (upd H a o) d' (.ref a) → RepV k F v y → Q y (upd H a o)
section
variable {X : Cx} {W : WX} {a b c e o : Expr} {es : List Expr} {pos apos cpos : Pos} {ma mb mc : Env → Out Rr} {mu : Env → Out (List D)} {ml : Env → Out (List Rr)} {name : Str} {T id : String}
theorem rM_end {σ : L2.St} {ρ1 : Env} {F1 H1 H0 : Hp} {i : Nat} {f : D → List D → Option (D × D)} {x : V} {ds : List D} {xs : List V} {Q : VK} (r : Rp (Cx.kn X) ρ1 F1 σ H1) (hx : RepL (Cx.kn X) F1 ds xs) (ex : σ[i]? = some (some x))
    (p : Pv (Cx.kn X) W σ ρ1 F1 H1 (match ρ1[i]? with
      | some (.ow d) => (match f d ds with
        | some (d', v) => Out.ok (.fz v) (ρ1.set i (.ow d'))
        | none => .bad)
      | some (.le d) => (match f d ds with
        | some (d', v) => .ok (.fz v) (ρ1.set i (.le d'))
        | none => .bad)
      | _ => .bad) fun r ρ' F' H' => ∀ x, RR (Cx.kn X) σ H0 ρ' F' H' r x → Q x H') : rM (Cx.kn X) f x xs H1 Q := by
  have go : ∀ {s : Sl} {g : D → Sl} {d : D}, ρ1[i]? = some s → s.own = some d → (∀ e, (g e).own = some e) → (∀ e, s.fixd = true → s.follows (g e)) →
      Pv (Cx.kn X) W σ ρ1 F1 H1 (match f d ds with
        | some (d', v) => Out.ok (.fz v) (ρ1.set i (g d'))
        | none => .bad) (fun r ρ' F' H' => ∀ x, RR (Cx.kn X) σ H0 ρ' F' H' r x → Q x H') → rM (Cx.kn X) f x xs H1 Q := fun {s g d} es eo eg fol p => by
    obtain ⟨a, h1, h2, h3⟩ := r.ownAt es (Sl.own_con eo)
    rw [ex] at h1
    cases h1
    cases ef : f d ds with
    | none => rw [ef] at p; exact False.elim p
    | some q =>
      obtain ⟨d', v⟩ := q
      rw [ef] at p
      exact ⟨F1, a, d, ds, d', v, rfl, r.sub, r.notF ⟨i, s, d, es, eo, ex⟩, h2, h3, hx, ef, fun y u m pp vv => p F1 _ (Tr.write r es eo ex (eg d') m pp (fol d')) y vv⟩
  cases es : ρ1[i]? with
  | none => rw [es] at p; exact False.elim p
  | some s =>
    rw [es] at p
    cases s with
    | ow d => exact go es rfl (g := .ow) (fun _ => rfl) (fun _ h => by cases h) p
    | le d => exact go es rfl (g := .le) (fun _ => rfl) (fun _ _ => .inl ⟨_, rfl⟩) p
    | _ => exact False.elim p
/-- x.m(e, ..), x a name of a list -/
theorem ev_mf {f : D → List D → Option (D × D)} {i : Nat} {x : Str} {xp : Pos} (hm : MtR X id (rM (Cx.kn X) f)) (hf : ∀ d ds p, f d ds = some p → ∃ l, d = .lst l) (pa : PlainAttrs "list") (slot : Slot "list" name id) (hty : typeOf (.builtin id) = pure (.type "method_descriptor"))
    (hN : X.N[i]? = some x) (hv : Vis X.env.scope x) (hd : (x == ("__debug__" : Str)) = false) (hcd : (x == ("__classdict__" : Str)) = false) (ha : EU X W (e :: es) mu)
    (hbase : attributeBase (.Name x xp) name X.env (eval (.Name x xp) X.env) = eval (.Name x xp) X.env)
    (hfew : ((backTo cpos (starEach (e :: es) X.env)).all (fun x => !x.1) && (backToKw cpos (keywordEach [] X.env)).all (fun x => x.1.isSome)
      && decide ((e :: es).length + ([] : List Keyword).length + (if ([] : List Keyword).isEmpty then 0 else 1) < 30)) = true)
    (hline : (apos.endLine == cpos.line) = true) (hs : starEach (e :: es) X.env = (false, eval e X.env) :: starEach es X.env) (hplain : (backTo cpos (starEach es X.env)).any (·.1) = false) :
    EV X W (.Call (.Attribute (.Name x xp) name apos) (e :: es) [] cpos) (fun ρ => if ownL ρ i then mMf f i mu ρ else .bad) := by
  refine ⟨pe_mono (pe_bm pa slot hty hm (pe_var hN hv hd hcd) ha.pa hbase hfew hline hs hplain) fun σ H Q ⟨ρ, F, r0, p⟩ => ?_⟩
  have go : ∀ {s : Sl} {l : List D}, ρ[i]? = some s → s.own = some (.lst l) → Pv (Cx.kn X) W σ ρ F H (mMf f i mu ρ) (fun r ρ' F' H' => ∀ x, RR (Cx.kn X) σ H ρ' F' H' r x → Q x H') →
      tBM X.K "list" (rM (Cx.kn X) f) (tVar i) (tU (Cx.kn X) W mu) σ H Q := fun {s l} es eo p => by
    obtain ⟨a, h1, h2, h3⟩ := r0.ownAt es (Sl.own_con eo)
    obtain ⟨b, ys, e1, h4, h5⟩ := h3
    cases e1
    exact ⟨.ref a, h1, .inl ⟨rfl, ys, SqL.of h4⟩, ρ, F, r0, Pv.bind p fun ds ρ1 F1 H1 _ t1 p1 xs hx => rM_end t1.rp hx h1 p1⟩
  cases es : ρ[i]? with
  | none => simp only [ownL, es] at p; exact False.elim p
  | some s =>
    simp only [ownL, es] at p
    cases s with
    | ow d => cases d <;> first | exact go es rfl p | exact False.elim p
    | le d => cases d <;> first | exact go es rfl p | exact False.elim p
    | _ => exact False.elim p
/-- x.m() -/
theorem ev_mf0 {f : D → List D → Option (D × D)} {i : Nat} {x : Str} {xp : Pos} (hm : MtR X id (rM (Cx.kn X) f)) (pa : PlainAttrs "list") (slot : Slot "list" name id) (hty : typeOf (.builtin id) = pure (.type "method_descriptor"))
    (hN : X.N[i]? = some x) (hv : Vis X.env.scope x) (hd : (x == ("__debug__" : Str)) = false) (hcd : (x == ("__classdict__" : Str)) = false)
    (hbase : attributeBase (.Name x xp) name X.env (eval (.Name x xp) X.env) = eval (.Name x xp) X.env) (hline : (apos.endLine == cpos.line) = true) :
    EV X W (.Call (.Attribute (.Name x xp) name apos) [] [] cpos) (fun ρ => if ownL ρ i then mMf f i (fun ρ => .ok [] ρ) ρ else .bad) := by
  refine ⟨pe_mono (pe_bm0 pa slot hty hm (pe_var hN hv hd hcd) hbase hline) fun σ H Q ⟨ρ, F, r0, p⟩ => ?_⟩
  have go : ∀ {s : Sl} {l : List D}, ρ[i]? = some s → s.own = some (.lst l) → Pv (Cx.kn X) W σ ρ F H (mMf f i (fun ρ => .ok [] ρ) ρ) (fun r ρ' F' H' => ∀ x, RR (Cx.kn X) σ H ρ' F' H' r x → Q x H') →
      tBM0 X.K "list" (rM (Cx.kn X) f) (tVar i) σ H Q := fun {s l} es eo p => by
    obtain ⟨a, h1, h2, h3⟩ := r0.ownAt es (Sl.own_con eo)
    obtain ⟨b, ys, e1, h4, h5⟩ := h3
    cases e1
    exact ⟨.ref a, h1, .inl ⟨rfl, ys, SqL.of h4⟩, rM_end r0 RepL.nil h1 p⟩
  cases es : ρ[i]? with
  | none => simp only [ownL, es] at p; exact False.elim p
  | some s =>
    simp only [ownL, es] at p
    cases s with
    | ow d => cases d <;> first | exact go es rfl p | exact False.elim p
    | le d => cases d <;> first | exact go es rfl p | exact False.elim p
    | _ => exact False.elim p
end
end VS

set_option Elab.async false
set_option linter.all false
set_option maxRecDepth 100000
set_option maxHeartbeats 2000000
/-! VS 7: calls of defs. -/
namespace VS
open PySem PySem.Spec PyProof.Rows L2
/-- the arguments as they stand: kept ones, the caller's slots -/
def ArR (k : Kn) (σ : L2.St) (F : Hp) : List Ar → List V → Prop
  | [], xs => xs = []
  | .val d :: l, xs => ∃ x t, xs = x :: t ∧ RepV k F d x ∧ ArR k σ F l t
  | .lend i :: l, xs => ∃ x t, xs = x :: t ∧ σ[i]? = some (some x) ∧ ArR k σ F l t
  | .look i :: l, xs => ∃ x t, xs = x :: t ∧ σ[i]? = some (some x) ∧ ArR k σ F l t
theorem ArR.mono {k : Kn} {σ : L2.St} {F F' : Hp} (s : Sub F F') : ∀ {as : List Ar} {xs : List V}, ArR k σ F as xs → ArR k σ F' as xs
  | [], _, h => h
  | .val d :: l, _, ⟨x, t, h1, h2, h3⟩ => ⟨x, t, h1, h2.mono s, ArR.mono s h3⟩
  | .lend i :: l, _, ⟨x, t, h1, h2, h3⟩ => ⟨x, t, h1, h2, ArR.mono s h3⟩
  | .look i :: l, _, ⟨x, t, h1, h2, h3⟩ => ⟨x, t, h1, h2, ArR.mono s h3⟩
def tA (k : Kn) (W : WX) (m : Env → Out (List Ar)) : TA := fun σ H Q => ∃ ρ F, Rp k ρ F σ H ∧ Pv k W σ ρ F H (m ρ) fun as ρ' F' H' => ∀ xs, ArR k σ F' as xs → Q xs H'
structure EA (X : Cx) (W : WX) (es : List Expr) (m : Env → Out (List Ar)) : Prop where
  pa : PA X es (tA (Cx.kn X) W m)
section
variable {X : Cx} {W : WX} {a b c e : Expr} {es : List Expr} {pos : Pos} {ma mb : Env → Out Rr} {ml : Env → Out (List Ar)}
theorem ea_nil : EA X W [] (fun ρ => .ok [] ρ) := ⟨pa_mono pa_nil fun _ _ _ ⟨_, _, r0, p⟩ => Pv.ok r0 p [] rfl⟩
theorem ea_val (ha : EV X W a ma) (hr : EA X W es ml) (hs : starEach (a :: es) X.env = (false, eval a X.env) :: starEach es X.env) : EA X W (a :: es) (mAv ma ml) := by
  refine ⟨pa_mono (pa_cons ha.pe hr.pa hs) fun σ H Q ⟨ρ, F, r0, p⟩ => ?_⟩
  refine ⟨ρ, F, r0, Pv.bind0 p fun r ρ1 F1 H1 t1 p1 x rr => Pv.use r0 t1 rr p1 fun d ρ2 F2 t2 v p2 => ⟨ρ2, F2, t2.rp, ?_⟩⟩
  refine Pv.bind (Pv.shift t2 p2) fun as ρ3 F3 H3 _ t3 p3 xs hx => ?_
  exact Pv.ok t3.rp p3 (x :: xs) ⟨x, xs, rfl, RepV.mono (t3.sub t2.rp) v, hx⟩
theorem has_slot {k : Kn} {ρ : Env} {F H : Hp} {σ : L2.St} {i : Nat} (r : Rp k ρ F σ H) (h : hasB ρ i = true) : ∃ x, σ[i]? = some (some x) := by
  unfold hasB at h
  cases e : ρ[i]? with
  | none => rw [e] at h; cases h
  | some s =>
    rw [e] at h
    have q := r.slot i s e
    cases s with
    | un => cases h
    | fz d => obtain ⟨x, h1, _⟩ := q; exact ⟨x, h1⟩
    | lz d => obtain ⟨x, h1, _⟩ := q; exact ⟨x, h1⟩
    | ow d => obtain ⟨x, h1, _⟩ := q; exact ⟨_, h1⟩
    | le d => obtain ⟨x, h1, _⟩ := q; exact ⟨_, h1⟩
    | lk d => obtain ⟨x, h1, _⟩ := q; exact ⟨_, h1⟩
theorem ea_name {i : Nat} {x : Str} {ar : Ar} (har : ar = .lend i ∨ ar = .look i) (hN : X.N[i]? = some x) (hv : Vis X.env.scope x) (hd : (x == ("__debug__" : Str)) = false) (hcd : (x == ("__classdict__" : Str)) = false)
    (hr : EA X W es ml) (hs : starEach (.Name x pos :: es) X.env = (false, eval (.Name x pos) X.env) :: starEach es X.env) : EA X W (.Name x pos :: es) (mAn ar i ml) := by
  refine ⟨pa_mono (pa_cons (pe_var hN hv hd hcd) hr.pa hs) fun σ H Q ⟨ρ, F, r0, p⟩ => ?_⟩
  by_cases hb : hasB ρ i = true
  · have q : mAn ar i ml ρ = (ml ρ).bind fun as ρ1 => .ok (ar :: as) ρ1 := if_pos hb
    rw [q] at p
    obtain ⟨v, hv⟩ := has_slot r0 hb
    refine ⟨v, hv, ρ, F, r0, Pv.bind p fun as ρ1 F1 H1 _ t1 p1 xs hx => Pv.ok t1.rp p1 (v :: xs) ?_⟩
    rcases har with rfl | rfl
    · exact ⟨v, xs, rfl, hv, hx⟩
    · exact ⟨v, xs, rfl, hv, hx⟩
  · have q : mAn ar i ml ρ = .bad := if_neg hb
    rw [q] at p
    exact False.elim p
end

/-! ### a def's promise -/
def Sl.arg : Sl → Bool
  | .fz _ => true
  | .le _ => true
  | .lk _ => true
  | _ => false
def spV (k : Kn) (np : Nat) (c : List Sl → Cr) : Sp := fun vs H Q E => vs.length = np ∧ ∃ ss F, Rp k ss F (vs.map some) H ∧ (∀ s ∈ ss, s.arg = true) ∧ match c ss with
  | .ok v o => ∀ F' H', Tr k (vs.map some) ss F H (vs.map some) o F' H' → ∀ x, RR k (vs.map some) H o F' H' v.rr x → Q x H'
  | .exc z v o => ∀ F' H', Tr k (vs.map some) ss F H (vs.map some) o F' H' → ∀ cls dx, XOk k z v cls dx F' H' → E cls dx H'
  | .bad => False

/-! ### from the caller's slots to the callee's and back -/
section
variable {k : Kn} {σ : L2.St} {ρ ρ1 ρ2 : Env} {F F1 F2 H H0 H1 H2 : Hp}
/-- an argument's slot, its value -/
def ArS (k : Kn) (σ : L2.St) (ρ : Env) (F : Hp) (a : Ar) (s : Sl) (x : V) : Prop := match a with
  | .val d => s = .fz d ∧ RepV k F d x
  | .lend i => ∃ t d, ρ[i]? = some t ∧ t.own = some d ∧ s = .le d ∧ σ[i]? = some (some x)
  | .look i => (∃ t d, ρ[i]? = some t ∧ t.con = some d ∧ s = .lk d ∧ σ[i]? = some (some x)) ∨ ∃ d, s = .fz d ∧ RepV k F d x
theorem arS_ok {a : Ar} {s : Sl} {x : V} (r : Rp k ρ F σ H) (e : arS ρ a = some s) (h : ArR k σ F [a] [x]) : ArS k σ ρ F a s x := by
  cases a with
  | val d =>
    obtain ⟨y, t, e1, h2, _⟩ := h
    cases e1
    cases e
    exact ⟨rfl, h2⟩
  | lend i =>
    obtain ⟨y, t, e1, h2, _⟩ := h
    cases e1
    simp only [arS] at e
    cases es : ρ[i]? with
    | none => rw [es] at e; cases e
    | some w =>
      rw [es] at e
      cases w <;> first | cases e
      · exact ⟨_, _, es, rfl, rfl, h2⟩
      · exact ⟨_, _, es, rfl, rfl, h2⟩
  | look i =>
    obtain ⟨y, t, e1, h2, _⟩ := h
    cases e1
    simp only [arS] at e
    cases es : ρ[i]? with
    | none => rw [es] at e; cases e
    | some w =>
      rw [es] at e
      have q := r.slot i w es
      cases w with
      | un => cases e
      | fz d => cases e; obtain ⟨z, h1, h3⟩ := q; rw [h2] at h1; cases h1; exact .inr ⟨d, rfl, h3⟩
      | lz d => cases e; obtain ⟨z, h1, h3⟩ := q; rw [h2] at h1; cases h1; exact .inr ⟨d, rfl, h3⟩
      | ow d => cases e; exact .inl ⟨_, d, es, rfl, rfl, h2⟩
      | le d => cases e; exact .inl ⟨_, d, es, rfl, rfl, h2⟩
      | lk d => cases e; exact .inl ⟨_, d, es, rfl, rfl, h2⟩
/-- pointwise -/
theorem arSs_ok (r : Rp k ρ F σ H) : ∀ {as : List Ar} {ss : List Sl} {xs : List V}, arSs ρ as = some ss → ArR k σ F as xs →
    ss.length = as.length ∧ xs.length = as.length ∧ ∀ (i : Nat) (s : Sl), ss[i]? = some s → ∃ a x, as[i]? = some a ∧ xs[i]? = some x ∧ ArS k σ ρ F a s x
  | [], ss, xs, e, h => by
    cases e
    have h' : xs = [] := h
    subst h'
    exact ⟨rfl, rfl, fun i s z => by simp at z⟩
  | a :: as, ss, xs, e, h => by
    have e' : (match arS ρ a with
      | some s => (arSs ρ as).map (s :: ·)
      | none => none) = some ss := e
    cases ea : arS ρ a with
    | none => rw [ea] at e'; cases e'
    | some s =>
      rw [ea] at e'
      obtain ⟨l, e1, rfl⟩ := Option.map_eq_some_iff.mp e'
      obtain ⟨x, t, rfl, h1, h2⟩ : ∃ x t, xs = x :: t ∧ ArR k σ F [a] [x] ∧ ArR k σ F as t := by
        cases a with
        | val d => obtain ⟨x, t, q1, q2, q3⟩ := h; exact ⟨x, t, q1, ⟨x, [], rfl, q2, rfl⟩, q3⟩
        | lend i => obtain ⟨x, t, q1, q2, q3⟩ := h; exact ⟨x, t, q1, ⟨x, [], rfl, q2, rfl⟩, q3⟩
        | look i => obtain ⟨x, t, q1, q2, q3⟩ := h; exact ⟨x, t, q1, ⟨x, [], rfl, q2, rfl⟩, q3⟩
      obtain ⟨l1, l2, l3⟩ := arSs_ok r e1 h2
      refine ⟨by simp [l1], by simp [l2], fun i u z => ?_⟩
      cases i with
      | zero =>
        simp at z
        subst z
        exact ⟨a, x, rfl, rfl, arS_ok r ea h1⟩
      | succ i => exact l3 i u (by simpa using z)
theorem arOk_pair : ∀ {as : List Ar} {i j n m : Nat}, arOk as = true → i < j → as[i]? = some (.lend n) → (as[j]? = some (.lend m) ∨ as[j]? = some (.look m)) → n ≠ m
  | [], i, j, n, m, _, _, h, _ => by simp at h
  | a :: as, 0, j + 1, n, m, ok, _, h, h' => by
    simp at h
    subst h
    have ok' : (!as.any (lendB n) && arOk as) = true := ok
    obtain ⟨o1, _⟩ := Bool.and_eq_true_iff.mp ok'
    have o2 : as.any (lendB n) = false := by simpa using o1
    intro e
    subst e
    rcases h' with h' | h'
    · have hm : (Ar.lend n) ∈ as := List.mem_of_getElem? (by simpa using h')
      have := List.any_eq_false.mp o2 _ hm
      simp [lendB] at this
    · have hm : (Ar.look n) ∈ as := List.mem_of_getElem? (by simpa using h')
      have := List.any_eq_false.mp o2 _ hm
      simp [lendB] at this
  | a :: as, i + 1, j + 1, n, m, ok, lt, h, h' => by
    have ok' : arOk as = true := by
      cases a with
      | val d => exact ok
      | lend q => exact (Bool.and_eq_true_iff.mp (show (!as.any (lendB q) && arOk as) = true from ok)).2
      | look q => exact (Bool.and_eq_true_iff.mp (show ((as.all fun a => match a with
          | .lend j => !Nat.beq q j
          | _ => true) && arOk as) = true from ok)).2
    exact arOk_pair (i := i) (j := j) ok' (by omega) (by simpa using h) (by simpa using h')
theorem arOk_look : ∀ {as : List Ar} {i j n m : Nat}, arOk as = true → i < j → as[i]? = some (.look n) → as[j]? = some (.lend m) → n ≠ m
  | [], i, j, n, m, _, _, h, _ => by simp at h
  | a :: as, 0, j + 1, n, m, ok, _, h, h' => by
    simp at h
    subst h
    have ok' : ((as.all fun a => match a with
      | .lend j => !Nat.beq n j
      | _ => true) && arOk as) = true := ok
    obtain ⟨o1, _⟩ := Bool.and_eq_true_iff.mp ok'
    have hm : (Ar.lend m) ∈ as := List.mem_of_getElem? (by simpa using h')
    have q := List.all_eq_true.mp o1 _ hm
    intro e
    subst e
    simp at q
  | a :: as, i + 1, j + 1, n, m, ok, lt, h, h' => by
    have ok' : arOk as = true := by
      cases a with
      | val d => exact ok
      | lend q => exact (Bool.and_eq_true_iff.mp (show (!as.any (lendB q) && arOk as) = true from ok)).2
      | look q => exact (Bool.and_eq_true_iff.mp (show ((as.all fun a => match a with
          | .lend j => !Nat.beq q j
          | _ => true) && arOk as) = true from ok)).2
    exact arOk_look (i := i) (j := j) ok' (by omega) (by simpa using h) (by simpa using h')
theorem map_get {xs : List V} {i : Nat} {x : V} (h : xs[i]? = some x) : (xs.map some)[i]? = some (some x) := by rw [List.getElem?_map, h]; rfl
theorem of_map_get {xs : List V} {i : Nat} {x : V} (h : (xs.map some)[i]? = some (some x)) : xs[i]? = some x := by
  rw [List.getElem?_map] at h
  cases e : xs[i]? with
  | none => rw [e] at h; cases h
  | some y => rw [e] at h; cases h; rfl
/-- two slots of the caller that name one address -/
theorem Rp.same {i j : Nat} {s t : Sl} {d e : D} {a : Addr} (r : Rp k ρ F σ H) (h1 : ρ[i]? = some s) (h2 : s.own = some d) (h3 : ρ[j]? = some t) (h4 : t.con = some e) (h5 : σ[i]? = some (some (.ref a))) (h6 : σ[j]? = some (some (.ref a))) : i = j := by
  cases t with
  | ow w => exact r.disj i j s _ d _ a h1 h3 h2 rfl h5 h6
  | le w => exact r.disj i j s _ d _ a h1 h3 h2 rfl h5 h6
  | lk w => exact absurd h5 (r.lkd j i s w d a h3 h1 h2 h6)
  | _ => cases h4
/-- the callee's slots stand -/
theorem args_rp (r : Rp k ρ F σ H) {as : List Ar} {ss : List Sl} {xs : List V} (ok : arOk as = true) (e : arSs ρ as = some ss) (h : ArR k σ F as xs) : Rp k ss F (xs.map some) H ∧ (∀ s ∈ ss, s.arg = true) := by
  obtain ⟨l1, l2, l3⟩ := arSs_ok r e h
  -- where an own slot comes from
  have own : ∀ (i : Nat) (s : Sl) (d : D), ss[i]? = some s → s.own = some d → ∃ n t u x, as[i]? = some (.lend n) ∧ ρ[n]? = some t ∧ t.own = some u ∧ xs[i]? = some x ∧ σ[n]? = some (some x) := fun i s d h1 h2 => by
    obtain ⟨a, x, q1, q2, q3⟩ := l3 i s h1
    cases a with
    | val w => obtain ⟨rfl, _⟩ := q3; cases h2
    | lend n => obtain ⟨t, u, p1, p2, _, p4⟩ := q3; exact ⟨n, t, u, x, q1, p1, p2, q2, p4⟩
    | look n => rcases q3 with ⟨t, u, _, _, rfl, _⟩ | ⟨w, rfl, _⟩ <;> cases h2
  refine ⟨⟨by rw [List.length_map, l1, l2], r.sub, fun i s h1 => ?_, fun i j s t d e' a h1 h2 h3 h4 h5 h6 => ?_, fun i j t d e' a h1 h2 h3 h4 h5 => ?_⟩, fun s hs => ?_⟩
  · obtain ⟨a, x, q1, q2, q3⟩ := l3 i s h1
    have hx := map_get q2
    cases a with
    | val d => obtain ⟨rfl, p⟩ := q3; exact ⟨x, hx, p⟩
    | lend n =>
      obtain ⟨t, d, p1, p2, rfl, p4⟩ := q3
      obtain ⟨b, z1, z2, z3⟩ := r.ownAt p1 (Sl.own_con p2)
      rw [p4] at z1
      cases z1
      exact ⟨b, hx, r.notF ⟨n, t, d, p1, p2, p4⟩, z2, z3⟩
    | look n =>
      rcases q3 with ⟨t, d, p1, p2, rfl, p4⟩ | ⟨d, rfl, p⟩
      · obtain ⟨b, z1, z2, z3⟩ := r.ownAt p1 p2
        rw [p4] at z1
        cases z1
        exact ⟨b, hx, z2, z3⟩
      · exact ⟨x, hx, p⟩
  · obtain ⟨n, t1, u1, x1, a1, b1, c1, d1, e1⟩ := own i s d h1 h3
    obtain ⟨m, t2, u2, x2, a2, b2, c2, d2, e2⟩ := own j t e' h2 h4
    have z1 := of_map_get h5
    have z2 := of_map_get h6
    rw [d1] at z1
    rw [d2] at z2
    cases z1
    cases z2
    have enm : n = m := r.same b1 c1 b2 (Sl.own_con c2) e1 e2
    subst enm
    rcases Nat.lt_trichotomy i j with lt | eq | gt
    · exact absurd rfl (arOk_pair ok lt a1 (.inl a2))
    · exact eq
    · exact absurd rfl (arOk_pair ok gt a2 (.inl a1))
  · obtain ⟨m, t2, u2, x2, a2, b2, c2, d2, e2⟩ := own j t e' h2 h3
    have z2 := of_map_get h5
    rw [d2] at z2
    cases z2
    obtain ⟨ar, x, q1, q2, q3⟩ := l3 i _ h1
    have z1 := of_map_get h4
    rw [q2] at z1
    cases z1
    cases ar with
    | val w => obtain ⟨w', _⟩ := q3; cases w'
    | lend n => obtain ⟨_, _, _, _, w', _⟩ := q3; cases w'
    | look n =>
      rcases q3 with ⟨t, u, p1, p2, _, p4⟩ | ⟨w, w', _⟩
      · have enm : m = n := r.same b2 c2 p1 p2 e2 p4
        subst enm
        rcases Nat.lt_trichotomy i j with lt | eq | gt
        · exact arOk_look ok lt q1 a2 rfl
        · subst eq; rw [q1] at a2; cases a2
        · exact arOk_pair ok gt a2 (.inr q1) rfl
      · cases w'
  · obtain ⟨i, hi⟩ := List.getElem?_of_mem hs
    obtain ⟨a, x, _, _, q3⟩ := l3 i s hi
    cases a with
    | val d => obtain ⟨rfl, _⟩ := q3; rfl
    | lend n => obtain ⟨_, _, _, _, rfl, _⟩ := q3; rfl
    | look n => rcases q3 with ⟨_, _, _, _, rfl, _⟩ | ⟨_, rfl, _⟩ <;> rfl
/-- a lent slot ahead, the callee's at its end, the lent one behind -/
inductive Bk : Sl → Sl → Sl → Prop
  | a {c d : D} : Bk (.ow c) (.le d) (.ow d)
  | b {c d : D} : Bk (.le c) (.le d) (.le d)
  | c {c d : D} : Bk (.ow c) (.lz d) (.fz d)
  | d {c d : D} : Bk (.le c) (.lz d) (.lz d)
theorem back1_ok {n : Nat} {s : Sl} (e : back1 n s ρ = some ρ1) : ∃ t t', ρ[n]? = some t ∧ Bk t s t' ∧ ρ1 = ρ.set n t' := by
  unfold back1 at e
  split at e
  · cases e; exact ⟨_, _, by assumption, .a, rfl⟩
  · cases e; exact ⟨_, _, by assumption, .b, rfl⟩
  · cases e; exact ⟨_, _, by assumption, .c, rfl⟩
  · cases e; exact ⟨_, _, by assumption, .d, rfl⟩
  · cases e
theorem backs_ok : ∀ {as : List Ar} {o : List Sl} {ρ ρ2 : Env}, arOk as = true → backs as o ρ = some ρ2 →
    (∀ (i n : Nat), as[i]? = some (.lend n) → ∃ t s t', ρ[n]? = some t ∧ o[i]? = some s ∧ ρ2[n]? = some t' ∧ Bk t s t') ∧ (∀ j, (∀ i : Nat, as[i]? ≠ some (.lend j)) → ρ2[j]? = ρ[j]?) ∧ ρ2.length = ρ.length
  | [], o, ρ, ρ2, _, e => by
    cases e
    exact ⟨fun i n h => by simp at h, fun _ _ => rfl, rfl⟩
  | a :: as, [], ρ, ρ2, _, e => by cases a <;> cases e
  | .val d :: as, s :: o, ρ, ρ2, ok, e => by
    obtain ⟨h1, h2, h3⟩ := backs_ok (as := as) (o := o) (ρ := ρ) (ρ2 := ρ2) ok e
    refine ⟨fun i n h => ?_, fun j h => h2 j fun i => h (i + 1), h3⟩
    cases i with
    | zero => simp at h
    | succ i => exact h1 i n (by simpa using h)
  | .look m :: as, s :: o, ρ, ρ2, ok, e => by
    have ok' : arOk as = true := (Bool.and_eq_true_iff.mp (show ((as.all fun a => match a with
        | .lend j => !Nat.beq m j
        | _ => true) && arOk as) = true from ok)).2
    obtain ⟨h1, h2, h3⟩ := backs_ok (as := as) (o := o) (ρ := ρ) (ρ2 := ρ2) ok' e
    refine ⟨fun i n h => ?_, fun j h => h2 j fun i => h (i + 1), h3⟩
    cases i with
    | zero => simp at h
    | succ i => exact h1 i n (by simpa using h)
  | .lend m :: as, s :: o, ρ, ρ2, ok, e => by
    have ok' : arOk as = true := (Bool.and_eq_true_iff.mp (show (!as.any (lendB m) && arOk as) = true from ok)).2
    have e' : (match back1 m s ρ with
      | some ρ' => backs as o ρ'
      | none => none) = some ρ2 := e
    cases eb : back1 m s ρ with
    | none => rw [eb] at e'; cases e'
    | some ρ1 =>
      rw [eb] at e'
      obtain ⟨t, t', q1, q2, rfl⟩ := back1_ok eb
      have hl : m < ρ.length := (List.getElem?_eq_some_iff.mp q1).1
      obtain ⟨h1, h2, h3⟩ := backs_ok ok' e'
      have nm : ∀ i : Nat, as[i]? ≠ some (.lend m) := fun i z => arOk_pair (i := 0) (j := i + 1) ok (by omega) rfl (.inl (by simpa using z)) rfl
      refine ⟨fun i n h => ?_, fun j h => ?_, by rw [h3, List.length_set]⟩
      · cases i with
        | zero =>
          simp at h
          subst h
          exact ⟨t, s, t', q1, rfl, by rw [h2 m nm, List.getElem?_set_self hl], q2⟩
        | succ i =>
          have h' : as[i]? = some (.lend n) := by simpa using h
          have ne : m ≠ n := fun z => nm i (z ▸ h')
          obtain ⟨u, w, u', p1, p2, p3, p4⟩ := h1 i n h'
          rw [List.getElem?_set_ne ne] at p1
          exact ⟨u, w, u', p1, by simpa using p2, p3, p4⟩
      · have ne : m ≠ j := fun z => h 0 (by simp [z])
        rw [h2 j fun i z => h (i + 1) (by simpa using z), List.getElem?_set_ne ne]
theorem call_tr {as : List Ar} {ss o : List Sl} {xs : List V} (r : Rp k ρ F σ H) (ok : arOk as = true) (e : arSs ρ as = some ss) (h : ArR k σ F as xs) (t : Tr k (xs.map some) ss F H (xs.map some) o F2 H2) (eb : backs as o ρ = some ρ2) : Tr k σ ρ F H σ ρ2 F2 H2 ∧ ∀ a, Hd σ ρ2 a → Hd σ ρ a := by
  obtain ⟨q, _⟩ := args_rp r ok e h
  obtain ⟨l1, l2, l3⟩ := arSs_ok r e h
  obtain ⟨b1, b2, b3⟩ := backs_ok ok eb
  have sF : Sub F F2 := t.sub q
  -- the lent slots' values
  have lent : ∀ (i n : Nat), as[i]? = some (.lend n) → ∃ x, xs[i]? = some x ∧ σ[n]? = some (some x) := fun i n z => by
    have hi : i < ss.length := by rw [l1]; exact (List.getElem?_eq_some_iff.mp z).1
    obtain ⟨a, x, q1, q2, q3⟩ := l3 i ss[i] (List.getElem?_eq_getElem hi)
    rw [z] at q1
    cases q1
    obtain ⟨u, d, p1, p2, _, p4⟩ := q3
    exact ⟨x, q2, p4⟩
  have owC : ∀ a, Ow (xs.map some) ss a → ∃ (i n : Nat) (u : Sl) (d : D), as[i]? = some (.lend n) ∧ ρ[n]? = some u ∧ u.own = some d ∧ σ[n]? = some (some (.ref a)) := fun a ⟨i, s, d, h1, h2, h3⟩ => by
    obtain ⟨ar, x, q1, q2, q3⟩ := l3 i s h1
    have hx := of_map_get h3
    rw [q2] at hx
    cases hx
    cases ar with
    | val w => obtain ⟨rfl, _⟩ := q3; cases h2
    | lend n => obtain ⟨u, d', p1, p2, _, p4⟩ := q3; exact ⟨i, n, u, d', q1, p1, p2, p4⟩
    | look n => rcases q3 with ⟨_, _, _, _, rfl, _⟩ | ⟨_, rfl, _⟩ <;> cases h2
  -- an own slot behind was one ahead
  have own2 : ∀ (j : Nat) (s : Sl) (d : D), ρ2[j]? = some s → s.con = some d → ∃ s' d', ρ[j]? = some s' ∧ s'.con = some d' ∧ (s.own.isSome = true → s'.own = some d') ∧ (∀ w, s = .lk w → s' = .lk w) := fun j s d h1 h2 => by
    by_cases z : ∃ i : Nat, as[i]? = some (.lend j)
    · obtain ⟨i, z⟩ := z
      obtain ⟨u, w, u', p1, p2, p3, p4⟩ := b1 i j z
      rw [h1] at p3
      cases p3
      cases p4 <;> first | cases h2
      · exact ⟨_, _, p1, rfl, fun _ => rfl, fun _ e => by cases e⟩
      · exact ⟨_, _, p1, rfl, fun _ => rfl, fun _ e => by cases e⟩
    · rw [b2 j fun i y => z ⟨i, y⟩] at h1
      refine ⟨s, d, h1, h2, fun e => ?_, fun w e => e⟩
      cases s <;> first | exact h2 | cases e
  have ownB : ∀ a, Ow σ ρ2 a → Ow σ ρ a := fun a ⟨j, s, d, h1, h2, h3⟩ => by
    obtain ⟨s', d', p1, _, p3, _⟩ := own2 j s d h1 (Sl.own_con h2)
    exact ⟨j, s', d', p1, p3 (by rw [h2]; rfl), h3⟩
  have hdB : ∀ a, Hd σ ρ2 a → Hd σ ρ a := fun a ⟨j, s, d, h1, h2, h3⟩ => by
    obtain ⟨s', d', p1, p2, _, _⟩ := own2 j s d h1 h2
    exact ⟨j, s', d', p1, p2, h3⟩
  -- a slot not lent keeps its thing
  have stay : ∀ (j : Nat) (s : Sl) (d : D) (a : Addr), (∀ i : Nat, as[i]? ≠ some (.lend j)) → ρ[j]? = some s → s.con = some d → σ[j]? = some (some (.ref a)) → ¬ Ow (xs.map some) ss a := fun j s d a nl h1 h2 h3 z => by
    obtain ⟨i, n, u, e', a1, a2, a3, a4⟩ := owC a z
    have := r.same a2 a3 h1 h2 a4 h3
    subst this
    exact nl i a1
  refine ⟨⟨⟨by rw [b3]; exact r.len, t.rp.sub, fun j s h1 => ?_, fun i j s u d e' a h1 h2 h3 h4 h5 h6 => ?_, fun i j u d e' a h1 h2 h3 h4 h5 => ?_⟩, fun a u h1 h2 => ?_, t.dom, fun a z => .inl (ownB a z), fun a z => .inl (hdB a z), fun j s h1 h2 => ⟨rfl, ?_⟩, fun j w h => ⟨?_, rfl⟩⟩, hdB⟩
  · by_cases z : ∃ i : Nat, as[i]? = some (.lend j)
    · obtain ⟨i, z⟩ := z
      obtain ⟨u, w, u', p1, p2, p3, p4⟩ := b1 i j z
      rw [h1] at p3
      cases p3
      obtain ⟨x, x1, x2⟩ := lent i j z
      have sl := t.rp.slot i w p2
      rw [map_get x1] at sl
      rw [x2]
      cases p4 with
      | a => exact sl
      | b => exact sl
      | c => exact sl
      | d => exact sl
    · have nl : ∀ i : Nat, as[i]? ≠ some (.lend j) := fun i y => z ⟨i, y⟩
      rw [b2 j nl] at h1
      have sl := r.slot j s h1
      have con : ∀ {d : D} {a : Addr}, s.con = some d → σ[j]? = some (some (.ref a)) → d.mut = true → RepP k F H d (.ref a) → RepP k F2 H2 d (.ref a) ∧ F2 a = F a := fun {d a} h2 h3 m p => by
        have no := stay j s d a nl h1 h2 h3
        obtain ⟨c, u, ec, hu⟩ := p.at m
        cases ec
        obtain ⟨k1, k2⟩ := t.keep a u hu no
        refine ⟨p.mono sF fun _ b w eb hb => ?_, k2⟩
        cases eb
        rw [hu] at hb
        cases hb
        exact k1
      cases s with
      | un => trivial
      | fz d => obtain ⟨x, p1, p2⟩ := sl; exact ⟨x, p1, p2.mono sF⟩
      | lz d => obtain ⟨x, p1, p2⟩ := sl; exact ⟨x, p1, p2.mono sF⟩
      | ow d => obtain ⟨a, p1, p2, p3, p4⟩ := sl; obtain ⟨c1, c2⟩ := con rfl p1 p3 p4; exact ⟨a, p1, c2.trans p2, p3, c1⟩
      | le d => obtain ⟨a, p1, p2, p3, p4⟩ := sl; obtain ⟨c1, c2⟩ := con rfl p1 p3 p4; exact ⟨a, p1, c2.trans p2, p3, c1⟩
      | lk d => obtain ⟨a, p1, p3, p4⟩ := sl; obtain ⟨c1, _⟩ := con rfl p1 p3 p4; exact ⟨a, p1, p3, c1⟩
  · obtain ⟨s', d', p1, _, p3, _⟩ := own2 i s d h1 (Sl.own_con h3)
    obtain ⟨u', f', q1, _, q3, _⟩ := own2 j u e' h2 (Sl.own_con h4)
    exact r.disj i j s' u' d' f' a p1 q1 (p3 (by rw [h3]; rfl)) (q3 (by rw [h4]; rfl)) h5 h6
  · obtain ⟨s', d', p1, _, _, p4⟩ := own2 i _ d h1 rfl
    obtain ⟨u', f', q1, _, q3, _⟩ := own2 j u e' h2 (Sl.own_con h3)
    rw [p4 d rfl] at p1
    exact r.lkd i j u' d f' a p1 q1 (q3 (by rw [h3]; rfl)) h4 h5
  · refine t.keep a u h1 fun z => h2 ?_
    obtain ⟨i, n, s, d, _, a2, a3, a4⟩ := owC a z
    exact ⟨n, s, d, a2, a3, a4⟩
  · by_cases z : ∃ i : Nat, as[i]? = some (.lend j)
    · obtain ⟨i, z⟩ := z
      obtain ⟨u, w, u', p1, p2, p3, p4⟩ := b1 i j z
      rw [h1] at p1
      cases p1
      refine ⟨u', p3, ?_⟩
      cases p4 with
      | a => cases h2
      | b => exact .inl ⟨_, rfl⟩
      | c => cases h2
      | d => exact .inr ⟨_, rfl⟩
    · exact ⟨s, by rw [b2 j fun i y => z ⟨i, y⟩]; exact h1, s.follows_refl⟩
  · obtain ⟨s', d', p1, _, _, p4⟩ := own2 j _ w h rfl
    rw [p4 w rfl] at p1
    exact p1
end

/-! ### the call -/
section
variable {X : Cx} {W : WX}
theorem call_sp {np : Nat} {σ : L2.St} {ρ1 : Env} {F1 H1 H0 : Hp} {as : List Ar} {xs : List V} {c : List Sl → Cr} {Q : VK} (r : Rp (Cx.kn X) ρ1 F1 σ H1) (dm : ∀ a, H1 a = none → H0 a = none) (hx : ArR (Cx.kn X) σ F1 as xs) (hc : ∀ ss, ss.length ≠ np → c ss = .bad)
    (p : Pv (Cx.kn X) W σ ρ1 F1 H1 (if arOk as then
      match arSs ρ1 as with
      | some ss => (match c ss with
        | .ok r o => (match backs as o ρ1 with
          | some ρ' => Out.ok r.rr ρ'
          | none => .bad)
        | .exc c v o => (match backs as o ρ1 with
          | some ρ' => .exc c v ρ'
          | none => .bad)
        | .bad => .bad)
      | none => .bad
    else .bad) fun r ρ' F' H' => ∀ x, RR (Cx.kn X) σ H0 ρ' F' H' r x → Q x H') : spV (Cx.kn X) np c xs H1 Q (WE W σ) := by
  by_cases ok : arOk as = true
  · rw [if_pos ok] at p
    cases e : arSs ρ1 as with
    | none => simp only [e] at p; exact False.elim p
    | some ss =>
      simp only [e] at p
      obtain ⟨q, ha⟩ := args_rp r ok e hx
      obtain ⟨l1, l2, _⟩ := arSs_ok r e hx
      have hn : xs.length = np := by
        by_cases z : ss.length = np
        · rw [l2, ← l1, z]
        · simp only [hc ss z] at p; exact False.elim p
      refine ⟨hn, ss, F1, q, ha, ?_⟩
      cases ec : c ss with
      | bad => simp only [ec] at p; exact p
      | ok v o =>
        simp only [ec] at p
        intro F2 H2 t x rr
        cases eb : backs as o ρ1 with
        | none => simp only [eb] at p; exact False.elim p
        | some ρ2 =>
          simp only [eb] at p
          obtain ⟨t2, hb⟩ := call_tr r ok e hx t eb
          refine p F2 H2 t2 x ?_
          cases v with
          | fz d => exact rr
          | fr d =>
            obtain ⟨a, h1, h2, h3, h4⟩ := rr
            refine ⟨a, h1, dm a h2, fun z => ?_, h4⟩
            obtain ⟨u, hu⟩ := r.hdSome (hb a z)
            rw [h2] at hu
            cases hu
      | exc z v o =>
        simp only [ec] at p
        intro F2 H2 t cls dx xo
        cases eb : backs as o ρ1 with
        | none => simp only [eb] at p; exact False.elim p
        | some ρ2 =>
          simp only [eb] at p
          exact p F2 H2 (call_tr r ok e hx t eb).1 cls dx xo
  · rw [if_neg ok] at p; exact False.elim p
/-- what is known of a def f: where it stands, its promise -/
structure FnK (X : Cx) (lv : Nat) (x : Str) (np : Nat) (c : List Sl → Cr) : Prop where
  len : ∀ ss, ss.length ≠ np → c ss = .bad
  ex : ∃ (f : Addr) (fd : FuncData) (ps : List Str), ps.length = np ∧ X.mg x = some (.ref f) ∧ PySem.W.keepIn X.K (.ref f) = true ∧ Binds X.K fd ps [] ∧ FnOk X.prog X.w X.K X.mg X.base (L2.CX X.prog X.w) lv f fd ps (spV (Cx.kn X) np c)
variable {a b e : Expr} {es : List Expr} {pos p : Pos} {ml : Env → Out (List Ar)} {x : Str} {lv np : Nat} {c : List Sl → Cr}
theorem tA_call {σ : L2.St} {H : Hp} {Q : VK} (hc : ∀ ss, ss.length ≠ np → c ss = .bad) (h : tV (Cx.kn X) W (mCall c ml) σ H Q) : tA (Cx.kn X) W ml σ H fun xs H1 => spV (Cx.kn X) np c xs H1 Q (WE W σ) := by
  obtain ⟨ρ, F, r0, p⟩ := h
  exact ⟨ρ, F, r0, Pv.bind p fun as ρ1 F1 H1 _ t1 p1 xs hx => call_sp t1.rp t1.dom hx hc p1⟩
theorem ev_call (F : FnK X lv x np c) (hr : Room lv X.A) (tk : Takes X W) (hg : Gl X x) (ha : EA X W (e :: es) ml) (hdb : (x == ("__debug__" : Str)) = false)
    (he : starEach (e :: es) X.env = (false, eval e X.env) :: starEach es X.env) (hpl : (backTo pos (starEach es X.env)).any (·.1) = false) : EV X W (.Call (.Name x p) (e :: es) [] pos) (mCall c ml) := by
  obtain ⟨f, fd, ps, _, hm, hk, hb, G⟩ := F.ex
  refine ⟨pe_mono (pe_callSD (dvs := []) (ds := []) (E := WE W) G hr hg hm hk hb .nil (fun σ => passAt tk σ) ha.pa hdb he hpl) fun σ H Q h => ?_⟩
  obtain ⟨ρ, F0, r0, p⟩ := tA_call F.len h
  refine ⟨ρ, F0, r0, ?_⟩
  cases em : ml ρ with
  | bad => rw [em] at p; exact p
  | exc z v ρ1 => rw [em] at p; exact p
  | ok as ρ1 =>
    rw [em] at p
    intro F1 H1 t xs hx
    have q := p F1 H1 t xs hx
    rw [List.append_nil]
    exact q
/-- f() -/
theorem pe_call0S {f : Addr} {fd : FuncData} {ps : List Str} {sp : Sp} {E : L2.St → XK} {CX : CXT} (F : FnOk X.prog X.w X.K X.mg X.base CX lv f fd ps sp) (hr : Room lv X.A) (hg : Gl X x) (hm : X.mg x = some (.ref f)) (hk : PySem.W.keepIn X.K (.ref f) = true) (hb : Binds X.K fd ps [])
    (hx : ∀ σ, PassesAt CX X σ (E σ)) (hdb : (x == ("__debug__" : Str)) = false) : PE X (.Call (.Name x p) [] [] pos) (fun σ H Q => sp [] H Q (E σ)) := by
  refine ⟨fun pins s σ H Q I h => wpAny_Call_Name_kw (ld_glob I hg hm (PySem.W.callWith_K0 I.kIn hk (run_fnSD (us := []) (vs := []) F hr hb .nil (hx σ) I .nil ?_)) hdb)⟩
  exact h
theorem ev_call0 (F : FnK X lv x 0 c) (hr : Room lv X.A) (tk : Takes X W) (hg : Gl X x) (hdb : (x == ("__debug__" : Str)) = false) : EV X W (.Call (.Name x p) [] [] pos) (mCall c (fun ρ => .ok [] ρ)) := by
  obtain ⟨f, fd, ps, _, hm, hk, hb, G⟩ := F.ex
  refine ⟨pe_mono (pe_call0S (E := WE W) G hr hg hm hk hb (fun σ => passAt tk σ) hdb) fun σ H Q h => ?_⟩
  obtain ⟨ρ, F0, r0, p⟩ := h
  exact call_sp (as := []) (xs := []) r0 (fun _ z => z) rfl F.len p
end
end VS

set_option Elab.async false
set_option linter.all false
set_option maxRecDepth 100000
set_option maxHeartbeats 2000000
/-! VS 8: statements but loops; locks; stores. -/
namespace VS
open PySem PySem.Spec PyProof.Rows L2
section
variable {k : Kn} {W : WX} {σ σ' : L2.St} {ρ ρ' ρ1 ρ2 : Env} {F F' F1 F2 H H' H0 H1 H2 : Hp}
/-! ### locks -/
theorem lock1_get (i j : Nat) (ρ : Env) : (lock1 i ρ)[j]? = ρ[j]? ∨ (i = j ∧ ∃ d, (ρ[j]? = some (.ow d) ∨ ρ[j]? = some (.le d)) ∧ (lock1 i ρ)[j]? = some (.lk d)) := by
  have hit : ∀ {s : Sl} {d : D}, ρ[i]? = some s → (s = .ow d ∨ s = .le d) → (ρ.set i (.lk d))[j]? = ρ[j]? ∨ (i = j ∧ ∃ c, (ρ[j]? = some (.ow c) ∨ ρ[j]? = some (.le c)) ∧ (ρ.set i (.lk d))[j]? = some (.lk c)) := fun {s d} es e => by
    by_cases ij : i = j
    · subst ij
      have hl : i < ρ.length := (List.getElem?_eq_some_iff.mp es).1
      refine .inr ⟨rfl, d, ?_, List.getElem?_set_self hl⟩
      rcases e with rfl | rfl
      · exact .inl es
      · exact .inr es
    · exact .inl (List.getElem?_set_ne ij)
  unfold lock1
  split
  · exact hit (by assumption) (.inl rfl)
  · exact hit (by assumption) (.inr rfl)
  · exact .inl rfl
theorem lock1_len (i : Nat) (ρ : Env) : (lock1 i ρ).length = ρ.length := by
  unfold lock1
  split <;> first | rfl | exact List.length_set
/-- each slot of the locked frame: as it was, or locked -/
theorem lockAll_get : ∀ (l : List Nat) (ρ : Env) (j : Nat), (lockAll l ρ)[j]? = ρ[j]? ∨ (j ∈ l ∧ ∃ d, (ρ[j]? = some (.ow d) ∨ ρ[j]? = some (.le d)) ∧ (lockAll l ρ)[j]? = some (.lk d))
  | [], ρ, j => .inl rfl
  | i :: l, ρ, j => by
    show (lockAll l (lock1 i ρ))[j]? = ρ[j]? ∨ _
    rcases lockAll_get l (lock1 i ρ) j with h | ⟨hm, d, h1, h2⟩
    · rcases lock1_get i j ρ with q | ⟨rfl, d, q1, q2⟩
      · exact .inl (h.trans q)
      · exact .inr ⟨List.mem_cons_self, d, q1, h.trans q2⟩
    · rcases lock1_get i j ρ with q | ⟨rfl, e, q1, q2⟩
      · rw [q] at h1
        exact .inr ⟨List.mem_cons_of_mem _ hm, d, h1, h2⟩
      · rw [q2] at h1
        rcases h1 with h1 | h1 <;> cases h1
theorem lockAll_len : ∀ (l : List Nat) (ρ : Env), (lockAll l ρ).length = ρ.length
  | [], _ => rfl
  | i :: l, ρ => (lockAll_len l (lock1 i ρ)).trans (lock1_len i ρ)
/-- a slot in l that owns is locked -/
theorem lockAll_mem : ∀ (l : List Nat) (ρ : Env) (j : Nat) (s : Sl) (d : D), j ∈ l → ρ[j]? = some s → s.con = some d → (lockAll l ρ)[j]? = some (.lk d)
  | i :: l, ρ, j, s, d, hm, h1, h2 => by
    have keep : ∀ {l : List Nat} {ρ : Env}, ρ[j]? = some (.lk d) → (lockAll l ρ)[j]? = some (.lk d) := fun {l ρ} h => by
      rcases lockAll_get l ρ j with q | ⟨_, e, q1, _⟩
      · exact q.trans h
      · rw [h] at q1
        rcases q1 with q1 | q1 <;> cases q1
    show (lockAll l (lock1 i ρ))[j]? = some (.lk d)
    rcases lock1_get i j ρ with q | ⟨rfl, e, q1, q2⟩
    · cases s with
      | lk w => cases h2; exact keep (q.trans h1)
      | ow w =>
        cases h2
        rcases List.mem_cons.mp hm with rfl | hm
        · have hl : j < ρ.length := (List.getElem?_eq_some_iff.mp h1).1
          have e : lock1 j ρ = ρ.set j (.lk d) := by unfold lock1; rw [h1]
          rw [e]
          exact keep (List.getElem?_set_self hl)
        · exact lockAll_mem l _ j _ d hm (q.trans h1) rfl
      | le w =>
        cases h2
        rcases List.mem_cons.mp hm with rfl | hm
        · have hl : j < ρ.length := (List.getElem?_eq_some_iff.mp h1).1
          have e : lock1 j ρ = ρ.set j (.lk d) := by unfold lock1; rw [h1]
          rw [e]
          exact keep (List.getElem?_set_self hl)
        · exact lockAll_mem l _ j _ d hm (q.trans h1) rfl
      | _ => cases h2
    · rw [h1] at q1
      rcases q1 with q1 | q1
      · cases q1; cases h2; exact keep q2
      · cases q1; cases h2; exact keep q2
/-- a slot of the locked frame that holds something held it ahead -/
theorem lock_con {l : List Nat} {j : Nat} {s : Sl} {d : D} (h : (lockAll l ρ)[j]? = some s) (e : s.con = some d) : ∃ s', ρ[j]? = some s' ∧ s'.con = some d ∧ (∀ w, s.own = some w → s' = s) := by
  rcases lockAll_get l ρ j with q | ⟨_, d', q1, q2⟩
  · exact ⟨s, q.symm.trans h, e, fun _ _ => rfl⟩
  · rw [q2] at h
    cases h
    cases e
    rcases q1 with q1 | q1
    · exact ⟨_, q1, rfl, fun w z => by cases z⟩
    · exact ⟨_, q1, rfl, fun w z => by cases z⟩
theorem Rp.lock (l : List Nat) (r : Rp k ρ F σ H) : Rp k (lockAll l ρ) F σ H := by
  refine ⟨by rw [lockAll_len]; exact r.len, r.sub, fun i s h => ?_, fun i j s t d e a h1 h2 h3 h4 h5 h6 => ?_, fun i j t d e a h1 h2 h3 h4 h5 => ?_⟩
  · rcases lockAll_get l ρ i with q | ⟨_, d, q1, q2⟩
    · exact r.slot i s (q.symm.trans h)
    · rw [q2] at h
      cases h
      rcases q1 with q1 | q1
      · obtain ⟨a, z1, _, z3, z4⟩ := r.slot i _ q1; exact ⟨a, z1, z3, z4⟩
      · obtain ⟨a, z1, _, z3, z4⟩ := r.slot i _ q1; exact ⟨a, z1, z3, z4⟩
  · obtain ⟨s', p1, p2, p3⟩ := lock_con h1 (Sl.own_con h3)
    obtain ⟨t', q1, q2, q3⟩ := lock_con h2 (Sl.own_con h4)
    rw [p3 d h3] at p1
    rw [q3 e h4] at q1
    exact r.disj i j s t d e a p1 q1 h3 h4 h5 h6
  · obtain ⟨s', p1, p2, _⟩ := lock_con h1 rfl
    obtain ⟨t', q1, q2, q3⟩ := lock_con h2 (Sl.own_con h3)
    rw [q3 e h3] at q1
    have := r.same q1 h3 p1 p2 h5 h4
    subst this
    rw [h1] at h2
    cases h2
    cases h3
theorem Ow.unlock {l : List Nat} {a : Addr} (h : Ow σ (lockAll l ρ) a) : Ow σ ρ a := by
  obtain ⟨i, s, d, h1, h2, h3⟩ := h
  obtain ⟨s', p1, p2, p3⟩ := lock_con h1 (Sl.own_con h2)
  rw [p3 d h2] at p1
  exact ⟨i, s, d, p1, h2, h3⟩
theorem Hd.unlock {l : List Nat} {a : Addr} (h : Hd σ (lockAll l ρ) a) : Hd σ ρ a := by
  obtain ⟨i, s, d, h1, h2, h3⟩ := h
  obtain ⟨s', p1, p2, _⟩ := lock_con h1 h2
  exact ⟨i, s', d, p1, p2, h3⟩
/-! unlocking -/
theorem unlock_get (ρ0 : Env) : ∀ (l : List Nat) (ρ : Env) (j : Nat), (unlockAll ρ0 l ρ)[j]? = if j ∈ l ∧ ρ0[j]?.isSome ∧ j < ρ.length then ρ0[j]? else ρ[j]?
  | [], ρ, j => by simp [unlockAll]
  | i :: l, ρ, j => by
    show (unlockAll ρ0 l (match ρ0[i]? with
      | some s => ρ.set i s
      | none => ρ))[j]? = _
    rw [unlock_get ρ0 l]
    cases e : ρ0[i]? with
    | none =>
      by_cases ij : i = j
      · subst ij; simp [e]
      · have ne : ¬ j = i := fun z => ij z.symm
        simp [ne]
    | some s =>
      by_cases ij : i = j
      · subst ij
        by_cases hl : i < ρ.length
        · simp [e, hl, List.getElem?_set_self]
        · simp [hl]
      · have ne : ¬ j = i := fun z => ij z.symm
        simp [ne, List.getElem?_set_ne ij]
theorem unlock_len (ρ0 : Env) : ∀ (l : List Nat) (ρ : Env), (unlockAll ρ0 l ρ).length = ρ.length
  | [], _ => rfl
  | i :: l, ρ => by
    show (unlockAll ρ0 l (match ρ0[i]? with
      | some s => ρ.set i s
      | none => ρ)).length = _
    rw [unlock_len ρ0 l]
    cases ρ0[i]? with
    | none => rfl
    | some s => exact List.length_set
/-- behind a run over a locked frame, the flags as they were. L: locked slots that own -/
theorem Tr.unlock {l : List Nat} (r : Rp k ρ F σ H) (hl : ∀ i ∈ l, ∃ s d, ρ[i]? = some s ∧ s.con = some d) (t : Tr k σ (lockAll l ρ) F H σ' ρ' F' H') : Tr k σ ρ F H σ' (unlockAll ρ l ρ') F' H' ∧ ∀ a, Hd σ' (unlockAll ρ l ρ') a → Hd σ' ρ' a := by
  have rl := r.lock l
  have sF : Sub F F' := t.sub rl
  -- the slots at l
  have at_ : ∀ i ∈ l, ∃ s d, ρ[i]? = some s ∧ s.con = some d ∧ (lockAll l ρ)[i]? = some (.lk d) ∧ ρ'[i]? = some (.lk d) ∧ σ'[i]? = σ[i]? ∧ (unlockAll ρ l ρ')[i]? = some s := fun i hi => by
    obtain ⟨s, d, h1, h2⟩ := hl i hi
    have h3 := lockAll_mem l ρ i s d hi h1 h2
    obtain ⟨h4, s', h5, h6⟩ := t.fix i _ h3 rfl
    have h6' : s' = .lk d := h6
    subst h6'
    have hlen : i < ρ'.length := (List.getElem?_eq_some_iff.mp h5).1
    refine ⟨s, d, h1, h2, h3, h5, h4, ?_⟩
    rw [unlock_get, if_pos ⟨hi, by rw [h1]; rfl, hlen⟩, h1]
  have out : ∀ i, i ∉ l → (unlockAll ρ l ρ')[i]? = ρ'[i]? := fun i hi => by rw [unlock_get, if_neg fun z => hi z.1]
  have hdB : ∀ (i : Nat) (s : Sl) (d : D), (unlockAll ρ l ρ')[i]? = some s → s.con = some d → ∃ s', ρ'[i]? = some s' ∧ s'.con = some d := fun i s d h1 h2 => by
    by_cases hi : i ∈ l
    · obtain ⟨s0, d0, q1, q2, q3, q4, q5, q6⟩ := at_ i hi
      rw [q6] at h1
      cases h1
      rw [h2] at q2
      cases q2
      exact ⟨_, q4, rfl⟩
    · rw [out i hi] at h1
      exact ⟨s, h1, h2⟩
  have hdA : ∀ a, Hd σ' (unlockAll ρ l ρ') a → Hd σ' ρ' a := fun a ⟨i, s, d, h1, h2, h3⟩ => by
    obtain ⟨s', q1, q2⟩ := hdB i s d h1 h2
    exact ⟨i, s', d, q1, q2, h3⟩
  -- an owned slot: one at l, or one that ran
  have ow : ∀ (i : Nat) (s : Sl) (d : D), (unlockAll ρ l ρ')[i]? = some s → s.own = some d → (i ∈ l ∧ ρ[i]? = some s ∧ ρ'[i]? = some (.lk d) ∧ σ'[i]? = σ[i]?) ∨ (i ∉ l ∧ ρ'[i]? = some s) := fun i s d h1 h2 => by
    by_cases hi : i ∈ l
    · obtain ⟨s0, d0, q1, q2, q3, q4, q5, q6⟩ := at_ i hi
      rw [q6] at h1
      cases h1
      rw [Sl.own_con h2] at q2
      cases q2
      exact .inl ⟨hi, q1, q4, q5⟩
    · rw [out i hi] at h1
      exact .inr ⟨hi, h1⟩
  refine ⟨⟨⟨by rw [unlock_len]; exact t.rp.len, t.rp.sub, fun i s h => ?_, fun i j s u d e a h1 h2 h3 h4 h5 h6 => ?_, fun i j u d e a h1 h2 h3 h4 h5 => ?_⟩, fun a o h1 h2 => t.keep a o h1 fun z => h2 z.unlock, t.dom, fun a h => ?_, fun a h => ?_, fun i s h1 h2 => ?_, fun i d h => ?_⟩, hdA⟩
  · by_cases hi : i ∈ l
    · obtain ⟨s0, d0, q1, q2, q3, q4, q5, q6⟩ := at_ i hi
      rw [q6] at h
      cases h
      obtain ⟨a, z1, z2, z3⟩ := t.rp.ownAt q4 rfl
      have z1' : σ[i]? = some (some (.ref a)) := q5.symm.trans z1
      have nO : ¬ Ow σ (lockAll l ρ) a := fun ⟨j, u, e, g1, g2, g3⟩ => rl.lkd i j u _ e a q3 g1 g2 z1' g3
      have keepF : ∀ {d : D}, F a = none → d.mut = true → RepP k F H d (.ref a) → F' a = none := fun {d} y2 y3 y4 => by
        obtain ⟨c, o, ec, ho⟩ := y4.at y3
        cases ec
        rw [(t.keep a o ho nO).2]
        exact y2
      have sl := r.slot i _ q1
      cases s with
      | ow w =>
        cases q2
        obtain ⟨b, y1, y2, y3, y4⟩ := sl
        rw [z1'] at y1
        cases y1
        exact ⟨a, z1, keepF y2 y3 y4, z2, z3⟩
      | le w =>
        cases q2
        obtain ⟨b, y1, y2, y3, y4⟩ := sl
        rw [z1'] at y1
        cases y1
        exact ⟨a, z1, keepF y2 y3 y4, z2, z3⟩
      | lk w => cases q2; exact ⟨a, z1, z2, z3⟩
      | _ => cases q2
    · rw [out i hi] at h
      exact t.rp.slot i s h
  · rcases ow i s d h1 h3 with ⟨_, p1, p2, p3⟩ | ⟨_, p1⟩
    · rcases ow j u e h2 h4 with ⟨_, q1, q2, q3⟩ | ⟨_, q1⟩
      · rw [p3] at h5
        rw [q3] at h6
        exact r.disj i j s u d e a p1 q1 h3 h4 h5 h6
      · exact absurd h6 (t.rp.lkd i j u d e a p2 q1 h4 h5)
    · rcases ow j u e h2 h4 with ⟨_, q1, q2, q3⟩ | ⟨_, q1⟩
      · exact absurd h5 (t.rp.lkd j i s e d a q2 p1 h3 h6)
      · exact t.rp.disj i j s u d e a p1 q1 h3 h4 h5 h6
  · -- a lock that is left was one ahead
    have left : ρ[i]? = some (.lk d) ∧ σ'[i]? = σ[i]? ∧ ρ'[i]? = some (.lk d) := by
      by_cases hi : i ∈ l
      · obtain ⟨s0, d0, q1, q2, q3, q4, q5, q6⟩ := at_ i hi
        rw [q6] at h1
        cases h1
        cases q2
        exact ⟨q1, q5, q4⟩
      · rw [out i hi] at h1
        obtain ⟨q1, q2⟩ := t.lks i d h1
        rcases lockAll_get l ρ i with q | ⟨hm, _⟩
        · exact ⟨q.symm.trans q1, q2, h1⟩
        · exact absurd hm hi
    rcases ow j u e h2 h3 with ⟨_, q1, q2, q3⟩ | ⟨_, q1⟩
    · rw [q3] at h5
      exact r.lkd i j u d e a left.1 q1 h3 (left.2.1.symm.trans h4) h5
    · exact t.rp.lkd i j u d e a left.2.2 q1 h3 h4 h5
  · obtain ⟨i, s, d, h1, h2, h3⟩ := h
    rcases ow i s d h1 h2 with ⟨_, p1, p2, p3⟩ | ⟨_, p1⟩
    · exact .inl ⟨i, s, d, p1, h2, by rw [← p3]; exact h3⟩
    · exact (t.own a ⟨i, s, d, p1, h2, h3⟩).imp (fun z => z.unlock) id
  · exact (t.hld a (hdA a h)).imp (fun z => z.unlock) id
  · rcases lockAll_get l ρ i with q | ⟨hm, d, q1, q2⟩
    · obtain ⟨z1, s', z2, z3⟩ := t.fix i s (q.trans h1) h2
      refine ⟨z1, ?_⟩
      by_cases hi : i ∈ l
      · obtain ⟨s0, d0, y1, y2, y3, y4, y5, y6⟩ := at_ i hi
        rw [h1] at y1
        cases y1
        exact ⟨s, y6, s.follows_refl⟩
      · exact ⟨s', by rw [out i hi]; exact z2, z3⟩
    · obtain ⟨s0, d0, y1, y2, y3, y4, y5, y6⟩ := at_ i hm
      rw [h1] at y1
      cases y1
      exact ⟨y5, s, y6, s.follows_refl⟩
  · by_cases hi : i ∈ l
    · obtain ⟨s0, d0, q1, q2, q3, q4, q5, q6⟩ := at_ i hi
      rw [q6] at h
      cases h
      exact ⟨q1, q5⟩
    · rw [out i hi] at h
      obtain ⟨q1, q2⟩ := t.lks i d h
      rcases lockAll_get l ρ i with q | ⟨hm, _⟩
      · exact ⟨q.symm.trans q1, q2⟩
      · exact absurd hm hi

/-! ### stores -/
theorem sto_some {i : Nat} {s : Sl} (h : sto ρ i s = some ρ1) : ρ1 = ρ.set i s ∧ ∃ t, ρ[i]? = some t ∧ t.fixd = false := by
  unfold sto stoB at h
  cases e : ρ[i]? with
  | none => rw [e] at h; cases h
  | some t =>
    rw [e] at h
    by_cases q : t.fixd = true
    · simp [q] at h
    · have q' : t.fixd = false := by simpa using q
      simp [q'] at h
      exact ⟨h.symm, t, rfl, q'⟩
/-- a slot stored: its new thing is frozen, or new -/
theorem Tr.sto {i : Nat} {s t : Sl} {x : V} (r : Rp k ρ F σ H) (et : ρ[i]? = some t) (ft : t.fixd = false) (ns : (∃ d, s = .fz d ∧ RepV k F d x) ∨ ∃ a d, s = .ow d ∧ x = .ref a ∧ ¬ Hd σ ρ a ∧ F a = none ∧ d.mut = true ∧ RepP k F H d (.ref a)) (new : ∀ a d, s = .ow d → x = .ref a → H0 a = none)
    (t0 : Tr k σ' ρ' F' H0 σ ρ F H) : Tr k σ' ρ' F' H0 (σ.set i (some x)) (ρ.set i s) F H := by
  have hl : i < ρ.length := (List.getElem?_eq_some_iff.mp et).1
  have hσ : i < σ.length := by rw [← r.len]; exact hl
  have nlk : ∀ d, s ≠ .lk d := fun d e => by
    rcases ns with ⟨_, q, _⟩ | ⟨_, _, q, _⟩ <;> (rw [q] at e; cases e)
  have sl : ∀ {j : Nat} {u : Sl}, (ρ.set i s)[j]? = some u → (i = j ∧ u = s ∧ (σ.set i (some x))[j]? = some (some x)) ∨ (i ≠ j ∧ ρ[j]? = some u ∧ (σ.set i (some x))[j]? = σ[j]?) := fun {j u} h => by
    rcases set_get h with ⟨rfl, rfl, _⟩ | ⟨ne, h⟩
    · exact .inl ⟨rfl, rfl, List.getElem?_set_self hσ⟩
    · exact .inr ⟨ne, h, List.getElem?_set_ne ne⟩
  -- what the new slot holds is held by no other
  have alone : ∀ {d : D} {a : Addr} {j : Nat} {u : Sl} {e : D}, s.con = some d → x = .ref a → ρ[j]? = some u → u.con = some e → ¬ σ[j]? = some (some (.ref a)) := fun {d a j u e} h1 h2 h3 h4 h5 => by
    rcases ns with ⟨_, q, _⟩ | ⟨b, c, q, qx, nh, _⟩
    · rw [q] at h1; cases h1
    · rw [h2] at qx; cases qx; exact nh ⟨j, u, e, h3, h4, h5⟩
  have con_own : ∀ {d : D}, s.con = some d → s = .ow d := fun {d} h => by
    rcases ns with ⟨_, q, _⟩ | ⟨_, _, q, _⟩
    · rw [q] at h; cases h
    · rw [q] at h ⊢; cases h; rfl
  refine ⟨⟨by rw [List.length_set, List.length_set]; exact r.len, r.sub, fun j u h => ?_, fun j l u v d e a h1 h2 h3 h4 h5 h6 => ?_, fun j l u d e a h1 h2 h3 h4 h5 => ?_⟩, t0.keep, t0.dom, fun a h => ?_, fun a h => ?_, fun j u h1 h2 => ?_, fun j d h => ?_⟩
  · rcases sl h with ⟨rfl, rfl, q⟩ | ⟨ne, h, q⟩
    · rw [q]
      rcases ns with ⟨d, rfl, v⟩ | ⟨a, d, rfl, rfl, _, h3, h4, h5⟩
      · exact ⟨x, rfl, v⟩
      · exact ⟨a, rfl, h3, h4, h5⟩
    · rw [q]; exact r.slot j u h
  · rcases sl h1 with ⟨e1, e2, q1⟩ | ⟨n1, g1, q1⟩
    · rcases sl h2 with ⟨e3, _, _⟩ | ⟨n2, g2, q2⟩
      · exact e1.symm.trans e3
      · rw [q1] at h5
        rw [q2] at h6
        cases h5
        rw [e2] at h3
        exact absurd h6 (alone (Sl.own_con h3) rfl g2 (Sl.own_con h4))
    · rcases sl h2 with ⟨e3, e4, q2⟩ | ⟨n2, g2, q2⟩
      · rw [q1] at h5
        rw [q2] at h6
        cases h6
        rw [e4] at h4
        exact absurd h5 (alone (Sl.own_con h4) rfl g1 (Sl.own_con h3))
      · rw [q1] at h5
        rw [q2] at h6
        exact r.disj j l u v d e a g1 g2 h3 h4 h5 h6
  · rcases sl h1 with ⟨_, e2, _⟩ | ⟨n1, g1, q1⟩
    · exact absurd e2.symm (nlk d)
    · rcases sl h2 with ⟨e3, e4, q2⟩ | ⟨n2, g2, q2⟩
      · rw [q2] at h5
        cases h5
        rw [q1] at h4
        rw [e4] at h3
        exact absurd h4 (alone (Sl.own_con h3) rfl g1 rfl)
      · rw [q1] at h4
        rw [q2] at h5
        exact r.lkd j l u d e a g1 g2 h3 h4 h5
  · obtain ⟨j, u, d, h1, h2, h3⟩ := h
    rcases sl h1 with ⟨_, e2, q1⟩ | ⟨_, g1, q1⟩
    · rw [q1] at h3
      cases h3
      rw [e2] at h2
      exact .inr (new a d (con_own (Sl.own_con h2)) rfl)
    · rw [q1] at h3
      exact t0.own a ⟨j, u, d, g1, h2, h3⟩
  · obtain ⟨j, u, d, h1, h2, h3⟩ := h
    rcases sl h1 with ⟨_, e2, q1⟩ | ⟨_, g1, q1⟩
    · rw [q1] at h3
      cases h3
      rw [e2] at h2
      exact .inr (new a d (con_own h2) rfl)
    · rw [q1] at h3
      exact t0.hld a ⟨j, u, d, g1, h2, h3⟩
  · obtain ⟨z1, u', z2, z3⟩ := t0.fix j u h1 h2
    have ne : i ≠ j := fun z => by
      subst z
      rw [et] at z2
      cases z2
      rw [Sl.follows_fixd h2 z3] at ft
      cases ft
    exact ⟨by rw [List.getElem?_set_ne ne]; exact z1, u', by rw [List.getElem?_set_ne ne]; exact z2, z3⟩
  · rcases sl h with ⟨_, e2, _⟩ | ⟨_, g1, q1⟩
    · exact absurd e2.symm (nlk d)
    · obtain ⟨z1, z2⟩ := t0.lks j d g1
      exact ⟨z1, q1.trans z2⟩
end
end VS

set_option Elab.async false
set_option linter.all false
set_option maxRecDepth 100000
set_option maxHeartbeats 2000000
/-! VS 9: statements. -/
namespace VS
open PySem PySem.Spec PyProof.Rows L2
def Ps (k : Kn) (W : WX) (σ : L2.St) (ρ : Env) (F H : Hp) (res : Fl) (En : Ends) : Prop := match res with
  | .nx ρ' => ∀ σ' F' H', Tr k σ ρ F H σ' ρ' F' H' → En.nx σ' H'
  | .bk ρ' => ∀ σ' F' H', Tr k σ ρ F H σ' ρ' F' H' → En.bk σ' H'
  | .ct ρ' => ∀ σ' F' H', Tr k σ ρ F H σ' ρ' F' H' → En.ct σ' H'
  | .rt v ρ' => ∀ σ' F' H', Tr k σ ρ F H σ' ρ' F' H' → ∀ x, RR k σ' H ρ' F' H' v.rr x → En.rt x H'
  | .exc c v ρ' => ∀ σ' F' H', Tr k σ ρ F H σ' ρ' F' H' → ∀ cls dx, XOk k c v cls dx F' H' → W cls dx σ' H'
  | .bad => False
def tS (k : Kn) (W : WX) (m : Env → Fl) : TS := fun En σ H => ∃ ρ F, Rp k ρ F σ H ∧ Ps k W σ ρ F H (m ρ) En
structure ES (X : Cx) (W : WX) (st : Stmt) (m : Env → Fl) : Prop where
  ps : PS X st (tS (Cx.kn X) W m)
structure EB (X : Cx) (W : WX) (st : List Stmt) (m : Env → Fl) : Prop where
  ps : PSs X st (tS (Cx.kn X) W m)
theorem ps_mono {X : Cx} {e : Stmt} {t u : TS} (h : PS X e t) (g : ∀ En σ H, u En σ H → t En σ H) : PS X e u := ⟨fun pins s σ H En I w => h.run pins s σ H En I (g En σ H w)⟩
theorem pss_mono {X : Cx} {e : List Stmt} {t u : TS} (h : PSs X e t) (g : ∀ En σ H, u En σ H → t En σ H) : PSs X e u := ⟨fun pins s σ H En I w => h.run pins s σ H En I (g En σ H w)⟩
section
variable {k : Kn} {W : WX} {σ σ' σ0 σ1 : L2.St} {ρ ρ' ρ0 ρ1 ρ2 : Env} {F F' F0 F1 F2 H H' H0 H1 H2 : Hp} {En : Ends}
theorem RR.base' {H0 : Hp} {r : Rr} {x : V} (t : ∀ a, H a = none → H0 a = none) (h : RR k σ' H ρ F1 H1 r x) : RR k σ' H0 ρ F1 H1 r x := by
  cases r with
  | fz d => exact h
  | fr d => obtain ⟨a, h1, h2, h3, h4⟩ := h; exact ⟨a, h1, t a h2, h3, h4⟩
  | own i => exact h
theorem Ps.shift {res : Fl} (t : Tr k σ0 ρ0 F0 H0 σ ρ F H) (p : Ps k W σ0 ρ0 F0 H0 res En) : Ps k W σ ρ F H res En := by
  cases res with
  | nx ρ' => exact fun σ' F' H' u => p σ' F' H' (t.trans u)
  | bk ρ' => exact fun σ' F' H' u => p σ' F' H' (t.trans u)
  | ct ρ' => exact fun σ' F' H' u => p σ' F' H' (t.trans u)
  | rt v ρ' => exact fun σ' F' H' u x r => p σ' F' H' (t.trans u) x (RR.base' t.dom r)
  | exc c v ρ' => exact fun σ' F' H' u => p σ' F' H' (t.trans u)
  | bad => exact p
/-- an expression first -/
theorem Ps.fl {α : Type} {m : Out α} {f : α → Env → Fl} {R1 : α → Env → Hp → Hp → Prop} (p : Ps k W σ ρ F H (m.fl f) En)
    (h : ∀ a ρ1 F1 H1, Tr k σ ρ F H σ ρ1 F1 H1 → Ps k W σ ρ F H (f a ρ1) En → R1 a ρ1 F1 H1) : Pv k W σ ρ F H m R1 := by
  cases m with
  | ok a ρ' => exact fun F' H' t => h a ρ' F' H' t p
  | exc c v ρ' => exact fun F' H' t => p σ F' H' t
  | bad => exact p
theorem Ps.use {r : Rr} {x : V} {f : D → Env → Fl} {G : Prop} {E : Ends} (r0 : Rp k ρ F σ H0) (t : Tr k σ ρ F H0 σ ρ1 F1 H1) (h : RR k σ H0 ρ1 F1 H1 r x)
    (p : Ps k W σ ρ F H0 ((useR r ρ1).fl f) E) (g : ∀ d ρ2 F2, Tr k σ ρ F H0 σ ρ2 F2 H1 → RepV k F2 d x → Ps k W σ ρ F H0 (f d ρ2) E → G) : G := by
  cases e : useR r ρ1 with
  | ok d ρ2 =>
    rw [e] at p
    obtain ⟨F2, t2, v⟩ := use_ok r0 t h e
    exact g d ρ2 F2 t2 v p
  | exc c v ρ2 =>
    exfalso
    unfold useR at e
    repeat (first | cases e | split at e)
  | bad =>
    rw [e] at p
    exact False.elim p
end
section
variable {X : Cx} {W : WX} {st : Stmt} {sts : List Stmt} {a b c e : Expr} {pos p2 : Pos} {me : Env → Out Rr} {ma mb : Env → Fl} {tc : Env → Out Bool}
theorem eb_nil : EB X W [] (fun ρ => .nx ρ) := ⟨pss_mono pss_nil fun En σ H ⟨ρ, F, r, p⟩ => p σ F H (Tr.refl r)⟩
theorem eb_cons (ha : ES X W st ma) (hb : EB X W sts mb) : EB X W (st :: sts) (mSeq ma mb) := by
  refine ⟨pss_mono (pss_cons ha.ps hb.ps) fun En σ H ⟨ρ, F, r, p⟩ => ⟨ρ, F, r, ?_⟩⟩
  unfold mSeq at p
  cases e : ma ρ with
  | nx ρ' => rw [e] at p; exact fun σ' F' H' t => ⟨ρ', F', t.rp, Ps.shift t p⟩
  | bk ρ' => rw [e] at p; exact p
  | ct ρ' => rw [e] at p; exact p
  | rt v ρ' => rw [e] at p; exact p
  | exc z v ρ' => rw [e] at p; exact p
  | bad => rw [e] at p; exact p
theorem es_pass : ES X W (.Pass pos) (fun ρ => .nx ρ) := ⟨ps_mono ps_pass fun En σ H ⟨ρ, F, r, p⟩ => p σ F H (Tr.refl r)⟩
theorem es_brk : ES X W (.Break pos) (fun ρ => .bk ρ) := ⟨ps_mono ps_break fun En σ H ⟨ρ, F, r, p⟩ => p σ F H (Tr.refl r)⟩
theorem es_cnt : ES X W (.Continue pos) (fun ρ => .ct ρ) := ⟨ps_mono ps_continue fun En σ H ⟨ρ, F, r, p⟩ => p σ F H (Tr.refl r)⟩
theorem es_doc {x j p} : ES X W (.Expr (.Constant (.str x) j p) pos) (fun ρ => .nx ρ) := ⟨ps_mono ps_doc fun En σ H ⟨ρ, F, r, p⟩ => p σ F H (Tr.refl r)⟩
theorem es_expr (he : EV X W e me) (hs : swapsWith e none pos.line X.env = pure false) : ES X W (.Expr e pos) (fun ρ => (me ρ).fl fun _ ρ1 => .nx ρ1) :=
  ⟨ps_mono (ps_expr he.pe hs) fun En σ H ⟨ρ, F, r, p⟩ => ⟨ρ, F, r, Ps.fl p fun _ ρ1 F1 H1 t p1 _ _ => p1 σ F1 H1 t⟩⟩
theorem es_ret (he : EV X W e me) : ES X W (.Return (some e) pos) (fun ρ => (me ρ).fl fun r ρ1 => retR r ρ1) := by
  refine ⟨ps_mono (ps_ret he.pe) fun En σ H ⟨ρ, F, r0, p⟩ => ⟨ρ, F, r0, Ps.fl p fun r ρ1 F1 H1 t p1 x rr => ?_⟩⟩
  have keep : Ps (Cx.kn X) W σ ρ F H ((useR r ρ1).fl fun d ρ1 => .rt (.fz d) ρ1) En → En.rt x H1 := fun q => Ps.use r0 t rr q fun d ρ2 F2 t2 v p2 => p2 σ F2 H1 t2 x v
  cases r with
  | fz d => exact keep p1
  | fr d => exact p1 σ F1 H1 t x rr
  | own i => exact keep p1
theorem es_retN : ES X W (.Return none pos) (fun ρ => .rt (.fz .non) ρ) := ⟨ps_mono ps_retN fun En σ H ⟨ρ, F, r, p⟩ => p σ F H (Tr.refl r) .non rfl⟩
theorem es_if (hc : ET X W c tc) (ha : EB X W sts ma) {sts2 : List Stmt} (hb : EB X W sts2 mb) : ES X W (.If c sts sts2 pos) (fun ρ => (tc ρ).fl fun k ρ1 => match k with
    | true => ma ρ1
    | false => mb ρ1) := by
  refine ⟨ps_mono (ps_if hc.pt ha.ps hb.ps) fun En σ H ⟨ρ, F, r0, p⟩ => ⟨ρ, F, r0, Ps.fl p fun k ρ1 F1 H1 t p1 => ?_⟩⟩
  cases k with
  | true => rw [if_pos rfl]; exact ⟨ρ1, F1, t.rp, Ps.shift t p1⟩
  | false => rw [if_neg Bool.false_ne_true]; exact ⟨ρ1, F1, t.rp, Ps.shift t p1⟩
/-! ### assignments -/
/-- storing what an expression gave in slot i -/
theorem asg_nm {i : Nat} {En : Ends} {σ : L2.St} {ρ ρ1 : Env} {F F1 H H1 : Hp} {r : Rr} {x : V} (r0 : Rp (Cx.kn X) ρ F σ H) (t : Tr (Cx.kn X) σ ρ F H σ ρ1 F1 H1) (rr : RR (Cx.kn X) σ H ρ1 F1 H1 r x) (p : Ps (Cx.kn X) W σ ρ F H (asgR (.nm i) r ρ1) En) : En.nx (σ.set i (some x)) H1 := by
  have keep : Ps (Cx.kn X) W σ ρ F H ((useR r ρ1).fl fun d ρ1 => flO (tgD (.nm i) d ρ1)) En → En.nx (σ.set i (some x)) H1 := fun q => Ps.use r0 t rr q fun d ρ2 F2 t2 v p2 => by
    have p2' : Ps (Cx.kn X) W σ ρ F H (flO (sto ρ2 i (.fz d))) En := p2
    cases e : sto ρ2 i (.fz d) with
    | none => rw [e] at p2'; exact False.elim p2'
    | some ρ3 =>
      rw [e] at p2'
      obtain ⟨rfl, u, h1, h2⟩ := sto_some e
      exact p2' _ F2 H1 (Tr.sto t2.rp h1 h2 (.inl ⟨d, rfl, v⟩) (fun a d z => by cases z) t2)
  cases r with
  | fz d => exact keep p
  | own j => exact keep p
  | fr d =>
    have p' : Ps (Cx.kn X) W σ ρ F H (flO (sto ρ1 i (.ow d))) En := p
    cases e : sto ρ1 i (.ow d) with
    | none => rw [e] at p'; exact False.elim p'
    | some ρ3 =>
      rw [e] at p'
      obtain ⟨rfl, u, h1, h2⟩ := sto_some e
      obtain ⟨a, rfl, g2, g3, g4, g5, g6⟩ := rr
      exact p' _ F1 H1 (Tr.sto t.rp h1 h2 (.inr ⟨a, d, rfl, rfl, g3, g4, g5, g6⟩) (fun b d z y => by cases y; exact g2) t)
theorem es_set {i : Nat} {x : Str} (hN : X.N.Nodup) (hi : X.N[i]? = some x) (hx : Loc X.env.scope x) (he : EV X W e me) (hs : swapsWith e (some (.Name x p2)) pos.line X.env = pure false) (hf : X.fn x = true ∨ X.env.scope.names.lookup x = some .local) :
    ES X W (.Assign [.Name x p2] e pos) (fun ρ => (me ρ).fl fun r ρ1 => asgR (.nm i) r ρ1) :=
  ⟨ps_mono (ps_set hN hi hx he.pe hs hf) fun En σ H ⟨ρ, F, r0, p⟩ => ⟨ρ, F, r0, Ps.fl p fun r ρ1 F1 H1 t p1 x rr => asg_nm r0 t rr p1⟩⟩
/-- targets that are names -/
def setAll (σ : L2.St) : List Nat → List V → L2.St
  | i :: l, v :: vs => setAll (σ.set i (some v)) l vs
  | _, _ => σ
def gNames (l : List Nat) : TGs := fun vs σ H Q => vs.length = l.length ∧ Q (setAll σ l vs) H
theorem pgs_mono {es : List Expr} {t u : TGs} (h : PGs X es t) (g : ∀ vs σ H Q, u vs σ H Q → t vs σ H Q) : PGs X es u := ⟨fun pins s σ H vs us Q I r w => h.run pins s σ H vs us Q I r (g vs σ H Q w)⟩
inductive NameEs (X : Cx) : List Expr → List Nat → Prop
  | nil : NameEs X [] []
  | cons {x : Str} {p : Pos} {i : Nat} {es : List Expr} {l : List Nat} : X.N[i]? = some x → Loc X.env.scope x → (X.fn x = true ∨ X.env.scope.names.lookup x = some .local) → NameEs X es l → NameEs X (.Name x p :: es) (i :: l)
theorem pgs_names (hN : X.N.Nodup) : ∀ {es : List Expr} {l : List Nat}, NameEs X es l → PGs X es (gNames l)
  | _, _, .nil => pgs_mono pgs_nil fun vs σ H Q ⟨h1, h2⟩ => by
    have e : vs = [] := List.length_eq_zero_iff.mp h1
    subst e
    exact ⟨rfl, h2⟩
  | _, _, .cons h1 h2 h3 h => pgs_mono (pgs_cons (pg_name hN h1 h2 h3) (pgs_names hN h) rfl) fun vs σ H Q ⟨g1, g2⟩ => by
    cases vs with
    | nil => simp at g1
    | cons v vs => exact ⟨v, vs, rfl, by simpa using g1, g2⟩
/-- the stores of several slots -/
theorem stos_tr {σ' : L2.St} {ρ' : Env} {F' H0 : Hp} {F H : Hp} : ∀ {l : List Nat} {ds : List D} {vs : List V} {σ : L2.St} {ρ ρ2 : Env}, stos l ds ρ = some ρ2 → RepL (Cx.kn X) F ds vs → Rp (Cx.kn X) ρ F σ H → Tr (Cx.kn X) σ' ρ' F' H0 σ ρ F H → vs.length = l.length ∧ Tr (Cx.kn X) σ' ρ' F' H0 (setAll σ l vs) ρ2 F H
  | [], [], vs, σ, ρ, ρ2, e, h, r, t => by
    cases e
    unfold RepL at h
    rw [h]
    exact ⟨rfl, t⟩
  | [], _ :: _, vs, σ, ρ, ρ2, e, h, r, t => by cases e
  | _ :: _, [], vs, σ, ρ, ρ2, e, h, r, t => by cases e
  | i :: l, d :: ds, vs, σ, ρ, ρ2, e, h, r, t => by
    unfold RepL at h
    obtain ⟨v, vr, rfl, h1, h2⟩ := h
    have e' : (match sto ρ i (.fz d) with
      | some ρ' => stos l ds ρ'
      | none => none) = some ρ2 := e
    cases es : sto ρ i (.fz d) with
    | none => rw [es] at e'; cases e'
    | some ρ3 =>
      rw [es] at e'
      obtain ⟨rfl, u, g1, g2⟩ := sto_some es
      have t3 := Tr.sto (x := v) r g1 g2 (.inl ⟨d, rfl, h1⟩) (fun a d z => by cases z) t
      obtain ⟨q1, q2⟩ := stos_tr e' h2 t3.rp t3
      exact ⟨by simp [q1], q2⟩
/-- the reading of a target -/
def gT (K : PySem.W.Frag) : Tg → TG
  | .nm i => gName i
  | .tp l => gTup K l.length (gNames l)
theorem tg_ok {σ' : L2.St} {ρ' : Env} {F' H0 : Hp} {t : Tg} {d : D} {v : V} {σ : L2.St} {ρ ρ2 : Env} {F H : Hp} {Q : L2.St → Hp → Prop} (e : tgD t d ρ = some ρ2) (h : RepV (Cx.kn X) F d v) (r : Rp (Cx.kn X) ρ F σ H) (u : Tr (Cx.kn X) σ' ρ' F' H0 σ ρ F H)
    (q : ∀ σ2, (match t with
      | .nm i => σ2 = σ.set i (some v)
      | .tp l => ∃ vs, σ2 = setAll σ l vs) → Tr (Cx.kn X) σ' ρ' F' H0 σ2 ρ2 F H → Q σ2 H) : gT X.K t v σ H Q := by
  cases t with
  | nm i =>
    obtain ⟨rfl, w, g1, g2⟩ := sto_some (show sto ρ i (.fz d) = some ρ2 from e)
    exact q _ rfl (Tr.sto r g1 g2 (.inl ⟨d, rfl, h⟩) (fun a d z => by cases z) u)
  | tp l =>
    cases d with
    | tup ds =>
      unfold RepV at h
      obtain ⟨a, vs, rfl, h2, h3⟩ := h
      obtain ⟨q1, q2⟩ := stos_tr (show stos l ds ρ = some ρ2 from e) h3 r u
      exact ⟨a, vs, rfl, sub_sqT r.sub h2, q1, q1, q _ ⟨vs, rfl⟩ q2⟩
    | _ => cases e
theorem es_unp {es : List Expr} {kk : Nat} {l : List Nat} (hc : X.calm = true) (hN : X.N.Nodup) (hn : NameEs X es l) (he : EV X W e me) (hs : swapsWithSole [.Tuple es kk p2] e pos.line X.env = pure false) (hw : swappedStores [.Tuple es kk p2] e X.env = pure none)
    (h1 : (assignEach [.Tuple es kk p2] X.env).map (·.2) = [assign (.Tuple es kk p2) X.env]) (h2 : (assignEach es X.env).length = l.length) (h3 : (assignEach es X.env).findIdx? (·.1) = none) :
    ES X W (.Assign [.Tuple es kk p2] e pos) (fun ρ => (me ρ).fl fun r ρ1 => asgR (.tp l) r ρ1) := by
  refine ⟨ps_mono (ps_asg he.pe (pg_tup hc (pgs_names hN hn) h2 h3) hs hw h1) fun En σ H ⟨ρ, F, r0, p⟩ => ⟨ρ, F, r0, Ps.fl p fun r ρ1 F1 H1 t p1 x rr => ?_⟩⟩
  have p1' : Ps (Cx.kn X) W σ ρ F H ((useR r ρ1).fl fun d ρ1 => flO (tgD (.tp l) d ρ1)) En := by
    cases r <;> exact p1
  refine Ps.use r0 t rr p1' fun d ρ2 F2 t2 v p2 => ?_
  cases et : tgD (.tp l) d ρ2 with
  | none => rw [et] at p2; exact False.elim p2
  | some ρ3 =>
    rw [et] at p2
    exact tg_ok (t := .tp l) et v t2.rp t2 fun σ2 _ t3 => p2 σ2 F2 H1 t3
/-! ### raise, while -/
theorem es_whl {n : Nat} (hp : PassesOwn (model X.prog X.w) X.A X.env X.xe) (hc : ET X W c tc) (hb : EB X W sts mb) : ES X W (.While c sts [] pos) (whiles tc mb n) := by
  refine ⟨ps_mono (ps_while hp hc.pt hb.ps) fun En σ H ⟨ρ, F, r0, p⟩ => ?_⟩
  refine ⟨fun m σ' H' => ∃ ρ' F', Tr (Cx.kn X) σ ρ F H σ' ρ' F' H' ∧ Ps (Cx.kn X) W σ ρ F H (whiles tc mb m ρ') En, ⟨n, ρ, F, Tr.refl r0, p⟩, ?_⟩
  rintro m σ1 H1 ⟨ρ1, F1, t1, p1⟩
  cases m with
  | zero => exact False.elim p1
  | succ m =>
    refine ⟨ρ1, F1, t1.rp, ?_⟩
    have p1' : Ps (Cx.kn X) W σ ρ F H (match tc ρ1 with
      | .ok true ρ1 => (match mb ρ1 with
        | .nx ρ' => whiles tc mb m ρ'
        | .ct ρ' => whiles tc mb m ρ'
        | .bk ρ' => .nx ρ'
        | .rt r ρ' => .rt r ρ'
        | .exc c v ρ' => .exc c v ρ'
        | .bad => .bad)
      | .ok false ρ1 => .nx ρ1
      | .exc c v ρ1 => .exc c v ρ1
      | .bad => .bad) En := p1
    cases et : tc ρ1 with
    | bad => rw [et] at p1'; exact False.elim p1'
    | exc z v ρ2 => rw [et] at p1'; exact fun F' H' t => p1' σ1 F' H' (t1.trans t)
    | ok b ρ2 =>
      intro F2 H2 t2
      have t12 := t1.trans t2
      cases b with
      | false =>
        rw [et] at p1'
        show (if false = true then _ else En.nx σ1 H2)
        rw [if_neg Bool.false_ne_true]
        exact p1' σ1 F2 H2 t12
      | true =>
        rw [et] at p1'
        show (if true = true then _ else En.nx σ1 H2)
        rw [if_pos rfl]
        refine ⟨fun σ' H' => ∃ ρ' F', Tr (Cx.kn X) σ ρ F H σ' ρ' F' H' ∧ Ps (Cx.kn X) W σ ρ F H (whiles tc mb m ρ') En, fun σ' H' h => ⟨m, Nat.lt_succ_self m, h⟩, ρ2, F2, t2.rp, ?_⟩
        cases em : mb ρ2 with
        | nx ρ3 => simp only [em] at p1'; exact fun σ' F' H' t => ⟨ρ3, F', t12.trans t, p1'⟩
        | ct ρ3 => simp only [em] at p1'; exact fun σ' F' H' t => ⟨ρ3, F', t12.trans t, p1'⟩
        | bk ρ3 => simp only [em] at p1'; exact fun σ' F' H' t => p1' σ' F' H' (t12.trans t)
        | rt v ρ3 => simp only [em] at p1'; exact fun σ' F' H' t x r => p1' σ' F' H' (t12.trans t) x (RR.base' t12.dom r)
        | exc z v ρ3 => simp only [em] at p1'; exact fun σ' F' H' t => p1' σ' F' H' (t12.trans t)
        | bad => simp only [em] at p1'; exact p1'
end

/-! ### what is walked -/
structure WkD (k : Kn) (J : It) (ds : List D) (S : Hp → Hp → Prop) : Prop where
  goes : ∀ i F H, i < ds.length → Sub F H → S F H → J.go i H
  stops : ∀ F H, Sub F H → S F H → J.stop ds.length H
  yields : ∀ i d F H x H', ds[i]? = some d → Sub F H → S F H → J.yld i H x H' → ∃ F', (∀ a o, H a = some o → H' a = some o ∧ F' a = F a) ∧ Sub F' H' ∧ RepV k F' d x
def tI (k : Kn) (W : WX) (ik : Ik) (m : Env → Out (List Rr)) : TI := fun σ H R => ∃ ρ F, Rp k ρ F σ H ∧ Pv k W σ ρ F H (m ρ) fun rs ρ' F' H' => ∃ sds ds, pkRs rs ρ' = some sds ∧ ikD ik sds = some ds ∧ ∀ xs, RSs k σ F' rs xs → ∀ J, WkD k J ds (fun F H => RepPs k F H sds xs) → R J H'
structure EI (X : Cx) (W : WX) (tg iter : Expr) (ik : Ik) (m : Env → Out (List Rr)) : Prop where
  pi : PI X tg iter (tI (Cx.kn X) W ik m)
theorem pi_mono {X : Cx} {tg e : Expr} {t u : TI} (h : PI X tg e t) (g : ∀ σ H R, u σ H R → t σ H R) : PI X tg e u := ⟨fun pins s σ H R I w => h.run pins s σ H R I (g σ H R w)⟩
section
variable {k : Kn} {σ σ' : L2.St} {ρ ρ1 ρ' : Env} {F F1 F' H H1 H' : Hp}
theorem pk_own {i : Nat} {d : D} (h : pkR (.own i) ρ = some d) : ∃ s, ρ[i]? = some s ∧ s.con = some d := by
  have e' : (match ρ[i]? with
    | some (.ow d) => some d
    | some (.le d) => some d
    | some (.lk d) => some d
    | _ => none) = some d := h
  cases es : ρ[i]? with
  | none => rw [es] at e'; cases e'
  | some s =>
    rw [es] at e'
    refine ⟨s, rfl, ?_⟩
    cases s <;> first | exact e' | cases e'
theorem owns_con : ∀ {rs : List Rr} {sds : List D} {i : Nat}, pkRs rs ρ = some sds → i ∈ ownsR rs → ∃ s d, ρ[i]? = some s ∧ s.con = some d
  | r :: rs, sds, i, e, h => by
    have e' : (match pkR r ρ with
      | some d => (pkRs rs ρ).map (d :: ·)
      | none => none) = some sds := e
    cases ek : pkR r ρ with
    | none => rw [ek] at e'; cases e'
    | some d =>
      rw [ek] at e'
      obtain ⟨es, e1, _⟩ := Option.map_eq_some_iff.mp e'
      cases r with
      | fz w => exact owns_con e1 h
      | fr w => exact owns_con e1 h
      | own j =>
        rcases List.mem_cons.mp h with rfl | h
        · obtain ⟨s, h1, h2⟩ := pk_own ek
          exact ⟨s, d, h1, h2⟩
        · exact owns_con e1 h
/-- what is walked stands while its slots are locked -/
theorem RSs.stay (r : Rp k ρ1 F1 σ H1) (sl : Sub F1 F') (L : List Nat) (fx : ∀ i ∈ L, ∀ d, (lockAll L ρ1)[i]? = some (.lk d) → ρ'[i]? = some (.lk d) ∧ σ'[i]? = σ[i]?) (r' : Rp k ρ' F' σ' H') : ∀ {rs : List Rr} {xs : List V} {sds : List D}, (∀ i ∈ ownsR rs, i ∈ L) → RSs k σ F1 rs xs → pkRs rs ρ1 = some sds → RepPs k F' H' sds xs
  | [], xs, sds, _, h, e => by
    cases e
    exact h
  | q :: rs, xs, sds, hL, h, e => by
    obtain ⟨x, t, rfl, h1, h2⟩ := h
    have e' : (match pkR q ρ1 with
      | some d => (pkRs rs ρ1).map (d :: ·)
      | none => none) = some sds := e
    cases ek : pkR q ρ1 with
    | none => rw [ek] at e'; cases e'
    | some d =>
      rw [ek] at e'
      obtain ⟨es, e1, rfl⟩ := Option.map_eq_some_iff.mp e'
      cases q with
      | fz w =>
        cases ek
        exact ⟨x, t, rfl, RepV.peek r'.sub (RepV.mono sl h1), RSs.stay (rs := rs) r sl L fx r' hL h2 e1⟩
      | fr w => exact h1.elim
      | own i =>
        refine ⟨x, t, rfl, ?_, RSs.stay r sl L fx r' (fun j hj => hL j (List.mem_cons_of_mem _ hj)) h2 e1⟩
        have hi : i ∈ L := hL i List.mem_cons_self
        obtain ⟨s, hs, hcon⟩ := pk_own ek
        obtain ⟨g1, g2⟩ := fx i hi d (lockAll_mem L ρ1 i s d hi hs hcon)
        obtain ⟨a, g3, _, g4⟩ := r'.ownAt g1 rfl
        have hx : σ[i]? = some (some x) := h1
        rw [g2, hx] at g3
        cases g3
        exact g4
end
section
variable {X : Cx} {W : WX} {tg iter : Expr} {sts : List Stmt} {pos : Pos} {mb : Env → Fl} {ml : Env → Out (List Rr)} {t : Tg} {ik : Ik}
theorem unmap {k : Kn} {σ σ' : L2.St} {ρ1 : Env} {F H : Hp} {L : List Nat} {En : Ends} {o : Fl} (r : Rp k ρ1 F σ H) (hl : ∀ i ∈ L, ∃ s d, ρ1[i]? = some s ∧ s.con = some d) (p : Ps k W σ ρ1 F H (o.map (unlockAll ρ1 L)) En) : Ps k W σ (lockAll L ρ1) F H o En := by
  cases o with
  | nx ρ' => exact fun σ' F' H' u => p σ' F' H' (Tr.unlock r hl u).1
  | bk ρ' => exact fun σ' F' H' u => p σ' F' H' (Tr.unlock r hl u).1
  | ct ρ' => exact fun σ' F' H' u => p σ' F' H' (Tr.unlock r hl u).1
  | rt v ρ' =>
    intro σ' F' H' u x rr
    obtain ⟨t1, t2⟩ := Tr.unlock r hl u
    refine p σ' F' H' t1 x ?_
    cases v with
    | fz d => exact rr
    | fr d => obtain ⟨a, h1, h2, h3, h4⟩ := rr; exact ⟨a, h1, h2, fun z => h3 (t2 a z), h4⟩
  | exc c v ρ' => exact fun σ' F' H' u => p σ' F' H' (Tr.unlock r hl u).1
  | bad => exact p
theorem es_for (hp : PassesOwn (model X.prog X.w) X.A X.env X.xe) (hc : X.calm = true) (hi : EI X W tg iter ik ml) (hg : PG X tg (gT X.K t)) (hb : EB X W sts mb) (hs : ∀ x, foldedSetIterable iter X.env x = pure x) :
    ES X W (.For tg iter sts [] pos) (mFor t ik ml mb) := by
  refine ⟨ps_mono (ps_for hp hc hi.pi hg hb.ps hs) fun En σ H ⟨ρ, F, r0, p⟩ => ?_⟩
  refine ⟨ρ, F, r0, Ps.fl p fun rs ρ1 F1 H1 t1 p1 => ?_⟩
  obtain ⟨sds, ds, es, ed⟩ : ∃ sds ds, pkRs rs ρ1 = some sds ∧ ikD ik sds = some ds := by
    cases eb : (pkRs rs ρ1).bind (ikD ik) with
    | none => simp only [eb] at p1; exact False.elim p1
    | some ds =>
      obtain ⟨sds, es, ed⟩ := Option.bind_eq_some_iff.mp eb
      exact ⟨sds, ds, es, ed⟩
  refine ⟨sds, ds, es, ed, fun xs hx J w => ?_⟩
  rw [es, Option.bind_some, ed] at p1
  have hl : ∀ i ∈ ownsR rs, ∃ s d, ρ1[i]? = some s ∧ s.con = some d := fun i h => owns_con es h
  have p2 := unmap (W := W) (σ' := σ) t1.rp hl (Ps.shift t1 p1)
  have rl := t1.rp.lock (ownsR rs)
  generalize hf : (fun d ρ2 => match tgD t d ρ2 with
    | some ρ3 => mb ρ3
    | none => Fl.bad) = f at p2
  -- between two turns
  have stay : ∀ {σ' : L2.St} {ρ' : Env} {F' H' : Hp}, Tr (Cx.kn X) σ (lockAll (ownsR rs) ρ1) F1 H1 σ' ρ' F' H' → RepPs (Cx.kn X) F' H' sds xs := fun {σ' ρ' F' H'} u =>
    RSs.stay t1.rp (u.sub rl) (ownsR rs) (fun i _ d h => by
      obtain ⟨g1, s', g2, g3⟩ := u.fix i _ h rfl
      have g3' : s' = .lk d := g3
      subst g3'
      exact ⟨g2, g1⟩) u.rp (fun _ h => h) hx es
  refine ⟨fun i m σ' H' => m = ds.length - i ∧ i ≤ ds.length ∧ ∃ ρ' F', Tr (Cx.kn X) σ (lockAll (ownsR rs) ρ1) F1 H1 σ' ρ' F' H' ∧ Ps (Cx.kn X) W σ (lockAll (ownsR rs) ρ1) F1 H1 (turns f (ds.drop i) ρ') En, ⟨ds.length, by simp, Nat.zero_le _, lockAll (ownsR rs) ρ1, F1, Tr.refl rl, p2⟩, ?_⟩
  rintro i m σ2 H2 ⟨rfl, hle, ρ2, F2, t2, p3⟩
  by_cases hlt : i < ds.length
  · refine .inr ⟨w.goes i F2 H2 hlt t2.rp.sub (stay t2), fun σ' H' => ∃ ρ' F', Tr (Cx.kn X) σ (lockAll (ownsR rs) ρ1) F1 H1 σ' ρ' F' H' ∧ Ps (Cx.kn X) W σ (lockAll (ownsR rs) ρ1) F1 H1 (turns f (ds.drop (i + 1)) ρ') En,
      fun σ' H' h => ⟨ds.length - (i + 1), by omega, rfl, hlt, h⟩, fun x H3 y => ?_⟩
    have ed : ds.drop i = ds[i] :: ds.drop (i + 1) := List.drop_eq_getElem_cons hlt
    obtain ⟨F3, g3, s3, v3⟩ := w.yields i ds[i] F2 H2 x H3 (List.getElem?_eq_getElem hlt) t2.rp.sub (stay t2) y
    have t3 := t2.trans (Tr.grow t2.rp g3 s3)
    rw [ed] at p3
    have p3' : Ps (Cx.kn X) W σ (lockAll (ownsR rs) ρ1) F1 H1 (match f ds[i] ρ2 with
      | .nx ρ' => turns f (ds.drop (i + 1)) ρ'
      | .ct ρ' => turns f (ds.drop (i + 1)) ρ'
      | .bk ρ' => .nx ρ'
      | .rt r ρ' => .rt r ρ'
      | .exc c v ρ' => .exc c v ρ'
      | .bad => .bad) En := p3
    rw [← hf] at p3'
    cases et : tgD t ds[i] ρ2 with
    | none => simp only [et] at p3'; exact False.elim p3'
    | some ρ3 =>
      simp only [et] at p3'
      rw [hf] at p3'
      refine tg_ok et v3 t3.rp t3 fun σ4 _ t4 => ⟨ρ3, F3, t4.rp, ?_⟩
      cases em : mb ρ3 with
      | nx ρ5 => simp only [em] at p3'; exact fun σ' F' H' u => ⟨ρ5, F', t4.trans u, p3'⟩
      | ct ρ5 => simp only [em] at p3'; exact fun σ' F' H' u => ⟨ρ5, F', t4.trans u, p3'⟩
      | bk ρ5 => simp only [em] at p3'; exact fun σ' F' H' u => p3' σ' F' H' (t4.trans u)
      | rt v ρ5 => simp only [em] at p3'; exact fun σ' F' H' u x r => p3' σ' F' H' (t4.trans u) x (RR.base' t4.dom r)
      | exc z v ρ5 => simp only [em] at p3'; exact fun σ' F' H' u => p3' σ' F' H' (t4.trans u)
      | bad => simp only [em] at p3'; exact p3'
  · have e : i = ds.length := by omega
    subst e
    rw [List.drop_length] at p3
    exact .inl ⟨w.stops F2 H2 t2.rp.sub (stay t2), p3 σ2 F2 H2 t2⟩
end
end VS

set_option Elab.async false
set_option linter.all false
set_option maxRecDepth 100000
set_option maxHeartbeats 2000000
/-! VS 10: list comprehensions. -/
namespace VS
open PySem PySem.Spec PyProof.Rows L2
/-! ### wiped slots -/
theorem wipeE_len (ρ : Env) : ∀ (l : List Nat), (wipeE l ρ).length = ρ.length
  | [] => rfl
  | i :: l => by
    show ((wipeE l ρ).set i .un).length = _
    rw [List.length_set, wipeE_len ρ l]
theorem wipeE_out {ρ : Env} {i : Nat} : ∀ {l : List Nat}, i ∉ l → (wipeE l ρ)[i]? = ρ[i]?
  | [], _ => rfl
  | j :: l, h => by
    have h1 : j ≠ i := fun e => h (by rw [e]; exact List.mem_cons_self)
    show ((wipeE l ρ).set j .un)[i]? = _
    rw [List.getElem?_set_ne h1]
    exact wipeE_out fun m => h (List.mem_cons_of_mem _ m)
theorem wipeE_some {ρ : Env} {i : Nat} {s : Sl} : ∀ {l : List Nat}, (wipeE l ρ)[i]? = some s → s = .un ∨ (i ∉ l ∧ ρ[i]? = some s)
  | [], h => .inr ⟨by simp, h⟩
  | j :: l, h => by
    have h : ((wipeE l ρ).set j .un)[i]? = some s := h
    rcases set_get h with ⟨rfl, rfl, _⟩ | ⟨ne, h⟩
    · exact .inl rfl
    · rcases wipeE_some h with e | ⟨h1, h2⟩
      · exact .inl e
      · exact .inr ⟨fun m => (List.mem_cons.mp m).elim (fun e => ne e.symm) h1, h2⟩
theorem wipe_get (τ : L2.St) (i : Nat) : ∀ (l : List Nat), (wipe τ l)[i]? = τ[i]? ∨ (i ∈ l ∧ (wipe τ l)[i]? = some none)
  | [] => .inl rfl
  | j :: l => by
    by_cases e : j = i
    · subst e
      by_cases hl : j < (wipe τ l).length
      · exact .inr ⟨List.mem_cons_self, List.getElem?_set_self hl⟩
      · refine .inl ?_
        have h1 : ((wipe τ l).set j none)[j]? = none := List.getElem?_eq_none (by rw [List.length_set]; omega)
        have h2 : τ[j]? = none := List.getElem?_eq_none (by rw [wipe_length] at hl; omega)
        exact h1.trans h2.symm
    · have h1 : ((wipe τ l).set j none)[i]? = (wipe τ l)[i]? := List.getElem?_set_ne e
      rcases wipe_get τ i l with h | ⟨h2, h3⟩
      · exact .inl (h1.trans h)
      · exact .inr ⟨List.mem_cons_of_mem _ h2, h1.trans h3⟩
theorem wipe_at {τ : L2.St} {i : Nat} : ∀ {l : List Nat}, i ∈ l → i < τ.length → (wipe τ l)[i]? = some none
  | j :: l, h, hl => by
    by_cases e : j = i
    · subst e
      exact List.getElem?_set_self (by rw [wipe_length]; exact hl)
    · have h1 : ((wipe τ l).set j none)[i]? = (wipe τ l)[i]? := List.getElem?_set_ne e
      rcases List.mem_cons.mp h with rfl | h
      · exact absurd rfl e
      · exact h1.trans (wipe_at h hl)
theorem wipe_ext {τ τ' : L2.St} {l : List Nat} (hl : τ.length = τ'.length) (h : ∀ i, i ∉ l → τ[i]? = τ'[i]?) : wipe τ l = wipe τ' l := by
  refine List.ext_getElem? fun i => ?_
  by_cases m : i ∈ l
  · by_cases z : i < τ.length
    · rw [wipe_at m z, wipe_at m (hl ▸ z)]
    · rw [List.getElem?_eq_none (by rw [wipe_length]; omega), List.getElem?_eq_none (by rw [wipe_length]; omega)]
  · rw [wipe_out m, wipe_out m]
    exact h i m
theorem wipeE_at {ρ : Env} {i : Nat} : ∀ {l : List Nat}, i ∈ l → i < ρ.length → (wipeE l ρ)[i]? = some .un
  | j :: l, h, hl => by
    by_cases e : j = i
    · subst e
      exact List.getElem?_set_self (by rw [wipeE_len]; exact hl)
    · have h1 : ((wipeE l ρ).set j .un)[i]? = (wipeE l ρ)[i]? := List.getElem?_set_ne e
      rcases List.mem_cons.mp h with rfl | h
      · exact absurd rfl e
      · exact h1.trans (wipeE_at h hl)
theorem wipeE_ext {ρ ρ' : Env} {l : List Nat} (hl : ρ.length = ρ'.length) (h : ∀ i, i ∉ l → ρ[i]? = ρ'[i]?) : wipeE l ρ = wipeE l ρ' := by
  refine List.ext_getElem? fun i => ?_
  by_cases m : i ∈ l
  · by_cases z : i < ρ.length
    · rw [wipeE_at m z, wipeE_at m (hl ▸ z)]
    · rw [List.getElem?_eq_none (by rw [wipeE_len]; omega), List.getElem?_eq_none (by rw [wipeE_len]; omega)]
  · rw [wipeE_out m, wipeE_out m]
    exact h i m
theorem wipe_idem (τ : L2.St) (l : List Nat) : wipe (wipe τ l) l = wipe τ l := wipe_ext (wipe_length τ l) fun i h => wipe_out h
theorem wipe_wipe (τ : L2.St) {v l : List Nat} (s : ∀ i ∈ v, i ∈ l) : wipe (wipe τ v) l = wipe τ l := wipe_ext (wipe_length τ v) fun i h => wipe_out fun m => h (s i m)
theorem wipeE_wipe (ρ : Env) {v l : List Nat} (s : ∀ i ∈ v, i ∈ l) : wipeE l (wipeE v ρ) = wipeE l ρ := wipeE_ext (wipeE_len ρ v) fun i h => wipeE_out fun m => h (s i m)
theorem memB_ok {i : Nat} {l : List Nat} : memB i l = true ↔ i ∈ l := by
  unfold memB
  rw [List.any_eq_true]
  exact ⟨fun ⟨j, h1, h2⟩ => by rw [Nat.eq_of_beq_eq_true h2]; exact h1, fun h => ⟨i, h, Nat.beq_refl i⟩⟩
theorem disjB_ok {l m : List Nat} (h : disjB l m = true) : ∀ i ∈ l, i ∉ m := fun i h1 h2 => by
  have := List.all_eq_true.mp h i h1
  rw [memB_ok.mpr h2] at this
  cases this
theorem subB_ok {l m : List Nat} (h : subB l m = true) : ∀ i ∈ l, i ∈ m := fun i h1 => memB_ok.mp (List.all_eq_true.mp h i h1)
section
variable {k : Kn} {W : WX} {σ σ' σ0 τ : L2.St} {ρ ρ' ρ0 ρ1 ρ2 : Env} {F F' F0 F1 F2 H H' H0 H1 H2 : Hp}
theorem wipe_hd {l : List Nat} {a : Addr} (h : Hd (wipe σ l) (wipeE l ρ) a) : Hd σ ρ a := by
  obtain ⟨i, s, d, h1, h2, h3⟩ := h
  rcases wipeE_some h1 with rfl | ⟨_, h1⟩
  · cases h2
  · exact ⟨i, s, d, h1, h2, (wipe_some h3).1⟩
theorem wipe_ow {l : List Nat} {a : Addr} (h : Ow (wipe σ l) (wipeE l ρ) a) : Ow σ ρ a := by
  obtain ⟨i, s, d, h1, h2, h3⟩ := h
  rcases wipeE_some h1 with rfl | ⟨_, h1⟩
  · cases h2
  · exact ⟨i, s, d, h1, h2, (wipe_some h3).1⟩
theorem rp_wipe (l : List Nat) (r : Rp k ρ F σ H) : Rp k (wipeE l ρ) F (wipe σ l) H := by
  refine ⟨by rw [wipeE_len, wipe_length]; exact r.len, r.sub, fun i s h => ?_, fun i j s t d e a h1 h2 h3 h4 h5 h6 => ?_, fun i j t d e a h1 h2 h3 h4 h5 => ?_⟩
  · rcases wipeE_some h with rfl | ⟨m, h⟩
    · trivial
    · rw [wipe_out m]; exact r.slot i s h
  · rcases wipeE_some h1 with rfl | ⟨_, h1⟩
    · cases h3
    · rcases wipeE_some h2 with rfl | ⟨_, h2⟩
      · cases h4
      · exact r.disj i j s t d e a h1 h2 h3 h4 (wipe_some h5).1 (wipe_some h6).1
  · rcases wipeE_some h1 with z | ⟨_, h1⟩
    · cases z
    · rcases wipeE_some h2 with rfl | ⟨_, h2⟩
      · cases h3
      · exact r.lkd i j t d e a h1 h2 h3 (wipe_some h4).1 (wipe_some h5).1
/-- slots forgotten; none of them is a caller's -/
theorem tr_wipe {l : List Nat} (na : ∀ i ∈ l, ∀ s, ρ0[i]? = some s → s.fixd = false) (t : Tr k σ0 ρ0 F0 H0 σ ρ F H) : Tr k σ0 ρ0 F0 H0 (wipe σ l) (wipeE l ρ) F H := by
  refine ⟨rp_wipe l t.rp, t.keep, t.dom, fun a h => t.own a (wipe_ow h), fun a h => t.hld a (wipe_hd h), fun i s h1 h2 => ?_, fun i d h => ?_⟩
  · have m : i ∉ l := fun m => by rw [na i m s h1] at h2; cases h2
    rw [wipe_out m, wipeE_out m]
    exact t.fix i s h1 h2
  · rcases wipeE_some h with z | ⟨m, h⟩
    · cases z
    · rw [wipe_out m]; exact t.lks i d h
/-- a heap's private thing is written -/
theorem Tr.priv {a : Addr} {o : HO} (t : Tr k σ0 ρ0 F0 H0 σ ρ F H) (nh : ¬ Hd σ ρ a) (nf : F a = none) (n0 : H0 a = none) : Tr k σ0 ρ0 F0 H0 σ ρ F (upd H a o) := by
  have r := t.rp
  have ne : ∀ {i : Nat} {s : Sl} {d : D} {c : Addr}, ρ[i]? = some s → s.con = some d → σ[i]? = some (some (.ref c)) → c ≠ a := fun {i s d c} h1 h2 h3 e => nh ⟨i, s, d, h1, h2, e ▸ h3⟩
  refine ⟨⟨r.len, fun b u h => ?_, fun i s h => ?_, r.disj, r.lkd⟩, fun b u h nb => ?_, fun b h => ?_, t.own, t.hld, t.fix, t.lks⟩
  · have n : b ≠ a := fun z => by rw [z, nf] at h; cases h
    rw [upd_ne n]; exact r.sub b u h
  · have q := r.slot i s h
    cases s with
    | un => trivial
    | fz d => exact q
    | lz d => exact q
    | ow d => obtain ⟨c, h1, h2, h3, h4⟩ := q; exact ⟨c, h1, h2, h3, h4.keep fun _ z => by cases z; exact ne h rfl h1 rfl⟩
    | le d => obtain ⟨c, h1, h2, h3, h4⟩ := q; exact ⟨c, h1, h2, h3, h4.keep fun _ z => by cases z; exact ne h rfl h1 rfl⟩
    | lk d => obtain ⟨c, h1, h3, h4⟩ := q; exact ⟨c, h1, h3, h4.keep fun _ z => by cases z; exact ne h rfl h1 rfl⟩
  · have n : b ≠ a := fun z => by rw [z, n0] at h; cases h
    rw [upd_ne n]; exact t.keep b u h nb
  · have n : b ≠ a := fun z => by rw [z, upd_same] at h; cases h
    rw [upd_ne n] at h; exact t.dom b h
/-- the block's names as they were -/
theorem tr_unwipe {l : List Nat} (r : Rp k ρ F σ H) (t : Tr k (wipe σ l) (wipeE l ρ) F H (wipe σ l) (wipeE l ρ') F' H') : Tr k σ ρ F H σ (unlockAll ρ l ρ') F' H' ∧ ∀ a, Hd σ (unlockAll ρ l ρ') a → Hd (wipe σ l) (wipeE l ρ') a ∨ Hd σ ρ a := by
  have rw0 := rp_wipe l r
  have sF : Sub F F' := t.sub rw0
  have len : ρ'.length = ρ.length := by
    have := t.rp.len
    rw [wipeE_len, wipe_length] at this
    rw [this, r.len]
  have ins : ∀ {i : Nat} {s : Sl}, i ∈ l → (unlockAll ρ l ρ')[i]? = some s → ρ[i]? = some s := fun {i s} m h => by
    rw [unlock_get] at h
    split at h
    · exact h
    · next q =>
      exfalso
      apply q
      have hl : i < ρ'.length := (List.getElem?_eq_some_iff.mp h).1
      exact ⟨m, by rw [List.getElem?_eq_getElem (len ▸ hl)]; rfl, hl⟩
  have outs : ∀ {i : Nat}, i ∉ l → (unlockAll ρ l ρ')[i]? = (wipeE l ρ')[i]? := fun {i} m => by rw [unlock_get, if_neg fun z => m z.1, wipeE_out m]
  -- a block's name that held something holds it still
  have nO : ∀ {i : Nat} {s : Sl} {d : D} {a : Addr}, i ∈ l → ρ[i]? = some s → s.con = some d → σ[i]? = some (some (.ref a)) → ¬ Ow (wipe σ l) (wipeE l ρ) a := fun {i s d a} m h1 h2 h3 ⟨j, t, e, g1, g2, g3⟩ => by
    rcases wipeE_some g1 with rfl | ⟨nm, g1⟩
    · cases g2
    · have := r.same g1 g2 h1 h2 (wipe_some g3).1 h3
      subst this
      exact nm m
  have con : ∀ {i : Nat} {s : Sl} {d : D} {a : Addr}, i ∈ l → ρ[i]? = some s → s.con = some d → σ[i]? = some (some (.ref a)) → d.mut = true → RepP k F H d (.ref a) → RepP k F' H' d (.ref a) ∧ F' a = F a := fun {i s d a} m h1 h2 h3 hm p => by
    obtain ⟨c, u, ec, hu⟩ := p.at hm
    cases ec
    obtain ⟨k1, k2⟩ := t.keep a u hu (nO m h1 h2 h3)
    refine ⟨p.mono sF fun _ b w eb hb => ?_, k2⟩
    cases eb
    rw [hu] at hb
    cases hb
    exact k1
  have held : ∀ {i : Nat} {s : Sl} {d : D} {a : Addr}, ρ[i]? = some s → s.con = some d → σ[i]? = some (some (.ref a)) → ∃ o, H a = some o := fun h1 h2 h3 => r.hdSome ⟨_, _, _, h1, h2, h3⟩
  -- one at l and one not hold not the same, where one of them owns
  have mix : ∀ {i j : Nat} {s u : Sl} {d e : D} {a : Addr}, i ∈ l → j ∉ l → ρ[i]? = some s → s.con = some d → (wipeE l ρ')[j]? = some u → u.con = some e → (s.own.isSome = true ∨ u.own.isSome = true) → σ[i]? = some (some (.ref a)) → ¬ σ[j]? = some (some (.ref a)) := fun {i j s u d e a} mi mj h1 h2 h3 h4 h5 h6 h7 => by
    have h7' : (wipe σ l)[j]? = some (some (.ref a)) := by rw [wipe_out mj]; exact h7
    obtain ⟨o, ho⟩ := held h1 h2 h6
    by_cases ou : u.own.isSome = true
    · obtain ⟨e', he'⟩ := Option.isSome_iff_exists.mp ou
      rcases t.own a ⟨j, u, e', h3, he', h7'⟩ with z | z
      · exact nO mi h1 h2 h6 z
      · rw [ho] at z; cases z
    · rcases h5 with h5 | h5
      · obtain ⟨d', hd'⟩ := Option.isSome_iff_exists.mp h5
        rcases t.hld a ⟨j, u, e, h3, h4, h7'⟩ with ⟨j', w, e', g1, g2, g3⟩ | z
        · rcases wipeE_some g1 with rfl | ⟨nm, g1⟩
          · cases g2
          · have := r.same h1 hd' g1 g2 h6 (wipe_some g3).1
            subst this
            exact nm mi
        · rw [ho] at z; cases z
      · exact ou h5
  refine ⟨⟨⟨by rw [unlock_len, len]; exact r.len, t.rp.sub, fun i s h => ?_, fun i j s u d e a h1 h2 h3 h4 h5 h6 => ?_, fun i j u d e a h1 h2 h3 h4 h5 => ?_⟩, fun a o h nb => t.keep a o h fun z => nb (wipe_ow z), t.dom, fun a h => ?_, fun a h => ?_, fun i s h1 h2 => ⟨rfl, ?_⟩, fun i d h => ⟨?_, rfl⟩⟩, fun a h => ?_⟩
  · by_cases m : i ∈ l
    · have h' := ins m h
      have q := r.slot i s h'
      cases s with
      | un => trivial
      | fz d => obtain ⟨x, p1, p2⟩ := q; exact ⟨x, p1, p2.mono sF⟩
      | lz d => obtain ⟨x, p1, p2⟩ := q; exact ⟨x, p1, p2.mono sF⟩
      | ow d => obtain ⟨a, p1, p2, p3, p4⟩ := q; obtain ⟨c1, c2⟩ := con m h' rfl p1 p3 p4; exact ⟨a, p1, c2.trans p2, p3, c1⟩
      | le d => obtain ⟨a, p1, p2, p3, p4⟩ := q; obtain ⟨c1, c2⟩ := con m h' rfl p1 p3 p4; exact ⟨a, p1, c2.trans p2, p3, c1⟩
      | lk d => obtain ⟨a, p1, p3, p4⟩ := q; obtain ⟨c1, _⟩ := con m h' rfl p1 p3 p4; exact ⟨a, p1, p3, c1⟩
    · rw [outs m] at h
      have q := t.rp.slot i s h
      rw [wipe_out m] at q
      exact q
  · by_cases mi : i ∈ l
    · by_cases mj : j ∈ l
      · exact r.disj i j s u d e a (ins mi h1) (ins mj h2) h3 h4 h5 h6
      · rw [outs mj] at h2
        exact absurd h6 (mix mi mj (ins mi h1) (Sl.own_con h3) h2 (Sl.own_con h4) (.inl (by rw [h3]; rfl)) h5)
    · rw [outs mi] at h1
      by_cases mj : j ∈ l
      · exact absurd h5 (mix mj mi (ins mj h2) (Sl.own_con h4) h1 (Sl.own_con h3) (.inl (by rw [h4]; rfl)) h6)
      · rw [outs mj] at h2
        exact t.rp.disj i j s u d e a h1 h2 h3 h4 (by rw [wipe_out mi]; exact h5) (by rw [wipe_out mj]; exact h6)
  · by_cases mi : i ∈ l
    · by_cases mj : j ∈ l
      · exact r.lkd i j u d e a (ins mi h1) (ins mj h2) h3 h4 h5
      · rw [outs mj] at h2
        exact mix mi mj (ins mi h1) rfl h2 (Sl.own_con h3) (.inr (by rw [h3]; rfl)) h4 h5
    · rw [outs mi] at h1
      by_cases mj : j ∈ l
      · exact absurd h4 (mix mj mi (ins mj h2) (Sl.own_con h3) h1 rfl (.inl (by rw [h3]; rfl)) h5)
      · rw [outs mj] at h2
        exact t.rp.lkd i j u d e a h1 h2 h3 (by rw [wipe_out mi]; exact h4) (by rw [wipe_out mj]; exact h5)
  · obtain ⟨i, s, d, h1, h2, h3⟩ := h
    by_cases m : i ∈ l
    · exact .inl ⟨i, s, d, ins m h1, h2, h3⟩
    · rw [outs m] at h1
      exact (t.own a ⟨i, s, d, h1, h2, by rw [wipe_out m]; exact h3⟩).imp wipe_ow id
  · obtain ⟨i, s, d, h1, h2, h3⟩ := h
    by_cases m : i ∈ l
    · exact .inl ⟨i, s, d, ins m h1, h2, h3⟩
    · rw [outs m] at h1
      exact (t.hld a ⟨i, s, d, h1, h2, by rw [wipe_out m]; exact h3⟩).imp wipe_hd id
  · by_cases m : i ∈ l
    · refine ⟨s, ?_, s.follows_refl⟩
      have hl : i < ρ.length := (List.getElem?_eq_some_iff.mp h1).1
      rw [unlock_get, if_pos ⟨m, by rw [h1]; rfl, len ▸ hl⟩, h1]
    · rw [outs m]
      exact (t.fix i s (by rw [wipeE_out m]; exact h1) h2).2
  · by_cases m : i ∈ l
    · exact ins m h
    · rw [outs m] at h
      have := (t.lks i d h).1
      rw [wipeE_out m] at this
      exact this
  · obtain ⟨i, s, d, h1, h2, h3⟩ := h
    by_cases m : i ∈ l
    · exact .inr ⟨i, s, d, ins m h1, h2, h3⟩
    · rw [outs m] at h1
      exact .inl ⟨i, s, d, h1, h2, by rw [wipe_out m]; exact h3⟩
end
end VS

set_option Elab.async false
set_option linter.all false
set_option maxRecDepth 100000
set_option maxHeartbeats 2000000
/-! VS 11: list comprehensions, their rules. -/
namespace VS
open PySem PySem.Spec PyProof.Rows L2
abbrev WF : WX := fun _ _ _ _ => False
theorem set_wipe {τ : L2.St} {i : Nat} {v : List Nat} {x : Option V} (h : i ∈ v) : wipe (τ.set i x) v = wipe τ v :=
  wipe_ext List.length_set fun j hj => List.getElem?_set_ne fun (e : i = j) => hj (by rw [← e]; exact h)
theorem setAll_wipe {v : List Nat} : ∀ {l : List Nat} {vs : List V} {τ : L2.St}, (∀ i ∈ l, i ∈ v) → wipe (setAll τ l vs) v = wipe τ v
  | [], vs, τ, _ => by cases vs <;> rfl
  | i :: l, [], τ, _ => rfl
  | i :: l, x :: vs, τ, h => (setAll_wipe (τ := τ.set i (some x)) fun j hj => h j (List.mem_cons_of_mem _ hj)).trans (set_wipe (h i List.mem_cons_self))
/-- within a comprehension: the new list at L holds done -/
def LI (k : Kn) (σa : L2.St) (ρa : Env) (F1 H1 : Hp) (L : Addr) (G : Hp) (τ : L2.St) (v : List Nat) (ρl : Env) (done : List D) (H : Hp) : Prop :=
  ∃ F acc, Tr k σa ρa F1 H1 (wipe τ v) (wipeE v ρl) F H ∧ ¬ Hd (wipe τ v) (wipeE v ρl) L ∧ F L = none ∧ H L = some (.lst acc) ∧ RepL k F done acc ∧ Sub G F
section
variable {k : Kn} {W : WX} {σa τ σ2 : L2.St} {ρa ρl ρ ρ' : Env} {F1 H1 F F2 H H2 H3 G : Hp} {L : Addr} {v : List Nat} {done : List D}
theorem LI.of {acc : List V} (na : ∀ i ∈ v, ∀ s, ρa[i]? = some s → s.fixd = false) (t : Tr k σa ρa F1 H1 τ ρ F H) (nh : ¬ Hd τ ρ L) (nf : F L = none) (hL : H L = some (.lst acc)) (r : RepL k F done acc) (sG : Sub G F) : LI k σa ρa F1 H1 L G τ v ρ done H :=
  ⟨F, acc, tr_wipe na t, fun z => nh (wipe_hd z), nf, hL, r, sG⟩
theorem outO {o : Option D} {r' : List D} : (match o with
    | some e => e :: r'
    | none => r') = o.toList ++ r' := by cases o <;> rfl
/-- one lap: behind what the iterator gave -/
theorem LI.lap {X : Cx} {t : Tg} {mi : Env → Out Bool} {me : Env → Out Rr} {d : D} {x : V} {o : Option D} {Nx : Hp → Prop} (n0 : H1 L = none) (na : ∀ i ∈ v, ∀ s, ρa[i]? = some s → s.fixd = false) (ht : ∀ i ∈ tgS t, i ∈ v)
    (t3 : Tr (Cx.kn X) σa ρa F1 H1 (wipe τ v) (wipeE v ρl) F H) (nh : ¬ Hd (wipe τ v) (wipeE v ρl) L) (nf : F L = none) {acc : List V} (hL : H L = some (.lst acc)) (ra : RepL (Cx.kn X) F done acc) (sG : Sub G F)
    (rx : RepV (Cx.kn X) F d x) (ef : lapF v t mi me d ρl = .ok o ρ') (sz : done.length + o.toList.length ≤ 16777216) (nx : ∀ H', LI (Cx.kn X) σa ρa F1 H1 L G τ v ρ' (done ++ o.toList) H' → Nx H') :
    gT X.K t x (wipe τ v) H fun σ2 H2 => wipe σ2 v = wipe τ v ∧ tB (Cx.kn X) WF mi σ2 H2 fun b H3 =>
      if b = true then tV (Cx.kn X) WF me σ2 H3 fun y H4 => ∃ acc, H4 L = some (.lst acc) ∧ acc.length < sizeLine ∧ Nx (upd H4 L (.lst (acc ++ [y]))) else Nx H3 := by
  unfold lapF at ef
  cases et : tgD t d (wipeE v ρl) with
  | none => rw [et] at ef; cases ef
  | some ρ3 =>
    rw [et] at ef
    refine tg_ok et rx t3.rp (Tr.refl t3.rp) fun σ2 hσ t4 => ?_
    have ew : wipe σ2 v = wipe τ v := by
      cases t with
      | nm i => rw [hσ, set_wipe (ht i (by simp [tgS])), wipe_idem]
      | tp l => obtain ⟨vs, rfl⟩ := hσ; rw [setAll_wipe (l := l) ht, wipe_idem]
    refine ⟨ew, ρ3, F, t4.rp, ?_⟩
    -- what holds of the new list behind a later state
    have keepL : ∀ {ρ5 : Env} {F5 H5 : Hp}, Tr (Cx.kn X) (wipe τ v) (wipeE v ρl) F H σ2 ρ5 F5 H5 → H5 L = some (.lst acc) ∧ F5 L = none ∧ ¬ Hd σ2 ρ5 L ∧ RepL (Cx.kn X) F5 done acc ∧ Sub G F5 := fun {ρ5 F5 H5} u => by
      obtain ⟨k1, k2⟩ := u.keep L _ hL fun z => nh z.hd
      refine ⟨k1, k2.trans nf, fun z => ?_, ra.mono (u.sub t3.rp), sG.trans (u.sub t3.rp)⟩
      rcases u.hld L z with z | z
      · exact nh z
      · rw [hL] at z; cases z
    have ef' : ((mi ρ3).bind fun b ρ4 => (match b with
      | true => (me ρ4).bind fun r ρ5 => (useR r ρ5).bind fun x ρ6 => .ok (some x) ρ6
      | false => .ok none ρ4)) = .ok o ρ' := ef
    cases em : mi ρ3 with
    | bad => rw [em] at ef'; cases ef'
    | exc c w ρ4 => rw [em] at ef'; cases ef'
    | ok b ρ4 =>
      rw [em] at ef'
      intro F4 H4 t5
      have t45 := t4.trans t5
      cases b with
      | false =>
        have e2 : Out.ok none ρ4 = Out.ok o ρ' := ef'
        cases e2
        show (if false = true then _ else Nx H4)
        rw [if_neg Bool.false_ne_true]
        obtain ⟨q1, q2, q3, q4, q5⟩ := keepL t45
        refine nx H4 ?_
        have li := LI.of (v := v) na (t3.trans t45) q3 q2 q1 q4 q5
        unfold LI at li ⊢
        rw [ew] at li
        rw [Option.toList_none, List.append_nil]
        exact li
      | true =>
        show (if true = true then _ else Nx H4)
        rw [if_pos rfl]
        have e2 : ((me ρ4).bind fun r ρ5 => (useR r ρ5).bind fun x ρ6 => Out.ok (some x) ρ6) = .ok o ρ' := ef'
        refine ⟨ρ4, F4, t5.rp, ?_⟩
        cases ee : me ρ4 with
        | bad => rw [ee] at e2; cases e2
        | exc c w ρ5 => rw [ee] at e2; cases e2
        | ok r ρ5 =>
          rw [ee] at e2
          have e3 : ((useR r ρ5).bind fun x ρ6 => Out.ok (some x) ρ6) = .ok o ρ' := e2
          intro F5 H5 t6 y rr
          cases eu : useR r ρ5 with
          | bad => rw [eu] at e3; cases e3
          | exc c w ρ6 => rw [eu] at e3; cases e3
          | ok w ρ6 =>
            rw [eu] at e3
            have e4 : Out.ok (some w) ρ6 = Out.ok o ρ' := e3
            cases e4
            obtain ⟨F6, t7, rw7⟩ := use_ok t5.rp t6 rr eu
            have t47 := t45.trans t7
            obtain ⟨q1, q2, q3, q4, q5⟩ := keepL t47
            refine ⟨acc, q1, ?_, nx _ ?_⟩
            · rw [ra.length, sizeLine_eq]
              simp only [Option.toList_some, List.length_cons, List.length_nil] at sz
              omega
            · have t8 := Tr.priv (o := .lst (acc ++ [y])) (t3.trans t47) q3 q2 n0
              have li := LI.of (v := v) (done := done ++ [w]) na t8 q3 q2 upd_same (q4.append (RepL.cons rw7 RepL.nil)) q5
              unfold LI at li ⊢
              rw [ew] at li
              exact li
end
/-! ### one clause -/
structure EPT (X : Cx) (W : WX) (ifs : List Expr) (m : Env → Out Bool) : Prop where
  pt : PTs X ifs (tB (Cx.kn X) W m)
section
variable {X : Cx} {W : WX} {e c : Expr} {m : Env → Out Bool}
theorem pts_mono {ifs : List Expr} {t u : TT} (h : PTs X ifs t) (g : ∀ σ H Q, u σ H Q → t σ H Q) : PTs X ifs u := ⟨fun pins s σ H Q I w => h.run pins s σ H Q I (g σ H Q w)⟩
theorem ept_nil : EPT X W [] (fun ρ => .ok true ρ) := ⟨pts_mono pts_nil fun _ _ _ ⟨_, _, r0, p⟩ => Pv.ok r0 p⟩
theorem ept_one (h : ET X W c m) : EPT X W [c] m := ⟨pts_one h.pt⟩
end
theorem wipeE_free {own : List Nat} {ρ : Env} : ∀ i ∈ own, ∀ s, (wipeE own ρ)[i]? = some s → s.fixd = false := fun i m s h => by
  rcases wipeE_some h with rfl | ⟨n, _⟩
  · rfl
  · exact absurd m n
/-- what is walked, seen from within -/
theorem stay_in {k : Kn} {σ τ : L2.St} {ρ1 ρ' : Env} {F1 H1 F H : Hp} {own : List Nat} {rs : List Rr} {xs : List V} {sds : List D} (r : Rp k ρ1 F1 σ H1) (dj : ∀ i ∈ own, i ∉ ownsR rs) (hx : RSs k σ F1 rs xs) (es : pkRs rs ρ1 = some sds)
    (t : Tr k (wipe σ own) (wipeE own (lockAll (ownsR rs) ρ1)) F1 H1 τ ρ' F H) : RepPs k F H sds xs := by
  have rl := rp_wipe own (r.lock (ownsR rs))
  refine RSs.stay r (t.sub rl) (ownsR rs) (fun i hi d h => ?_) t.rp (fun _ h => h) hx es
  have m : i ∉ own := fun m => dj i m hi
  obtain ⟨g1, s', g2, g3⟩ := t.fix i _ (by rw [wipeE_out m]; exact h) rfl
  have g3' : s' = .lk d := g3
  subst g3'
  exact ⟨g2, by rw [g1, wipe_out m]⟩
/-- how a comprehension ends -/
theorem comp_end {k : Kn} {W : WX} {σ : L2.St} {ρ ρ1 ρE : Env} {F H F1 H1 H' : Hp} {own : List Nat} {rs : List Rr} {sds tot : List D} {L : Addr} {Q : VK} (t1 : Tr k σ ρ F H σ ρ1 F1 H1) (es : pkRs rs ρ1 = some sds)
    (p : Pv k W σ ρ F H (compEnd ρ1 own (ownsR rs) (.ok tot ρE)) fun r ρ' F' H' => ∀ x, RR k σ H ρ' F' H' r x → Q x H') (hL : H1 L = none) (li : LI k (wipe σ own) (wipeE own (lockAll (ownsR rs) ρ1)) F1 H1 L F1 σ own ρE tot H') : Q (.ref L) H' := by
  obtain ⟨F', acc, t, nh, nf, hL', ra, _⟩ := li
  have hl : ∀ i ∈ ownsR rs, ∃ s d, ρ1[i]? = some s ∧ s.con = some d := fun i h => owns_con es h
  obtain ⟨t2, h2⟩ := tr_unwipe (t1.rp.lock (ownsR rs)) t
  obtain ⟨t3, h3⟩ := Tr.unlock t1.rp hl t2
  have p' : Pv k W σ ρ F H (if szB tot.length then Out.ok (.fr (.lst tot)) (unlockAll ρ1 (ownsR rs) (unlockAll (lockAll (ownsR rs) ρ1) own ρE)) else .bad) fun r ρ' F' H' => ∀ x, RR k σ H ρ' F' H' r x → Q x H' := p
  by_cases z : szB tot.length = true
  · rw [if_pos z] at p'
    refine p' F' H' (t1.trans t3) (.ref L) ⟨L, rfl, t1.dom L hL, fun q => ?_, nf, rfl, L, acc, rfl, hL', ra⟩
    rcases h2 L (h3 L q) with q | q
    · exact nh q
    · obtain ⟨o, ho⟩ := (t1.rp.lock (ownsR rs)).hdSome q
      rw [hL] at ho
      cases ho
  · rw [if_neg z] at p'; exact False.elim p'
theorem comp_start {k : Kn} {σ : L2.St} {ρ1 : Env} {F1 H1 : Hp} {own : List Nat} {L : Addr} {rs : List Rr} (r : Rp k ρ1 F1 σ H1) (hL : H1 L = none) : LI k (wipe σ own) (wipeE own (lockAll (ownsR rs) ρ1)) F1 H1 L F1 σ own (lockAll (ownsR rs) ρ1) [] (upd H1 L (.lst [])) := by
  have rl := rp_wipe own (r.lock (ownsR rs))
  refine ⟨F1, [], Tr.grow rl (upd_grow0 hL) (sub_upd0 rl.sub hL), fun z => ?_, sub_none rl.sub hL, upd_same, RepL.nil, Sub.refl⟩
  obtain ⟨o, ho⟩ := rl.hdSome z
  rw [hL] at ho
  cases ho
theorem laps_cons {f : D → Env → Out (Option D)} {d : D} {l rest : List D} {ρ ρE : Env} (h : laps f (d :: l) ρ = .ok rest ρE) : ∃ o ρ' r', f d ρ = .ok o ρ' ∧ laps f l ρ' = .ok r' ρE ∧ rest = o.toList ++ r' := by
  have h : (match f d ρ with
    | .ok o ρ' => (match laps f l ρ' with
      | .ok r ρ2 => Out.ok (match o with
        | some e => e :: r
        | none => r) ρ2
      | _ => .bad)
    | _ => .bad) = .ok rest ρE := h
  cases ef : f d ρ with
  | bad => rw [ef] at h; cases h
  | exc c v ρ' => rw [ef] at h; cases h
  | ok o ρ' =>
    simp only [ef] at h
    cases el : laps f l ρ' with
    | bad => rw [el] at h; cases h
    | exc c v ρ2 => rw [el] at h; cases h
    | ok r ρ2 =>
      simp only [el] at h
      rw [outO] at h
      cases h
      exact ⟨o, ρ', r, rfl, el, rfl⟩
theorem laps2_cons {f : D → Env → Out (List D)} {d : D} {l rest : List D} {ρ ρE : Env} (h : laps2 f (d :: l) ρ = .ok rest ρE) : ∃ o ρ' r', f d ρ = .ok o ρ' ∧ laps2 f l ρ' = .ok r' ρE ∧ rest = o ++ r' := by
  have h : (match f d ρ with
    | .ok o ρ' => (match laps2 f l ρ' with
      | .ok r ρ2 => Out.ok (o ++ r) ρ2
      | _ => .bad)
    | _ => .bad) = .ok rest ρE := h
  cases ef : f d ρ with
  | bad => rw [ef] at h; cases h
  | exc c v ρ' => rw [ef] at h; cases h
  | ok o ρ' =>
    simp only [ef] at h
    cases el : laps2 f l ρ' with
    | bad => rw [el] at h; cases h
    | exc c v ρ2 => rw [el] at h; cases h
    | ok r ρ2 =>
      simp only [el] at h
      cases h
      exact ⟨o, ρ', r, rfl, el, rfl⟩
section
variable {X : Cx} {W : WX} {t t2 : Tg} {ik k2 : Ik} {own : List Nat} {ml mq : Env → Out (List Rr)} {mi mi2 : Env → Out Bool} {me : Env → Out Rr}
theorem tLc_ok {σ : L2.St} {H : Hp} {Q : VK} (h : tV (Cx.kn X) W (mComp own t ik ml mi me) σ H Q) : tLc (tI (Cx.kn X) W ik ml) (gT X.K t) (tB (Cx.kn X) WF mi) (tV (Cx.kn X) WF me) own σ H Q := by
  obtain ⟨ρ, F, r0, p⟩ := h
  refine ⟨ρ, F, r0, Pv.bind0 p fun rs ρ1 F1 H1 t1 p1 => ?_⟩
  unfold compR at p1
  obtain ⟨sds, ds, es, ed⟩ : ∃ sds ds, pkRs rs ρ1 = some sds ∧ ikD ik sds = some ds := by
    cases eb : (pkRs rs ρ1).bind (ikD ik) with
    | none => simp only [eb] at p1; exact False.elim p1
    | some ds =>
      obtain ⟨sds, es, ed⟩ := Option.bind_eq_some_iff.mp eb
      exact ⟨sds, ds, es, ed⟩
  refine ⟨sds, ds, es, ed, fun xs hx J w => ?_⟩
  rw [es, Option.bind_some, ed] at p1
  by_cases hb : (disjB own (ownsR rs) && subB (tgS t) own) = true
  · simp only [hb, if_true] at p1
    obtain ⟨b1, b2⟩ := Bool.and_eq_true_iff.mp hb
    have dj := disjB_ok b1
    have tg := subB_ok b2
    intro L hL
    cases ec : laps (lapF own t mi me) ds (lockAll (ownsR rs) ρ1) with
    | bad => rw [ec] at p1; exact False.elim p1
    | exc c v ρE => rw [ec] at p1; exact False.elim p1
    | ok tot ρE =>
      rw [ec] at p1
      have hz : tot.length ≤ 16777216 := by
        by_cases z : szB tot.length = true
        · exact Nat.le_of_ble_eq_true z
        · have p' : Pv (Cx.kn X) W σ ρ F H (if szB tot.length then Out.ok (Rr.fr (.lst tot)) (unlockAll ρ1 (ownsR rs) (unlockAll (lockAll (ownsR rs) ρ1) own ρE)) else .bad) _ := p1
          rw [if_neg z] at p'
          exact False.elim p'
      refine ⟨fun i m H' => m = ds.length - i ∧ i ≤ ds.length ∧ ∃ ρl done rest, LI (Cx.kn X) (wipe σ own) (wipeE own (lockAll (ownsR rs) ρ1)) F1 H1 L F1 σ own ρl done H' ∧ laps (lapF own t mi me) (ds.drop i) ρl = .ok rest ρE ∧ done ++ rest = tot,
        ⟨ds.length, by simp, Nat.zero_le _, _, [], tot, comp_start t1.rp hL, ec, rfl⟩, ?_⟩
      rintro i m H2 ⟨rfl, hle, ρl, done, rest, li, el, et⟩
      have li0 := li
      obtain ⟨F2, acc, t2, nh, nf, hL2, ra, sG⟩ := li
      have st := stay_in t1.rp dj hx es t2
      by_cases hlt : i < ds.length
      · have ed : ds.drop i = ds[i] :: ds.drop (i + 1) := List.drop_eq_getElem_cons hlt
        rw [ed] at el
        obtain ⟨o, ρ', r', e1, e2, rfl⟩ := laps_cons el
        refine .inr ⟨w.goes i F2 H2 hlt t2.rp.sub st, fun H' => ∃ ρl done rest, LI (Cx.kn X) (wipe σ own) (wipeE own (lockAll (ownsR rs) ρ1)) F1 H1 L F1 σ own ρl done H' ∧ laps (lapF own t mi me) (ds.drop (i + 1)) ρl = .ok rest ρE ∧ done ++ rest = tot,
          fun H' h => ⟨ds.length - (i + 1), by omega, rfl, hlt, h⟩, fun x H3 y => ?_⟩
        obtain ⟨F3, g3, s3, v3⟩ := w.yields i ds[i] F2 H2 x H3 (List.getElem?_eq_getElem hlt) t2.rp.sub st y
        have t3 := t2.trans (Tr.grow t2.rp g3 s3)
        have sF : Sub F2 F3 := fun a u hu => by rw [(g3 a u (t2.rp.sub a u hu)).2]; exact hu
        refine LI.lap hL wipeE_free tg t3 nh (by rw [(g3 L _ hL2).2]; exact nf) (g3 L _ hL2).1 (ra.mono sF) (sG.trans sF) v3 e1 ?_ fun H' li' => ⟨ρ', _, r', li', e2, ?_⟩
        · have := congrArg List.length et
          simp only [List.length_append] at this
          omega
        · rw [List.append_assoc]; exact et
      · have e : i = ds.length := by omega
        subst e
        rw [List.drop_length] at el
        have el' : Out.ok [] ρl = Out.ok rest ρE := el
        cases el'
        rw [List.append_nil] at et
        subst et
        exact .inl ⟨w.stops F2 H2 t2.rp.sub st, comp_end t1 es p1 hL li0⟩
  · rw [Bool.not_eq_true] at hb
    simp only [hb, Bool.false_eq_true, if_false] at p1
    exact False.elim p1
variable {elt tg iter tg1 iter1 : Expr} {ifs ifs1 : List Expr} {scope : Scope} {on : List (Str × Nat)} {pos : Pos}
/-- in a block of X -/
def Blk (X : Cx) (scope : Scope) (P : Cx → Prop) : Prop := ∀ (s : Shared) (H : Hp) (C : Addr) (cl : List (Str × Addr)) (fp : List Addr), P (X.blk s H scope (compEnvC scope cl C X.env) fp)
theorem ev_lc (hc : X.calm = true) (hN : X.N.Nodup) (hi : EI X W tg iter ik ml) (ok : BlkOk X.N X.env.scope scope on) (ho : on.map (·.2) = own) (hg : Blk X scope fun Y => PG Y tg (gT X.K t)) (ht : Blk X scope fun Y => EPT Y WF ifs mi) (he : Blk X scope fun Y => EV Y WF elt me)
    (hs : ∀ x, foldedSetIterable iter X.env x = pure x) : EV X W (.ListComp elt [⟨tg, iter, ifs, 0⟩] scope pos) (mComp own t ik ml mi me) := by
  subst ho
  exact ⟨pe_mono (pe_lc hc hN hi.pi ok hg (fun s H C cl fp => (ht s H C cl fp).pt) (fun s H C cl fp => (he s H C cl fp).pe) hs) fun σ H Q h => tLc_ok h⟩
theorem es_lc {i : Nat} {y : Str} {py spos : Pos} (hc : X.calm = true) (hN : X.N.Nodup) (hy : X.N[i]? = some y) (hyl : X.env.scope.names.lookup y = some .local) (hsw : swapsWith (.ListComp elt [⟨tg, iter, ifs, 0⟩] scope pos) (some (.Name y py)) spos.line X.env = pure true)
    (hi : EI X W tg iter ik ml) (ok : BlkOk X.N X.env.scope scope on) (ho : on.map (·.2) = own) (hg : Blk X scope fun Y => PG Y tg (gT X.K t)) (ht : Blk X scope fun Y => EPT Y WF ifs mi) (he : Blk X scope fun Y => EV Y WF elt me)
    (hs : ∀ x, foldedSetIterable iter X.env x = pure x) : ES X W (.Assign [.Name y py] (.ListComp elt [⟨tg, iter, ifs, 0⟩] scope pos) spos) (fun ρ => (mComp own t ik ml mi me ρ).fl fun r ρ1 => asgR (.nm i) r ρ1) := by
  subst ho
  exact ⟨ps_mono (ps_setLc hc hN hy hyl hsw hi.pi ok hg (fun s H C cl fp => (ht s H C cl fp).pt) (fun s H C cl fp => (he s H C cl fp).pe) hs) fun En σ H ⟨ρ, F, r0, p⟩ => tLc_ok ⟨ρ, F, r0, Ps.fl p fun r ρ1 F1 H1 t p1 x rr => asg_nm r0 t rr p1⟩⟩
end
end VS

set_option Elab.async false
set_option linter.all false
set_option maxRecDepth 100000
set_option maxHeartbeats 2000000
/-! VS 12: list comprehensions of two clauses. -/
namespace VS
open PySem PySem.Spec PyProof.Rows L2
theorem Out.bind_assoc {α β γ : Type} (m : Out α) (f : α → Env → Out β) (g : β → Env → Out γ) : (m.bind f).bind g = m.bind fun a ρ => (f a ρ).bind g := by cases m <;> rfl
theorem useR_exc {r : Rr} {ρ ρ' : Env} {c : Str} {v : Option D} (h : useR r ρ = .exc c v ρ') : False := by
  unfold useR at h
  repeat (first | cases h | split at h)
theorem useRs_exc : ∀ {rs : List Rr} {ρ ρ' : Env} {c : Str} {v : Option D}, useRs rs ρ = .exc c v ρ' → False
  | [], _, _, _, _, h => by cases h
  | r :: rs, ρ, ρ', c, v, h => by
    have h : ((useR r ρ).bind fun d ρ1 => (useRs rs ρ1).bind fun ds ρ2 => Out.ok (d :: ds) ρ2) = .exc c v ρ' := h
    cases e : useR r ρ with
    | bad => rw [e] at h; cases h
    | exc z w ρ1 => exact useR_exc e
    | ok d ρ1 =>
      rw [e] at h
      have h : ((useRs rs ρ1).bind fun ds ρ2 => Out.ok (d :: ds) ρ2) = .exc c v ρ' := h
      cases e2 : useRs rs ρ1 with
      | bad => rw [e2] at h; cases h
      | exc z w ρ2 => exact useRs_exc e2
      | ok ds ρ2 => rw [e2] at h; cases h
section
variable {k : Kn} {W : WX} {σ : L2.St} {ρ ρ0 ρ1 ρ2 : Env} {F F1 H0 H1 : Hp}
theorem pk_of {i : Nat} {s : Sl} {d : D} (h : ρ[i]? = some s) (e : s.con = some d) : pkR (.own i) ρ = some d := by
  show (match ρ[i]? with
    | some (.ow d) => some d
    | some (.le d) => some d
    | some (.lk d) => some d
    | _ => none) = _
  rw [h]
  cases s <;> first | exact e | cases e
theorem useR_pk {r : Rr} {d : D} (e : useR r ρ1 = .ok d ρ2) : pkR r ρ1 = some d ∧ (∀ (j : Nat) (s : Sl) (w : D), ρ2[j]? = some s → s.own = some w → ρ1[j]? = some s) ∧ ∀ i, r = .own i → ∃ s, ρ1[i]? = some s ∧ s.own = some d := by
  cases r with
  | fz d' => cases e; exact ⟨rfl, fun _ _ _ h _ => h, fun i z => by cases z⟩
  | fr d' => cases e; exact ⟨rfl, fun _ _ _ h _ => h, fun i z => by cases z⟩
  | own i =>
    have e' : (match ρ1[i]? with
      | some (.ow d) => Out.ok d (ρ1.set i (.fz d))
      | some (.le d) => .ok d (ρ1.set i (.lz d))
      | _ => .bad) = .ok d ρ2 := e
    have gen : ∀ {t : Sl}, t.own = none → ∀ (j : Nat) (s : Sl) (w : D), (ρ1.set i t)[j]? = some s → s.own = some w → ρ1[j]? = some s := fun {t} ht j s w h1 h2 => by
      rcases set_get h1 with ⟨_, rfl, _⟩ | ⟨_, h⟩
      · rw [ht] at h2; cases h2
      · exact h
    cases es : ρ1[i]? with
    | none => rw [es] at e'; cases e'
    | some s =>
      rw [es] at e'
      cases s with
      | ow w => cases e'; exact ⟨pk_of es rfl, gen rfl, fun j z => by cases z; exact ⟨_, es, rfl⟩⟩
      | le w => cases e'; exact ⟨pk_of es rfl, gen rfl, fun j z => by cases z; exact ⟨_, es, rfl⟩⟩
      | _ => cases e'
theorem RSs.mono {F F' : Hp} (s : Sub F F') : ∀ {rs : List Rr} {xs : List V}, RSs k σ F rs xs → RSs k σ F' rs xs
  | [], _, h => h
  | r :: rs, _, ⟨x, t, h0, h1, h2⟩ => ⟨x, t, h0, by
    cases r with
    | fz d => exact RepV.mono s h1
    | fr d => exact h1
    | own i => exact h1, RSs.mono s h2⟩
theorem useRs_ok (r0 : Rp k ρ F σ H0) : ∀ {rs : List Rr} {xs : List V} {ds sds : List D} {ρ1 ρ2 : Env} {F1 : Hp}, Tr k σ ρ F H0 σ ρ1 F1 H1 → RSs k σ F1 rs xs → useRs rs ρ1 = .ok ds ρ2 → (∀ (j : Nat) (s : Sl) (w : D), ρ1[j]? = some s → s.own = some w → ρ0[j]? = some s) → pkRs rs ρ0 = some sds →
    (∃ F2, Tr k σ ρ F H0 σ ρ2 F2 H1 ∧ Sub F1 F2 ∧ RepL k F2 ds xs) ∧ ds = sds
  | [], xs, ds, sds, ρ1, ρ2, F1, t, h, e, _, ep => by
    cases e
    cases ep
    have h : xs = [] := h
    rw [h]
    exact ⟨⟨F1, t, Sub.refl, RepL.nil⟩, rfl⟩
  | r :: rs, xs, ds, sds, ρ1, ρ2, F1, t, h, e, hi, ep => by
    obtain ⟨x, u, rfl, h1, h2⟩ := h
    have e' : ((useR r ρ1).bind fun d ρ1 => (useRs rs ρ1).bind fun ds ρ2 => Out.ok (d :: ds) ρ2) = .ok ds ρ2 := e
    have ep' : (match pkR r ρ0 with
      | some d => (pkRs rs ρ0).map (d :: ·)
      | none => none) = some sds := ep
    cases er : useR r ρ1 with
    | bad => rw [er] at e'; cases e'
    | exc c v ρ3 => rw [er] at e'; cases e'
    | ok d ρ3 =>
      rw [er] at e'
      have e2 : ((useRs rs ρ3).bind fun ds ρ2 => Out.ok (d :: ds) ρ2) = .ok ds ρ2 := e'
      obtain ⟨g1, g2, g3⟩ := useR_pk er
      have rr : RR k σ H1 ρ1 F1 H1 r x := by
        cases r with
        | fz w => exact h1
        | fr w => exact h1.elim
        | own i =>
          obtain ⟨s, hs, ho⟩ := g3 i rfl
          exact ⟨h1, s, hs, .inl (by rw [ho]; rfl)⟩
      have eq : pkR r ρ0 = some d := by
        cases r with
        | fz w => exact g1
        | fr w => exact g1
        | own i =>
          obtain ⟨s, hs, ho⟩ := g3 i rfl
          have h0 := hi i s d hs ho
          show (match ρ0[i]? with
            | some (.ow d) => some d
            | some (.le d) => some d
            | some (.lk d) => some d
            | _ => none) = _
          rw [h0]
          cases s <;> first | exact ho | cases ho
      rw [eq] at ep'
      obtain ⟨es, q1, rfl⟩ := Option.map_eq_some_iff.mp ep'
      obtain ⟨F2, t2', v2⟩ := use_ok t.rp (Tr.refl t.rp) rr er
      have t2 := t.trans t2'
      have sF : Sub F1 F2 := t2'.sub t.rp
      cases el : useRs rs ρ3 with
      | bad => rw [el] at e2; cases e2
      | exc c v ρ4 => rw [el] at e2; cases e2
      | ok ds' ρ4 =>
        rw [el] at e2
        have e3 : Out.ok (d :: ds') ρ4 = Out.ok ds ρ2 := e2
        cases e3
        have hs2 : RSs k σ F2 rs u := RSs.mono sF h2
        obtain ⟨⟨F4, t4, s4, v4⟩, rfl⟩ := useRs_ok r0 t2 hs2 el (fun j s w a b => hi j s w (g2 j s w a b) b) q1
        exact ⟨⟨F4, t4, sF.trans s4, RepL.cons (v2.mono s4) v4⟩, rfl⟩
theorem RSs.fz {k : Kn} {σ : L2.St} {F : Hp} : ∀ {ds : List D} {xs : List V}, RSs k σ F (ds.map .fz) xs → RepL k F ds xs
  | [], xs, h => by
    have h : xs = [] := h
    rw [h]
    exact RepL.nil
  | d :: ds, _, ⟨x, t, e, h1, h2⟩ => by
    rw [e]
    exact RepL.cons h1 (RSs.fz h2)
theorem RSs.of_fz {k : Kn} {σ : L2.St} {F : Hp} : ∀ {ds : List D} {xs : List V}, RepL k F ds xs → RSs k σ F (ds.map .fz) xs
  | [], xs, h => by
    unfold RepL at h
    exact h
  | d :: ds, _, h => by
    unfold RepL at h
    obtain ⟨x, r, e, h1, h2⟩ := h
    exact ⟨x, r, e, h1, RSs.of_fz h2⟩
theorem pkRs_fz : ∀ {ds : List D} {ρ : Env}, pkRs (ds.map .fz) ρ = some ds
  | [], _ => rfl
  | d :: ds, ρ => by
    show (pkRs (ds.map .fz) ρ).map (d :: ·) = _
    rw [pkRs_fz]
    rfl
theorem RepL.ps {k : Kn} {F H : Hp} (s : Sub F H) : ∀ {ds : List D} {xs : List V}, RepL k F ds xs → RepPs k F H ds xs
  | [], xs, h => by
    unfold RepL at h
    exact h
  | d :: ds, _, h => by
    unfold RepL at h
    obtain ⟨x, r, e, h1, h2⟩ := h
    exact ⟨x, r, e, RepV.peek s h1, RepL.ps s h2⟩
end
section
variable {X : Cx} {W : WX} {tg iter : Expr} {ik : Ik} {mq : Env → Out (List Rr)}
/-- what is walked, kept -/
theorem ei_frz (h : EI X W tg iter ik mq) : EI X W tg iter ik (mFrz ik mq) := by
  refine ⟨pi_mono h.pi fun σ H R ⟨ρ, F, r0, p⟩ => ⟨ρ, F, r0, Pv.bind0 p fun rs ρ1 F1 H1 t1 p1 => ?_⟩⟩
  unfold frzR at p1
  obtain ⟨sds, ds, es, ed⟩ : ∃ sds ds, pkRs rs ρ1 = some sds ∧ ikD ik sds = some ds := by
    cases eb : (pkRs rs ρ1).bind (ikD ik) with
    | none => simp only [eb] at p1; exact False.elim p1
    | some ds =>
      obtain ⟨sds, es, ed⟩ := Option.bind_eq_some_iff.mp eb
      exact ⟨sds, ds, es, ed⟩
  rw [es, Option.bind_some, ed] at p1
  refine ⟨sds, ds, es, ed, fun xs hx J w => ?_⟩
  have p1 : Pv (Cx.kn X) W σ ρ F H ((useRs rs ρ1).bind fun ds ρ1 => Out.ok (ds.map Rr.fz) ρ1) _ := p1
  cases e : useRs rs ρ1 with
  | bad => rw [e] at p1; exact False.elim p1
  | exc c v ρ2 => exact (useRs_exc e).elim
  | ok ds' ρ2 =>
    rw [e] at p1
    obtain ⟨⟨F2, t2, s2, v2⟩, rfl⟩ := useRs_ok r0 t1 hx e (fun _ _ _ h _ => h) es
    obtain ⟨sds', ds2, es', ed', go⟩ := p1 F2 H1 t2
    rw [pkRs_fz] at es'
    cases es'
    rw [ed] at ed'
    cases ed'
    exact go xs (RSs.of_fz v2) J w
variable {t t2 : Tg} {k2 : Ik} {own : List Nat} {ml : Env → Out (List Rr)} {mi mi2 : Env → Out Bool} {me : Env → Out Rr}
theorem tLc2_ok {σ : L2.St} {H : Hp} {Q : VK} (h : tV (Cx.kn X) W (mComp2 own t t2 ik k2 ml mi mq mi2 me) σ H Q) :
    tLc2 (tI (Cx.kn X) W ik ml) (gT X.K t) (tB (Cx.kn X) WF mi) (tI (Cx.kn X) WF k2 (mFrz k2 mq)) (gT X.K t2) (tB (Cx.kn X) WF mi2) (tV (Cx.kn X) WF me) own (tgS t2) σ H Q := by
  obtain ⟨ρ, F, r0, p⟩ := h
  refine ⟨ρ, F, r0, Pv.bind0 p fun rs ρ1 F1 H1 t1 p1 => ?_⟩
  unfold comp2R at p1
  obtain ⟨sds, ds, es, ed⟩ : ∃ sds ds, pkRs rs ρ1 = some sds ∧ ikD ik sds = some ds := by
    cases eb : (pkRs rs ρ1).bind (ikD ik) with
    | none => simp only [eb] at p1; exact False.elim p1
    | some ds =>
      obtain ⟨sds, es, ed⟩ := Option.bind_eq_some_iff.mp eb
      exact ⟨sds, ds, es, ed⟩
  refine ⟨sds, ds, es, ed, fun xs hx J w => ?_⟩
  rw [es, Option.bind_some, ed] at p1
  by_cases hb : (disjB own (ownsR rs) && (subB (tgS t) own && subB (tgS t2) own)) = true
  · simp only [hb, if_true] at p1
    obtain ⟨b1, b2⟩ := Bool.and_eq_true_iff.mp hb
    obtain ⟨b2, b3⟩ := Bool.and_eq_true_iff.mp b2
    have dj := disjB_ok b1
    have tg := subB_ok b2
    have tg2 := subB_ok b3
    intro L hL
    generalize hf : lap2F own t k2 mi mq (innF t2 k2 mi2 me) = f at p1
    cases ec : laps2 f ds (lockAll (ownsR rs) ρ1) with
    | bad => rw [ec] at p1; exact False.elim p1
    | exc c v ρE => rw [ec] at p1; exact False.elim p1
    | ok tot ρE =>
      rw [ec] at p1
      have hz : tot.length ≤ 16777216 := by
        by_cases z : szB tot.length = true
        · exact Nat.le_of_ble_eq_true z
        · have p' : Pv (Cx.kn X) W σ ρ F H (if szB tot.length then Out.ok (Rr.fr (.lst tot)) (unlockAll ρ1 (ownsR rs) (unlockAll (lockAll (ownsR rs) ρ1) own ρE)) else .bad) _ := p1
          rw [if_neg z] at p'
          exact False.elim p'
      generalize hA : wipeE own (lockAll (ownsR rs) ρ1) = ρa at *
      have na : ∀ i ∈ own, ∀ s, ρa[i]? = some s → s.fixd = false := by rw [← hA]; exact wipeE_free
      have na2 : ∀ i ∈ tgS t2, ∀ s, ρa[i]? = some s → s.fixd = false := fun i m => na i (tg2 i m)
      refine ⟨fun i m H' => m = ds.length - i ∧ i ≤ ds.length ∧ ∃ ρl done rest, LI (Cx.kn X) (wipe σ own) ρa F1 H1 L F1 σ own ρl done H' ∧ laps2 f (ds.drop i) ρl = .ok rest ρE ∧ done ++ rest = tot,
        ⟨ds.length, by simp, Nat.zero_le _, _, [], tot, hA ▸ comp_start t1.rp hL, ec, rfl⟩, ?_⟩
      rintro i m H2 ⟨rfl, hle, ρl, done, rest, li, el, et⟩
      have li0 := li
      obtain ⟨F2, acc, u2, nh, nf, hL2, ra, sG⟩ := li
      have st := stay_in t1.rp dj hx es (hA ▸ u2)
      by_cases hlt : i < ds.length
      · have ed : ds.drop i = ds[i] :: ds.drop (i + 1) := List.drop_eq_getElem_cons hlt
        rw [ed] at el
        obtain ⟨o, ρ', r', e1, e2, rfl⟩ := laps2_cons el
        refine .inr ⟨w.goes i F2 H2 hlt u2.rp.sub st, fun H' => ∃ ρl done rest, LI (Cx.kn X) (wipe σ own) ρa F1 H1 L F1 σ own ρl done H' ∧ laps2 f (ds.drop (i + 1)) ρl = .ok rest ρE ∧ done ++ rest = tot,
          fun H' h => ⟨ds.length - (i + 1), by omega, rfl, hlt, h⟩, fun x H3 y => ?_⟩
        obtain ⟨F3, g3, s3, v3⟩ := w.yields i ds[i] F2 H2 x H3 (List.getElem?_eq_getElem hlt) u2.rp.sub st y
        have t3 := u2.trans (Tr.grow u2.rp g3 s3)
        have sF : Sub F2 F3 := fun a u hu => by rw [(g3 a u (u2.rp.sub a u hu)).2]; exact hu
        have nf3 : F3 L = none := by rw [(g3 L _ hL2).2]; exact nf
        have hL3 := (g3 L _ hL2).1
        have ra3 := ra.mono sF
        have sz : done.length + o.length ≤ 16777216 := by
          have := congrArg List.length et
          simp only [List.length_append] at this
          omega
        rw [← List.append_assoc] at et
        -- one lap
        rw [← hf] at e1
        unfold lap2F at e1
        cases eg : tgD t ds[i] (wipeE own ρl) with
        | none => rw [eg] at e1; cases e1
        | some ρ3 =>
          rw [eg] at e1
          refine tg_ok eg v3 t3.rp (Tr.refl t3.rp) fun σ2 hσ t4 => ?_
          have ew : wipe σ2 own = wipe σ own := by
            cases t with
            | nm i => rw [hσ, set_wipe (tg i (by simp [tgS])), wipe_idem]
            | tp l => obtain ⟨vs, rfl⟩ := hσ; rw [setAll_wipe (l := l) tg, wipe_idem]
          refine ⟨ew, ρ3, F3, t4.rp, ?_⟩
          have keepL : ∀ {ρ5 : Env} {F5 H5 : Hp}, Tr (Cx.kn X) (wipe σ own) (wipeE own ρl) F3 H3 σ2 ρ5 F5 H5 → H5 L = some (.lst acc) ∧ F5 L = none ∧ ¬ Hd σ2 ρ5 L ∧ RepL (Cx.kn X) F5 done acc ∧ Sub F1 F5 := fun {ρ5 F5 H5} u => by
            obtain ⟨k1, k2⟩ := u.keep L _ hL3 fun z => nh z.hd
            refine ⟨k1, k2.trans nf3, fun z => ?_, ra3.mono (u.sub t3.rp), (sG.trans sF).trans (u.sub t3.rp)⟩
            rcases u.hld L z with z | z
            · exact nh z
            · rw [hL3] at z; cases z
          have e1' : ((mi ρ3).bind fun b ρ4 => (match b with
            | true => (mq ρ4).bind fun qs ρ5 => (frzR k2 qs ρ5).bind (innF t2 k2 mi2 me)
            | false => Out.ok [] ρ4)) = .ok o ρ' := e1
          cases em : mi ρ3 with
          | bad => rw [em] at e1'; cases e1'
          | exc c w ρ4 => rw [em] at e1'; cases e1'
          | ok b ρ4 =>
            rw [em] at e1'
            intro F4 H4 t5
            have t45 := t4.trans t5
            cases b with
            | false =>
              have e5 : Out.ok [] ρ4 = Out.ok o ρ' := e1'
              cases e5
              show (if false = true then _ else _)
              rw [if_neg Bool.false_ne_true]
              obtain ⟨q1, q2, q3, q4, q5⟩ := keepL t45
              refine ⟨ρ', done, r', ?_, e2, by rw [List.append_nil] at et; exact et⟩
              have li := LI.of (v := own) na (t3.trans t45) q3 q2 q1 q4 q5
              unfold LI at li ⊢
              rw [ew] at li
              exact li
            | true =>
              show (if true = true then _ else _)
              rw [if_pos rfl]
              have e5 : ((mq ρ4).bind fun qs ρ5 => (frzR k2 qs ρ5).bind (innF t2 k2 mi2 me)) = .ok o ρ' := e1'
              have e6 : ((mFrz k2 mq ρ4).bind (innF t2 k2 mi2 me)) = .ok o ρ' := (Out.bind_assoc (mq ρ4) (frzR k2) (innF t2 k2 mi2 me)).trans e5
              refine ⟨ρ4, F4, t5.rp, ?_⟩
              cases eq : mFrz k2 mq ρ4 with
              | bad => rw [eq] at e6; cases e6
              | exc c w ρ5 => rw [eq] at e6; cases e6
              | ok qs ρ5 =>
                rw [eq] at e6
                -- kept ones
                have frz : ∃ qd : List D, qs = qd.map .fz := by
                  have eq' : (mq ρ4).bind (frzR k2) = .ok qs ρ5 := eq
                  cases e7 : mq ρ4 with
                  | bad => rw [e7] at eq'; cases eq'
                  | exc c w ρ6 => rw [e7] at eq'; cases eq'
                  | ok a ρ6 =>
                    rw [e7] at eq'
                    have eq1 : frzR k2 a ρ6 = .ok qs ρ5 := eq'
                    unfold frzR at eq1
                    have eq2 : ((useRs a ρ6).bind fun ds ρ1 => Out.ok (ds.map Rr.fz) ρ1) = .ok qs ρ5 := by
                      split at eq1
                      · exact eq1
                      · cases eq1
                    cases e8 : useRs a ρ6 with
                    | bad => rw [e8] at eq2; cases eq2
                    | exc c w ρ7 => rw [e8] at eq2; cases eq2
                    | ok qd ρ7 => rw [e8] at eq2; cases eq2; exact ⟨qd, rfl⟩
                obtain ⟨qd, rfl⟩ := frz
                intro F5 H5 t6
                have e7 : (match (pkRs (qd.map .fz) ρ5).bind (ikD k2) with
                  | some es => laps (lapF (tgS t2) t2 mi2 me) es ρ5
                  | none => .bad) = Out.ok o ρ' := e6
                rw [pkRs_fz, Option.bind_some] at e7
                cases ed2 : ikD k2 qd with
                | none => rw [ed2] at e7; cases e7
                | some es2 =>
                rw [ed2] at e7
                refine ⟨qd, es2, pkRs_fz, ed2, fun xs2 hx2 J1 w1 => ?_⟩
                have e8 : laps (lapF (tgS t2) t2 mi2 me) es2 ρ5 = Out.ok o ρ' := e7
                have t46 := t45.trans t6
                obtain ⟨q1, q2, q3, q4, q5⟩ := keepL t46
                have rx2 := RSs.fz hx2
                -- the second loop
                refine ⟨fun j m H' => m = es2.length - j ∧ j ≤ es2.length ∧ ∃ ρl done2 rest2, LI (Cx.kn X) (wipe σ own) ρa F1 H1 L F5 σ2 (tgS t2) ρl (done ++ done2) H' ∧ laps (lapF (tgS t2) t2 mi2 me) (es2.drop j) ρl = .ok rest2 ρ' ∧ done2 ++ rest2 = o,
                  ⟨es2.length, by simp, Nat.zero_le _, ρ5, [], o, ?_, e8, rfl⟩, ?_⟩
                · rw [List.append_nil]
                  exact LI.of na2 (t3.trans t46) q3 q2 q1 q4 Sub.refl
                · rintro j m H6 ⟨rfl, hle2, ρm, done2, rest2, lj, el2, et2⟩
                  obtain ⟨F6, acc2, v6, nh6, nf6, hL6, ra6, sG6⟩ := lj
                  have st6 : RepPs (Cx.kn X) F6 H6 qd xs2 := RepL.ps v6.rp.sub (rx2.mono sG6)
                  by_cases hlt2 : j < es2.length
                  · have ed3 : es2.drop j = es2[j] :: es2.drop (j + 1) := List.drop_eq_getElem_cons hlt2
                    rw [ed3] at el2
                    obtain ⟨o2, ρ7, r7, f1, f2, rfl⟩ := laps_cons el2
                    refine .inr ⟨w1.goes j F6 H6 hlt2 v6.rp.sub st6, fun H' => ∃ ρl done2 rest2, LI (Cx.kn X) (wipe σ own) ρa F1 H1 L F5 σ2 (tgS t2) ρl (done ++ done2) H' ∧ laps (lapF (tgS t2) t2 mi2 me) (es2.drop (j + 1)) ρl = .ok rest2 ρ' ∧ done2 ++ rest2 = o,
                      fun H' h => ⟨es2.length - (j + 1), by omega, rfl, hlt2, h⟩, fun x7 H7 y7 => ?_⟩
                    obtain ⟨F7, g7, s7, v7⟩ := w1.yields j es2[j] F6 H6 x7 H7 (List.getElem?_eq_getElem hlt2) v6.rp.sub st6 y7
                    have t7 := v6.trans (Tr.grow v6.rp g7 s7)
                    have sF7 : Sub F6 F7 := fun a u hu => by rw [(g7 a u (v6.rp.sub a u hu)).2]; exact hu
                    refine LI.lap hL na2 (fun _ h => h) t7 nh6 (by rw [(g7 L _ hL6).2]; exact nf6) (g7 L _ hL6).1 (ra6.mono sF7) (sG6.trans sF7) v7 f1 ?_ fun H' li' => ⟨ρ7, done2 ++ o2.toList, r7, ?_, f2, ?_⟩
                    · have := congrArg List.length et2
                      simp only [List.length_append] at this ⊢
                      omega
                    · rw [← List.append_assoc]; exact li'
                    · rw [List.append_assoc]; exact et2
                  · have e : j = es2.length := by omega
                    subst e
                    rw [List.drop_length] at el2
                    have el' : Out.ok [] ρm = Out.ok rest2 ρ' := el2
                    cases el'
                    rw [List.append_nil] at et2
                    subst et2
                    refine .inl ⟨w1.stops F6 H6 v6.rp.sub st6, ρ', done ++ done2, r', ?_, e2, et⟩
                    have li := LI.of (v := own) na v6 nh6 nf6 hL6 ra6 ((q5.trans sG6))
                    unfold LI at li ⊢
                    rw [wipe_wipe σ2 tg2, wipeE_wipe ρ' tg2, ew] at li
                    exact li
      · have e : i = ds.length := by omega
        subst e
        rw [List.drop_length] at el
        have el' : Out.ok [] ρl = Out.ok rest ρE := el
        cases el'
        rw [List.append_nil] at et
        subst et
        exact .inl ⟨w.stops F2 H2 u2.rp.sub st, comp_end t1 es p1 hL (hA ▸ li0)⟩
  · rw [Bool.not_eq_true] at hb
    simp only [hb, Bool.false_eq_true, if_false] at p1
    exact False.elim p1
variable {elt tg1 iter1 : Expr} {ifs ifs1 : List Expr} {scope : Scope} {on : List (Str × Nat)} {pos : Pos}
theorem ev_lc2 (hc : X.calm = true) (hN : X.N.Nodup) (hi : EI X W tg iter ik ml) (ok : BlkOk X.N X.env.scope scope on) (ho : on.map (·.2) = own) (hv : ∀ i ∈ tgS t2, i ∈ own) (hg : Blk X scope fun Y => PG Y tg (gT X.K t)) (ht : Blk X scope fun Y => EPT Y WF ifs mi)
    (hi1 : Blk X scope fun Y => EI Y WF tg1 iter1 k2 mq) (hg1 : Blk X scope fun Y => PG Y tg1 (gT X.K t2)) (ht1 : Blk X scope fun Y => EPT Y WF ifs1 mi2) (he : Blk X scope fun Y => EV Y WF elt me)
    (hs : ∀ x, foldedSetIterable iter X.env x = pure x) (hs1 : ∀ env x, foldedSetIterable iter1 env x = pure x) : EV X W (.ListComp elt [⟨tg, iter, ifs, 0⟩, ⟨tg1, iter1, ifs1, 0⟩] scope pos) (mComp2 own t t2 ik k2 ml mi mq mi2 me) := by
  subst ho
  exact ⟨pe_mono (pe_lc2 hc hN hi.pi ok hv hg (fun s H C cl fp => (ht s H C cl fp).pt) (fun s H C cl fp => (ei_frz (hi1 s H C cl fp)).pi) hg1 (fun s H C cl fp => (ht1 s H C cl fp).pt) (fun s H C cl fp => (he s H C cl fp).pe) hs hs1) fun σ H Q h => tLc2_ok h⟩
theorem es_lc2 {i : Nat} {y : Str} {py spos : Pos} (hc : X.calm = true) (hN : X.N.Nodup) (hy : X.N[i]? = some y) (hyl : X.env.scope.names.lookup y = some .local) (hsw : swapsWith (.ListComp elt [⟨tg, iter, ifs, 0⟩, ⟨tg1, iter1, ifs1, 0⟩] scope pos) (some (.Name y py)) spos.line X.env = pure true)
    (hi : EI X W tg iter ik ml) (ok : BlkOk X.N X.env.scope scope on) (ho : on.map (·.2) = own) (hv : ∀ i ∈ tgS t2, i ∈ own) (hg : Blk X scope fun Y => PG Y tg (gT X.K t)) (ht : Blk X scope fun Y => EPT Y WF ifs mi)
    (hi1 : Blk X scope fun Y => EI Y WF tg1 iter1 k2 mq) (hg1 : Blk X scope fun Y => PG Y tg1 (gT X.K t2)) (ht1 : Blk X scope fun Y => EPT Y WF ifs1 mi2) (he : Blk X scope fun Y => EV Y WF elt me)
    (hs : ∀ x, foldedSetIterable iter X.env x = pure x) (hs1 : ∀ env x, foldedSetIterable iter1 env x = pure x) : ES X W (.Assign [.Name y py] (.ListComp elt [⟨tg, iter, ifs, 0⟩, ⟨tg1, iter1, ifs1, 0⟩] scope pos) spos) (fun ρ => (mComp2 own t t2 ik k2 ml mi mq mi2 me ρ).fl fun r ρ1 => asgR (.nm i) r ρ1) := by
  subst ho
  exact ⟨ps_mono (ps_setLc2 hc hN hy hyl hsw hi.pi ok hv hg (fun s H C cl fp => (ht s H C cl fp).pt) (fun s H C cl fp => (ei_frz (hi1 s H C cl fp)).pi) hg1 (fun s H C cl fp => (ht1 s H C cl fp).pt) (fun s H C cl fp => (he s H C cl fp).pe) hs hs1) fun En σ H ⟨ρ, F, r0, p⟩ => tLc2_ok ⟨ρ, F, r0, Ps.fl p fun r ρ1 F1 H1 t p1 x rr => asg_nm r0 t rr p1⟩⟩
end
end VS

set_option Elab.async false
set_option linter.all false
set_option maxRecDepth 100000
set_option maxHeartbeats 4000000
/-! VS 13: what is walked: enumerate and zip over lists and tuples. -/
namespace VS
open PySem PySem.Spec PyProof.Rows L2
/-- a list's iterator, a tuple's -/
inductive Sk where
  | l | t
def Sk.sq (q : Sk) (K : PySem.W.Frag) (H : Hp) (a : Addr) (xs : List V) : Prop := match q with
  | .l => SqL K H a xs
  | .t => SqT K H a xs
def Sk.is (q : Sk) (h : Heap) (a : Addr) (items : Array Value) : Prop := match q with
  | .l => h.IsList a items
  | .t => h.IsTuple a items
def Sk.itr (q : Sk) (h : Heap) (it a : Addr) (i : Nat) : Prop := match q with
  | .l => h.IsListIter it a i
  | .t => h.IsTupleIter it a i
def Sk.ob (q : Sk) (a : Addr) : Obj := match q with
  | .l => { cls := .type "list_iterator", data := .fields #[.ref a, .int 0 0] }
  | .t => { cls := .type "tuple_iterator", data := .fields #[.ref a, .int 0 0] }
section
variable {X : Cx} {pins : List (Addr × Obj)} {σ : L2.St} {H : Hp} {s : Shared} {q : Sk} {a it : Addr} {xs ys : List V}
theorem Sk.inv (I : Inv X pins σ H s) (h : q.sq X.K H a xs) : ∃ its : List Value, Vals xs its ∧ q.is s.heap a its.toArray ∧ a < s.heap.objs.size := by
  cases q with
  | l => obtain ⟨its, rv, p, _⟩ := I.list h; exact ⟨its, rv, p.isList, p.lt⟩
  | t =>
    obtain ⟨its, rv, p, _⟩ := I.tuple h
    obtain ⟨o, ho, _⟩ := id p
    exact ⟨its, rv, p, Heap.lt_size ho⟩
theorem Sk.inj (I : Inv X pins σ H s) (h : q.sq X.K H a xs) (h' : q.sq X.K H a ys) : ys = xs := by
  cases q with
  | l => exact I.list_inj h' h
  | t => exact I.tuple_inj h' h
theorem Sk.itr_obj {h : Heap} {i : Nat} (e : q.itr h it a i) : ∃ o, h.get? it = some o ∧ ∀ v, o.data ≠ .cell v := by
  cases q with
  | l => obtain ⟨o, e, c, d⟩ := e; exact ⟨o, e, fun v z => by rw [d] at z; cases z⟩
  | t => obtain ⟨o, e, c, d⟩ := e; exact ⟨o, e, fun v z => by rw [d] at z; cases z⟩
theorem Sk.itr_at {h h' : Heap} {i : Nat} (e : q.itr h it a i) (k : ∀ o, h.get? it = some o → h'.get? it = some o) : q.itr h' it a i := by
  cases q with
  | l => exact Heap.IsListIter.at e k
  | t => exact Heap.IsTupleIter.at e k
theorem Sk.itr0 {h : Heap} (e : h.get? it = some (q.ob a)) : q.itr h it a 0 := by
  cases q with
  | l => exact ⟨_, e, rfl, rfl⟩
  | t => exact ⟨_, e, rfl, rfl⟩
theorem Sk.draws {prog : Program} {w : World} {A : Around} (hh : A.handled = none) (it a : Addr) (hne : a ≠ it) (items : Array Value) : Draws prog w A it [it, a] items.size (fun i v => items[i]? = some v) (fun i h => q.itr h it a i ∧ q.is h a items) := by
  cases q with
  | l => exact Draws.list hh it a hne items
  | t => exact Draws.tuple hh it a hne items
theorem Sk.begins (a : Addr) (items : Array Value) : Begins (.ref a) (q.ob a) fun h => q.is h a items := by
  cases q with
  | l => exact begins_list a items
  | t => exact begins_tuple a items
end
/-- enumerate(v): its cells -/
theorem meets_en1 {v : Value} {o : Obj} {H : Heap → Prop} (B : Begins v o H) : Meets (Builtin.«enumerate.__new__» ⟨[.type "enumerate", v], []⟩) (fun _ R s => H s.heap ∧
    R (.ok (.ret (.ref (s.heap.push o).objs.size))) { s with heap := (s.heap.push o).push { cls := .type "enumerate", data := .fields #[.none, .bool false, .ref s.heap.objs.size, rawInt 0, .none, .none] } }) :=
  .of_wp fun prog w A R s h => by
    obtain ⟨hp, g, d, tk, os⟩ := s
    obtain ⟨h1, h⟩ := h
    have hsub := sub_enumerate
    have q1 : ∀ {A' : Around} {E : Value → Shared → Prop} {Q : Value → Shared → Prop}, Q (.ref hp.objs.size) ⟨hp.push o, g, d, tk, os⟩ → wpAny (model prog w) A' (pyIter v) Q E ⟨hp, g, d, tk, os⟩ := fun q => B.iter prog w _ _ _ _ h1 q
    wp_walk using q1
    refine wpAny_stack_any fun st => wpAny_pure ?_
    split
    · rename_i c _ _ _ _ _
      cases (c == Value.type "enumerate")
      · wp_walk using q1
        exact ⟨_, rfl, h⟩
      · wp_walk using q1
        exact ⟨_, rfl, h⟩
    · wp_walk using q1
      exact ⟨_, rfl, h⟩
theorem enum1 {prog : Program} {w : World} {A : Around} {E : Value → Shared → Prop} {s : Shared} {v : Value} {o : Obj} {H : Heap → Prop} {Q : Value → Shared → Prop} (B : Begins v o H) (h1 : H s.heap)
    (h : ∀ h', IsEnum h' (s.heap.objs.size + 1) s.heap.objs.size 0 .none → h'.get? s.heap.objs.size = some o → (∀ b o, s.heap.get? b = some o → h'.get? b = some o) → Q (.ref (s.heap.objs.size + 1)) { s with heap := h' }) :
    wpAny (model prog w) A (call (.type "enumerate") [v]) Q E s := by
  refine callType_new F.called_enumerate (by decide) (F.typeCall_enumerate_1 _) (F.newCall_enumerate_1 _) (fun obj => F.args_object_init_2 obj _) F.entry_enumerate_new (meets_en1 B) ⟨h1, ?_⟩
  have hz : (s.heap.push o).objs.size = s.heap.objs.size + 1 := Heap.size_push ..
  show _ ∧ _
  rw [hz]
  have he : IsEnum ((s.heap.push o).push { cls := .type "enumerate", data := .fields #[.none, .bool false, .ref s.heap.objs.size, rawInt 0, .none, .none] }) (s.heap.objs.size + 1) s.heap.objs.size 0 .none := by
    have q := Heap.get?_push_size (s.heap.push o) (o := { cls := .type "enumerate", data := .fields #[.none, .bool false, .ref s.heap.objs.size, rawInt 0, .none, .none] }) rfl
    rw [hz] at q
    exact q
  exact ⟨⟨_, he, rfl⟩, h _ he (Heap.get?_push_of_some _ (Heap.get?_push_size _ B.free)) fun b o x => Heap.get?_push_of_some _ (Heap.get?_push_of_some _ x)⟩
/-! ### enumerate -/
def It1 (K : PySem.W.Frag) (q : Sk) (a : Addr) : It :=
  ⟨fun i H => ∃ (xs : List V) (x : V), q.sq K H a xs ∧ xs[i]? = some x, fun i H v H' => ∃ T x, v = .ref T ∧ H T = none ∧ H' = upd H T (.tup [.int (i : Nat), x]) ∧ ∀ xs, q.sq K H a xs → xs[i]? = some x, fun i H => ∃ xs : List V, q.sq K H a xs ∧ xs.length = i⟩
theorem turn1 {P : Program} {w : World} {K : PySem.W.Frag} {elts : List Expr} {kk : Nat} {tpos : Pos} (q : Sk) (a e it : Addr) :
    Turn P w K (.Tuple elts kk tpos) (It1 K q a) [e, it] e (fun i h => (∃ old, IsEnum h e it ((i : Nat) : Int) old) ∧ q.itr h it a i ∧ e ≠ it ∧ a ≠ it ∧ e ≠ a) where
  mem := by simp
  obj := fun i h st b hb => by
    obtain ⟨⟨old, he⟩, hi, _⟩ := st
    have e' : b = e ∨ b = it := by simpa using hb
    rcases e' with z | z
    · rw [z]; exact ⟨_, he, fun v q => nomatch q⟩
    · rw [z]; exact Sk.itr_obj hi
  keep := fun i h h' st k => let ⟨⟨old, he⟩, hi, hne⟩ := st; ⟨⟨old, k e (by simp) _ he⟩, Sk.itr_at hi fun o q => k it (by simp) o q, hne⟩
  item := by
    intro X hP hw hK hc i pins s σ H E I hf st hg
    subst hP hw hK
    obtain ⟨⟨old, he⟩, hit, n1, n2, n3⟩ := st
    obtain ⟨xs, x, hq, hx⟩ := hg
    obtain ⟨its, rv, p, hz⟩ := Sk.inv I hq
    obtain ⟨u, hu, ru⟩ := rv.get hx
    have hil : i < its.toArray.size := by simpa using (List.getElem?_eq_some_iff.mp hu).1
    have G := GoesN.enumFrom (prog := X.prog) (w := X.w) (A := X.A) (elts := elts) (x1 := kk) (pos := tpos) 0 (Sk.draws (q := q) (show X.A.in1.handled = none from I.ok.hd hc) it a n2 its.toArray) e n1 (by simp [n1, n3]) (by simp)
    refine G.goes i s _ E hil ⟨⟨old, by rw [Int.zero_add]; exact he⟩, hit, p⟩ fun v h' tk hy st' hk _ => ?_
    obtain ⟨T, t, x', rfl, hT, hx', hTup⟩ := hy
    have ex : x' = u := by
      have h1 : its[i]? = some x' := by simpa using hx'
      rw [hu] at h1
      exact (Option.some.inj h1).symm
    subst ex
    rw [Int.zero_add] at hTup
    have new : ObjOk X.prog X.w (upd H T (.tup [.int (i : Nat), x])) h' T (.tup [.int (i : Nat), x]) := ⟨by show 2 ≤ sizeLine; decide, [.int i t, x'], .cons ⟨_, rfl⟩ (.cons ru .nil), hTup⟩
    have I1 : Inv X pins σ (upd H T (.tup [.int (i : Nat), x])) { s with heap := h', toks := tk } := I.turnedNew (ch := [e, it]) hk hf hT new
    obtain ⟨⟨old', he'⟩, hit', _⟩ := st'
    refine ⟨.ref T, _, I1, rfl, ⟨T, x, rfl, I.hok.fresh hT, rfl, fun ys hy => by rw [Sk.inj I hq hy]; exact hx⟩, ⟨⟨old', by rw [Int.zero_add] at he'; exact he'⟩, hit', n1, n2, n3⟩, fun b hb => ?_⟩
    have hb' : b < s.heap.objs.size := by
      have e' : b = e ∨ b = it := by simpa using hb
      rcases e' with z | z
      · rw [z]; exact Heap.lt_size he
      · rw [z]; obtain ⟨o, ho, _⟩ := Sk.itr_obj hit; exact Heap.lt_size ho
    have ne : b ≠ T := fun z => by rw [z] at hb'; exact absurd hT (Nat.not_le.mpr hb')
    rw [upd_ne ne]
    exact (hf b hb).1
  done := by
    intro X hP hw hK hc i pins s σ H E I hf st hg
    subst hP hw hK
    obtain ⟨⟨old, he⟩, hit, n1, n2, n3⟩ := st
    obtain ⟨xs, hq, hx⟩ := hg
    obtain ⟨its, rv, p, hz⟩ := Sk.inv I hq
    have hl := rv.length
    have en : its.toArray.size = i := by simp; omega
    have G := GoesN.enumFrom (prog := X.prog) (w := X.w) (A := X.A) (elts := elts) (x1 := kk) (pos := tpos) 0 (Sk.draws (q := q) (show X.A.in1.handled = none from I.ok.hd hc) it a n2 its.toArray) e n1 (by simp [n1, n3]) (by simp)
    refine G.stops s _ E ?_ fun h' tk hk _ => I.turnedL (t' := tk) (ch := [e, it]) hk hf
    rw [en]
    exact ⟨⟨old, by rw [Int.zero_add]; exact he⟩, hit, p⟩
  self := fun A i s Q E st h => let ⟨⟨_, he⟩, _⟩ := st; wpAny_pyIter_enum he h
def iEn (K : PySem.W.Frag) (ta : TA) : TI := fun σ H R => ta σ H fun vs H1 => ∃ a q xs, vs = [.ref a] ∧ Sk.sq q K H1 a xs ∧ R (It1 K q a) H1
theorem pi_en {X : Cx} {e : Expr} {ta : TA} {p pos tpos : Pos} {elts : List Expr} {kk : Nat} (hg : Gl X "enumerate") (hm : X.mg "enumerate" = none) (ha : PA X [e] ta) (hs : starEach [e] X.env = [(false, eval e X.env)]) :
    PI X (.Tuple elts kk tpos) (.Call (.Name "enumerate" p) [e] [] pos) (iEn X.K ta) := by
  refine ⟨fun pins s σ H R I h => ?_⟩
  refine Call_ (ld_blt I hg hm boot_enumerate (PyProof.Rows.callWith_type1 (thn (ha.run pos pins s σ H _ I h) fun us s1 ⟨vs, H1, I1, r1, q1⟩ => ?_) hs rfl))
  obtain ⟨a, q, xs, ex, hq, q1⟩ := q1
  subst ex
  cases r1 with
  | cons r rr =>
    cases rr
    cases r
    obtain ⟨its, rv, p', hz⟩ := Sk.inv I1 hq
    refine enum1 (Sk.begins a its.toArray) p' fun h' he hit hk => wpAny_pyIter_enum he ?_
    have I2 : Inv X pins σ H1 { s1 with heap := h' } := I1.kept (t' := s1.toks) hk
    have z1 : a ≠ s1.heap.objs.size := Nat.ne_of_lt hz
    have z2 : s1.heap.objs.size + 1 ≠ a := Nat.ne_of_gt (Nat.lt_succ_of_lt hz)
    refine ⟨s1.heap.objs.size + 1, [s1.heap.objs.size + 1, s1.heap.objs.size], _, _, H1, rfl, I2, turn1 q a (s1.heap.objs.size + 1) s1.heap.objs.size, ⟨⟨.none, he⟩, Sk.itr0 hit, Nat.succ_ne_self _, z1, z2⟩, fun b hb => ?_, q1⟩
    have e' : b = s1.heap.objs.size + 1 ∨ b = s1.heap.objs.size := by simpa using hb
    have hle : s1.heap.objs.size ≤ b := by
      rcases e' with z | z
      · rw [z]; exact Nat.le_add_right _ _
      · rw [z]; exact Nat.le_refl _
    exact I1.fpOk hle (I1.hok.fresh hle)
/-! ### zip of two -/
def It2 (K : PySem.W.Frag) (q1 q2 : Sk) (a b : Addr) : It :=
  ⟨fun i H => ∃ (xs ys : List V) (x y : V), q1.sq K H a xs ∧ q2.sq K H b ys ∧ xs[i]? = some x ∧ ys[i]? = some y,
    fun i H v H' => ∃ T x y, v = .ref T ∧ H T = none ∧ H' = upd H T (.tup [x, y]) ∧ (∀ xs, q1.sq K H a xs → xs[i]? = some x) ∧ ∀ xs, q2.sq K H b xs → xs[i]? = some y,
    fun i H => ∃ xs ys : List V, q1.sq K H a xs ∧ q2.sq K H b ys ∧ min xs.length ys.length = i⟩
theorem getE {its : List Value} {i : Nat} {u x : Value} (h : its[i]? = some u) (h' : its.toArray[i]? = some x) : x = u := by
  have h1 : its[i]? = some x := by simpa using h'
  rw [h] at h1
  exact (Option.some.inj h1).symm
theorem turn2 {P : Program} {w : World} {K : PySem.W.Frag} {elts : List Expr} {kk : Nat} {tpos : Pos} {q1 q2 : Sk} {a b z TI TO i1 i2 : Addr} (S : ZipSep2 z TI TO i1 i2 [i1, a] [i2, b]) (na : a ≠ i1) (nb : b ≠ i2) :
    Turn P w K (.Tuple elts kk tpos) (It2 K q1 q2 a b) [z, TI, TO, i1, i2] z (fun i h => IsZip h z TI TO .none ∧ IsTupOf2 h TI (.ref i1) (.ref i2) ∧ (∃ x y, IsTupOf2 h TO x y) ∧ q1.itr h i1 a i ∧ q2.itr h i2 b i) where
  mem := by simp
  obj := fun i h st c hc => by
    obtain ⟨hz, hTI, ⟨x, y, hTO⟩, h1, h2⟩ := st
    have e' : c = z ∨ c = TI ∨ c = TO ∨ c = i1 ∨ c = i2 := by simpa using hc
    rcases e' with q | q | q | q | q
    · rw [q]; exact ⟨_, hz, fun v q => nomatch q⟩
    · rw [q]; exact ⟨_, hTI, fun v q => nomatch q⟩
    · rw [q]; exact ⟨_, hTO, fun v q => nomatch q⟩
    · rw [q]; exact Sk.itr_obj h1
    · rw [q]; exact Sk.itr_obj h2
  keep := fun i h h' st k => by
    obtain ⟨hz, hTI, ⟨x, y, hTO⟩, h1, h2⟩ := st
    exact ⟨k z (by simp) _ hz, k TI (by simp) _ hTI, ⟨x, y, k TO (by simp) _ hTO⟩, Sk.itr_at h1 fun o q => k i1 (by simp) o q, Sk.itr_at h2 fun o q => k i2 (by simp) o q⟩
  item := by
    intro X hP hw hK hc i pins s σ H E I hf st hg
    subst hP hw hK
    obtain ⟨hz, hTI, hTO, h1, h2⟩ := st
    obtain ⟨xs, ys, x, y, hqx, hqy, hx, hy⟩ := hg
    obtain ⟨its, rv, p, _⟩ := Sk.inv I hqx
    obtain ⟨its2, rv2, p2, _⟩ := Sk.inv I hqy
    obtain ⟨u, hu, ru⟩ := rv.get hx
    obtain ⟨u2, hu2, ru2⟩ := rv2.get hy
    have l1 : i < its.toArray.size := by simpa using (List.getElem?_eq_some_iff.mp hu).1
    have l2 : i < its2.toArray.size := by simpa using (List.getElem?_eq_some_iff.mp hu2).1
    have hh : X.A.in1.handled = none := I.ok.hd hc
    have G := GoesN.zip2 (prog := X.prog) (w := X.w) (A := X.A) (elts := elts) (x1 := kk) (pos := tpos) S (Sk.draws (q := q1) hh i1 a na its.toArray) (Sk.draws (q := q2) hh i2 b nb its2.toArray)
    refine G.goes i s _ E (Nat.lt_min.mpr ⟨l1, l2⟩) ⟨hz, hTI, hTO, ⟨h1, p⟩, h2, p2⟩ fun v h' tk hyy st' hk _ => ?_
    obtain ⟨T, x', y', rfl, hT, hx', hy', hTup⟩ := hyy
    cases getE hu hx'
    cases getE hu2 hy'
    have new : ObjOk X.prog X.w (upd H T (.tup [x, y])) h' T (.tup [x, y]) := ⟨by show 2 ≤ sizeLine; decide, [u, u2], .cons ru (.cons ru2 .nil), hTup⟩
    have sub : ∀ c, c ∉ [z, TI, TO, i1, i2] → c ∉ [z, TO, i1, i2] := fun c h m => h (by
      have e' : c = z ∨ c = TO ∨ c = i1 ∨ c = i2 := by simpa using m
      simp only [List.mem_cons, List.not_mem_nil, or_false]
      rcases e' with e | e | e | e
      · exact .inl e
      · exact .inr (.inr (.inl e))
      · exact .inr (.inr (.inr (.inl e)))
      · exact .inr (.inr (.inr (.inr e))))
    have I1 : Inv X pins σ (upd H T (.tup [x, y])) { s with heap := h', toks := tk } := I.turnedNew (ch := [z, TI, TO, i1, i2]) (fun c o hb e => hk c o (sub c hb) e) hf hT new
    obtain ⟨hz', hTI', hTO', ⟨h1', _⟩, h2', _⟩ := st'
    refine ⟨.ref T, _, I1, rfl, ⟨T, x, y, rfl, I.hok.fresh hT, rfl, fun ys hy => by rw [Sk.inj I hqx hy]; exact hx, fun ys hy2 => by rw [Sk.inj I hqy hy2]; exact hy⟩, ⟨hz', hTI', hTO', h1', h2'⟩, fun c hcm => ?_⟩
    have hlt : c < s.heap.objs.size := by
      have e' : c = z ∨ c = TI ∨ c = TO ∨ c = i1 ∨ c = i2 := by simpa using hcm
      rcases e' with q | q | q | q | q
      · rw [q]; exact Heap.lt_size hz
      · rw [q]; exact Heap.lt_size hTI
      · rw [q]; obtain ⟨_, _, hTO⟩ := hTO; exact Heap.lt_size hTO
      · rw [q]; obtain ⟨o, ho, _⟩ := Sk.itr_obj h1; exact Heap.lt_size ho
      · rw [q]; obtain ⟨o, ho, _⟩ := Sk.itr_obj h2; exact Heap.lt_size ho
    have ne : c ≠ T := fun z => by rw [z] at hlt; exact absurd hT (Nat.not_le.mpr hlt)
    rw [upd_ne ne]
    exact (hf c hcm).1
  done := by
    intro X hP hw hK hc i pins s σ H E I hf st hg
    subst hP hw hK
    obtain ⟨hz, hTI, hTO, h1, h2⟩ := st
    obtain ⟨xs, ys, hqx, hqy, hend⟩ := hg
    obtain ⟨its, rv, p, _⟩ := Sk.inv I hqx
    obtain ⟨its2, rv2, p2, _⟩ := Sk.inv I hqy
    have l1 := rv.length
    have l2 := rv2.length
    have en : min its.toArray.size its2.toArray.size = i := by simp; omega
    have hh : X.A.in1.handled = none := I.ok.hd hc
    have G := GoesN.zip2 (prog := X.prog) (w := X.w) (A := X.A) (elts := elts) (x1 := kk) (pos := tpos) S (Sk.draws (q := q1) hh i1 a na its.toArray) (Sk.draws (q := q2) hh i2 b nb its2.toArray)
    refine G.stops s _ E ?_ fun h' tk hk _ => I.turnedL (t' := tk) (ch := [z, TI, TO, i1, i2]) (fun c o hb e => hk c o (fun m => hb (by
      have e' : c = z ∨ c = TO ∨ c = i1 ∨ c = i2 := by simpa using m
      simp only [List.mem_cons, List.not_mem_nil, or_false]
      rcases e' with e | e | e | e
      · exact .inl e
      · exact .inr (.inr (.inl e))
      · exact .inr (.inr (.inr (.inl e)))
      · exact .inr (.inr (.inr (.inr e))))) e) hf
    rw [en]
    exact ⟨hz, hTI, hTO, ⟨h1, p⟩, h2, p2⟩
  self := fun A i s Q E st h => wpAny_pyIter_zip st.1 h
def iZ2 (K : PySem.W.Frag) (ta : TA) : TI := fun σ H R => ta σ H fun vs H1 => ∃ a b q1 q2 xs ys, vs = [.ref a, .ref b] ∧ Sk.sq q1 K H1 a xs ∧ Sk.sq q2 K H1 b ys ∧ R (It2 K q1 q2 a b) H1
theorem pi_z2 {X : Cx} {e e2 : Expr} {ta : TA} {p pos tpos : Pos} {elts : List Expr} {kk : Nat} (hg : Gl X "zip") (hm : X.mg "zip" = none) (ha : PA X [e, e2] ta) (hs : starEach [e, e2] X.env = (false, eval e X.env) :: starEach [e2] X.env) (hpl : (backTo pos (starEach [e2] X.env)).any (·.1) = false) :
    PI X (.Tuple elts kk tpos) (.Call (.Name "zip" p) [e, e2] [] pos) (iZ2 X.K ta) := by
  refine ⟨fun pins s σ H R I h => ?_⟩
  refine Call_ (ld_blt I hg hm PyProof.Rows.boot_zip (PyProof.Rows.callWith_type1 (thn (ha.run pos pins s σ H _ I h) fun us s1 ⟨vs, H1, I1, r1, q1⟩ => ?_) hs hpl))
  obtain ⟨a, b, q1, q2, xs, ys, ex, hqx, hqy, q⟩ := q1
  subst ex
  cases r1 with
  | cons r rr =>
    cases rr with
    | cons r' rr =>
      cases rr
      cases r
      cases r'
      obtain ⟨its, rv, p1, la⟩ := Sk.inv I1 hqx
      obtain ⟨its2, rv2, p2, lb⟩ := Sk.inv I1 hqy
      refine zip_begins2 (Sk.begins a its.toArray) (Sk.begins b its2.toArray) p1 p2 fun h' hz hTI hTO h1 h2 hsz hk => wpAny_pyIter_zip hz ?_
      have I2 : Inv X pins σ H1 { s1 with heap := h' } := I1.kept (t' := s1.toks) hk
      refine ⟨s1.heap.objs.size + 4, [s1.heap.objs.size + 4, s1.heap.objs.size + 2, s1.heap.objs.size + 3, s1.heap.objs.size, s1.heap.objs.size + 1], _, _, H1, rfl, I2,
        turn2 (zip_sep2 (fp1 := [a]) (fp2 := [b]) (fun c hc => by rw [List.mem_singleton.mp hc]; exact la) (fun c hc => by rw [List.mem_singleton.mp hc]; exact lb)) (Nat.ne_of_lt la) (Nat.ne_of_lt (Nat.lt_succ_of_lt lb)), ⟨hz, hTI, ⟨_, _, hTO⟩, Sk.itr0 h1, Sk.itr0 h2⟩, fun c hcm => ?_, q⟩
      have e' : c = s1.heap.objs.size + 4 ∨ c = s1.heap.objs.size + 2 ∨ c = s1.heap.objs.size + 3 ∨ c = s1.heap.objs.size ∨ c = s1.heap.objs.size + 1 := by simpa using hcm
      have hle : s1.heap.objs.size ≤ c := by
        rcases e' with z | z | z | z | z
        · rw [z]; exact Nat.le_add_right _ _
        · rw [z]; exact Nat.le_add_right _ _
        · rw [z]; exact Nat.le_add_right _ _
        · rw [z]; exact Nat.le_refl _
        · rw [z]; exact Nat.le_add_right _ _
      exact I1.fpOk hle (I1.hok.fresh hle)
/-! ### zip of three -/
def It3 (K : PySem.W.Frag) (q1 q2 q3 : Sk) (a b c : Addr) : It :=
  ⟨fun i H => ∃ (xs ys zs : List V) (x y z : V), q1.sq K H a xs ∧ q2.sq K H b ys ∧ q3.sq K H c zs ∧ xs[i]? = some x ∧ ys[i]? = some y ∧ zs[i]? = some z,
    fun i H v H' => ∃ T x y z, v = .ref T ∧ H T = none ∧ H' = upd H T (.tup [x, y, z]) ∧ (∀ xs, q1.sq K H a xs → xs[i]? = some x) ∧ (∀ xs, q2.sq K H b xs → xs[i]? = some y) ∧ ∀ xs, q3.sq K H c xs → xs[i]? = some z,
    fun i H => ∃ xs ys zs : List V, q1.sq K H a xs ∧ q2.sq K H b ys ∧ q3.sq K H c zs ∧ min (min xs.length ys.length) zs.length = i⟩
theorem turn3 {P : Program} {w : World} {K : PySem.W.Frag} {elts : List Expr} {kk : Nat} {tpos : Pos} {q1 q2 q3 : Sk} {a b c z TI TO i1 i2 i3 : Addr} (S : ZipSep3 z TI TO i1 i2 i3 [i1, a] [i2, b] [i3, c]) (na : a ≠ i1) (nb : b ≠ i2) (nc : c ≠ i3) :
    Turn P w K (.Tuple elts kk tpos) (It3 K q1 q2 q3 a b c) [z, TI, TO, i1, i2, i3] z (fun i h => IsZip h z TI TO .none ∧ IsTupOf3 h TI (.ref i1) (.ref i2) (.ref i3) ∧ (∃ x y u, IsTupOf3 h TO x y u) ∧ q1.itr h i1 a i ∧ q2.itr h i2 b i ∧ q3.itr h i3 c i) where
  mem := by simp
  obj := fun i h st c hc => by
    obtain ⟨hz, hTI, ⟨x, y, u, hTO⟩, h1, h2, h3⟩ := st
    have e' : c = z ∨ c = TI ∨ c = TO ∨ c = i1 ∨ c = i2 ∨ c = i3 := by simpa using hc
    rcases e' with q | q | q | q | q | q
    · rw [q]; exact ⟨_, hz, fun v q => nomatch q⟩
    · rw [q]; exact ⟨_, hTI, fun v q => nomatch q⟩
    · rw [q]; exact ⟨_, hTO, fun v q => nomatch q⟩
    · rw [q]; exact Sk.itr_obj h1
    · rw [q]; exact Sk.itr_obj h2
    · rw [q]; exact Sk.itr_obj h3
  keep := fun i h h' st k => by
    obtain ⟨hz, hTI, ⟨x, y, u, hTO⟩, h1, h2, h3⟩ := st
    exact ⟨k z (by simp) _ hz, k TI (by simp) _ hTI, ⟨x, y, u, k TO (by simp) _ hTO⟩, Sk.itr_at h1 fun o q => k i1 (by simp) o q, Sk.itr_at h2 fun o q => k i2 (by simp) o q, Sk.itr_at h3 fun o q => k i3 (by simp) o q⟩
  item := by
    intro X hP hw hK hc i pins s σ H E I hf st hg
    subst hP hw hK
    obtain ⟨hz, hTI, hTO, h1, h2, h3⟩ := st
    obtain ⟨xs, ys, ws, x, y, v, hqx, hqy, hqz, hx, hy, hv⟩ := hg
    obtain ⟨its, rv, p, _⟩ := Sk.inv I hqx
    obtain ⟨its2, rv2, p2, _⟩ := Sk.inv I hqy
    obtain ⟨its3, rv3, p3, _⟩ := Sk.inv I hqz
    obtain ⟨u, hu, ru⟩ := rv.get hx
    obtain ⟨u2, hu2, ru2⟩ := rv2.get hy
    obtain ⟨u3, hu3, ru3⟩ := rv3.get hv
    have l1 : i < its.toArray.size := by simpa using (List.getElem?_eq_some_iff.mp hu).1
    have l2 : i < its2.toArray.size := by simpa using (List.getElem?_eq_some_iff.mp hu2).1
    have l3 : i < its3.toArray.size := by simpa using (List.getElem?_eq_some_iff.mp hu3).1
    have hh : X.A.in1.handled = none := I.ok.hd hc
    have G := GoesN.zip3 (prog := X.prog) (w := X.w) (A := X.A) (elts := elts) (x1 := kk) (pos := tpos) S (Sk.draws (q := q1) hh i1 a na its.toArray) (Sk.draws (q := q2) hh i2 b nb its2.toArray) (Sk.draws (q := q3) hh i3 c nc its3.toArray)
    refine G.goes i s _ E (Nat.lt_min.mpr ⟨Nat.lt_min.mpr ⟨l1, l2⟩, l3⟩) ⟨hz, hTI, hTO, ⟨h1, p⟩, ⟨h2, p2⟩, h3, p3⟩ fun v' h' tk hyy st' hk _ => ?_
    obtain ⟨T, x', y', z', rfl, hT, hx', hy', hz', hTup⟩ := hyy
    cases getE hu hx'
    cases getE hu2 hy'
    cases getE hu3 hz'
    have new : ObjOk X.prog X.w (upd H T (.tup [x, y, v])) h' T (.tup [x, y, v]) := ⟨by show 3 ≤ sizeLine; decide, [u, u2, u3], .cons ru (.cons ru2 (.cons ru3 .nil)), hTup⟩
    have I1 : Inv X pins σ (upd H T (.tup [x, y, v])) { s with heap := h', toks := tk } := I.turnedNew (ch := [z, TI, TO, i1, i2, i3]) (fun c o hb e => hk c o (fun m => hb (by
      have e' : c = z ∨ c = TO ∨ c = i1 ∨ c = i2 ∨ c = i3 := by simpa using m
      simp only [List.mem_cons, List.not_mem_nil, or_false]
      rcases e' with e | e | e | e | e
      · exact .inl e
      · exact .inr (.inr (.inl e))
      · exact .inr (.inr (.inr (.inl e)))
      · exact .inr (.inr (.inr (.inr (.inl e))))
      · exact .inr (.inr (.inr (.inr (.inr e)))))) e) hf hT new
    obtain ⟨hz', hTI', hTO', ⟨h1', _⟩, ⟨h2', _⟩, h3', _⟩ := st'
    refine ⟨.ref T, _, I1, rfl, ⟨T, x, y, v, rfl, I.hok.fresh hT, rfl, fun ys hy => by rw [Sk.inj I hqx hy]; exact hx, fun ys hy2 => by rw [Sk.inj I hqy hy2]; exact hy, fun ys hy2 => by rw [Sk.inj I hqz hy2]; exact hv⟩, ⟨hz', hTI', hTO', h1', h2', h3'⟩, fun c hcm => ?_⟩
    have hlt : c < s.heap.objs.size := by
      have e' : c = z ∨ c = TI ∨ c = TO ∨ c = i1 ∨ c = i2 ∨ c = i3 := by simpa using hcm
      rcases e' with q | q | q | q | q | q
      · rw [q]; exact Heap.lt_size hz
      · rw [q]; exact Heap.lt_size hTI
      · rw [q]; obtain ⟨_, _, _, hTO⟩ := hTO; exact Heap.lt_size hTO
      · rw [q]; obtain ⟨o, ho, _⟩ := Sk.itr_obj h1; exact Heap.lt_size ho
      · rw [q]; obtain ⟨o, ho, _⟩ := Sk.itr_obj h2; exact Heap.lt_size ho
      · rw [q]; obtain ⟨o, ho, _⟩ := Sk.itr_obj h3; exact Heap.lt_size ho
    have ne : c ≠ T := fun z => by rw [z] at hlt; exact absurd hT (Nat.not_le.mpr hlt)
    rw [upd_ne ne]
    exact (hf c hcm).1
  done := by
    intro X hP hw hK hc i pins s σ H E I hf st hg
    subst hP hw hK
    obtain ⟨hz, hTI, hTO, h1, h2, h3⟩ := st
    obtain ⟨xs, ys, ws, hqx, hqy, hqz, hend⟩ := hg
    obtain ⟨its, rv, p, _⟩ := Sk.inv I hqx
    obtain ⟨its2, rv2, p2, _⟩ := Sk.inv I hqy
    obtain ⟨its3, rv3, p3, _⟩ := Sk.inv I hqz
    have l1 := rv.length
    have l2 := rv2.length
    have l3 := rv3.length
    have en : min (min its.toArray.size its2.toArray.size) its3.toArray.size = i := by simp; omega
    have hh : X.A.in1.handled = none := I.ok.hd hc
    have G := GoesN.zip3 (prog := X.prog) (w := X.w) (A := X.A) (elts := elts) (x1 := kk) (pos := tpos) S (Sk.draws (q := q1) hh i1 a na its.toArray) (Sk.draws (q := q2) hh i2 b nb its2.toArray) (Sk.draws (q := q3) hh i3 c nc its3.toArray)
    refine G.stops s _ E ?_ fun h' tk hk _ => I.turnedL (t' := tk) (ch := [z, TI, TO, i1, i2, i3]) (fun c o hb e => hk c o (fun m => hb (by
      have e' : c = z ∨ c = TO ∨ c = i1 ∨ c = i2 ∨ c = i3 := by simpa using m
      simp only [List.mem_cons, List.not_mem_nil, or_false]
      rcases e' with e | e | e | e | e
      · exact .inl e
      · exact .inr (.inr (.inl e))
      · exact .inr (.inr (.inr (.inl e)))
      · exact .inr (.inr (.inr (.inr (.inl e))))
      · exact .inr (.inr (.inr (.inr (.inr e)))))) e) hf
    rw [en]
    exact ⟨hz, hTI, hTO, ⟨h1, p⟩, ⟨h2, p2⟩, h3, p3⟩
  self := fun A i s Q E st h => wpAny_pyIter_zip st.1 h
def iZ3 (K : PySem.W.Frag) (ta : TA) : TI := fun σ H R => ta σ H fun vs H1 => ∃ a b c q1 q2 q3 xs ys zs, vs = [.ref a, .ref b, .ref c] ∧ Sk.sq q1 K H1 a xs ∧ Sk.sq q2 K H1 b ys ∧ Sk.sq q3 K H1 c zs ∧ R (It3 K q1 q2 q3 a b c) H1
theorem pi_z3 {X : Cx} {e e2 e3 : Expr} {ta : TA} {p pos tpos : Pos} {elts : List Expr} {kk : Nat} (hg : Gl X "zip") (hm : X.mg "zip" = none) (ha : PA X [e, e2, e3] ta) (hs : starEach [e, e2, e3] X.env = (false, eval e X.env) :: starEach [e2, e3] X.env) (hpl : (backTo pos (starEach [e2, e3] X.env)).any (·.1) = false) :
    PI X (.Tuple elts kk tpos) (.Call (.Name "zip" p) [e, e2, e3] [] pos) (iZ3 X.K ta) := by
  refine ⟨fun pins s σ H R I h => ?_⟩
  refine Call_ (ld_blt I hg hm PyProof.Rows.boot_zip (PyProof.Rows.callWith_type1 (thn (ha.run pos pins s σ H _ I h) fun us s1 ⟨vs, H1, I1, r1, q1⟩ => ?_) hs hpl))
  obtain ⟨a, b, c, q1, q2, q3, xs, ys, zs, ex, hqx, hqy, hqz, q⟩ := q1
  subst ex
  cases r1 with
  | cons r rr =>
    cases rr with
    | cons r' rr =>
      cases rr with
      | cons r2 rr =>
      cases rr
      cases r
      cases r'
      cases r2
      obtain ⟨its, rv, p1, la⟩ := Sk.inv I1 hqx
      obtain ⟨its2, rv2, p2, lb⟩ := Sk.inv I1 hqy
      obtain ⟨its3, rv3, p3, lc⟩ := Sk.inv I1 hqz
      refine zip_begins3 (Sk.begins a its.toArray) (Sk.begins b its2.toArray) (Sk.begins c its3.toArray) p1 p2 p3 fun h' hz hTI hTO h1 h2 h3 hsz hk => wpAny_pyIter_zip hz ?_
      have I2 : Inv X pins σ H1 { s1 with heap := h' } := I1.kept (t' := s1.toks) hk
      refine ⟨s1.heap.objs.size + 5, [s1.heap.objs.size + 5, s1.heap.objs.size + 3, s1.heap.objs.size + 4, s1.heap.objs.size, s1.heap.objs.size + 1, s1.heap.objs.size + 2], _, _, H1, rfl, I2,
        turn3 (zip_sep3 (fp1 := [a]) (fp2 := [b]) (fp3 := [c]) (fun c hc => by rw [List.mem_singleton.mp hc]; exact la) (fun c hc => by rw [List.mem_singleton.mp hc]; exact lb) (fun c hc => by rw [List.mem_singleton.mp hc]; exact lc)) (Nat.ne_of_lt la) (Nat.ne_of_lt (Nat.lt_succ_of_lt lb)) (Nat.ne_of_lt (Nat.lt_succ_of_lt (Nat.lt_succ_of_lt lc))), ⟨hz, hTI, ⟨_, _, _, hTO⟩, Sk.itr0 h1, Sk.itr0 h2, Sk.itr0 h3⟩, fun c hcm => ?_, q⟩
      have e' : c = s1.heap.objs.size + 5 ∨ c = s1.heap.objs.size + 3 ∨ c = s1.heap.objs.size + 4 ∨ c = s1.heap.objs.size ∨ c = s1.heap.objs.size + 1 ∨ c = s1.heap.objs.size + 2 := by simpa using hcm
      have hle : s1.heap.objs.size ≤ c := by
        rcases e' with z | z | z | z | z | z
        · rw [z]; exact Nat.le_add_right _ _
        · rw [z]; exact Nat.le_add_right _ _
        · rw [z]; exact Nat.le_add_right _ _
        · rw [z]; exact Nat.le_refl _
        · rw [z]; exact Nat.le_add_right _ _
        · rw [z]; exact Nat.le_add_right _ _
      exact I1.fpOk hle (I1.hok.fresh hle)
end VS

set_option Elab.async false
set_option linter.all false
set_option maxRecDepth 100000
set_option maxHeartbeats 4000000
/-! VS 14: what is walked, by values. -/
namespace VS
open PySem PySem.Spec PyProof.Rows L2
def D.sk : D → Sk
  | .tup _ => .t
  | _ => .l
theorem repL_ints {k : Kn} {F : Hp} : ∀ (l : List Int), RepL k F (l.map .int) (l.map V.int)
  | [] => RepL.nil
  | i :: l => RepL.cons (by unfold RepV; rfl) (repL_ints l)
theorem seq_of {k : Kn} {F H : Hp} {d : D} {x : V} {l : List D} (s : Sub F H) (h : RepP k F H d x) (e : d.seq = some l) : ∃ a vs, x = .ref a ∧ d.sk.sq k.K H a vs ∧ RepL k F l vs := by
  cases d with
  | tup m =>
    cases e
    have h : RepV k F (.tup l) x := h
    unfold RepV at h
    obtain ⟨a, xs, h1, h2, h3⟩ := h
    exact ⟨a, xs, h1, sub_sqT s h2, h3⟩
  | lst m =>
    cases e
    obtain ⟨a, xs, h1, h2, h3⟩ := h
    exact ⟨a, xs, h1, SqL.of h2, h3⟩
  | scr m =>
    cases e
    have h : RepV k F (.scr m) x := h
    unfold RepV at h
    obtain ⟨a, h1, h2⟩ := h
    exact ⟨a, _, h1, sub_sqL s h2, repL_ints m⟩
  | _ => cases e
theorem RepPs.cons {k : Kn} {F H : Hp} {d : D} {l : List D} {xs : List V} (h : RepPs k F H (d :: l) xs) : ∃ x r, xs = x :: r ∧ RepP k F H d x ∧ RepPs k F H l r := h
section
variable {k : Kn} {F H : Hp}
def itS (K : PySem.W.Frag) (q : Sk) (a : Addr) : It := match q with
  | .l => Itl K a
  | .t => Itt K a
/-- nothing new -/
theorem noGrow (s : Sub F H) : ∀ a o, H a = some o → H a = some o ∧ F a = F a := fun a o h => ⟨h, rfl⟩
theorem wk_seq {d : D} {l : List D} {a : Addr} (e : d.seq = some l) : WkD k (itS k.K d.sk a) l (fun F H => RepPs k F H [d] [.ref a]) := by
  have at_ : ∀ {F H : Hp}, Sub F H → RepPs k F H [d] [.ref a] → ∃ vs, d.sk.sq k.K H a vs ∧ RepL k F l vs := fun {F H} s h => by
    obtain ⟨x, r, h1, h2, _⟩ := RepPs.cons h
    cases h1
    obtain ⟨b, vs, e1, h3, h4⟩ := seq_of s h2 e
    cases e1
    exact ⟨vs, h3, h4⟩
  refine ⟨fun i F H hi s h => ?_, fun F H s h => ?_, fun i c F H x H' hi s h y => ?_⟩
  · obtain ⟨vs, h3, h4⟩ := at_ s h
    obtain ⟨x, hx, _⟩ := h4.get (List.getElem?_eq_getElem hi)
    cases d <;> first | exact ⟨vs, x, h3, hx⟩ | cases e
  · obtain ⟨vs, h3, h4⟩ := at_ s h
    cases d <;> first | exact ⟨vs, h3, Nat.le_of_eq h4.length⟩ | cases e
  · obtain ⟨vs, h3, h4⟩ := at_ s h
    obtain ⟨z, hz, rz⟩ := h4.get hi
    have : H' = H ∧ vs[i]? = some x := by
      cases d <;> first | exact ⟨y.1, y.2 vs h3⟩ | cases e
    obtain ⟨rfl, hx⟩ := this
    rw [hz] at hx
    cases hx
    exact ⟨F, noGrow s, s, rz⟩
theorem rng_get {lo hi : Int} {i : Nat} {c : D} (h : (rngD lo hi)[i]? = some c) : c = .int (lo + (i : Nat)) ∧ i < (hi - lo).toNat := by
  unfold rngD at h
  rw [List.getElem?_map] at h
  obtain ⟨n, h1, h2⟩ := Option.map_eq_some_iff.mp h
  have hl : i < (List.range (hi - lo).toNat).length := (List.getElem?_eq_some_iff.mp h1).1
  rw [List.length_range] at hl
  rw [List.getElem?_range hl] at h1
  cases h1
  exact ⟨h2.symm, hl⟩
theorem wk_rng {lo hi : Int} {S : Hp → Hp → Prop} : WkD k (Itr lo (hi - lo).toNat) (rngD lo hi) S := by
  have len : (rngD lo hi).length = (hi - lo).toNat := by unfold rngD; rw [List.length_map, List.length_range]
  refine ⟨fun i F H h _ _ => by rw [len] at h; exact h, fun F H _ _ => by rw [len]; exact Nat.le_refl _, fun i c F H x H' h s _ y => ?_⟩
  obtain ⟨rfl, hl⟩ := rng_get h
  obtain ⟨rfl, rfl⟩ := y
  exact ⟨F, noGrow s, s, by unfold RepV; rfl⟩
theorem wk_down {lo hi : Int} {S : Hp → Hp → Prop} : WkD k (Itc lo (-1) (lo - hi).toNat) ((List.range (lo - hi).toNat).map fun n => .int (lo + (n : Nat) * -1)) S := by
  refine ⟨fun i F H h _ _ => by rw [List.length_map, List.length_range] at h; exact h, fun F H _ _ => by rw [List.length_map, List.length_range]; exact Nat.le_refl _, fun i c F H x H' h s _ y => ?_⟩
  rw [List.getElem?_map] at h
  obtain ⟨n, h1, rfl⟩ := Option.map_eq_some_iff.mp h
  have hl : i < (List.range (lo - hi).toNat).length := (List.getElem?_eq_some_iff.mp h1).1
  rw [List.length_range] at hl
  rw [List.getElem?_range hl] at h1
  cases h1
  obtain ⟨rfl, rfl⟩ := y
  exact ⟨F, noGrow s, s, by unfold RepV; rfl⟩
theorem wk_str {z : Str} {S : Hp → Hp → Prop} : WkD k (Its z) (z.cps.toList.map fun c => .str ⟨#[c]⟩) S := by
  refine ⟨fun i F H h _ _ => by show i < z.cps.size; simpa using h, fun F H _ _ => by simp [Its], fun i c F H x H' h s _ y => ?_⟩
  rw [List.getElem?_map] at h
  obtain ⟨n, h1, rfl⟩ := Option.map_eq_some_iff.mp h
  obtain ⟨rfl, c, h2, rfl⟩ := y
  have h3 : z.cps.toList[i]? = some c := by simpa using h2
  rw [h1] at h3
  cases h3
  exact ⟨F, noGrow s, s, by unfold RepV; rfl⟩
theorem two_new {T : Addr} {ds : List D} {xs : List V} (s : Sub F H) (hT : H T = none) (r : RepL k F ds xs) : ∃ F', (∀ a o, H a = some o → upd H T (.tup xs) a = some o ∧ F' a = F a) ∧ Sub F' (upd H T (.tup xs)) ∧ RepV k F' (.tup ds) (.ref T) := by
  refine ⟨upd F T (.tup xs), upd_grow hT, upd_sub s, ?_⟩
  unfold RepV
  exact ⟨T, xs, rfl, SqT.of upd_same, r.mono (subF_upd s hT)⟩
theorem wk_enum {d : D} {l : List D} {a : Addr} (e : d.seq = some l) : WkD k (It1 k.K d.sk a) (l.zipIdx.map fun p => .tup [.int p.2, p.1]) (fun F H => RepPs k F H [d] [.ref a]) := by
  have at_ : ∀ {F H : Hp}, Sub F H → RepPs k F H [d] [.ref a] → ∃ vs, d.sk.sq k.K H a vs ∧ RepL k F l vs := fun {F H} s h => by
    obtain ⟨x, r, h1, h2, _⟩ := RepPs.cons h
    cases h1
    obtain ⟨b, vs, e1, h3, h4⟩ := seq_of s h2 e
    cases e1
    exact ⟨vs, h3, h4⟩
  refine ⟨fun i F H hi s h => ?_, fun F H s h => ?_, fun i c F H x H' hi s h y => ?_⟩
  · obtain ⟨vs, h3, h4⟩ := at_ s h
    have hi' : i < l.length := by simpa using hi
    obtain ⟨x, hx, _⟩ := h4.get (List.getElem?_eq_getElem hi')
    exact ⟨vs, x, h3, hx⟩
  · obtain ⟨vs, h3, h4⟩ := at_ s h
    exact ⟨vs, h3, by rw [h4.length]; simp⟩
  · obtain ⟨vs, h3, h4⟩ := at_ s h
    rw [List.getElem?_map, List.getElem?_zipIdx] at hi
    obtain ⟨p, hp, rfl⟩ := Option.map_eq_some_iff.mp hi
    obtain ⟨c, hc, rfl⟩ := Option.map_eq_some_iff.mp hp
    obtain ⟨z, hz, rz⟩ := h4.get hc
    obtain ⟨T, w, rfl, hT, rfl, hw⟩ := y
    have hw := hw vs h3
    rw [hz] at hw
    cases hw
    refine two_new s hT (RepL.cons ?_ (RepL.cons rz RepL.nil))
    unfold RepV
    simp
theorem wk_zip2 {d1 d2 : D} {l m : List D} {a b : Addr} (e1 : d1.seq = some l) (e2 : d2.seq = some m) : WkD k (It2 k.K d1.sk d2.sk a b) (List.zipWith (fun x y => .tup [x, y]) l m) (fun F H => RepPs k F H [d1, d2] [.ref a, .ref b]) := by
  have at_ : ∀ {F H : Hp}, Sub F H → RepPs k F H [d1, d2] [.ref a, .ref b] → ∃ vs us, d1.sk.sq k.K H a vs ∧ RepL k F l vs ∧ d2.sk.sq k.K H b us ∧ RepL k F m us := fun {F H} s h => by
    obtain ⟨x, r, h1, h2, h5⟩ := RepPs.cons h
    cases h1
    obtain ⟨x, r, h1, h6, _⟩ := RepPs.cons h5
    cases h1
    obtain ⟨b, vs, e3, h3, h4⟩ := seq_of s h2 e1
    cases e3
    obtain ⟨b, us, e3, h7, h8⟩ := seq_of s h6 e2
    cases e3
    exact ⟨vs, us, h3, h4, h7, h8⟩
  refine ⟨fun i F H hi s h => ?_, fun F H s h => ?_, fun i c F H x H' hi s h y => ?_⟩
  · obtain ⟨vs, us, h3, h4, h7, h8⟩ := at_ s h
    rw [List.length_zipWith] at hi
    obtain ⟨x, hx, _⟩ := h4.get (List.getElem?_eq_getElem (by omega : i < l.length))
    obtain ⟨y, hy, _⟩ := h8.get (List.getElem?_eq_getElem (by omega : i < m.length))
    exact ⟨vs, us, x, y, h3, h7, hx, hy⟩
  · obtain ⟨vs, us, h3, h4, h7, h8⟩ := at_ s h
    exact ⟨vs, us, h3, h7, by rw [h4.length, h8.length, List.length_zipWith]⟩
  · obtain ⟨vs, us, h3, h4, h7, h8⟩ := at_ s h
    rw [List.getElem?_zipWith] at hi
    cases hl : l[i]? with
    | none => rw [hl] at hi; cases hi
    | some c1 =>
      cases hm : m[i]? with
      | none => rw [hl, hm] at hi; cases hi
      | some c2 =>
        rw [hl, hm] at hi
        cases hi
        obtain ⟨z, hz, rz⟩ := h4.get hl
        obtain ⟨z2, hz2, rz2⟩ := h8.get hm
        obtain ⟨T, w, w2, rfl, hT, rfl, hw, hw2⟩ := y
        have hw := hw vs h3
        have hw2 := hw2 us h7
        rw [hz] at hw
        rw [hz2] at hw2
        cases hw
        cases hw2
        exact two_new s hT (RepL.cons rz (RepL.cons rz2 RepL.nil))
theorem zip3_len : ∀ (l m n : List D), (zip3D l m n).length = min (min l.length m.length) n.length
  | [], m, n => by simp [zip3D]
  | a :: l, [], n => by simp [zip3D]
  | a :: l, b :: m, [] => by simp [zip3D]
  | a :: l, b :: m, c :: n => by
    show (zip3D l m n).length + 1 = _
    rw [zip3_len l m n]
    simp only [List.length_cons]
    omega
theorem zip3_get : ∀ {l m n : List D} {i : Nat} {c : D}, (zip3D l m n)[i]? = some c → ∃ x y z, l[i]? = some x ∧ m[i]? = some y ∧ n[i]? = some z ∧ c = .tup [x, y, z]
  | [], m, n, i, c, h => by simp [zip3D] at h
  | a :: l, [], n, i, c, h => by simp [zip3D] at h
  | a :: l, b :: m, [], i, c, h => by simp [zip3D] at h
  | a :: l, b :: m, d :: n, 0, c, h => by
    have h : some (D.tup [a, b, d]) = some c := h
    cases h
    exact ⟨a, b, d, rfl, rfl, rfl, rfl⟩
  | a :: l, b :: m, d :: n, i + 1, c, h => by
    obtain ⟨x, y, z, h1, h2, h3, h4⟩ := zip3_get (l := l) (m := m) (n := n) (i := i) h
    exact ⟨x, y, z, h1, h2, h3, h4⟩
theorem wk_zip3 {d1 d2 d3 : D} {l m n : List D} {a b c : Addr} (e1 : d1.seq = some l) (e2 : d2.seq = some m) (e3 : d3.seq = some n) : WkD k (It3 k.K d1.sk d2.sk d3.sk a b c) (zip3D l m n) (fun F H => RepPs k F H [d1, d2, d3] [.ref a, .ref b, .ref c]) := by
  have at_ : ∀ {F H : Hp}, Sub F H → RepPs k F H [d1, d2, d3] [.ref a, .ref b, .ref c] → ∃ vs us ws, d1.sk.sq k.K H a vs ∧ RepL k F l vs ∧ d2.sk.sq k.K H b us ∧ RepL k F m us ∧ d3.sk.sq k.K H c ws ∧ RepL k F n ws := fun {F H} s h => by
    obtain ⟨x, r, h1, h2, h5⟩ := RepPs.cons h
    cases h1
    obtain ⟨x, r, h1, h6, h9⟩ := RepPs.cons h5
    cases h1
    obtain ⟨x, r, h1, h10, _⟩ := RepPs.cons h9
    cases h1
    obtain ⟨b, vs, e4, h3, h4⟩ := seq_of s h2 e1
    cases e4
    obtain ⟨b, us, e4, h7, h8⟩ := seq_of s h6 e2
    cases e4
    obtain ⟨b, ws, e4, h11, h12⟩ := seq_of s h10 e3
    cases e4
    exact ⟨vs, us, ws, h3, h4, h7, h8, h11, h12⟩
  refine ⟨fun i F H hi s h => ?_, fun F H s h => ?_, fun i c F H x H' hi s h y => ?_⟩
  · obtain ⟨vs, us, ws, h3, h4, h7, h8, h11, h12⟩ := at_ s h
    rw [zip3_len] at hi
    obtain ⟨x, hx, _⟩ := h4.get (List.getElem?_eq_getElem (by omega : i < l.length))
    obtain ⟨y, hy, _⟩ := h8.get (List.getElem?_eq_getElem (by omega : i < m.length))
    obtain ⟨z, hz, _⟩ := h12.get (List.getElem?_eq_getElem (by omega : i < n.length))
    exact ⟨vs, us, ws, x, y, z, h3, h7, h11, hx, hy, hz⟩
  · obtain ⟨vs, us, ws, h3, h4, h7, h8, h11, h12⟩ := at_ s h
    exact ⟨vs, us, ws, h3, h7, h11, by rw [h4.length, h8.length, h12.length, zip3_len]⟩
  · obtain ⟨vs, us, ws, h3, h4, h7, h8, h11, h12⟩ := at_ s h
    obtain ⟨c1, c2, c3, hl, hm, hn, rfl⟩ := zip3_get hi
    obtain ⟨z, hz, rz⟩ := h4.get hl
    obtain ⟨z2, hz2, rz2⟩ := h8.get hm
    obtain ⟨z3, hz3, rz3⟩ := h12.get hn
    obtain ⟨T, w, w2, w3, rfl, hT, rfl, hw, hw2, hw3⟩ := y
    have hw := hw vs h3
    have hw2 := hw2 us h7
    have hw3 := hw3 ws h11
    rw [hz] at hw
    rw [hz2] at hw2
    rw [hz3] at hw3
    cases hw
    cases hw2
    cases hw3
    exact two_new s hT (RepL.cons rz (RepL.cons rz2 (RepL.cons rz3 RepL.nil)))
end
/-! ### a value walked: a list, a tuple, a text, a range -/
def iAny (K : PySem.W.Frag) (te : TE) : TI := fun σ H R => te σ H fun x H1 => (∃ a q xs, x = .ref a ∧ Sk.sq q K H1 a xs ∧ R (itS K q a) H1) ∨ (∃ z, x = .str z ∧ R (Its z) H1) ∨
  ∃ a lo hi, x = .ref a ∧ H1 a = some (.rng lo hi) ∧ (-(2 ^ 62) ≤ lo ∧ lo < 2 ^ 62 ∧ -(2 ^ 62) ≤ hi ∧ hi < 2 ^ 62) ∧ R (Itr lo (hi - lo).toNat) H1
section
variable {X : Cx} {W : WX} {tg e e2 e3 : Expr} {es : List Expr} {te : TE} {me : Env → Out Rr} {ml : Env → Out (List Rr)} {p pos tpos : Pos} {elts : List Expr} {kk : Nat}
theorem pi_any (he : PE X e te) : PI X tg e (iAny X.K te) := by
  refine ⟨fun pins s σ H R I h => ?_⟩
  refine thn (he.run pins s σ H _ I h) fun v s1 ⟨x, H1, I1, r1, q1⟩ => ?_
  rcases q1 with ⟨a, q, xs, rfl, hq, q1⟩ | ⟨z, rfl, q1⟩ | ⟨a, lo, hi, rfl, ha, ⟨b1, b2, b3, b4⟩, q1⟩
  · cases r1
    have fresh : ∀ b ∈ [s1.heap.objs.size], FpOk X pins H1 b := fun b hb => by
      have e : b = s1.heap.objs.size := by simpa using hb
      subst e
      exact I1.fpOk (Nat.le_refl _) (I1.hok.fresh (Nat.le_refl _))
    cases q with
    | l =>
      obtain ⟨its, rv, p, hz⟩ := I1.list hq
      exact wpAny_pyIter_list p.isList ⟨s1.heap.objs.size, [s1.heap.objs.size], _, _, H1, rfl, I1.kept (t' := s1.toks) fun b o e => Heap.get?_push_of_some _ e, turn_list a _, ⟨_, Heap.get?_push_size _ rfl, rfl, rfl⟩, fresh, q1⟩
    | t =>
      obtain ⟨its, rv, p, hz⟩ := I1.tuple hq
      exact wpAny_pyIter_tuple (show s1.heap.IsTuple a its.toArray from p) ⟨s1.heap.objs.size, [s1.heap.objs.size], _, _, H1, rfl, I1.kept (t' := s1.toks) fun b o e => Heap.get?_push_of_some _ e, turn_tuple a _, ⟨_, Heap.get?_push_size _ rfl, rfl, rfl⟩, fresh, q1⟩
  · obtain ⟨t, rfl⟩ := r1
    cases ha : z.cps.all (· < 128)
    · exact wpAny_pyIter_wide ha (pi_one (tk := s1.toks) I1 _ (turn_str _ z t "str_iterator" (.inr rfl)) ⟨_, Heap.get?_push_size _ rfl, rfl, rfl⟩ q1)
    · exact wpAny_pyIter_ascii ha (pi_one (tk := s1.toks) I1 _ (turn_str _ z t "str_ascii_iterator" (.inl rfl)) ⟨_, Heap.get?_push_size _ rfl, rfl, rfl⟩ q1)
  · cases r1
    obtain ⟨t, u, v, ho⟩ := I1.hok a _ ha
    refine wpAny_pyIter_range (show IsRange _ a lo hi 1 t u v from ho) (small_one b1 b2 b3 b4) ?_
    refine pi_one (tk := s1.toks) I1 _ (turn_range _ lo (hi - lo).toNat) ?_ q1
    have e1 : lo + ((0 : Nat) : Int) * 1 = lo := by simp
    have e2 : (((hi - lo).toNat : Nat) : Int) - ((0 : Nat) : Int) = Builtin.Range.rangeSize lo hi 1 := by rw [rangeSize_one]; split <;> omega
    show IsRangeIter _ _ (lo + ((0 : Nat) : Int) * 1) ((((hi - lo).toNat : Nat) : Int) - ((0 : Nat) : Int)) 1
    rw [e1, e2]
    exact Heap.get?_push_size _ rfl
theorem rgOk_ok {i : Int} (h : rgOk i = true) : -(2 ^ 62) ≤ i ∧ i < 2 ^ 62 := by
  cases i with
  | ofNat n =>
    have h : n < 4611686018427387904 := Nat.blt_eq.mp h
    have : (Int.ofNat n) = (n : Int) := rfl
    omega
  | negSucc n =>
    have h : n < 4611686018427387904 := Nat.blt_eq.mp h
    omega
theorem RSs.one {k : Kn} {σ : L2.St} {F : Hp} {r : Rr} {x : V} (h : RS k σ F r x) : RSs k σ F [r] [x] := ⟨x, [], rfl, h, rfl⟩
theorem RR.rs {k : Kn} {σ : L2.St} {ρ : Env} {F H0 H : Hp} {r : Rr} {x : V} (h : RR k σ H0 ρ F H (settle r) x) : RS k σ F (settle r) x := by
  cases r with
  | fz d => exact h
  | fr d => exact h
  | own i => exact h.1
theorem RepPs.len {k : Kn} {F H : Hp} : ∀ {ds : List D} {xs : List V}, RepPs k F H ds xs → xs.length = ds.length
  | [], xs, h => by
    have h : xs = [] := h
    rw [h]
    rfl
  | d :: ds, _, ⟨x, r, e, _, h⟩ => by rw [e, List.length_cons, List.length_cons, RepPs.len h]
theorem RSs.len {k : Kn} {σ : L2.St} {F : Hp} : ∀ {rs : List Rr} {xs : List V}, RSs k σ F rs xs → xs.length = rs.length
  | [], xs, h => by
    have h : xs = [] := h
    rw [h]
    rfl
  | d :: ds, _, ⟨x, r, e, _, h⟩ => by rw [e, List.length_cons, List.length_cons, RSs.len h]
theorem ei_val (he : EV X W e me) : EI X W tg e .val (mLs me fun ρ => .ok [] ρ) := by
  refine ⟨pi_mono (pi_any he.pe) fun σ H R ⟨ρ, F, r0, p⟩ => ⟨ρ, F, r0, Pv.bind0 p fun r ρ1 F1 H1 t1 p1 x rr => ?_⟩⟩
  obtain ⟨F2, t2, r2⟩ := settle_ok t1 rr
  obtain ⟨sds, ds, es, ed, go⟩ := p1 F2 H1 t2
  have hx := RSs.one (RR.rs r2)
  have hp := hx.pk t2.rp es
  have hl := hp.len
  match sds, hl with
  | [d], _ =>
    have go : ∀ J, WkD (Cx.kn X) J ds (fun F H => RepPs (Cx.kn X) F H [d] [x]) → R J H1 := go [x] hx
    have hp1 : RepP (Cx.kn X) F2 H1 d x := by
      obtain ⟨x', r', e1, e2, _⟩ := RepPs.cons hp
      cases e1
      exact e2
    have seq : d.seq = some ds → (∃ a q xs, x = .ref a ∧ Sk.sq q X.K H1 a xs ∧ R (itS X.K q a) H1) := fun e => by
      obtain ⟨a, vs, e1, h3, _⟩ := seq_of t2.rp.sub hp1 e
      subst e1
      exact ⟨a, d.sk, vs, rfl, h3, go _ (wk_seq e)⟩
    cases d with
    | rng lo hi =>
      have ed : (if rgOk lo && rgOk hi then some (rngD lo hi) else none) = some ds := ed
      by_cases z : (rgOk lo && rgOk hi) = true
      · rw [if_pos z] at ed
        cases ed
        obtain ⟨z1, z2⟩ := Bool.and_eq_true_iff.mp z
        obtain ⟨b1, b2⟩ := rgOk_ok z1
        obtain ⟨b3, b4⟩ := rgOk_ok z2
        have hp1 : RepV (Cx.kn X) F2 (.rng lo hi) x := hp1
        unfold RepV at hp1
        obtain ⟨a, rfl, ha⟩ := hp1
        exact .inr (.inr ⟨a, lo, hi, rfl, t2.rp.sub a _ ha, ⟨b1, b2, b3, b4⟩, go _ wk_rng⟩)
      · rw [if_neg z] at ed
        cases ed
    | str z =>
      have ed : some (z.cps.toList.map fun c => D.str ⟨#[c]⟩) = some ds := ed
      cases ed
      have hp1 : RepV (Cx.kn X) F2 (.str z) x := hp1
      unfold RepV at hp1
      subst hp1
      exact .inr (.inl ⟨z, rfl, go _ wk_str⟩)
    | tup l => exact .inl (seq ed)
    | lst l => exact .inl (seq ed)
    | scr l => exact .inl (seq ed)
    | non => cases ed
    | bl b => cases ed
    | int i => cases ed
    | dic b l => cases ed
    | fn z => cases ed
/-- as many as there are -/
def LenIs (ml : Env → Out (List Rr)) (n : Nat) : Prop := ∀ ρ rs ρ1, ml ρ = .ok rs ρ1 → rs.length = n
theorem len_nil : LenIs (fun ρ => .ok [] ρ) 0 := fun ρ rs ρ1 h => by cases h; rfl
theorem len_cons {ma : Env → Out Rr} {n : Nat} (h : LenIs ml n) : LenIs (mLs ma ml) (n + 1) := fun ρ rs ρ1 e => by
  have e : ((ma ρ).bind fun r ρ1 => (ml ρ1).bind fun rs ρ2 => Out.ok (settle r :: rs) ρ2) = .ok rs ρ1 := e
  cases ea : ma ρ with
  | bad => rw [ea] at e; cases e
  | exc c v ρ2 => rw [ea] at e; cases e
  | ok r ρ2 =>
    rw [ea] at e
    have e : ((ml ρ2).bind fun rs ρ2 => Out.ok (settle r :: rs) ρ2) = .ok rs ρ1 := e
    cases el : ml ρ2 with
    | bad => rw [el] at e; cases e
    | exc c v ρ3 => rw [el] at e; cases e
    | ok rs' ρ3 =>
      rw [el] at e
      cases e
      rw [List.length_cons, h ρ2 rs' ρ1 el]
/-- what the arguments are -/
theorem tL_of {k : Kn} {σ : L2.St} {H : Hp} {ik : Ik} {R : It → Hp → Prop} {Q : List V → Hp → Prop} {n : Nat} (hn : LenIs ml n) (h : tI k W ik ml σ H R)
    (g : ∀ xs F H1 sds ds, xs.length = n → sds.length = n → Sub F H1 → RepPs k F H1 sds xs → ikD ik sds = some ds → (∀ J, WkD k J ds (fun F H => RepPs k F H sds xs) → R J H1) → Q xs H1) : tL k W ml σ H Q := by
  obtain ⟨ρ, F, r0, p⟩ := h
  refine ⟨ρ, F, r0, ?_⟩
  cases em : ml ρ with
  | bad => rw [em] at p; exact p
  | exc c v ρ1 => rw [em] at p; exact p
  | ok rs ρ1 =>
    rw [em] at p
    intro F1 H1 t xs hx
    obtain ⟨sds, ds, es, ed, go⟩ := p F1 H1 t
    have hp := hx.pk t.rp es
    have l1 : xs.length = n := by rw [hx.len]; exact hn ρ rs ρ1 em
    exact g xs F1 H1 sds ds l1 (by rw [← hp.len]; exact l1) t.rp.sub hp ed (go xs hx)
theorem RepPs.inv1 {k : Kn} {F H : Hp} {d : D} {xs : List V} (h : RepPs k F H [d] xs) : ∃ x, xs = [x] ∧ RepP k F H d x := by
  obtain ⟨x, r, e, h1, h2⟩ := h
  have h2 : r = [] := h2
  subst h2
  exact ⟨x, e, h1⟩
theorem RepPs.inv2 {k : Kn} {F H : Hp} {d d2 : D} {xs : List V} (h : RepPs k F H [d, d2] xs) : ∃ x y, xs = [x, y] ∧ RepP k F H d x ∧ RepP k F H d2 y := by
  obtain ⟨x, r, e, h1, h2⟩ := h
  obtain ⟨y, rfl, h3⟩ := RepPs.inv1 h2
  exact ⟨x, y, e, h1, h3⟩
theorem RepPs.inv3 {k : Kn} {F H : Hp} {d d2 d3 : D} {xs : List V} (h : RepPs k F H [d, d2, d3] xs) : ∃ x y z, xs = [x, y, z] ∧ RepP k F H d x ∧ RepP k F H d2 y ∧ RepP k F H d3 z := by
  obtain ⟨x, r, e, h1, h2⟩ := h
  obtain ⟨y, z, rfl, h3, h4⟩ := RepPs.inv2 h2
  exact ⟨x, y, z, e, h1, h3, h4⟩
theorem rep_int {k : Kn} {F H : Hp} {i : Int} {x : V} (h : RepP k F H (.int i) x) : x = .int i := by
  have h : RepV k F (.int i) x := h
  unfold RepV at h
  exact h
theorem some_if {c : Bool} {α : Type} {x y : α} (h : (if c = true then some x else none) = some y) : c = true ∧ x = y := by
  by_cases z : c = true
  · rw [if_pos z] at h; exact ⟨z, Option.some.inj h⟩
  · rw [if_neg z] at h; cases h
/-- range(j) -/
theorem ei_rng1 (hg : Gl X "range") (hm : X.mg "range" = none) (ha : EL X W [e] ml) (hn : LenIs ml 1) (hs : starEach [e] X.env = [(false, eval e X.env)]) : EI X W tg (.Call (.Name "range" p) [e] [] pos) .rng ml := by
  refine ⟨pi_mono (pi_range1 hg hm ha.pa hs) fun σ H R h => tL_of hn h fun xs F H1 sds ds l1 l2 sF hp ed go => ?_⟩
  match sds, l2 with
  | [d], _ =>
    obtain ⟨x, rfl, h1⟩ := RepPs.inv1 hp
    cases d with
    | int j =>
      obtain ⟨z1, rfl⟩ := some_if (show (if rgOk j = true then some (rngD 0 j) else none) = some ds from ed)
      obtain ⟨b1, b2⟩ := rgOk_ok z1
      cases rep_int h1
      have J := go (Itr 0 (j - 0).toNat) wk_rng
      rw [Int.sub_zero] at J
      exact ⟨j, rfl, b1, b2, J⟩
    | _ => cases ed
theorem ei_rng2 (hg : Gl X "range") (hm : X.mg "range" = none) (ha : EL X W [e, e2] ml) (hn : LenIs ml 2) (hs : starEach [e, e2] X.env = [(false, eval e X.env), (false, eval e2 X.env)]) (hs2 : starEach [e2] X.env = [(false, eval e2 X.env)]) : EI X W tg (.Call (.Name "range" p) [e, e2] [] pos) .rng ml := by
  refine ⟨pi_mono (pi_range2 hg hm ha.pa hs hs2) fun σ H R h => tL_of hn h fun xs F H1 sds ds l1 l2 sF hp ed go => ?_⟩
  match sds, l2 with
  | [d, d2], _ =>
    obtain ⟨x, y, rfl, h1, h2⟩ := RepPs.inv2 hp
    cases d with
    | int i =>
      cases d2 with
      | int j =>
        obtain ⟨z1, rfl⟩ := some_if (show (if (rgOk i && rgOk j) = true then some (rngD i j) else none) = some ds from ed)
        obtain ⟨z1, z2⟩ := Bool.and_eq_true_iff.mp z1
        obtain ⟨b1, b2⟩ := rgOk_ok z1
        obtain ⟨b3, b4⟩ := rgOk_ok z2
        cases rep_int h1
        cases rep_int h2
        exact ⟨i, j, rfl, ⟨b1, b2, b3, b4⟩, go _ wk_rng⟩
      | _ => cases ed
    | _ => cases ed
theorem ei_rng3 (hg : Gl X "range") (hm : X.mg "range" = none) (ha : EL X W [e, e2, e3] ml) (hn : LenIs ml 3) (hs : starEach [e, e2, e3] X.env = (false, eval e X.env) :: starEach [e2, e3] X.env) (hpl : (backTo pos (starEach [e2, e3] X.env)).any (·.1) = false) : EI X W tg (.Call (.Name "range" p) [e, e2, e3] [] pos) .rng ml := by
  refine ⟨pi_mono (pi_range3 hg hm ha.pa hs hpl) fun σ H R h => tL_of hn h fun xs F H1 sds ds l1 l2 sF hp ed go => ?_⟩
  match sds, l2 with
  | [d, d2, d3], _ =>
    obtain ⟨x, y, z, rfl, h1, h2, h3⟩ := RepPs.inv3 hp
    cases d with
    | int i =>
      cases d2 with
      | int j =>
        cases d3 with
        | int c =>
          obtain ⟨z1, rfl⟩ := some_if (show (if (decide (c = -1) && (rgOk i && rgOk j)) = true then some ((List.range (i - j).toNat).map fun n => D.int (i + (n : Nat) * -1)) else none) = some ds from ed)
          obtain ⟨z0, z1⟩ := Bool.and_eq_true_iff.mp z1
          obtain ⟨z1, z2⟩ := Bool.and_eq_true_iff.mp z1
          obtain ⟨b1, b2⟩ := rgOk_ok z1
          obtain ⟨b3, b4⟩ := rgOk_ok z2
          have z0 := of_decide_eq_true z0
          subst z0
          cases rep_int h1
          cases rep_int h2
          cases rep_int h3
          exact ⟨i, j, -1, _, rfl, RgC.neg b1 b2 b3 b4, go _ wk_down⟩
        | _ => cases ed
      | _ => cases ed
    | _ => cases ed
theorem ei_enum (hg : Gl X "enumerate") (hm : X.mg "enumerate" = none) (ha : EL X W [e] ml) (hn : LenIs ml 1) (hs : starEach [e] X.env = [(false, eval e X.env)]) : EI X W (.Tuple elts kk tpos) (.Call (.Name "enumerate" p) [e] [] pos) .enum ml := by
  refine ⟨pi_mono (pi_en hg hm ha.pa hs) fun σ H R h => tL_of hn h fun xs F H1 sds ds l1 l2 sF hp ed go => ?_⟩
  match sds, l2 with
  | [d], _ =>
    obtain ⟨x, rfl, h1⟩ := RepPs.inv1 hp
    obtain ⟨l, e1, rfl⟩ := Option.map_eq_some_iff.mp (show (d.seq.map fun l => l.zipIdx.map fun p => D.tup [.int p.2, p.1]) = some ds from ed)
    obtain ⟨a, vs, rfl, h3, _⟩ := seq_of sF h1 e1
    exact ⟨a, d.sk, vs, rfl, h3, go _ (wk_enum e1)⟩
theorem ei_zip2 (hg : Gl X "zip") (hm : X.mg "zip" = none) (ha : EL X W [e, e2] ml) (hn : LenIs ml 2) (hs : starEach [e, e2] X.env = (false, eval e X.env) :: starEach [e2] X.env) (hpl : (backTo pos (starEach [e2] X.env)).any (·.1) = false) : EI X W (.Tuple elts kk tpos) (.Call (.Name "zip" p) [e, e2] [] pos) .zip ml := by
  refine ⟨pi_mono (pi_z2 hg hm ha.pa hs hpl) fun σ H R h => tL_of hn h fun xs F H1 sds ds l1 l2 sF hp ed go => ?_⟩
  match sds, l2 with
  | [d, d2], _ =>
    obtain ⟨x, y, rfl, h1, h2⟩ := RepPs.inv2 hp
    obtain ⟨l, e1, ed⟩ := Option.bind_eq_some_iff.mp (show (d.seq.bind fun l => d2.seq.map fun m => List.zipWith (fun x y => D.tup [x, y]) l m) = some ds from ed)
    obtain ⟨m, e2, rfl⟩ := Option.map_eq_some_iff.mp ed
    obtain ⟨a, vs, rfl, h3, _⟩ := seq_of sF h1 e1
    obtain ⟨b, us, rfl, h4, _⟩ := seq_of sF h2 e2
    exact ⟨a, b, d.sk, d2.sk, vs, us, rfl, h3, h4, go _ (wk_zip2 e1 e2)⟩
theorem ei_zip3 (hg : Gl X "zip") (hm : X.mg "zip" = none) (ha : EL X W [e, e2, e3] ml) (hn : LenIs ml 3) (hs : starEach [e, e2, e3] X.env = (false, eval e X.env) :: starEach [e2, e3] X.env) (hpl : (backTo pos (starEach [e2, e3] X.env)).any (·.1) = false) : EI X W (.Tuple elts kk tpos) (.Call (.Name "zip" p) [e, e2, e3] [] pos) .zip ml := by
  refine ⟨pi_mono (pi_z3 hg hm ha.pa hs hpl) fun σ H R h => tL_of hn h fun xs F H1 sds ds l1 l2 sF hp ed go => ?_⟩
  match sds, l2 with
  | [d, d2, d3], _ =>
    obtain ⟨x, y, z, rfl, h1, h2, h3⟩ := RepPs.inv3 hp
    obtain ⟨l, e1, ed⟩ := Option.bind_eq_some_iff.mp (show (d.seq.bind fun l => d2.seq.bind fun m => d3.seq.map fun n => zip3D l m n) = some ds from ed)
    obtain ⟨m, e2, ed⟩ := Option.bind_eq_some_iff.mp ed
    obtain ⟨n, e3, rfl⟩ := Option.map_eq_some_iff.mp ed
    obtain ⟨a, vs, rfl, h4, _⟩ := seq_of sF h1 e1
    obtain ⟨b, us, rfl, h5, _⟩ := seq_of sF h2 e2
    obtain ⟨c, ws, rfl, h6, _⟩ := seq_of sF h3 e3
    exact ⟨a, b, c, d.sk, d2.sk, d3.sk, vs, us, ws, rfl, h4, h5, h6, go _ (wk_zip3 e1 e2 e3)⟩
end
end VS

set_option Elab.async false
set_option linter.all false
set_option maxRecDepth 100000
set_option maxHeartbeats 4000000
/-! VS 15: the built-in operators, by values. -/
namespace VS
open PySem PySem.Spec PyProof.Rows L2
section
variable {k : Kn} {F H F' H' : Hp} {g : List D → Option Vr} {ds : List D} {v : Vr} {Q : VK}
/-- what an operation's value goes on to -/
def Go (k : Kn) (F H : Hp) (v : Vr) (Q : VK) : Prop := ∀ x F' H', (∀ a o, H a = some o → H' a = some o ∧ F' a = F a) → Sub F' H' → VR k H F' H' v x → Q x H'
theorem Go.here {d : D} {x : V} (go : Go k F H (.fz d) Q) (s : Sub F H) (r : RepV k F d x) : Q x H := go x F H (noGrow s) s r
theorem Go.bl {b : Bool} (go : Go k F H (.fz (.bl b)) Q) (s : Sub F H) : Q (.bl b) H := go.here s (by unfold RepV; rfl)
theorem Go.int {i : Int} (go : Go k F H (.fz (.int i)) Q) (s : Sub F H) : Q (.int i) H := go.here s (by unfold RepV; rfl)
theorem Go.str {z : Str} (go : Go k F H (.fz (.str z)) Q) (s : Sub F H) : Q (.str z) H := go.here s (by unfold RepV; rfl)
theorem Go.tup {l : List D} {xs : List V} (go : Go k F H (.fz (.tup l)) Q) (s : Sub F H) (r : RepL k F l xs) : ∀ p, H p = none → Q (.ref p) (upd H p (.tup xs)) := fun p hp => by
  obtain ⟨F', g1, s1, r1⟩ := two_new s hp r
  exact go _ F' _ g1 s1 r1
theorem Go.lst {l : List D} {xs : List V} (go : Go k F H (.fr (.lst l)) Q) (s : Sub F H) (r : RepL k F l xs) : ∀ p, H p = none → Q (.ref p) (upd H p (.lst xs)) := fun p hp =>
  go _ F _ (upd_grow0 hp) (sub_upd0 s hp) ⟨p, rfl, hp, sub_none s hp, rfl, p, xs, rfl, upd_same, r⟩
end
theorem rP2 {k : Kn} {f : D → D → Option Vr} {x y : V} {H : Hp} {Q : VK} (h : rP k (g2 f) [x, y] H Q) : ∃ F a b v, Sub F H ∧ RepP k F H a x ∧ RepP k F H b y ∧ f a b = some v ∧ Go k F H v Q := by
  obtain ⟨F, ds, v, s, r, e, go⟩ := h
  have hl := r.len
  match ds, hl with
  | [a, b], _ =>
    obtain ⟨x', y', e2, r1, r2⟩ := RepPs.inv2 r
    cases e2
    exact ⟨F, a, b, v, s, r1, r2, e, go⟩
theorem rP1 {k : Kn} {f : D → Option Vr} {x : V} {H : Hp} {Q : VK} (h : rP k (g1 f) [x] H Q) : ∃ F a v, Sub F H ∧ RepP k F H a x ∧ f a = some v ∧ Go k F H v Q := by
  obtain ⟨F, ds, v, s, r, e, go⟩ := h
  have hl := r.len
  match ds, hl with
  | [a], _ =>
    obtain ⟨x', e2, r1⟩ := RepPs.inv1 r
    cases e2
    exact ⟨F, a, v, s, r1, e, go⟩
section
variable {k : Kn} {F H : Hp} {x : V}
theorem rep_str {z : Str} (h : RepP k F H (.str z) x) : x = .str z := by
  have h : RepV k F (.str z) x := h
  unfold RepV at h
  exact h
theorem rep_bl {b : Bool} (h : RepP k F H (.bl b) x) : x = .bl b := by
  have h : RepV k F (.bl b) x := h
  unfold RepV at h
  exact h
theorem rep_non (h : RepP k F H .non x) : x = .non := by
  have h : RepV k F .non x := h
  unfold RepV at h
  exact h
theorem rep_tup {l : List D} (s : Sub F H) (h : RepP k F H (.tup l) x) : ∃ a xs, x = .ref a ∧ SqT k.K H a xs ∧ RepL k F l xs := by
  have h : RepV k F (.tup l) x := h
  unfold RepV at h
  obtain ⟨a, xs, h1, h2, h3⟩ := h
  exact ⟨a, xs, h1, sub_sqT s h2, h3⟩
theorem rep_tupV {l : List D} (h : RepP k F H (.tup l) x) : RepV k F (.tup l) x := h
theorem rep_lst {l : List D} (h : RepP k F H (.lst l) x) : ∃ a xs, x = .ref a ∧ H a = some (.lst xs) ∧ RepL k F l xs := h
theorem repL_rep {l : List D} {xs : List V} (r : RepL k F l xs) : ∀ n : Nat, RepL k F (List.replicate n l).flatten (List.replicate n xs).flatten
  | 0 => RepL.nil
  | n + 1 => by
    rw [List.replicate_succ, List.replicate_succ, List.flatten_cons, List.flatten_cons]
    exact RepL.append r (repL_rep r n)
end
theorem fitB_ok {i : Int} (h : fitB i = true) : -(2 ^ 64) < i ∧ i < 2 ^ 64 := by
  cases i with
  | ofNat n =>
    have h : n < 18446744073709551616 := Nat.blt_eq.mp h
    have : (Int.ofNat n) = (n : Int) := rfl
    omega
  | negSucc n =>
    have h : n < 18446744073709551615 := Nat.blt_eq.mp h
    omega
theorem getI_eq {α : Type} (l : List α) (i : Int) : getI l i = atI l i := by
  unfold atI ixN
  cases i with
  | ofNat n =>
    show l[n]? = _
    have e : Int.ofNat n = (n : Int) := rfl
    rw [e, if_pos (by omega)]
    by_cases h : n < l.length
    · rw [if_pos (by omega)]
      rfl
    · rw [if_neg (by omega), List.getElem?_eq_none (by omega)]
      rfl
  | negSucc n =>
    rw [if_neg (by omega)]
    by_cases h : n + 1 ≤ l.length
    · have e : getI l (Int.negSucc n) = l[l.length - (n + 1)]? := if_pos (Nat.ble_eq.mpr h)
      rw [e, if_pos (by omega)]
      show _ = l[(Int.negSucc n + (l.length : Int)).toNat]?
      congr 1
      omega
    · have e : getI l (Int.negSucc n) = none := if_neg (fun z => h (Nat.ble_eq.mp z))
      rw [e, if_neg (by omega)]
      rfl
theorem fitB_abs {i : Int} (h : fitB i = true) : i.natAbs < 2 ^ 64 := by
  obtain ⟨h1, h2⟩ := fitB_ok h
  omega
section
variable {X : Cx}
def bopO : Bop → Operator
  | .add => .Add
  | .sub => .Sub
  | .mul => .Mult
  | .fdv => .FloorDiv
  | .mod => .Mod
  | .pow => .Pow
theorem bop_ok (o : Bop) : OpR X (binaryOp (bopO o)) fun x y H Q => rP (Cx.kn X) (g2 (binD o)) [x, y] H Q := by
  intro pins s σ H x y v u Q I rx ry h
  obtain ⟨F, a, b, w, sF, r1, r2, e, go⟩ := rP2 h
  have refl : ∀ {l : List D} {p : Addr} {xs : List V}, SqT X.K H p xs → RepL (Cx.kn X) F l xs → RepV (Cx.kn X) F (.tup l) (.ref p) → Go (Cx.kn X) F H (.fz (.tup l)) Q → Q (.ref p) H := fun _ _ hv go => go.here sF hv
  cases o with
  | add =>
    cases a <;> cases b <;> first | (cases e; done) | skip
    · cases e
      cases rep_int r1
      cases rep_int r2
      exact op_add pins s σ H _ _ v u Q I rx ry ⟨_, _, rfl, rfl, go.int sF⟩
    · rename_i i j
      obtain ⟨z, rfl⟩ := some_if (show (if szB (i.length + j.length) = true then some (Vr.fz (.str (i ++ j))) else none) = some w from e)
      cases rep_str r1
      cases rep_str r2
      exact op_add_str pins s σ H _ _ v u Q I rx ry ⟨_, _, rfl, rfl, szB_ok z, go.str sF⟩
    · rename_i l m
      obtain ⟨z, rfl⟩ := some_if (show (if szB (l.length + m.length) = true then some (Vr.fz (.tup (l ++ m))) else none) = some w from e)
      obtain ⟨p, xs, rfl, h1, h2⟩ := rep_tup sF r1
      obtain ⟨q, ys, rfl, h3, h4⟩ := rep_tup sF r2
      refine op_catA pins s σ H _ _ v u Q I rx ry ⟨p, q, xs, ys, rfl, rfl, h1, h3, by rw [h2.length, h4.length]; exact szB_ok z, fun ex => ?_, fun _ ey => ?_, fun _ _ => go.tup sF (h2.append h4)⟩
      · have : l = [] := List.length_eq_zero_iff.mp (by rw [← h2.length, ex]; rfl)
        subst this
        exact go.here sF r2
      · have : m = [] := List.length_eq_zero_iff.mp (by rw [← h4.length, ey]; rfl)
        subst this
        rw [List.append_nil] at go
        exact go.here sF r1
    · rename_i l m
      obtain ⟨z, rfl⟩ := some_if (show (if szB (l.length + m.length) = true then some (Vr.fr (.lst (l ++ m))) else none) = some w from e)
      obtain ⟨p, xs, rfl, h1, h2⟩ := rep_lst r1
      obtain ⟨q, ys, rfl, h3, h4⟩ := rep_lst r2
      exact op_cat pins s σ H _ _ v u Q I rx ry ⟨p, q, xs, ys, rfl, rfl, h1, h3, by rw [h2.length, h4.length]; exact szB_ok z, go.lst sF (h2.append h4)⟩
  | sub =>
    cases a <;> cases b <;> first | (cases e; done) | skip
    cases e
    cases rep_int r1
    cases rep_int r2
    exact op_sub pins s σ H _ _ v u Q I rx ry ⟨_, _, rfl, rfl, go.int sF⟩
  | mul =>
    cases a <;> cases b <;> first | (cases e; done) | skip
    · rename_i i j
      obtain ⟨z, rfl⟩ := some_if (show (if (fitB i || fitB j) = true then some (Vr.fz (.int (i * j))) else none) = some w from e)
      cases rep_int r1
      cases rep_int r2
      refine op_mul pins s σ H _ _ v u Q I rx ry ⟨_, _, rfl, rfl, ?_, go.int sF⟩
      rcases Bool.or_eq_true_iff.mp z with z | z
      · exact .inl (fitB_ok z)
      · exact .inr (fitB_ok z)
    · rename_i l n
      obtain ⟨z, rfl⟩ := some_if (show (if (!l.isEmpty && (decide (2 ≤ n) && (decide (n ≤ 1000) && Nat.ble l.length 1000))) = true then some (Vr.fz (.tup (List.replicate n.toNat l).flatten)) else none) = some w from e)
      obtain ⟨z1, z⟩ := Bool.and_eq_true_iff.mp z
      obtain ⟨z2, z⟩ := Bool.and_eq_true_iff.mp z
      obtain ⟨z3, z4⟩ := Bool.and_eq_true_iff.mp z
      obtain ⟨p, xs, rfl, h1, h2⟩ := rep_tup sF r1
      cases rep_int r2
      refine op_repT pins s σ H _ _ v u Q I rx ry ⟨p, n, xs, rfl, rfl, h1, fun ex => ?_, of_decide_eq_true z2, of_decide_eq_true z3, by rw [h2.length]; exact Nat.le_of_ble_eq_true z4, go.tup sF (repL_rep h2 _)⟩
      have : l = [] := List.length_eq_zero_iff.mp (by rw [← h2.length, ex]; rfl)
      rw [this] at z1
      cases z1
    · rename_i l n
      obtain ⟨z, rfl⟩ := some_if (show (if (rgOk n && szB (l.length * n.toNat)) = true then some (Vr.fr (.lst (List.replicate n.toNat l).flatten)) else none) = some w from e)
      obtain ⟨z1, z2⟩ := Bool.and_eq_true_iff.mp z
      obtain ⟨b1, b2⟩ := rgOk_ok z1
      obtain ⟨p, xs, rfl, h1, h2⟩ := rep_lst r1
      cases rep_int r2
      exact op_rep pins s σ H _ _ v u Q I rx ry ⟨p, n, xs, rfl, rfl, h1, by omega, by omega, by rw [h2.length]; exact szB_ok z2, go.lst sF (repL_rep h2 _)⟩
  | fdv =>
    cases a <;> cases b <;> first | (cases e; done) | skip
    rename_i i j
    obtain ⟨z, rfl⟩ := some_if (show (if (decide (0 < j) && fitB j) = true then some (Vr.fz (.int (i / j))) else none) = some w from e)
    obtain ⟨z1, z2⟩ := Bool.and_eq_true_iff.mp z
    cases rep_int r1
    cases rep_int r2
    refine op_fdivW pins s σ H _ _ v u Q I rx ry ⟨_, _, rfl, rfl, ⟨of_decide_eq_true z1, ?_⟩, go.int sF⟩
    have h1 := fitB_abs z2
    have h2 : j.natAbs.log2 < 64 := by
      by_cases hz : j.natAbs = 0
      · rw [hz]; decide
      · exact (Nat.log2_lt hz).mpr h1
    omega
  | mod =>
    cases a <;> cases b <;> first | (cases e; done) | skip
    rename_i i j
    obtain ⟨z, rfl⟩ := some_if (show (if decide (0 < j) = true then some (Vr.fz (.int (i % j))) else none) = some w from e)
    cases rep_int r1
    cases rep_int r2
    exact op_mod pins s σ H _ _ v u Q I rx ry ⟨_, _, rfl, rfl, of_decide_eq_true z, go.int sF⟩
  | pow =>
    cases a <;> cases b <;> first | (cases e; done) | skip
    rename_i i j
    obtain ⟨z, rfl⟩ := some_if (show (if (decide (0 ≤ j) && decide (j ≤ 1000) && fitB i) = true then some (Vr.fz (.int (i ^ j.toNat))) else none) = some w from e)
    obtain ⟨z1, z2⟩ := Bool.and_eq_true_iff.mp z
    obtain ⟨z0, z1⟩ := Bool.and_eq_true_iff.mp z1
    have z1 := of_decide_eq_true z1
    cases rep_int r1
    cases rep_int r2
    exact op_pow pins s σ H _ _ v u Q I rx ry ⟨_, _, rfl, rfl, ⟨of_decide_eq_true z0, by omega, fitB_abs z2⟩, go.int sF⟩
end
end VS

set_option Elab.async false
set_option linter.all false
set_option maxRecDepth 100000
set_option maxHeartbeats 4000000
/-! VS 15d: dicts with keys of ints and texts; displays of them; sorted sets of tuples. -/
namespace VS
open PySem PySem.Spec PyProof.Rows L2
theorem keq_kD (w u : Key) : (kD w).keq (kD u) = decide (w = u) := by
  cases w <;> cases u
  · rename_i i j
    show (i == j) = decide (Sum.inl i = Sum.inl j)
    rw [Bool.eq_iff_iff]
    simp
  · show false = decide _
    rw [eq_comm, decide_eq_false_iff_not]
    exact fun h => nomatch h
  · show false = decide _
    rw [eq_comm, decide_eq_false_iff_not]
    exact fun h => nomatch h
  · rename_i i j
    show decide (i = j) = decide (Sum.inr i = Sum.inr j)
    rw [Bool.eq_iff_iff]
    simp
section
variable {k : Kn} {F H : Hp}
theorem RepK.nil : RepK k F [] [] := by unfold RepK; rfl
theorem RepK.cons {w : Key} {d : D} {x : V} {l : List (D × D)} {r : List (Key × V)} (h : RepV k F d x) (t : RepK k F l r) : RepK k F ((kD w, d) :: l) ((w, x) :: r) := by
  unfold RepK
  exact ⟨w, x, r, rfl, rfl, h, t⟩
theorem RepK.inv {q d : D} {l : List (D × D)} {kvs : List (Key × V)} (h : RepK k F ((q, d) :: l) kvs) : ∃ w x r, kvs = (w, x) :: r ∧ q = kD w ∧ RepV k F d x ∧ RepK k F l r := by
  unfold RepK at h
  exact h
theorem RepK.len : ∀ {l : List (D × D)} {kvs : List (Key × V)}, RepK k F l kvs → kvs.length = l.length
  | [], kvs, h => by unfold RepK at h; rw [h]; rfl
  | (q, d) :: l, kvs, h => by
    obtain ⟨w, x, r, rfl, _, _, h⟩ := h.inv
    rw [List.length_cons, List.length_cons, RepK.len h]
theorem RepK.get : ∀ {l : List (D × D)} {kvs : List (Key × V)} {w : Key} {d : D}, RepK k F l kvs → dget l (kD w) = some d → ∃ x, valV kvs w = some x ∧ RepV k F d x
  | [], kvs, w, d, h, e => by cases e
  | (q, b) :: l, kvs, w, d, h, e => by
    obtain ⟨u, x, r, rfl, rfl, hx, h⟩ := h.inv
    have e : (if (kD u).keq (kD w) = true then some b else dget l (kD w)) = some d := e
    rw [keq_kD] at e
    by_cases z : u = w
    · rw [decide_eq_true z, if_pos rfl] at e
      cases e
      exact ⟨x, valV_pos z, hx⟩
    · rw [decide_eq_false z, if_neg Bool.false_ne_true] at e
      rw [valV_neg (p := (u, x)) z]
      exact RepK.get h e
theorem RepK.has : ∀ {l : List (D × D)} {kvs : List (Key × V)} {w : Key}, RepK k F l kvs → dhas l (kD w) = (valV kvs w).isSome
  | [], kvs, w, h => by unfold RepK at h; rw [h]; rfl
  | (q, b) :: l, kvs, w, h => by
    obtain ⟨u, x, r, rfl, rfl, hx, h⟩ := h.inv
    show ((kD u).keq (kD w) || dhas l (kD w)) = _
    rw [keq_kD]
    by_cases z : u = w
    · rw [decide_eq_true z, valV_pos (p := (u, x)) z]
      rfl
    · rw [decide_eq_false z, valV_neg (p := (u, x)) z, Bool.false_or]
      exact RepK.has h
theorem RepK.snoc {w : Key} {d : D} {x : V} (hx : RepV k F d x) : ∀ {l : List (D × D)} {kvs : List (Key × V)}, RepK k F l kvs → RepK k F (l ++ [(kD w, d)]) (kvs ++ [(w, x)])
  | [], kvs, h => by
    unfold RepK at h
    rw [h]
    exact RepK.cons hx RepK.nil
  | (q, b) :: l, kvs, h => by
    obtain ⟨u, y, r, rfl, rfl, hy, h⟩ := h.inv
    exact RepK.cons hy (RepK.snoc hx h)
theorem RepK.repl {w : Key} {d : D} {x : V} (hx : RepV k F d x) : ∀ {l : List (D × D)} {kvs : List (Key × V)}, RepK k F l kvs → RepK k F (l.map fun p => if p.1.keq (kD w) then (p.1, d) else p) (kvs.map fun kv => if kv.1 = w then (kv.1, x) else kv)
  | [], kvs, h => by
    unfold RepK at h
    rw [h]
    exact RepK.nil
  | (q, b) :: l, kvs, h => by
    obtain ⟨u, y, r, rfl, rfl, hy, h⟩ := h.inv
    rw [List.map_cons, List.map_cons]
    show RepK k F ((if (kD u).keq (kD w) = true then (kD u, d) else (kD u, b)) :: _) ((if u = w then (u, x) else (u, y)) :: _)
    rw [keq_kD]
    by_cases z : u = w
    · rw [decide_eq_true z, if_pos rfl, if_pos z]
      exact RepK.cons hx (RepK.repl hx h)
    · rw [decide_eq_false z, if_neg Bool.false_ne_true, if_neg z]
      exact RepK.cons hy (RepK.repl hx h)
theorem RepK.put {w : Key} {d : D} {x : V} (hx : RepV k F d x) {l : List (D × D)} {kvs : List (Key × V)} (h : RepK k F l kvs) : RepK k F (dput l (kD w) d) (putK kvs w x) := by
  unfold dput putK
  rw [h.has, valV_any]
  by_cases z : (valV kvs w).isSome = true
  · rw [if_pos z, if_pos z]
    exact h.repl hx
  · rw [if_neg z, if_neg z]
    exact h.snoc hx
theorem key_of_ok {d : D} (h : keyOk false d = true) : ∃ w, d = kD w := by
  cases d with
  | int i => exact ⟨.inl i, rfl⟩
  | str x => exact ⟨.inr x, rfl⟩
  | _ => cases h
theorem rep_key {w : Key} {x : V} (h : RepP k F H (kD w) x) : x = kV w := by
  cases w with
  | inl i => exact rep_int h
  | inr z => exact rep_str h
theorem rep_dic {l : List (D × D)} {x : V} (h : RepP k F H (.dic false l) x) : ∃ a kvs, x = .ref a ∧ H a = some (.dK kvs) ∧ RepK k F l kvs := h
end
section
variable {X : Cx}
/-- d[y], by values -/
theorem ix_dict (hu : X.A.units + 1 < cLine) : IxR X (fun x y H Q => ∃ a v, x = .ref a ∧ DGet H a y (some v) ∧ Q v H) := by
  intro value slice pins s σ H x y v u Q I rx ry h hs
  obtain ⟨a, z, rfl, g, q⟩ := h
  cases rx
  unfold subscriptTail
  refine wpAny_bind ?_
  have hT := dict_typeIs I g
  rw [getitemInPython_of_ne hT.not_modules]
  refine wpAny_bind (wpAny_specialOf hT PySem.F.slot_dict_getitem.lookup ?_)
  have fin : wpAny (model X.prog X.w) X.A (subscripted slice false (.ref a) u) (fun r s₃ => wpAny (model X.prog X.w) X.A (letTemporaryGo value (.ref a) r >>= fun _ => pure r) (EP X pins σ Q) X.xe s₃) X.xe s := by
    rw [hs]
    exact wpAny_operating (wpAny_mono (d_getItem hu I g ry fun w' s3 I3 rw' => ⟨z, H, I3, rw', q⟩) (fun r s₃ h₃ => wpAny_bind (wpAny_letTemporaryGo (wpAny_pure h₃))) fun _ _ x => x)
  first
    | exact wpAny_pure (wpAny_bind fin)
    | exact wpAny_bind (wpAny_pure (wpAny_bind fin))
    | exact wpAny_bind fin
/-- d[y] = v, by values -/
def rSetD : TSet := fun o i v H Q => ∃ a H', o = .ref a ∧ DPut H a i v H' ∧ Q H'
theorem set_dict (hu : X.A.units + 1 < cLine) : PSet X rSetD := by
  intro pins s σ H o i v ov iv u Q I ro ri rv h
  obtain ⟨a, H', rfl, g, q⟩ := h
  cases ro
  exact d_setItem hu I g ri rv fun s' I' => ⟨H', I', q⟩
def rSetB : TSet := fun o i v H Q => rSetL o i v H Q ∨ rSetD o i v H Q
theorem set_both (hu : X.A.units + 1 < cLine) : PSet X rSetB := by
  intro pins s σ H o i v ov iv u Q I ro ri rv h
  rcases h with h | h
  · exact set_list pins s σ H o i v ov iv u Q I ro ri rv h
  · exact set_dict hu pins s σ H o i v ov iv u Q I ro ri rv h
end
end VS

set_option Elab.async false
set_option linter.all false
set_option maxRecDepth 100000
set_option maxHeartbeats 4000000
/-! VS 16: comparisons, by values. -/
namespace VS
open PySem PySem.Spec PyProof.Rows L2
mutual
def D.py : D → PyData
  | .bl b => .bool b
  | .int i => .int i
  | .str x => .str x
  | .tup l => .tuple (D.pys l)
  | .lst l => .list (D.pys l)
  | _ => .none
def D.pys : List D → List PyData
  | [] => []
  | d :: l => d.py :: D.pys l
end
mutual
theorem eqv_py : ∀ (n : Nat) (a b : D), a.ok n = true → b.ok n = true → PyData.eqv a.py b.py = a.eqv b
  | n, .non, b, _, hb => by cases b <;> cases n <;> first | rfl | cases hb
  | n, .bl x, b, _, hb => by cases b <;> cases n <;> first | rfl | cases hb
  | n, .int i, b, _, hb => by cases b <;> cases n <;> first | rfl | cases hb
  | n, .str x, b, _, hb => by
    cases b with
    | str y =>
      show (x == y) = decide (x = y)
      exact dec_str.symm ▸ (by rw [Bool.eq_iff_iff]; simp)
    | _ => cases n <;> first | rfl | cases hb
  | 0, .tup l, b, ha, _ => by cases ha
  | 0, .lst l, b, ha, _ => by cases ha
  | n + 1, .tup l, b, ha, hb => by
    cases b with
    | tup m =>
      show PyData.eqvAll (D.pys l) (D.pys m) = D.eqvs l m
      exact eqvs_py n l m ha hb
    | _ => first | rfl | cases hb
  | n + 1, .lst l, b, ha, hb => by
    cases b with
    | lst m =>
      show PyData.eqvAll (D.pys l) (D.pys m) = D.eqvs l m
      exact eqvs_py n l m ha hb
    | _ => first | rfl | cases hb
  | n, .rng _ _, _, ha, _ => by cases n <;> cases ha
  | n, .dic _ _, _, ha, _ => by cases n <;> cases ha
  | n, .scr _, _, ha, _ => by cases n <;> cases ha
  | n, .fn _, _, ha, _ => by cases n <;> cases ha
theorem eqvs_py : ∀ (n : Nat) (a b : List D), a.all (D.ok n) = true → b.all (D.ok n) = true → PyData.eqvAll (D.pys a) (D.pys b) = D.eqvs a b
  | n, [], [], _, _ => rfl
  | n, [], _ :: _, _, _ => rfl
  | n, _ :: _, [], _, _ => rfl
  | n, a :: l, b :: m, ha, hb => by
    rw [List.all_cons, Bool.and_eq_true] at ha hb
    show (PyData.eqv a.py b.py && PyData.eqvAll (D.pys l) (D.pys m)) = (a.eqv b && D.eqvs l m)
    rw [eqv_py n a b ha.1 hb.1, eqvs_py n l m ha.2 hb.2]
end
mutual
theorem plain_py : ∀ (n : Nat) (a : D), a.ok n = true → a.py.plain = true ∧ a.py.depth ≤ n
  | n, .non, _ => ⟨rfl, Nat.zero_le _⟩
  | n, .bl x, _ => ⟨rfl, Nat.zero_le _⟩
  | n, .int i, _ => ⟨rfl, Nat.zero_le _⟩
  | n, .str x, _ => ⟨rfl, Nat.zero_le _⟩
  | 0, .tup l, ha => by cases ha
  | 0, .lst l, ha => by cases ha
  | n + 1, .tup l, ha => by
    obtain ⟨h1, h2⟩ := plains_py n l ha
    exact ⟨h1, Nat.succ_le_succ h2⟩
  | n + 1, .lst l, ha => by
    obtain ⟨h1, h2⟩ := plains_py n l ha
    exact ⟨h1, Nat.succ_le_succ h2⟩
  | n, .rng _ _, ha => by cases n <;> cases ha
  | n, .dic _ _, ha => by cases n <;> cases ha
  | n, .scr _, ha => by cases n <;> cases ha
  | n, .fn _, ha => by cases n <;> cases ha
theorem plains_py : ∀ (n : Nat) (a : List D), a.all (D.ok n) = true → PyData.plainAll (D.pys a) = true ∧ PyData.depthAll (D.pys a) ≤ n
  | n, [], _ => ⟨rfl, Nat.zero_le _⟩
  | n, a :: l, ha => by
    rw [List.all_cons, Bool.and_eq_true] at ha
    obtain ⟨h1, h2⟩ := plain_py n a ha.1
    obtain ⟨h3, h4⟩ := plains_py n l ha.2
    exact ⟨by show (a.py.plain && PyData.plainAll (D.pys l)) = true; rw [h1, h3]; rfl, Nat.max_le.mpr ⟨h2, h4⟩⟩
end
mutual
theorem dp_py {k : Kn} {F H : Hp} (s : Sub F H) : ∀ (n : Nat) (a : D) (x : V), a.ok n = true → RepV k F a x → Dp k.K H x a.py
  | n, .non, x, _, h => by unfold RepV at h; rw [h]; exact .non
  | n, .bl b, x, _, h => by unfold RepV at h; rw [h]; exact .bl b
  | n, .int i, x, _, h => by unfold RepV at h; rw [h]; exact .int i
  | n, .str z, x, _, h => by unfold RepV at h; rw [h]; exact .str z
  | 0, .tup l, x, ha, h => by cases ha
  | 0, .lst l, x, ha, h => by cases ha
  | n + 1, .tup l, x, ha, h => by
    unfold RepV at h
    obtain ⟨a, xs, rfl, h2, h3⟩ := h
    exact .tup (sub_sqT s h2) (dps_py s n l xs ha h3)
  | n + 1, .lst l, x, ha, h => by
    unfold RepV at h
    obtain ⟨a, xs, rfl, h2, h3⟩ := h
    exact .lst (SqL.of (s _ _ h2)) (dps_py s n l xs ha h3)
  | n, .rng _ _, _, ha, _ => by cases n <;> cases ha
  | n, .dic _ _, _, ha, _ => by cases n <;> cases ha
  | n, .scr _, _, ha, _ => by cases n <;> cases ha
  | n, .fn _, _, ha, _ => by cases n <;> cases ha
theorem dps_py {k : Kn} {F H : Hp} (s : Sub F H) : ∀ (n : Nat) (a : List D) (xs : List V), a.all (D.ok n) = true → RepL k F a xs → DpAll k.K H xs (D.pys a)
  | n, [], xs, _, h => by unfold RepL at h; rw [h]; exact .nil
  | n, a :: l, xs, ha, h => by
    rw [List.all_cons, Bool.and_eq_true] at ha
    unfold RepL at h
    obtain ⟨x, r, rfl, h2, h3⟩ := h
    exact .cons (dp_py s n a x ha.1 h2) (dps_py s n l r ha.2 h3)
end
theorem dp_peek {k : Kn} {F H : Hp} (s : Sub F H) {n : Nat} {a : D} {x : V} (ha : a.ok (n + 1) = true) (h : RepP k F H a x) : Dp k.K H x a.py := by
  cases a with
  | lst l =>
    obtain ⟨p, xs, rfl, h1, h2⟩ := h
    exact .lst (SqL.of h1) (dps_py s n l xs ha h2)
  | dic b l => cases ha
  | _ => exact dp_py s (n + 1) _ x ha h
theorem any_py (n : Nat) (a : D) (ha : a.ok n = true) : ∀ l : List D, l.all (D.ok n) = true → ((D.pys l).any fun y => PyData.eqv y a.py) = l.any fun d => d.eqv a
  | [], _ => rfl
  | d :: l, h => by
    rw [List.all_cons, Bool.and_eq_true] at h
    show (PyData.eqv d.py a.py || (D.pys l).any fun y => PyData.eqv y a.py) = (d.eqv a || l.any fun d => d.eqv a)
    rw [eqv_py n d a h.1 ha, any_py n a ha l h.2]
theorem ints_rep {k : Kn} {F : Hp} : ∀ {l : List D} {ns : List Int} {xs : List V}, ints? l = some ns → RepL k F l xs → xs = ns.map V.int ∧ l = ns.map D.int
  | [], ns, xs, e, h => by
    cases e
    unfold RepL at h
    exact ⟨h, rfl⟩
  | d :: l, ns, xs, e, h => by
    cases d with
    | int i =>
      have e : (ints? l).map (i :: ·) = some ns := e
      obtain ⟨ms, e1, rfl⟩ := Option.map_eq_some_iff.mp e
      unfold RepL at h
      obtain ⟨x, r, rfl, h2, h3⟩ := h
      unfold RepV at h2
      obtain ⟨q1, q2⟩ := ints_rep e1 h3
      rw [h2, q1, q2]
      exact ⟨rfl, rfl⟩
    | _ => cases e
/-- never None -/
theorem not_non {k : Kn} {F H : Hp} {a : D} {x : V} (h : RepP k F H a x) (ne : a ≠ .non) : x ≠ .non := by
  cases a with
  | non => exact absurd rfl ne
  | bl b => rw [rep_bl h]; exact fun z => nomatch z
  | int b => rw [rep_int h]; exact fun z => nomatch z
  | str b => rw [rep_str h]; exact fun z => nomatch z
  | tup l =>
    have h : RepV k F (.tup l) x := h
    unfold RepV at h
    obtain ⟨a, xs, rfl, _⟩ := h
    exact fun z => nomatch z
  | lst l => obtain ⟨a, xs, rfl, _⟩ := h; exact fun z => nomatch z
  | rng l m =>
    have h : RepV k F (.rng l m) x := h
    unfold RepV at h
    obtain ⟨a, rfl, _⟩ := h
    exact fun z => nomatch z
  | dic b l => cases b <;> (obtain ⟨a, xs, rfl, _⟩ := h; exact fun z => nomatch z)
  | scr l =>
    have h : RepV k F (.scr l) x := h
    unfold RepV at h
    obtain ⟨a, rfl, _⟩ := h
    exact fun z => nomatch z
  | fn z =>
    have h : RepV k F (.fn z) x := h
    unfold RepV at h
    obtain ⟨a, rfl, _⟩ := h
    exact fun z => nomatch z
def copO : Cop → CmpOp
  | .eq => .Eq
  | .ne => .NotEq
  | .lt => .Lt
  | .le => .LtE
  | .gt => .Gt
  | .ge => .GtE
  | .is => .Is
  | .isn => .IsNot
  | .isin => .In
  | .nin => .NotIn
section
variable {X : Cx}
theorem okTwo {a b : D} {t : Bool} (e : a.eqD b = some t) : a.ok 40 = true ∧ b.ok 40 = true ∧ a.eqv b = t := by
  unfold D.eqD at e
  obtain ⟨z, e⟩ := some_if e
  obtain ⟨z1, z2⟩ := Bool.and_eq_true_iff.mp z
  exact ⟨z1, z2, e⟩
theorem cop_ok (hu : X.A.units + 64 < cLine) (o : Cop) : OpR X (compareOp (copO o)) fun x y H Q => rP (Cx.kn X) (g2 (cmpV o)) [x, y] H Q := by
  intro pins s σ H x y v u Q I rx ry h
  obtain ⟨F, a, b, w, sF, r1, r2, e, go⟩ := rP2 h
  obtain ⟨t, e1, ew⟩ := Option.map_eq_some_iff.mp e
  subst ew
  clear e
  have e := e1
  clear e1
  have go := go.bl sF
  have dp : ∀ {a : D} {x : V} {v : Value}, a.ok 40 = true → RepP (Cx.kn X) F H a x → RelV x v → ∃ as, Reads s.heap v a.py as := fun {a x v} ha r rv => Dp.reads I _ _ _ (dp_peek (n := 39) sF ha r) rv
  cases o with
  | eq =>
    obtain ⟨z1, z2, e⟩ := okTwo e
    obtain ⟨as, q1⟩ := dp z1 r1 rx
    obtain ⟨bs, q2⟩ := dp z2 r2 ry
    obtain ⟨p1, d1⟩ := plain_py 40 a z1
    obtain ⟨p2, d2⟩ := plain_py 40 b z2
    refine SeqAt.eq_plain q1 q2 p1 p2 (by have := Nat.min_le_left a.py.depth b.py.depth; omega) ⟨.bl t, H, I, ?_, go⟩
    rw [eqv_py 40 a b z1 z2, e]
    rfl
  | ne =>
    obtain ⟨t', e2, rfl⟩ := Option.map_eq_some_iff.mp (show (a.eqD b).map (!·) = some t from e)
    obtain ⟨z1, z2, e⟩ := okTwo e2
    obtain ⟨as, q1⟩ := dp z1 r1 rx
    obtain ⟨bs, q2⟩ := dp z2 r2 ry
    obtain ⟨p1, d1⟩ := plain_py 40 a z1
    obtain ⟨p2, d2⟩ := plain_py 40 b z2
    refine SeqAt.ne_plain q1 q2 p1 p2 (by have := Nat.min_le_left a.py.depth b.py.depth; omega) ⟨.bl (!t'), H, I, ?_, go⟩
    rw [eqv_py 40 a b z1 z2, e]
    rfl
  | lt =>
    cases a <;> cases b <;> first | (cases e; done) | skip
    · cases e
      cases rep_int r1
      cases rep_int r2
      exact op_lt pins s σ H _ _ v u Q I rx ry ⟨_, _, rfl, rfl, go⟩
    · cases e
      cases rep_str r1
      cases rep_str r2
      exact op_lt_str pins s σ H _ _ v u Q I rx ry ⟨_, _, rfl, rfl, go⟩
    · rename_i l m
      have e : (match ints? l, ints? m with
        | some ns, some ms => some (HT.lexLt ns ms)
        | _, _ => none) = some t := e
      cases e1 : ints? l with
      | none => rw [e1] at e; cases e
      | some ns =>
        cases e2 : ints? m with
        | none => rw [e1, e2] at e; cases e
        | some ms =>
          rw [e1, e2] at e
          cases e
          obtain ⟨p, xs, rfl, h1, h2⟩ := rep_tup sF r1
          obtain ⟨q, ys, rfl, h3, h4⟩ := rep_tup sF r2
          obtain ⟨rfl, _⟩ := ints_rep e1 h2
          obtain ⟨rfl, _⟩ := ints_rep e2 h4
          exact op_ltT (by omega) pins s σ H _ _ v u Q I rx ry ⟨p, q, ns, ms, rfl, rfl, h1, h3, go⟩
  | le =>
    cases a <;> cases b <;> first | (cases e; done) | skip
    cases e
    cases rep_int r1
    cases rep_int r2
    exact op_le pins s σ H _ _ v u Q I rx ry ⟨_, _, rfl, rfl, go⟩
  | gt =>
    cases a <;> cases b <;> first | (cases e; done) | skip
    cases e
    cases rep_int r1
    cases rep_int r2
    exact op_gt pins s σ H _ _ v u Q I rx ry ⟨_, _, rfl, rfl, go⟩
  | ge =>
    cases a <;> cases b <;> first | (cases e; done) | skip
    cases e
    cases rep_int r1
    cases rep_int r2
    exact op_ge pins s σ H _ _ v u Q I rx ry ⟨_, _, rfl, rfl, go⟩
  | is =>
    have hb : b = .non := by cases a <;> cases b <;> first | rfl | cases e
    subst hb
    cases rep_non r2
    by_cases ha : a = .non
    · subst ha
      cases e
      cases rep_non r1
      exact op_isN pins s σ H _ _ v u Q I rx ry ⟨rfl, go⟩
    · have et : t = false := by cases a <;> first | exact absurd rfl ha | (cases e; rfl)
      subst et
      have nx := not_non r1 ha
      exact op_isN pins s σ H _ _ v u Q I rx ry ⟨rfl, by rw [decide_eq_false nx]; exact go⟩
  | isn =>
    have hb : b = .non := by cases a <;> cases b <;> first | rfl | cases e
    subst hb
    cases rep_non r2
    by_cases ha : a = .non
    · subst ha
      cases e
      cases rep_non r1
      exact op_notN pins s σ H _ _ v u Q I rx ry ⟨rfl, go⟩
    · have et : t = true := by cases a <;> first | exact absurd rfl ha | (cases e; rfl)
      subst et
      have nx := not_non r1 ha
      exact op_notN pins s σ H _ _ v u Q I rx ry ⟨rfl, by rw [decide_eq_false nx]; exact go⟩
  | isin =>
    have tup : ∀ {l : List D}, b = .tup l → (if a.ok 40 && l.all (D.ok 40) then some (l.any fun d => d.eqv a) else none) = some t → wpAny (model X.prog X.w) X.A (compareOp (copO .isin) v u) (EP X pins σ Q) X.xe s := fun {l} eb e => by
      subst eb
      obtain ⟨z, rfl⟩ := some_if e
      obtain ⟨z1, z2⟩ := Bool.and_eq_true_iff.mp z
      obtain ⟨as, q1⟩ := dp z1 r1 rx
      obtain ⟨p1, d1⟩ := plain_py 40 a z1
      obtain ⟨p2, d2⟩ := plains_py 40 l z2
      obtain ⟨p, xs, rfl, h1, h2⟩ := rep_tup sF r2
      obtain ⟨bs, q2⟩ := Dp.reads I _ _ _ (Dp.tup h1 (dps_py sF 40 l xs z2 h2)) ry
      refine SeqAt.in_tuple_data (A := X.A) (w := X.w) (prog := X.prog) (E := X.xe) (Q := EP X pins σ Q) q2 q1 p2 p1 (by have := Nat.min_le_left (PyData.depthAll (D.pys l)) a.py.depth; omega) ⟨.bl _, H, I, ?_, go⟩
      rw [any_py 40 a z1 l z2]
      rfl
    have lst : ∀ {l : List D}, b = .lst l → (if a.ok 40 && l.all (D.ok 40) then some (l.any fun d => d.eqv a) else none) = some t → wpAny (model X.prog X.w) X.A (compareOp (copO .isin) v u) (EP X pins σ Q) X.xe s := fun {l} eb e => by
      subst eb
      obtain ⟨z, rfl⟩ := some_if e
      obtain ⟨z1, z2⟩ := Bool.and_eq_true_iff.mp z
      obtain ⟨as, q1⟩ := dp z1 r1 rx
      obtain ⟨p1, d1⟩ := plain_py 40 a z1
      obtain ⟨p2, d2⟩ := plains_py 40 l z2
      obtain ⟨p, xs, rfl, h1, h2⟩ := rep_lst r2
      obtain ⟨bs, q2⟩ := Dp.reads I _ _ _ (Dp.lst (SqL.of h1) (dps_py sF 40 l xs z2 h2)) ry
      refine SeqAt.in_list_data (A := X.A) (w := X.w) (prog := X.prog) (E := X.xe) (Q := EP X pins σ Q) q2 q1 p2 p1 (by have := Nat.min_le_left (PyData.depthAll (D.pys l)) a.py.depth; omega) ⟨.bl _, H, I, ?_, go⟩
      rw [any_py 40 a z1 l z2]
      rfl
    cases b with
    | tup l => exact tup rfl (by cases a <;> exact e)
    | lst l => exact lst rfl (by cases a <;> exact e)
    | dic tk l =>
      cases tk with
      | true => cases a <;> cases e
      | false =>
        have e : (if keyOk false a = true then some (dhas l a) else none) = some t := by cases a <;> exact e
        obtain ⟨z, et⟩ := some_if e
        subst et
        obtain ⟨w, rfl⟩ := key_of_ok z
        have ex := rep_key r1
        subst ex
        obtain ⟨p, kvs, rfl, h1, h2⟩ := rep_dic r2
        cases ry
        refine d_in (by omega) I (DGet.k h1) rx fun s' I' => ⟨.bl _, H, I', ?_, go⟩
        rw [h2.has]
        rfl
    | str y =>
      cases a with
      | str z =>
        obtain ⟨⟨cs⟩⟩ := z
        match cs, e with
        | [c], e =>
          cases e
          cases rep_str r1
          cases rep_str r2
          exact op_in_sign pins s σ H _ _ v u Q I rx ry ⟨c, y, rfl, rfl, go⟩
        | [], e => cases e
        | _ :: _ :: _, e => cases e
      | _ => cases e
    | _ => cases a <;> cases e
  | nin =>
    have tup : ∀ {l : List D}, b = .tup l → (if a.ok 40 && l.all (D.ok 40) then some (!l.any fun d => d.eqv a) else none) = some t → wpAny (model X.prog X.w) X.A (compareOp (copO .nin) v u) (EP X pins σ Q) X.xe s := fun {l} eb e => by
      subst eb
      obtain ⟨z, rfl⟩ := some_if e
      obtain ⟨z1, z2⟩ := Bool.and_eq_true_iff.mp z
      obtain ⟨as, q1⟩ := dp z1 r1 rx
      obtain ⟨p1, d1⟩ := plain_py 40 a z1
      obtain ⟨p2, d2⟩ := plains_py 40 l z2
      obtain ⟨p, xs, rfl, h1, h2⟩ := rep_tup sF r2
      obtain ⟨bs, q2⟩ := Dp.reads I _ _ _ (Dp.tup h1 (dps_py sF 40 l xs z2 h2)) ry
      refine SeqAt.notIn_tuple_data (A := X.A) (w := X.w) (prog := X.prog) (E := X.xe) (Q := EP X pins σ Q) q2 q1 p2 p1 (by have := Nat.min_le_left (PyData.depthAll (D.pys l)) a.py.depth; omega) ⟨.bl _, H, I, ?_, go⟩
      rw [any_py 40 a z1 l z2]
      rfl
    have lst : ∀ {l : List D}, b = .lst l → (if a.ok 40 && l.all (D.ok 40) then some (!l.any fun d => d.eqv a) else none) = some t → wpAny (model X.prog X.w) X.A (compareOp (copO .nin) v u) (EP X pins σ Q) X.xe s := fun {l} eb e => by
      subst eb
      obtain ⟨z, rfl⟩ := some_if e
      obtain ⟨z1, z2⟩ := Bool.and_eq_true_iff.mp z
      obtain ⟨as, q1⟩ := dp z1 r1 rx
      obtain ⟨p1, d1⟩ := plain_py 40 a z1
      obtain ⟨p2, d2⟩ := plains_py 40 l z2
      obtain ⟨p, xs, rfl, h1, h2⟩ := rep_lst r2
      obtain ⟨bs, q2⟩ := Dp.reads I _ _ _ (Dp.lst (SqL.of h1) (dps_py sF 40 l xs z2 h2)) ry
      refine SeqAt.notIn_list_data (A := X.A) (w := X.w) (prog := X.prog) (E := X.xe) (Q := EP X pins σ Q) q2 q1 p2 p1 (by have := Nat.min_le_left (PyData.depthAll (D.pys l)) a.py.depth; omega) ⟨.bl _, H, I, ?_, go⟩
      rw [any_py 40 a z1 l z2]
      rfl
    cases b with
    | tup l => exact tup rfl (by cases a <;> exact e)
    | lst l => exact lst rfl (by cases a <;> exact e)
    | dic tk l =>
      cases tk with
      | true => cases a <;> cases e
      | false =>
        have e : (if keyOk false a = true then some (!dhas l a) else none) = some t := by cases a <;> exact e
        obtain ⟨z, et⟩ := some_if e
        subst et
        obtain ⟨w, rfl⟩ := key_of_ok z
        have ex := rep_key r1
        subst ex
        obtain ⟨p, kvs, rfl, h1, h2⟩ := rep_dic r2
        cases ry
        refine d_notIn (by omega) I (DGet.k h1) rx fun s' I' => ⟨.bl _, H, I', ?_, go⟩
        rw [h2.has]
        rfl
    | str y =>
      cases a with
      | str z =>
        obtain ⟨⟨cs⟩⟩ := z
        match cs, e with
        | [c], e =>
          cases e
          cases rep_str r1
          cases rep_str r2
          exact op_notIn_sign pins s σ H _ _ v u Q I rx ry ⟨c, y, rfl, rfl, go⟩
        | [], e => cases e
        | _ :: _ :: _, e => cases e
      | _ => cases e
    | _ => cases a <;> cases e
end
end VS

set_option Elab.async false
set_option linter.all false
set_option maxRecDepth 100000
set_option maxHeartbeats 4000000
/-! VS 17: subscripts, slices, the rest of the built-in operations, by values. -/
namespace VS
open PySem PySem.Spec PyProof.Rows L2
section
variable {X : Cx} {W : WX}
theorem if_some {c : Bool} {α : Type} {x : Option α} {y : α} (h : (if c = true then x else none) = some y) : c = true ∧ x = some y := by
  by_cases z : c = true
  · rw [if_pos z] at h; exact ⟨z, h⟩
  · rw [if_neg z] at h; cases h
theorem neg_ok : UnR X (unaryOp .USub) fun x H Q => rP (Cx.kn X) (g1 negD) [x] H Q := by
  intro pins s σ H x v Q I rx h
  obtain ⟨F, a, w, sF, r1, e, go⟩ := rP1 h
  cases a with
  | int i =>
    cases e
    cases rep_int r1
    exact un_neg pins s σ H _ v Q I rx ⟨_, rfl, go.int sF⟩
  | _ => cases e
theorem atI_rep {k : Kn} {F : Hp} {l : List D} {xs : List V} {j : Int} {d : D} (r : RepL k F l xs) (h : atI l j = some d) : ∃ x, atI xs j = some x ∧ RepV k F d x := by
  unfold atI at h ⊢
  rw [r.length]
  cases e : ixN l.length j with
  | none => rw [e] at h; cases h
  | some n =>
    rw [e] at h
    exact r.get h
theorem ix_ok (hu : X.A.units + 1 < cLine) : IxR X fun x y H Q => rP (Cx.kn X) (g2 ixV) [x, y] H Q := by
  intro value slice pins s σ H x y v u Q I rx ry h hs
  obtain ⟨F, a, b, w, sF, r1, r2, e, go⟩ := rP2 h
  obtain ⟨d, e1, ew⟩ := Option.map_eq_some_iff.mp e
  subst ew
  cases b with
  | int j =>
    cases rep_int r2
    cases a with
    | tup l =>
      obtain ⟨p, xs, rfl, h1, h2⟩ := rep_tup sF r1
      obtain ⟨z, h3, h4⟩ := atI_rep h2 ((getI_eq l j).symm.trans (show getI l j = some d from e1))
      exact ix_tup value slice pins s σ H _ _ v u Q I rx ry ⟨p, xs, j, z, rfl, rfl, h1, h3, go.here sF h4⟩ hs
    | lst l =>
      obtain ⟨p, xs, rfl, h1, h2⟩ := rep_lst r1
      obtain ⟨z, h3, h4⟩ := atI_rep h2 ((getI_eq l j).symm.trans (show getI l j = some d from e1))
      exact ix_list value slice pins s σ H _ _ v u Q I rx ry ⟨p, xs, j, z, rfl, rfl, SqL.of h1, h3, go.here sF h4⟩ hs
    | scr l =>
      obtain ⟨i, e2, rfl⟩ := Option.map_eq_some_iff.mp (show (getI l j).map D.int = some d from e1)
      rw [getI_eq] at e2
      have r1 : RepV (Cx.kn X) F (.scr l) x := r1
      unfold RepV at r1
      obtain ⟨p, rfl, h2⟩ := r1
      have h3 : atI (l.map V.int) j = some (.int i) := by
        unfold atI at e2 ⊢
        rw [List.length_map]
        cases en : ixN l.length j with
        | none => rw [en] at e2; cases e2
        | some n =>
          rw [en] at e2
          have e2 : l[n]? = some i := e2
          show (l.map V.int)[n]? = _
          rw [List.getElem?_map, e2]
          rfl
      exact ix_list value slice pins s σ H _ _ v u Q I rx ry ⟨p, _, j, _, rfl, rfl, sub_sqL sF h2, h3, go.int sF⟩ hs
    | str z =>
      obtain ⟨z1, e1⟩ := if_some (show (if szB z.length = true then (getI z.cps.toList j).map fun c => D.str ⟨#[c]⟩ else none) = some d from e1)
      obtain ⟨c, e3, rfl⟩ := Option.map_eq_some_iff.mp e1
      rw [getI_eq] at e3
      cases rep_str r1
      exact ix_str value slice pins s σ H _ _ v u Q I rx ry ⟨z, j, c, rfl, rfl, szB_ok z1, e3, go.str sF⟩ hs
    | dic tk l =>
      cases tk with
      | true => cases e1
      | false =>
        obtain ⟨p, kvs, rfl, h1, h2⟩ := rep_dic r1
        obtain ⟨x, hx, rx'⟩ := h2.get (w := .inl j) (show dget l (kD (.inl j)) = some d from e1)
        exact ix_dict hu value slice pins s σ H _ _ v u Q I rx ry ⟨p, x, rfl, by rw [← hx]; exact DGet.k (k := .inl j) h1, go.here sF rx'⟩ hs
    | _ => cases e1
  | str y =>
    cases rep_str r2
    cases a with
    | dic tk l =>
      cases tk with
      | true => cases e1
      | false =>
        obtain ⟨p, kvs, rfl, h1, h2⟩ := rep_dic r1
        obtain ⟨x, hx, rx'⟩ := h2.get (w := .inr y) (show dget l (kD (.inr y)) = some d from e1)
        exact ix_dict hu value slice pins s σ H _ _ v u Q I rx ry ⟨p, x, rfl, by rw [← hx]; exact DGet.k (k := .inr y) h1, go.here sF rx'⟩ hs
    | _ => cases e1
  | _ => cases a <;> first | cases e1 | (rename_i tk l; cases tk <;> cases e1)
theorem cut_rep {k : Kn} {F : Hp} {l : List D} {xs : List V} (r : RepL k F l xs) (lo hi : Option Int) : RepL k F (cutD l lo hi) (cutV xs lo hi) := by
  unfold cutD cutV
  rw [r.length]
  exact (r.drop _).take _
theorem repV_ints {k : Kn} {F : Hp} (l : List Int) : RepL k F (l.map D.int) (l.map V.int) := repL_ints l
theorem scr_rep {k : Kn} {F H : Hp} {l : List Int} {x : V} (s : Sub F H) (h : RepP k F H (.scr l) x) : ∃ a, x = .ref a ∧ SqL k.K H a (l.map V.int) := by
  have h : RepV k F (.scr l) x := h
  unfold RepV at h
  obtain ⟨a, h1, h2⟩ := h
  exact ⟨a, h1, sub_sqL s h2⟩
theorem seqL_of {k : Kn} {F H : Hp} {d : D} {x : V} {l : List D} (s : Sub F H) (h : RepP k F H d x) (e : d.seqL = some l) : ∃ a vs, x = .ref a ∧ SqL k.K H a vs ∧ RepL k F l vs := by
  cases d with
  | lst m =>
    cases e
    obtain ⟨a, xs, h1, h2, h3⟩ := h
    exact ⟨a, xs, h1, SqL.of h2, h3⟩
  | scr m =>
    cases e
    obtain ⟨a, h1, h2⟩ := scr_rep s h
    exact ⟨a, _, h1, h2, repL_ints m⟩
  | _ => cases e
theorem RepL.rev {k : Kn} {F : Hp} : ∀ {l : List D} {xs : List V}, RepL k F l xs → RepL k F l.reverse xs.reverse
  | [], xs, h => by
    unfold RepL at h
    rw [h]
    exact RepL.nil
  | d :: l, xs, h => by
    unfold RepL at h
    obtain ⟨x, r, rfl, h2, h3⟩ := h
    rw [List.reverse_cons, List.reverse_cons]
    exact (RepL.rev h3).append (RepL.cons h2 RepL.nil)
theorem cut_map {α β : Type} (f : α → β) (l : List α) (lo hi : Option Int) : cutD (l.map f) lo hi = (cutD l lo hi).map f := by
  unfold cutD
  rw [List.length_map, ← List.map_drop, ← List.map_take]
theorem sl_ok : SlR X fun x l u H Q => rP (Cx.kn X) (g1 fun d => slD d l u) [x] H Q := by
  intro pins s σ H x v vl vu lo hi sl Q I rx hs pl pu h
  obtain ⟨F, a, w, sF, r1, e, go⟩ := rP1 h
  cases a with
  | tup l =>
    cases e
    obtain ⟨p, xs, rfl, h1, h2⟩ := rep_tup sF r1
    refine sl_tupA pins s σ H _ v vl vu lo hi sl Q I rx hs pl pu ⟨p, xs, rfl, h1, fun ⟨z1, z2⟩ => ?_, fun _ => go.tup sF (cut_rep h2 lo hi)⟩
    have ec : cutD l lo hi = l := by
      unfold cutD
      rw [h2.length] at z1 z2
      rw [z1, z2, List.drop_zero, Nat.sub_zero, List.take_length]
    rw [ec] at go
    exact go.here sF r1
  | lst l =>
    cases e
    obtain ⟨p, xs, rfl, h1, h2⟩ := rep_lst r1
    exact sl_list pins s σ H _ v vl vu lo hi sl Q I rx hs pl pu ⟨p, xs, rfl, SqL.of h1, go.lst sF (cut_rep h2 lo hi)⟩
  | scr l =>
    cases e
    obtain ⟨p, rfl, h1⟩ := scr_rep sF r1
    have r := cut_rep (repL_ints (k := Cx.kn X) (F := F) l) lo hi
    rw [cut_map] at r
    exact sl_list pins s σ H _ v vl vu lo hi sl Q I rx hs pl pu ⟨p, _, rfl, h1, go.lst sF r⟩
  | str z =>
    obtain ⟨z1, ew⟩ := some_if (show (if szB z.length = true then some (Vr.fz (.str ⟨(cutD z.cps.toList lo hi).toArray⟩)) else none) = some w from e)
    subst ew
    cases rep_str r1
    refine sl_str pins s σ H _ v vl vu lo hi sl Q I rx hs pl pu ⟨z, rfl, szB_ok z1, ?_⟩
    have q := go.str sF
    have e2 : cutS z lo hi = ⟨(cutD z.cps.toList lo hi).toArray⟩ := by
      unfold cutS cutD
      have hl : z.cps.toList.length = z.length := Array.length_toList
      rw [hl]
    rw [e2]
    exact q
  | _ => cases e
/-- x[::-1] -/
theorem ev_rev {e : Expr} {me : Env → Out Rr} {kk : Nat} {p1 p2 p3 pos : Pos} (he : EV X W e me) : EV X W (.Subscript e (.Slice none none (some (.UnaryOp .USub (.Constant (.int 1) kk p1) p2)) p3) pos) (mOne revD me) := by
  refine ⟨pe_mono (pe_revL he.pe) fun σ H Q h => ?_⟩
  have h := tV_one h
  obtain ⟨ρ, F, r0, p⟩ := h
  refine ⟨ρ, F, r0, ?_⟩
  cases em : me ρ with
  | bad => rw [em] at p; exact p
  | exc c v ρ1 => rw [em] at p; exact p
  | ok r ρ1 =>
    rw [em] at p
    intro F1 H1 t x rr
    obtain ⟨F2, a, w, sF, r1, e, go⟩ := rP1 (p F1 H1 t x rr)
    cases a with
    | lst l =>
      cases e
      obtain ⟨q, xs, rfl, h1, h2⟩ := rep_lst r1
      exact ⟨q, xs, rfl, SqL.of h1, go.lst sF h2.rev⟩
    | scr l =>
      cases e
      obtain ⟨q, rfl, h1⟩ := scr_rep sF r1
      have r := (repL_ints (k := Cx.kn X) (F := F2) l).rev
      rw [← List.map_reverse] at r
      exact ⟨q, _, rfl, h1, go.lst sF r⟩
    | _ => cases e
end
end VS

set_option Elab.async false
set_option linter.all false
set_option maxRecDepth 100000
set_option maxHeartbeats 4000000
/-! VS 18: calls of built-in functions and types, by values. -/
namespace VS
open PySem PySem.Spec PyProof.Rows L2
theorem insI_perm (i : Int) : ∀ l : List Int, (insI i l).Perm (i :: l)
  | [] => List.Perm.refl _
  | j :: l => by
    unfold insI
    by_cases h : i ≤ j
    · rw [if_pos h]
    · rw [if_neg h]
      exact (List.Perm.cons j (insI_perm i l)).trans (List.Perm.swap i j l)
theorem insI_sorted (i : Int) : ∀ l : List Int, l.Pairwise (· ≤ ·) → (insI i l).Pairwise (· ≤ ·)
  | [], _ => List.pairwise_singleton _ _
  | j :: l, h => by
    unfold insI
    obtain ⟨h1, h2⟩ := List.pairwise_cons.mp h
    by_cases z : i ≤ j
    · rw [if_pos z]
      refine List.pairwise_cons.mpr ⟨fun x hx => ?_, h⟩
      rcases List.mem_cons.mp hx with rfl | hx
      · exact z
      · exact Int.le_trans z (h1 x hx)
    · rw [if_neg z]
      refine List.pairwise_cons.mpr ⟨fun x hx => ?_, insI_sorted i l h2⟩
      rcases List.mem_cons.mp ((insI_perm i l).mem_iff.mp hx) with rfl | hx
      · omega
      · exact h1 x hx
theorem sortI_perm : ∀ l : List Int, (sortI l).Perm l
  | [] => List.Perm.refl _
  | i :: l => (insI_perm i _).trans (List.Perm.cons i (sortI_perm l))
theorem sortI_sorted : ∀ l : List Int, (sortI l).Pairwise (· ≤ ·)
  | [] => List.Pairwise.nil
  | i :: l => insI_sorted i _ (sortI_sorted l)
theorem sorted_uniq : ∀ {l m : List Int}, l.Perm m → l.Pairwise (· ≤ ·) → m.Pairwise (· ≤ ·) → l = m
  | [], m, p, _, _ => p.nil_eq
  | i :: l, [], p, _, _ => by cases p.length_eq
  | i :: l, j :: m, p, h, h' => by
    obtain ⟨h1, h2⟩ := List.pairwise_cons.mp h
    obtain ⟨h3, h4⟩ := List.pairwise_cons.mp h'
    have e : i = j := by
      have a : i ∈ j :: m := p.mem_iff.mp List.mem_cons_self
      have b : j ∈ i :: l := p.mem_iff.mpr List.mem_cons_self
      rcases List.mem_cons.mp a with e | a
      · exact e
      · rcases List.mem_cons.mp b with e | b
        · exact e.symm
        · exact Int.le_antisymm (h1 j b) (h3 i a)
    subst e
    rw [sorted_uniq p.cons_inv h2 h4]
theorem minI_ok : ∀ (l : List Int) (m : Int), minI m l ∈ m :: l ∧ ∀ y ∈ m :: l, minI m l ≤ y
  | [], m => ⟨List.mem_cons_self, fun y h => by rw [List.mem_singleton.mp h]; exact Int.le_refl _⟩
  | i :: l, m => by
    obtain ⟨h1, h2⟩ := minI_ok l (if i < m then i else m)
    show minI (if i < m then i else m) l ∈ _ ∧ ∀ y ∈ _, minI (if i < m then i else m) l ≤ y
    have h0 := h2 _ List.mem_cons_self
    refine ⟨?_, fun y hy => ?_⟩
    · rcases List.mem_cons.mp h1 with e | h1
      · rw [e]
        by_cases z : i < m
        · rw [if_pos z]; exact List.mem_cons_of_mem _ List.mem_cons_self
        · rw [if_neg z]; exact List.mem_cons_self
      · exact List.mem_cons_of_mem _ (List.mem_cons_of_mem _ h1)
    · have le : (if i < m then i else m) ≤ i ∧ (if i < m then i else m) ≤ m := by split <;> omega
      rcases List.mem_cons.mp hy with rfl | hy
      · exact Int.le_trans h0 le.2
      · rcases List.mem_cons.mp hy with rfl | hy
        · exact Int.le_trans h0 le.1
        · exact h2 y (List.mem_cons_of_mem _ hy)
theorem maxI_ok : ∀ (l : List Int) (m : Int), maxI m l ∈ m :: l ∧ ∀ y ∈ m :: l, y ≤ maxI m l
  | [], m => ⟨List.mem_cons_self, fun y h => by rw [List.mem_singleton.mp h]; exact Int.le_refl _⟩
  | i :: l, m => by
    obtain ⟨h1, h2⟩ := maxI_ok l (if m < i then i else m)
    show maxI (if m < i then i else m) l ∈ _ ∧ ∀ y ∈ _, y ≤ maxI (if m < i then i else m) l
    have h0 := h2 _ List.mem_cons_self
    refine ⟨?_, fun y hy => ?_⟩
    · rcases List.mem_cons.mp h1 with e | h1
      · rw [e]
        by_cases z : m < i
        · rw [if_pos z]; exact List.mem_cons_of_mem _ List.mem_cons_self
        · rw [if_neg z]; exact List.mem_cons_self
      · exact List.mem_cons_of_mem _ (List.mem_cons_of_mem _ h1)
    · have le : i ≤ (if m < i then i else m) ∧ m ≤ (if m < i then i else m) := by split <;> omega
      rcases List.mem_cons.mp hy with rfl | hy
      · exact Int.le_trans le.2 h0
      · rcases List.mem_cons.mp hy with rfl | hy
        · exact Int.le_trans le.1 h0
        · exact h2 y (List.mem_cons_of_mem _ hy)
theorem bools_rep {k : Kn} {F : Hp} : ∀ {l : List D} {ns : List Bool} {xs : List V}, bools? l = some ns → RepL k F l xs → xs = ns.map V.bl
  | [], ns, xs, e, h => by
    cases e
    unfold RepL at h
    exact h
  | d :: l, ns, xs, e, h => by
    cases d with
    | bl i =>
      have e : (bools? l).map (i :: ·) = some ns := e
      obtain ⟨ms, e1, rfl⟩ := Option.map_eq_some_iff.mp e
      unfold RepL at h
      obtain ⟨x, r, rfl, h2, h3⟩ := h
      unfold RepV at h2
      rw [h2, bools_rep e1 h3]
      rfl
    | _ => cases e
theorem rgV_rep {k : Kn} {F : Hp} (lo hi : Int) : RepL k F (rngD lo hi) (rgV lo hi) := by
  have gen : ∀ l : List Nat, RepL k F (l.map fun n => D.int (lo + (n : Nat))) (l.map fun i => V.int (lo + (i : Nat))) := fun l => by
    induction l with
    | nil => exact RepL.nil
    | cons n l ih => exact RepL.cons (by unfold RepV; rfl) ih
  exact gen _
theorem repK_ints {k : Kn} {F : Hp} : ∀ {l : List (D × D)} {kvs : List (Key × V)} {ms : List Int}, ints? (l.map (·.1)) = some ms → RepK k F l kvs → kvs.map (·.1) = ms.map Sum.inl
  | [], kvs, ms, e, h => by
    unfold RepK at h
    cases e
    rw [h]
    rfl
  | (q, b) :: l, kvs, ms, e, h => by
    obtain ⟨w, x, r, rfl, rfl, hx, ht⟩ := h.inv
    cases w with
    | inl i =>
      have e : (ints? (l.map (·.1))).map (i :: ·) = some ms := e
      obtain ⟨ns, e1, rfl⟩ := Option.map_eq_some_iff.mp e
      rw [List.map_cons, List.map_cons, repK_ints e1 ht]
    | inr z => cases e
theorem rP_len {k : Kn} {f : List D → Option Vr} {xs : List V} {H : Hp} {Q : VK} (h : rP k f xs H Q) : ∃ F ds v, Sub F H ∧ RepPs k F H ds xs ∧ f ds = some v ∧ Go k F H v Q := h
/-- what a built-in is called -/
def bfN : Bf → String
  | .len => "len"
  | .abs => "abs"
  | .int => "int"
  | .bool => "bool"
  | .str => "str"
  | .tup => "tuple"
  | .lst => "list"
  | .sorted => "sorted"
  | .sum => "sum"
  | .min => "min"
  | .max => "max"
  | .all => "all"
  | .any => "any"
  | .range => "range"
def bfTy : Bf → Bool
  | .int => true
  | .bool => true
  | .str => true
  | .tup => true
  | .lst => true
  | .range => true
  | _ => false
def bfVal (f : Bf) : Value := if bfTy f then .type (bfN f) else .builtin (bfN f)
theorem boot_bf (f : Bf) : bootBuiltins (Str.ofString (bfN f)) = some (bfVal f) := by cases f <;> decide +kernel
section
variable {X : Cx} {W : WX}
/-- range object, stored -/
theorem rng_new {pins : List (Addr × Obj)} {s : Shared} {σ : L2.St} {H : Hp} {Q : VK} {F : Hp} {lo hi : Int} {t u v : Tok} {tk : Nat} (I : Inv X pins σ H s) (sF : Sub F H) (go : Go (Cx.kn X) F H (.fz (.rng lo hi)) Q) :
    EP X pins σ Q (.ref s.heap.objs.size) { s with heap := s.heap.push { cls := .type "range", data := .fields #[.int lo t, .int hi u, .int 1 v] }, toks := tk } := by
  have hp := I.hok.fresh (Nat.le_refl s.heap.objs.size)
  refine ⟨.ref s.heap.objs.size, upd H s.heap.objs.size (.rng lo hi), I.laid (t' := tk) (fun b o e => Heap.get?_push_of_some _ e) (Nat.le_refl _) ?_, rfl, go _ (upd F s.heap.objs.size (.rng lo hi)) _ (upd_grow hp) (upd_sub sF) ?_⟩
  · exact ⟨t, u, v, Heap.get?_push_size _ rfl⟩
  · show RepV (Cx.kn X) _ (.rng lo hi) _
    unfold RepV
    exact ⟨_, rfl, upd_same⟩
theorem bf_ok (hc : X.calm = true) (f : Bf) : CallR X (bfVal f) (rP (Cx.kn X) (bfD f)) := by
  intro pins s σ H xs us Q I r h
  obtain ⟨F, ds, w, sF, rr, e, go⟩ := rP_len h
  -- the arguments by their number
  have one : ∀ {a : D}, ds = [a] → ∃ x, xs = [x] ∧ RepP (Cx.kn X) F H a x := fun {a} ea => by subst ea; exact RepPs.inv1 rr
  have two : ∀ {a b : D}, ds = [a, b] → ∃ x y, xs = [x, y] ∧ RepP (Cx.kn X) F H a x ∧ RepP (Cx.kn X) F H b y := fun {a b} ea => by subst ea; exact RepPs.inv2 rr
  have hIs : ∀ {a : D} {ns : List Int}, ds = [a] → a.seqL.bind ints? = some ns → ∃ p, xs = [.ref p] ∧ SqL X.K H p (ns.map V.int) := fun {a ns} ea en => by
    obtain ⟨x, rfl, r1⟩ := one ea
    obtain ⟨l, e1, e2⟩ := Option.bind_eq_some_iff.mp en
    obtain ⟨p, vs, rfl, h1, h2⟩ := seqL_of sF r1 e1
    rw [(ints_rep e2 h2).1] at h1
    exact ⟨p, rfl, h1⟩
  have hBs : ∀ {a : D} {ns : List Bool}, ds = [a] → a.seqL.bind bools? = some ns → ∃ p, xs = [.ref p] ∧ SqL X.K H p (ns.map V.bl) := fun {a ns} ea en => by
    obtain ⟨x, rfl, r1⟩ := one ea
    obtain ⟨l, e1, e2⟩ := Option.bind_eq_some_iff.mp en
    obtain ⟨p, vs, rfl, h1, h2⟩ := seqL_of sF r1 e1
    rw [bools_rep e2 h2] at h1
    exact ⟨p, rfl, h1⟩
  cases f with
  | len =>
    match ds, e with
    | [], e => cases e
    | _ :: _ :: _, e => cases e
    | [a], e =>
      obtain ⟨n, e1, ew⟩ := Option.map_eq_some_iff.mp (show (a.len.map fun (n : Nat) => Vr.fz (.int (n : Int))) = some w from e)
      subst ew
      obtain ⟨x, rfl, r1⟩ := one rfl
      have q := go.int sF
      have seq : ∀ {l : List D}, a.seq = some l → n = l.length → wpAny (model X.prog X.w) X.A (call (.builtin "len") us) (EP X pins σ Q) X.xe s := fun {l} es en => by
        obtain ⟨p, vs, rfl, h1, h2⟩ := seq_of sF r1 es
        refine call_len_seq pins s σ H _ us Q I r ⟨p, vs, rfl, ?_, by rw [h2.length, ← en]; exact q⟩
        cases a <;> first | exact .inl h1 | exact .inr h1 | cases es
      cases a with
      | tup l => cases e1; exact seq rfl rfl
      | lst l => cases e1; exact seq rfl rfl
      | scr l => cases e1; exact seq rfl (by rw [List.length_map])
      | str z =>
        obtain ⟨z1, rfl⟩ := some_if (show (if szB z.length = true then some z.length else none) = some n from e1)
        cases rep_str r1
        exact call_len_str pins s σ H _ us Q I r ⟨z, rfl, szB_ok z1, q⟩
      | dic tk l =>
        cases e1
        have len : ∀ {kvs : List (Key × V)} {l : List (D × D)}, RepK (Cx.kn X) F l kvs → kvs.length = l.length := fun {kvs l} => by
          induction l generalizing kvs with
          | nil => intro h; unfold RepK at h; rw [h]; rfl
          | cons p l ih =>
            intro h
            obtain ⟨a, b⟩ := p
            unfold RepK at h
            obtain ⟨_, _, r, rfl, _, _, h⟩ := h
            rw [List.length_cons, List.length_cons, ih h]
        have lenT : ∀ {kvs : List (List Key × V)} {l : List (D × D)}, RepT (Cx.kn X) F l kvs → kvs.length = l.length := fun {kvs l} => by
          induction l generalizing kvs with
          | nil => intro h; unfold RepT at h; rw [h]; rfl
          | cons p l ih =>
            intro h
            obtain ⟨a, b⟩ := p
            unfold RepT at h
            obtain ⟨_, _, r, rfl, _, _, h⟩ := h
            rw [List.length_cons, List.length_cons, ih h]
        cases tk with
        | false =>
          obtain ⟨p, kvs, rfl, h1, h2⟩ := r1
          exact call_lenD pins s σ H _ us Q I r ⟨p, kvs, rfl, h1, by rw [len h2]; exact q⟩
        | true =>
          obtain ⟨p, kvs, rfl, h1, h2⟩ := r1
          exact call_len_dT pins s σ H _ us Q I r ⟨p, kvs, rfl, h1, by rw [lenT h2]; exact q⟩
      | _ => cases e1
  | abs =>
    match ds, e with
    | [], e => cases e
    | _ :: _ :: _, e => cases e
    | [a], e =>
      obtain ⟨x, rfl, r1⟩ := one rfl
      cases a with
      | int i =>
        cases e
        cases rep_int r1
        exact call_abs pins s σ H _ us Q I r ⟨i, rfl, go.int sF⟩
      | _ => cases e
  | int =>
    match ds, e with
    | [], e => cases e
    | _ :: _ :: _, e => cases e
    | [a], e =>
      obtain ⟨x, rfl, r1⟩ := one rfl
      cases a with
      | int i =>
        cases e
        cases rep_int r1
        exact call_int1 pins s σ H _ us Q I r (.inl ⟨i, rfl, go.int sF⟩)
      | bl b =>
        cases e
        cases rep_bl r1
        exact call_int1 pins s σ H _ us Q I r (.inr ⟨b, rfl, go.int sF⟩)
      | _ => cases e
  | bool =>
    match ds, e with
    | [], e => cases e
    | _ :: _ :: _, e => cases e
    | [a], e =>
      obtain ⟨x, rfl, r1⟩ := one rfl
      cases a with
      | int i =>
        cases e
        cases rep_int r1
        exact call_bool1 pins s σ H _ us Q I r (.inl ⟨i, rfl, go.bl sF⟩)
      | bl b =>
        cases e
        cases rep_bl r1
        exact call_bool1 pins s σ H _ us Q I r (.inr ⟨b, rfl, go.bl sF⟩)
      | _ => cases e
  | str => cases e
  | tup =>
    match ds, e with
    | [], e => cases e
    | _ :: _ :: _, e => cases e
    | [a], e =>
      obtain ⟨x, rfl, r1⟩ := one rfl
      have lst : ∀ {l : List D}, a.seqL = some l → w = .fz (.tup l) → wpAny (model X.prog X.w) X.A (call (.type "tuple") us) (EP X pins σ Q) X.xe s := fun {l} es ew => by
        subst ew
        obtain ⟨p, vs, rfl, h1, h2⟩ := seqL_of sF r1 es
        exact call_tuple_of pins s σ H _ us Q I r ⟨p, vs, rfl, .inl ⟨h1, go.tup sF h2⟩⟩
      cases a with
      | tup l =>
        cases e
        obtain ⟨p, xs, rfl, h1, h2⟩ := rep_tup sF r1
        exact call_tupleT pins s σ H _ us Q I r ⟨p, xs, rfl, h1, go.here sF r1⟩
      | lst l => cases e; exact lst rfl rfl
      | scr l => cases e; exact lst rfl rfl
      | rng lo hi =>
        obtain ⟨z, ew⟩ := some_if (show (if (szB (hi - lo).toNat && (rgOk lo && rgOk hi)) = true then some (Vr.fz (.tup (rngD lo hi))) else none) = some w from e)
        subst ew
        obtain ⟨z1, z⟩ := Bool.and_eq_true_iff.mp z
        obtain ⟨z2, z3⟩ := Bool.and_eq_true_iff.mp z
        obtain ⟨b1, b2⟩ := rgOk_ok z2
        obtain ⟨b3, b4⟩ := rgOk_ok z3
        have r1 : RepV (Cx.kn X) F (.rng lo hi) x := r1
        unfold RepV at r1
        obtain ⟨p, rfl, hp⟩ := r1
        obtain ⟨u1, rfl, rx⟩ := vals1 r
        cases rx
        obtain ⟨t, u, v, ho⟩ := I.hok p _ (sF _ _ hp)
        refine call_tuple_range (n := (hi - lo).toNat) (I.ok.hd hc) (show IsRange _ p lo hi 1 t u v from ho) (small_one b1 b2 b3 b4) (rangeSize_nat lo hi) (Nat.le_of_ble_eq_true z1) fun h' tk acc hk hi' => ?_
        have I2 : Inv X pins σ H { s with heap := h', toks := tk } := I.kept hk
        have nw : ObjOk X.prog X.w (upd H h'.objs.size (.tup (rgV lo hi))) (h'.push { cls := .type "tuple", data := .seq acc }) h'.objs.size (.tup (rgV lo hi)) := by
          refine ⟨?_, acc.toList, vals_rg hi', ?_⟩
          · rw [rgV_length, sizeLine_eq]; exact Nat.le_of_ble_eq_true z1
          · rw [Array.toArray_toList]; exact IsTup.new _ _
        exact ⟨.ref h'.objs.size, _, I2.laid (t' := tk) (fun c o e => Heap.get?_push_of_some _ e) (Nat.le_refl _) nw, rfl, go.tup sF (rgV_rep lo hi) _ (I2.hok.fresh (Nat.le_refl _))⟩
      | non => cases e
      | bl b => cases e
      | int i => cases e
      | str z => cases e
      | dic b l => cases e
      | fn z => cases e
  | lst =>
    match ds, e with
    | [], e => cases e
    | _ :: _ :: _, e => cases e
    | [a], e =>
      obtain ⟨x, rfl, r1⟩ := one rfl
      have seq : ∀ {l : List D}, a.seq = some l → w = .fr (.lst l) → wpAny (model X.prog X.w) X.A (call (.type "list") us) (EP X pins σ Q) X.xe s := fun {l} es ew => by
        subst ew
        obtain ⟨p, vs, rfl, h1, h2⟩ := seq_of sF r1 es
        refine call_list_of pins s σ H _ us Q I r ⟨p, vs, rfl, ?_, go.lst sF h2⟩
        cases a <;> first | exact .inl h1 | exact .inr h1 | cases es
      cases a with
      | tup l => cases e; exact seq rfl rfl
      | lst l => cases e; exact seq rfl rfl
      | scr l => cases e; exact seq rfl rfl
      | rng lo hi =>
        obtain ⟨z, ew⟩ := some_if (show (if (szB (hi - lo).toNat && (rgOk lo && rgOk hi)) = true then some (Vr.fr (.lst (rngD lo hi))) else none) = some w from e)
        subst ew
        obtain ⟨z1, z⟩ := Bool.and_eq_true_iff.mp z
        obtain ⟨z2, z3⟩ := Bool.and_eq_true_iff.mp z
        obtain ⟨b1, b2⟩ := rgOk_ok z2
        obtain ⟨b3, b4⟩ := rgOk_ok z3
        have r1 : RepV (Cx.kn X) F (.rng lo hi) x := r1
        unfold RepV at r1
        obtain ⟨p, rfl, hp⟩ := r1
        obtain ⟨u1, rfl, rx⟩ := vals1 r
        cases rx
        obtain ⟨t, u, v, ho⟩ := I.hok p _ (sF _ _ hp)
        refine call_list_range (n := (hi - lo).toNat) (I.ok.hd hc) (show IsRange _ p lo hi 1 t u v from ho) (small_one b1 b2 b3 b4) (rangeSize_nat lo hi) (Nat.le_of_ble_eq_true z1) fun h' tk acc c' hk e' hi' => ?_
        have nw : ObjOk X.prog X.w (upd H s.heap.objs.size (.lst (rgV lo hi))) h' s.heap.objs.size (.lst (rgV lo hi)) := by
          refine ⟨?_, acc.toList, c', vals_rg hi', ?_⟩
          · rw [rgV_length, sizeLine_eq]; exact Nat.le_of_ble_eq_true z1
          · rw [Array.toArray_toList]; exact e'
        exact ⟨.ref s.heap.objs.size, _, I.laid (t' := tk) hk (Nat.le_refl _) nw, rfl, go.lst sF (rgV_rep lo hi) _ (I.hok.fresh (Nat.le_refl _))⟩
      | non => cases e
      | bl b => cases e
      | int i => cases e
      | str z => cases e
      | dic b l => cases e
      | fn z => cases e
  | sorted =>
    match ds, e with
    | [], e => cases e
    | _ :: _ :: _, e => cases e
    | [a], e =>
      obtain ⟨ns, e1, ew⟩ := Option.map_eq_some_iff.mp (show (a.srt.map fun l => Vr.fr (.lst ((sortI l).map .int))) = some w from e)
      subst ew
      have lst : a.seqL.bind ints? = some ns → wpAny (model X.prog X.w) X.A (call (.builtin "sorted") us) (EP X pins σ Q) X.xe s := fun e1 => by
        obtain ⟨p, rfl, h1⟩ := hIs rfl e1
        refine cr_sortedI pins s σ H _ us Q I r ⟨p, ns, rfl, h1, fun ns' q pm so hq => ?_⟩
        rw [sorted_uniq (pm.trans (sortI_perm ns).symm) so (sortI_sorted ns)]
        exact go.lst sF (repL_ints _) q hq
      cases a with
      | lst l => exact lst e1
      | scr l => exact lst e1
      | dic tk l =>
        cases tk with
        | true => cases e1
        | false =>
          obtain ⟨ms, e2, e3⟩ := Option.bind_eq_some_iff.mp (show ((ints? (l.map (·.1))).bind fun ns => if Nat.blt ns.length 64 = true then some ns else none) = some ns from e1)
          obtain ⟨z, e3⟩ := some_if e3
          subst e3
          obtain ⟨x, rfl, r1⟩ := one rfl
          obtain ⟨p, kvs, rfl, h1, h2⟩ := rep_dic r1
          refine call_sortedDI hc pins s σ H _ us Q I r ⟨p, kvs, ms, rfl, .inl h1, repK_ints e2 h2, Nat.blt_eq.mp z |> fun h => h, fun ys q pm so hq => ?_⟩
          rw [sorted_uniq (pm.trans (sortI_perm ms).symm) so (sortI_sorted ms)]
          exact go.lst sF (repL_ints _) q hq
      | _ => cases e1
  | sum =>
    match ds, e with
    | [], e => cases e
    | _ :: _ :: _, e => cases e
    | [a], e =>
      obtain ⟨ns, e1, ew⟩ := Option.map_eq_some_iff.mp (show ((a.seqL.bind ints?).map fun l => Vr.fz (.int l.sum)) = some w from e)
      subst ew
      obtain ⟨p, rfl, h1⟩ := hIs rfl e1
      exact cr_sum hc pins s σ H _ us Q I r ⟨p, ns, rfl, h1, go.int sF⟩
  | min =>
    match ds, e with
    | [], e => cases e
    | _ :: _ :: _ :: _, e => cases e
    | [a, b], e =>
      obtain ⟨x, y, rfl, r1, r2⟩ := two rfl
      cases a with
      | int i =>
        cases b with
        | int j =>
          cases e
          cases rep_int r1
          cases rep_int r2
          exact call_min2 hc pins s σ H _ us Q I r ⟨i, j, rfl, go.int sF⟩
        | _ => cases e
      | _ => cases e
    | [a], e =>
      obtain ⟨ns, e1, e2⟩ := Option.bind_eq_some_iff.mp (show (a.seqL.bind ints?).bind minD = some w from e)
      obtain ⟨p, rfl, h1⟩ := hIs rfl e1
      cases ns with
      | nil => cases e2
      | cons i l =>
        cases e2
        obtain ⟨m1, m2⟩ := minI_ok l i
        refine cr_min hc pins s σ H _ us Q I r ⟨p, i :: l, rfl, h1, Nat.succ_pos _, fun m h3 h4 => ?_⟩
        rw [Int.le_antisymm (h4 _ m1) (m2 m h3)]
        exact go.int sF
  | max =>
    match ds, e with
    | [], e => cases e
    | _ :: _ :: _ :: _, e => cases e
    | [a, b], e =>
      obtain ⟨x, y, rfl, r1, r2⟩ := two rfl
      cases a with
      | int i =>
        cases b with
        | int j =>
          cases e
          cases rep_int r1
          cases rep_int r2
          exact call_max2 hc pins s σ H _ us Q I r ⟨i, j, rfl, go.int sF⟩
        | _ => cases e
      | _ => cases e
    | [a], e =>
      obtain ⟨ns, e1, e2⟩ := Option.bind_eq_some_iff.mp (show (a.seqL.bind ints?).bind maxD = some w from e)
      obtain ⟨p, rfl, h1⟩ := hIs rfl e1
      cases ns with
      | nil => cases e2
      | cons i l =>
        cases e2
        obtain ⟨m1, m2⟩ := maxI_ok l i
        refine cr_max hc pins s σ H _ us Q I r ⟨p, i :: l, rfl, h1, Nat.succ_pos _, fun m h3 h4 => ?_⟩
        rw [Int.le_antisymm (m2 m h3) (h4 _ m1)]
        exact go.int sF
  | all =>
    match ds, e with
    | [], e => cases e
    | _ :: _ :: _, e => cases e
    | [a], e =>
      obtain ⟨ns, e1, ew⟩ := Option.map_eq_some_iff.mp (show ((a.seqL.bind bools?).map fun bs => Vr.fz (.bl (bs.all id))) = some w from e)
      subst ew
      obtain ⟨p, rfl, h1⟩ := hBs rfl e1
      exact cr_all hc pins s σ H _ us Q I r ⟨p, ns, rfl, h1, go.bl sF⟩
  | any =>
    match ds, e with
    | [], e => cases e
    | _ :: _ :: _, e => cases e
    | [a], e =>
      obtain ⟨ns, e1, ew⟩ := Option.map_eq_some_iff.mp (show ((a.seqL.bind bools?).map fun bs => Vr.fz (.bl (bs.any id))) = some w from e)
      subst ew
      obtain ⟨p, rfl, h1⟩ := hBs rfl e1
      exact cr_any hc pins s σ H _ us Q I r ⟨p, ns, rfl, h1, go.bl sF⟩
  | range =>
    match ds, e with
    | [], e => cases e
    | _ :: _ :: _ :: _, e => cases e
    | [a], e =>
      obtain ⟨x, rfl, r1⟩ := one rfl
      cases a with
      | int i =>
        obtain ⟨z, ew⟩ := some_if (show (if rgOk i = true then some (Vr.fz (.rng 0 i)) else none) = some w from e)
        subst ew
        cases rep_int r1
        obtain ⟨u1, rfl, rx⟩ := vals1 r
        obtain ⟨t, rfl⟩ := rx
        exact call_range_1 (rng_new I sF go)
      | _ => cases e
    | [a, b], e =>
      obtain ⟨x, y, rfl, r1, r2⟩ := two rfl
      cases a with
      | int i =>
        cases b with
        | int j =>
          obtain ⟨z, ew⟩ := some_if (show (if (rgOk i && rgOk j) = true then some (Vr.fz (.rng i j)) else none) = some w from e)
          subst ew
          cases rep_int r1
          cases rep_int r2
          obtain ⟨u1, u2, rfl, rx, ry⟩ := vals2 r
          obtain ⟨t, rfl⟩ := rx
          obtain ⟨t', rfl⟩ := ry
          exact call_range_2 (rng_new I sF go)
        | _ => cases e
      | _ => cases e
end
end VS

set_option Elab.async false
set_option linter.all false
set_option maxRecDepth 100000
set_option maxHeartbeats 4000000
/-! VS 19: what changes a list; isinstance. -/
namespace VS
open PySem PySem.Spec PyProof.Rows L2
theorem RepL.one {k : Kn} {F : Hp} {d : D} {xs : List V} (h : RepL k F [d] xs) : ∃ x, xs = [x] ∧ RepV k F d x := by
  unfold RepL at h
  obtain ⟨x, r, rfl, h1, h2⟩ := h
  unfold RepL at h2
  subst h2
  exact ⟨x, rfl, h1⟩
theorem RepL.dropLast {k : Kn} {F : Hp} : ∀ {l : List D} {xs : List V}, RepL k F l xs → RepL k F l.dropLast xs.dropLast
  | [], xs, h => by
    unfold RepL at h
    rw [h]
    exact RepL.nil
  | [d], xs, h => by
    obtain ⟨x, rfl, _⟩ := RepL.one h
    exact RepL.nil
  | d :: e :: l, xs, h => by
    unfold RepL at h
    obtain ⟨x, r, rfl, h1, h2⟩ := h
    have h3 := h2
    unfold RepL at h3
    obtain ⟨y, t, rfl, _, _⟩ := h3
    exact RepL.cons h1 (RepL.dropLast h2)
theorem onL_some {g : List D → Option (D × D)} {d : D} {p : D × D} (h : onL g d = some p) : ∃ xs, d = .lst xs ∧ g xs = some p := by
  cases d <;> first | exact ⟨_, rfl, h⟩ | cases h
theorem arg1_some {l : List D} {g : D → Option (D × D)} {p : D × D} (h : arg1 l g = some p) : ∃ a, l = [a] ∧ g a = some p := by
  match l, h with
  | [a], h => exact ⟨a, rfl, h⟩
  | [], h => cases h
  | _ :: _ :: _, h => cases h
def mfN : Mf → Str
  | .append => "append"
  | .extend => "extend"
  | .pop => "pop"
  | .popAt => "pop"
def mfId : Mf → String
  | .append => "list.append"
  | .extend => "list.extend"
  | .pop => "list.pop"
  | .popAt => "list.pop"
section
variable {X : Cx} {W : WX}
theorem mf_ok (f : Mf) : MtR X (mfId f) (rM (Cx.kn X) (mfD f)) := by
  intro pins s σ H x vs v us Q I rx rv h
  obtain ⟨F, a, d, ds, d', w, rfl, sF, nF, m, rp, rl, e, go⟩ := h
  have fin : ∀ {ys : List V} {l : List D} {y : V}, RepL (Cx.kn X) F l ys → d' = .lst l → RepV (Cx.kn X) F w y → Q y (upd H a (.lst ys)) := fun {ys l y} r ed rw => by
    subst ed
    refine go y _ rfl ⟨a, ys, rfl, upd_same, r⟩ rw
  have non : w = .non → RepV (Cx.kn X) F w .non := fun e => by rw [e]; unfold RepV; rfl
  cases f with
  | append =>
    obtain ⟨l, rfl, e⟩ := onL_some (show onL _ d = some (d', w) from e)
    obtain ⟨b, rfl, e⟩ := arg1_some e
    obtain ⟨z, e⟩ := if_some (show (if Nat.blt l.length 16777216 = true then some (D.lst (l ++ [b]), D.non) else none) = some (d', w) from e)
    cases e
    obtain ⟨p, xs, e1, h1, h2⟩ := rp
    cases e1
    obtain ⟨y, rfl, ry⟩ := rl.one
    exact mt_append pins s σ H _ _ v us Q I rx rv ⟨a, xs, y, rfl, rfl, h1, by rw [h2.length, sizeLine_eq]; exact Nat.blt_eq.mp z |> fun h => h, fin (h2.append (RepL.cons ry RepL.nil)) rfl (non rfl)⟩
  | extend =>
    obtain ⟨l, rfl, e⟩ := onL_some (show onL _ d = some (d', w) from e)
    obtain ⟨b, rfl, e⟩ := arg1_some e
    obtain ⟨p, xs, e1, h1, h2⟩ := rp
    cases e1
    obtain ⟨y, rfl, ry⟩ := rl.one
    cases b with
    | lst m =>
      obtain ⟨z, e⟩ := if_some (show (if szB (l.length + m.length) = true then some (D.lst (l ++ m), D.non) else none) = some (d', w) from e)
      cases e
      unfold RepV at ry
      obtain ⟨q, zs, rfl, h3, h4⟩ := ry
      exact mt_extend pins s σ H _ _ v us Q I rx rv ⟨a, q, xs, zs, rfl, rfl, h1, sF _ _ h3, by rw [h2.length, h4.length]; exact szB_ok z, fin (h2.append h4) rfl (non rfl)⟩
    | _ => cases e
  | pop =>
    obtain ⟨l, rfl, e⟩ := onL_some (show onL _ d = some (d', w) from e)
    obtain ⟨z, e⟩ := if_some (show (if ds.isEmpty = true then popF l else none) = some (d', w) from e)
    obtain ⟨y, e1, e2⟩ := Option.map_eq_some_iff.mp e
    cases e2
    have hds : ds = [] := List.isEmpty_iff.mp z
    subst hds
    unfold RepL at rl
    subst rl
    obtain ⟨p, xs, e2, h1, h2⟩ := rp
    cases e2
    obtain ⟨x, hx, rx'⟩ := h2.get e1
    exact mt_pop pins s σ H _ _ v us Q I rx rv ⟨a, xs, x, rfl, rfl, h1, by rw [h2.length]; exact hx, fin h2.dropLast rfl rx'⟩
  | popAt =>
    obtain ⟨l, rfl, e⟩ := onL_some (show onL _ d = some (d', w) from e)
    obtain ⟨b, rfl, e⟩ := arg1_some e
    obtain ⟨p, xs, e1, h1, h2⟩ := rp
    cases e1
    obtain ⟨y, rfl, ry⟩ := rl.one
    cases b with
    | int i =>
      obtain ⟨z, e⟩ := if_some (show (if (decide (0 ≤ i) && rgOk i) = true then l[i.toNat]?.map fun y => (D.lst (l.eraseIdx i.toNat), y) else none) = some (d', w) from e)
      obtain ⟨z1, z2⟩ := Bool.and_eq_true_iff.mp z
      have z1 := of_decide_eq_true z1
      have z2 := (rgOk_ok z2).2
      obtain ⟨y', e1, e2⟩ := Option.map_eq_some_iff.mp e
      cases e2
      unfold RepV at ry
      subst ry
      obtain ⟨x, hx, rx'⟩ := h2.get e1
      have hl : i.toNat < xs.length := (List.getElem?_eq_some_iff.mp hx).1
      exact mt_popAt pins s σ H _ _ v us Q I rx rv ⟨a, xs, i, i.toNat, x, rfl, rfl, h1, by omega, by omega, seqIndex_of z1 (by omega), hx, fin (h2.eraseIdx _) rfl rx'⟩
    | _ => cases e
/-- x[j] = e -/
theorem es_seti (hu : X.A.units + 1 < cLine) {i : Nat} {x : Str} {xp tp pos : Pos} {j e : Expr} {mj me : Env → Out Rr} (hN : X.N[i]? = some x) (hv : Vis X.env.scope x) (hd : (x == ("__debug__" : Str)) = false) (hcd : (x == ("__classdict__" : Str)) = false) (hj : EV X W j mj) (he : EV X W e me)
    (ha : ∀ v, assign (.Subscript (.Name x xp) j tp) X.env v = (do
      let ov ← holding [v] (eval (.Name x xp) X.env)
      let iv ← holding [v, ov] (eval j X.env)
      standAt tp
      holding [v, ov, iv] (setItem ov iv v)
      release [v, ov, iv] [])) (hs : swapsWithSole [.Subscript (.Name x xp) j tp] e pos.line X.env = pure false) (hw : swappedStores [.Subscript (.Name x xp) j tp] e X.env = pure none)
    (h1 : (assignEach [.Subscript (.Name x xp) j tp] X.env).map (·.2) = [assign (.Subscript (.Name x xp) j tp) X.env]) :
    ES X W (.Assign [.Subscript (.Name x xp) j tp] e pos) (mSeti i mj me) := by
  refine ⟨ps_mono (ps_asg he.pe (pg_sub (pe_var hN hv hd hcd) hj.pe (set_both hu) ha) hs hw h1) fun En σ H ⟨ρ, F, r0, p⟩ => ⟨ρ, F, r0, Ps.fl p fun r ρ1 F1 H1 t1 p1 y rr => ?_⟩⟩
  refine Ps.use r0 t1 rr p1 fun d ρ2 F2 t2 v2 p2 => ?_
  by_cases hb : hasB ρ2 i = true
  · rw [if_pos hb] at p2
    obtain ⟨z, hz⟩ := has_slot t2.rp hb
    refine ⟨z, hz, ρ2, F2, t2.rp, Ps.fl (Ps.shift t2 p2) fun q ρ3 F3 H3 t3 p3 w rw3 => ?_⟩
    have p3 : Ps (Cx.kn X) W σ ρ2 F2 H1 (match pkR q ρ3 with
      | some x => setR i x d ρ3
      | none => .bad) En := p3
    cases ek : pkR q ρ3 with
    | none => rw [ek] at p3; exact False.elim p3
    | some jd =>
      rw [ek] at p3
      have rj := RR.pk t3.rp rw3 ek
      have v3 := v2.mono (t3.sub t2.rp)
      have go : ∀ {s : Sl} {g : D → Sl} {b : D}, ρ3[i]? = some s → s.own = some b → (∀ e, (g e).own = some e) → (∀ e, s.fixd = true → s.follows (g e)) →
          Ps (Cx.kn X) W σ ρ2 F2 H1 (match setF b jd d with
            | some d' => .nx (ρ3.set i (g d'))
            | none => .bad) En → rSetB z w y H3 fun H4 => En.nx σ H4 := fun {s g b} es eo eg fol p => by
        obtain ⟨a, h1, h2, h3⟩ := t3.rp.ownAt es (Sl.own_con eo)
        rw [hz] at h1
        cases h1
        have hz0 := hz
        cases b with
        | lst l =>
          cases jd with
          | int n =>
            cases ei : ixN l.length n with
            | none =>
              have p : Ps (Cx.kn X) W σ ρ2 F2 H1 (match (ixN l.length n).map fun n => D.lst (l.set n d) with
                | some d' => .nx (ρ3.set i (g d'))
                | none => .bad) En := p
              rw [ei] at p
              exact False.elim p
            | some k =>
              have p : Ps (Cx.kn X) W σ ρ2 F2 H1 (match (ixN l.length n).map fun n => D.lst (l.set n d) with
                | some d' => .nx (ρ3.set i (g d'))
                | none => .bad) En := p
              rw [ei] at p
              obtain ⟨a', xs, e1, h4, h5⟩ := h3
              cases e1
              refine .inl ⟨a, xs, n, k, rfl, rep_int rj, h4, by rw [h5.length]; exact ei, ?_⟩
              have wr := Tr.write (o := .lst (xs.set k y)) t3.rp es eo hz (eg (.lst (l.set k d))) rfl ⟨a, _, rfl, upd_same, h5.set v3 k⟩ (fol _)
              exact p σ F3 _ (t3.trans wr)
          | _ => exact False.elim p
        | dic tk l =>
          cases tk with
          | true => exact False.elim p
          | false =>
            by_cases z : (keyOk false jd && Nat.blt l.length 16777216) = true
            · have p : Ps (Cx.kn X) W σ ρ2 F2 H1 (match (if (keyOk false jd && Nat.blt l.length 16777216) = true then some (D.dic false (dput l jd d)) else none) with
                | some d' => .nx (ρ3.set i (g d'))
                | none => .bad) En := p
              rw [if_pos z] at p
              obtain ⟨z1, z2⟩ := Bool.and_eq_true_iff.mp z
              obtain ⟨q, rfl⟩ := key_of_ok z1
              have ew := rep_key rj
              subst ew
              obtain ⟨a', kvs, e1, h4, h5⟩ := h3
              cases e1
              have hz : kvs.length < sizeLine := by rw [h5.len, sizeLine_eq]; exact Nat.blt_eq.mp z2
              refine .inr ⟨a, _, rfl, DPut.k h4 hz, ?_⟩
              have wr := Tr.write (o := .dK (putK kvs q y)) t3.rp es eo hz0 (eg (.dic false (dput l (kD q) d))) rfl ⟨a, _, rfl, upd_same, h5.put v3⟩ (fol _)
              exact p σ F3 _ (t3.trans wr)
            · have p : Ps (Cx.kn X) W σ ρ2 F2 H1 (match (if (keyOk false jd && Nat.blt l.length 16777216) = true then some (D.dic false (dput l jd d)) else none) with
                | some d' => .nx (ρ3.set i (g d'))
                | none => .bad) En := p
              rw [if_neg z] at p
              exact False.elim p
        | _ => exact False.elim p
      have p3 : Ps (Cx.kn X) W σ ρ2 F2 H1 (match ρ3[i]? with
        | some (.ow b) => (match setF b jd d with
          | some d' => .nx (ρ3.set i (.ow d'))
          | none => .bad)
        | some (.le b) => (match setF b jd d with
          | some d' => .nx (ρ3.set i (.le d'))
          | none => .bad)
        | _ => .bad) En := p3
      cases es : ρ3[i]? with
      | none => rw [es] at p3; exact False.elim p3
      | some s =>
        rw [es] at p3
        cases s with
        | ow b => exact go es rfl (g := .ow) (fun _ => rfl) (fun _ h => by cases h) p3
        | le b => exact go es rfl (g := .le) (fun _ => rfl) (fun _ _ => .inl ⟨_, rfl⟩) p3
        | _ => exact False.elim p3
  · rw [if_neg hb] at p2; exact False.elim p2
end
/-! ### isinstance -/
def tyN : Ty → String
  | .int => "int"
  | .bool => "bool"
  | .str => "str"
  | .tup => "tuple"
  | .lst => "list"
def catN : Cat → String
  | .non => "NoneType"
  | .bool => "bool"
  | .int => "int"
  | .str => "str"
  | .tup => "tuple"
  | .lst => "list"
  | .dic => "dict"
theorem ty_of {k : Kn} {F H : Hp} {d : D} {x : V} {n : Cat} (s : Sub F H) (h : RepP k F H d x) (e : d.cat = some n) : TyX k.K H x (.type (catN n)) := by
  cases d with
  | non => cases e; cases rep_non h; exact .base .non
  | bl b => cases e; cases rep_bl h; exact .base (.bl b)
  | int i => cases e; cases rep_int h; exact .base (.int i)
  | str z => cases e; cases rep_str h; exact .base (.str z)
  | tup l =>
    cases e
    obtain ⟨a, xs, rfl, h1, _⟩ := rep_tup s h
    rcases h1 with (h1 | ⟨o, h1⟩) | ⟨o, its, c, h1, h2, _⟩
    · exact .base (.tup h1)
    · exact .fTuple h1
    · exact .kTuple h1 h2
  | lst l =>
    cases e
    obtain ⟨a, xs, rfl, h1, _⟩ := rep_lst h
    exact .base (.lst h1)
  | scr l =>
    cases e
    obtain ⟨a, rfl, h1⟩ := scr_rep s h
    rcases h1 with (h1 | ⟨o, h1⟩) | ⟨o, its, c, h1, h2, _⟩
    · exact .base (.lst h1)
    · exact .base (.frz h1)
    · exact .kList h1 h2
  | dic b l =>
    cases e
    cases b with
    | false => obtain ⟨a, kvs, rfl, h1, _⟩ := h; exact .base (.dK h1)
    | true => obtain ⟨a, kvs, rfl, h1, _⟩ := h; exact .base (.dT h1)
  | rng _ _ => cases e
  | fn _ => cases e
theorem ty_kit (c : Cat) (t : Ty) : kitB (catN c) (tyN t) = some (catB c t) := by cases c <;> cases t <;> decide +kernel
theorem tyD_kit {K : PySem.W.Frag} {c : Cat} (t : Ty) : PySem.W.kitOne K (.type (catN c)) (.type (tyN t)) = some (catB c t) := kit_ty (ty_kit c t)
theorem tysD_kit {K : PySem.W.Frag} {d : D} {c : Cat} (e : d.cat = some c) : ∀ {ts : List Ty} {b : Bool}, tysD d ts = some b → PySem.W.kitAny K (.type (catN c)) (ts.map fun t => .type (tyN t)) = some b
  | [], b, h => by cases h; exact kitAny_nil
  | t :: ts, b, h => by
    have h : (match tyD d t with
      | some true => some true
      | some false => tysD d ts
      | none => none) = some b := h
    have et : tyD d t = some (catB c t) := by unfold tyD; rw [e]; rfl
    rw [et] at h
    cases ec : catB c t with
    | true =>
      rw [ec] at h
      cases h
      exact kitAny_cons (tyD_kit t) (fun z => by rw [ec] at z; cases z) fun _ => rfl
    | false =>
      rw [ec] at h
      exact kitAny_cons (tyD_kit t) (fun _ => tysD_kit e h) fun z => by rw [ec] at z; cases z
section
variable {X : Cx} {W : WX} {a : Expr} {ma : Env → Out Rr} {pos p p2 p3 : Pos} {kk : Nat}
theorem pe_tyName {x : Str} {T : String} (hg : Gl X x) (hm : X.mg x = none) (hv : bootBuiltins x = some (.type T)) (hn : x ≠ "__name__") (hd : (x == ("__debug__" : Str)) = false) : PE X (.Name x p) (tC (.ty T)) :=
  ⟨fun pins s σ H Q I h => ld_blt I hg hm hv ⟨.ty T, H, I, rfl, h⟩ hn hd⟩
theorem isi_end {σ : L2.St} {ρ1 : Env} {F1 H1 H0 : Hp} {r : Rr} {x : V} {ts : List Ty} {Q : VK} (hne : ts ≠ []) (q : Rp (Cx.kn X) ρ1 F1 σ H1) (rr : RR (Cx.kn X) σ H0 ρ1 F1 H1 r x) (dm : ∀ a, H1 a = none → H0 a = none)
    (p : Pv (Cx.kn X) W σ ρ1 F1 H1 (match pkR r ρ1 with
      | some x => outV (isiV ts x) ρ1
      | none => .bad) fun r ρ' F' H' => ∀ x, RR (Cx.kn X) σ H0 ρ' F' H' r x → Q x H') :
    ∃ c b, TyX X.K H1 x (.type (catN c)) ∧ PySem.W.kitAny X.K (.type (catN c)) (ts.map fun t => .type (tyN t)) = some b ∧ ∀ F2 H2, (∀ a o, H1 a = some o → H2 a = some o ∧ F2 a = F1 a) → Sub F2 H2 → Q (.bl b) H2 := by
  cases ek : pkR r ρ1 with
  | none => rw [ek] at p; exact False.elim p
  | some d =>
    rw [ek] at p
    cases et : tysD d ts with
    | none =>
      have p : Pv (Cx.kn X) W σ ρ1 F1 H1 (outV ((tysD d ts).map fun b => Vr.fz (.bl b)) ρ1) _ := p
      rw [et] at p
      exact False.elim p
    | some b =>
      have p : Pv (Cx.kn X) W σ ρ1 F1 H1 (outV ((tysD d ts).map fun b => Vr.fz (.bl b)) ρ1) _ := p
      rw [et] at p
      have fin : ∀ c, d.cat = some c → _ := fun c ec => (⟨c, b, ty_of q.sub (RR.pk q rr ek) ec, tysD_kit ec et, fun F2 H2 g s => p F2 H2 (Tr.grow q g s) _ (by show RepV (Cx.kn X) F2 (.bl b) _; unfold RepV; rfl)⟩ : ∃ c b, TyX X.K H1 x (.type (catN c)) ∧ PySem.W.kitAny X.K (.type (catN c)) (ts.map fun t => .type (tyN t)) = some b ∧ ∀ F2 H2, (∀ a o, H1 a = some o → H2 a = some o ∧ F2 a = F1 a) → Sub F2 H2 → Q (.bl b) H2)
      cases ec : d.cat with
      | some c => exact fin c ec
      | none =>
        exfalso
        cases ts with
        | nil => exact absurd rfl hne
        | cons t ts =>
          have h : (match tyD d t with
            | some true => some true
            | some false => tysD d ts
            | none => none) = some b := et
          have e2 : tyD d t = none := by unfold tyD; rw [ec]; rfl
          rw [e2] at h
          cases h
theorem ty_up {K : PySem.W.Frag} {H : Hp} {q : Addr} {o : HO} {x : V} {t : Value} (hq : H q = none) (h : TyX K H x t) : TyX K (upd H q o) x t := by
  have up : ∀ {a : Addr} {u : HO}, H a = some u → upd H q o a = some u := fun {a u} e => by
    have ne : a ≠ q := fun z => by rw [z, hq] at e; cases e
    rw [upd_ne ne]; exact e
  cases h with
  | base h =>
    refine .base ?_
    cases h with
    | non => exact .non
    | bl b => exact .bl b
    | int i => exact .int i
    | str z => exact .str z
    | flt z => exact .flt z
    | lst e => exact .lst (up e)
    | frz e => exact .frz (up e)
    | tup e => exact .tup (up e)
    | dK e => exact .dK (up e)
    | dT e => exact .dT (up e)
    | ins e a b c d f => exact .ins (up e) a b c d f
  | byt b => exact .byt b
  | set e => exact .set (up e)
  | kList e c => exact .kList e c
  | kTuple e c => exact .kTuple e c
  | kDict e c => exact .kDict e c
  | fTuple e => exact .fTuple (up e)
  | fDict e => exact .fDict (up e)
/-- a type's name, as a name -/
structure TyE (X : Cx) (e : Expr) (t : Ty) : Prop where
  pe : PE X e (tC (.ty (tyN t)))
theorem cls_all : ∀ ts : List Ty, Paired ClsV (ts.map fun t => V.ty (tyN t)) (ts.map fun t => Value.type (tyN t))
  | [] => .nil
  | t :: ts => .cons (.ty _) (cls_all ts)
inductive TyEs (X : Cx) : List Expr → List Ty → Prop
  | nil : TyEs X [] []
  | cons {e : Expr} {t : Ty} {es : List Expr} {ts : List Ty} : TyE X e t → starEach (e :: es) X.env = (false, eval e X.env) :: starEach es X.env → TyEs X es ts → TyEs X (e :: es) (t :: ts)
theorem pa_tys : ∀ {es : List Expr} {ts : List Ty}, TyEs X es ts → PA X es (fun _ H Q => Q (ts.map fun t => V.ty (tyN t)) H)
  | _, _, .nil => pa_mono pa_nil fun _ _ _ h => h
  | _, _, .cons h1 h2 h3 => pa_mono (pa_cons h1.pe (pa_tys h3) h2) fun _ _ _ h => h
theorem ev_isi {t : Ty} {e : Expr} (hg : Gl X "isinstance") (hm : X.mg "isinstance" = none) (ha : EV X W a ma) (he : TyE X e t) (hs : starEach [a, e] X.env = (false, eval a X.env) :: starEach [e] X.env) (hs2 : starEach [e] X.env = (false, eval e X.env) :: starEach [] X.env) (hpl : (backTo pos (starEach [e] X.env)).any (·.1) = false) :
    EV X W (.Call (.Name "isinstance" p) [a, e] [] pos) (mOne (isiV [t]) ma) := by
  refine ⟨pe_mono (pe_callB call_isi hg hm boot_isinstance (pa_cons ha.pe (pa_cons he.pe pa_nil hs2) hs) (by decide) (by decide) hs hpl) fun σ H Q ⟨ρ, F, r0, p⟩ => ⟨ρ, F, r0, Pv.bind p fun r ρ1 F1 H1 _ t1 p1 x rr => ?_⟩⟩
  obtain ⟨c, b, ty, kt, go⟩ := isi_end (List.cons_ne_nil _ _) t1.rp rr t1.dom p1
  have kt : PySem.W.kitAny X.K (.type (catN c)) [.type (tyN t)] = some b := kt
  have k1 : PySem.W.kitOne X.K (.type (catN c)) (.type (tyN t)) = some b := by
    rw [tyD_kit t]
    have e1 : PySem.W.kitAny X.K (.type (catN c)) [.type (tyN t)] = some (catB c t) := by
      cases ec : catB c t with
      | true => exact kitAny_cons (tyD_kit t) (fun z => by rw [ec] at z; cases z) fun _ => rfl
      | false => exact kitAny_cons (tyD_kit t) (fun _ => kitAny_nil) fun z => by rw [ec] at z; cases z
    rw [← e1, kt]
  exact ⟨x, .ty (tyN t), _, _, b, rfl, .ty _, ty, k1, go F1 H1 (noGrow t1.rp.sub) t1.rp.sub⟩
theorem ev_isiT {ts : List Ty} {es : List Expr} (hne : ts ≠ []) (hz : ts.length ≤ 16777216) (hg : Gl X "isinstance") (hm : X.mg "isinstance" = none) (ha : EV X W a ma) (he : TyEs X es ts) (hs : starEach [a, .Tuple es kk p2] X.env = (false, eval a X.env) :: starEach [.Tuple es kk p2] X.env) (hs2 : starEach [.Tuple es kk p2] X.env = (false, eval (.Tuple es kk p2) X.env) :: starEach [] X.env)
    (hpl : (backTo pos (starEach [.Tuple es kk p2] X.env)).any (·.1) = false) : EV X W (.Call (.Name "isinstance" p) [a, .Tuple es kk p2] [] pos) (mOne (isiV ts) ma) := by
  refine ⟨pe_mono (pe_callB call_isiT hg hm boot_isinstance (pa_cons ha.pe (pa_cons (pe_tup (pa_tys he)) pa_nil hs2) hs) (by decide) (by decide) hs hpl) fun σ H Q ⟨ρ, F, r0, p⟩ => ⟨ρ, F, r0, Pv.bind p fun r ρ1 F1 H1 _ t1 p1 x rr => ?_⟩⟩
  obtain ⟨c, b, ty, kt, go⟩ := isi_end hne t1.rp rr t1.dom p1
  refine ⟨by rw [List.length_map, sizeLine_eq]; exact hz, fun q hq => ?_⟩
  refine ⟨x, q, _, _, _, b, rfl, upd_same, cls_all ts, ?_, kt, go F1 _ (upd_grow0 hq) (sub_upd0 t1.rp.sub hq)⟩
  exact ty_up hq ty
end
end VS

set_option Elab.async false
set_option linter.all false
set_option maxRecDepth 100000
set_option maxHeartbeats 4000000
/-! VS 20: comparisons in a chain; parallel assignments. -/
namespace VS
open PySem PySem.Spec PyProof.Rows L2
theorem cmpV_bl {o : Cop} {a b : D} {v : Vr} (h : cmpV o a b = some v) : ∃ c, v = .fz (.bl c) := by
  obtain ⟨t, _, e⟩ := Option.map_eq_some_iff.mp h
  exact ⟨t, e.symm⟩
section
variable {X : Cx} {W : WX} {a b c : Expr} {pos : Pos} {ma mb mc : Env → Out Rr}
theorem tV_chain {f g : D → D → Option Vr} {σ : L2.St} {H : Hp} {Q Q' : VK} (hf : ∀ x y v, f x y = some v → ∃ c, v = .fz (.bl c)) (hg : ∀ x y v, g x y = some v → ∃ c, v = .fz (.bl c)) (hQ : ∀ k H, Q (.bl k) H → Q' (.bl k) H)
    (h : tV (Cx.kn X) W (mChain f g ma mb mc) σ H Q) : tChain (fun x y H Q => rP (Cx.kn X) (g2 f) [x, y] H Q) (fun x y H Q => rP (Cx.kn X) (g2 g) [x, y] H Q) (tV (Cx.kn X) W ma) (tV (Cx.kn X) W mb) (tV (Cx.kn X) W mc) σ H Q' := by
  obtain ⟨ρ, F, r0, p⟩ := h
  refine ⟨ρ, F, r0, Pv.bind p fun r ρ1 F1 H1 _ t1 p1 x rr => ⟨ρ1, F1, t1.rp, Pv.bind p1 fun q ρ2 F2 H2 _ t2 p2 y rr2 => ?_⟩⟩
  cases e : pk2 r q ρ2 with
  | none => rw [e] at p2; exact False.elim p2
  | some d =>
    obtain ⟨d1, d2⟩ := d
    rw [e] at p2
    obtain ⟨e1, e2⟩ := pk2_some e
    cases ef : f d1 d2 with
    | none => simp only [ef] at p2; exact False.elim p2
    | some v =>
      obtain ⟨k, rfl⟩ := hf _ _ _ ef
      simp only [ef] at p2
      refine ⟨F2, [d1, d2], _, t2.rp.sub, RepPs.two (RR.later t1.rp rr t2 e1) (RR.pk t2.rp rr2 e2), ef, fun z F3 H3 g3 s3 vr => ?_⟩
      have ez : z = .bl k := by
        have vr : RepV (Cx.kn X) F3 (.bl k) z := vr
        unfold RepV at vr
        exact vr
      subst ez
      have t3 := Tr.grow t2.rp g3 s3
      refine ⟨k, rfl, ?_⟩
      cases k with
      | false =>
        rw [if_neg Bool.false_ne_true]
        refine hQ _ _ (p2 F3 H3 t3 _ ?_)
        show RepV (Cx.kn X) F3 (.bl false) _
        unfold RepV
        rfl
      | true =>
        rw [if_pos rfl]
        refine ⟨ρ2, F3, t3.rp, Pv.bind (Pv.shift t3 p2) fun t ρ3 F4 H4 _ t4 p3 w rr3 => ?_⟩
        cases e3 : pk2 q t ρ3 with
        | none => rw [e3] at p3; exact False.elim p3
        | some d =>
          obtain ⟨d3, d4⟩ := d
          rw [e3] at p3
          obtain ⟨e4, e5⟩ := pk2_some e3
          cases eg : g d3 d4 with
          | none => simp only [eg] at p3; exact False.elim p3
          | some v =>
            obtain ⟨k, rfl⟩ := hg _ _ _ eg
            simp only [eg] at p3
            refine ⟨F4, [d3, d4], _, t4.rp.sub, RepPs.two (RR.later t2.rp rr2 (t3.trans t4) e4) (RR.pk t4.rp rr3 e5), eg, fun z F5 H5 g5 s5 vr => ?_⟩
            have ez : z = .bl k := by
              have vr : RepV (Cx.kn X) F5 (.bl k) z := vr
              unfold RepV at vr
              exact vr
            subst ez
            refine hQ _ _ (p3 F5 H5 (Tr.grow t4.rp g5 s5) _ ?_)
            show RepV (Cx.kn X) F5 (.bl k) _
            unfold RepV
            rfl
theorem ev_chain (hu : X.A.units + 64 < cLine) {o1 o2 : Cop} (ha : EV X W a ma) (hb : EV X W b mb) (hc : EV X W c mc) (hm : lastMarks [copO o1, copO o2] [b, c] = false) : EV X W (.Compare a [copO o1, copO o2] [b, c] pos) (mChain (cmpV o1) (cmpV o2) ma mb mc) :=
  ⟨pe_mono (pe_chain (cop_ok hu o1) (cop_ok hu o2) ha.pe hb.pe hc.pe hm) fun _ _ _ h => tV_chain (fun _ _ _ => cmpV_bl) (fun _ _ _ => cmpV_bl) (fun _ _ h => h) h⟩
theorem et_chain (hu : X.A.units + 64 < cLine) {o1 o2 : Cop} (ha : EV X W a ma) (hb : EV X W b mb) (hc : EV X W c mc) (hm : lastMarks [copO o1, copO o2] [b, c] = false) : ET X W (.Compare a [copO o1, copO o2] [b, c] pos) (mTru (mChain (cmpV o1) (cmpV o2) ma mb mc)) := by
  refine ⟨pt_mono (pt_chain (cop_ok hu o1) (cop_ok hu o2) ha.pe hb.pe hc.pe hm) fun _ _ _ h => tV_chain (fun _ _ _ => cmpV_bl) (fun _ _ _ => cmpV_bl) (fun k H ⟨b, tb, q⟩ => ⟨k, rfl, ?_⟩) (tB_tru h)⟩
  have e : b = k := tb
  rw [← e]
  exact q
end
/-! ### a, b = x, y -/
/-- what is to be stored: frozen, or new -/
def SR (k : Kn) (σ : L2.St) (H0 : Hp) (ρ : Env) (F H : Hp) (s : Sl) (x : V) : Prop := match s with
  | .fz d => RepV k F d x
  | .ow d => RR k σ H0 ρ F H (.fr d) x
  | _ => False
def SRs (k : Kn) (σ : L2.St) (H0 : Hp) (ρ : Env) (F H : Hp) : List Sl → List V → Prop
  | [], xs => xs = []
  | s :: l, xs => ∃ x r, xs = x :: r ∧ SR k σ H0 ρ F H s x ∧ (∀ (d : D) (a : Addr), s = .ow d → x = .ref a → ∀ (j : Nat) (e : D), l[j]? = some (.ow e) → ¬ r[j]? = some (.ref a)) ∧ SRs k σ H0 ρ F H l r
def tPs (k : Kn) (W : WX) (m : Env → Out (List Sl)) : TA := fun σ H Q => ∃ ρ F, Rp k ρ F σ H ∧ Pv k W σ ρ F H (m ρ) fun ss ρ' F' H' => ∀ xs, SRs k σ H ρ' F' H' ss xs → Q xs H'
structure EP' (X : Cx) (W : WX) (es : List Expr) (m : Env → Out (List Sl)) : Prop where
  pa : PA X es (tPs (Cx.kn X) W m)
section
variable {k : Kn} {σ : L2.St} {ρ ρ1 : Env} {F F1 H0 H1 H H2 : Hp}
theorem SRs.ow : ∀ {ss : List Sl} {xs : List V} {j : Nat} {d : D}, SRs k σ H0 ρ F H ss xs → ss[j]? = some (.ow d) → ∃ a, xs[j]? = some (.ref a) ∧ H0 a = none
  | s :: ss, _, 0, d, ⟨x, r, rfl, h1, _, _⟩, e => by
    have e : s = .ow d := by simpa using e
    subst e
    obtain ⟨a, rfl, h2, _⟩ := h1
    exact ⟨a, rfl, h2⟩
  | s :: ss, _, j + 1, d, ⟨x, r, rfl, _, _, h3⟩, e => by
    obtain ⟨a, h4, h5⟩ := SRs.ow (j := j) h3 (by simpa using e)
    exact ⟨a, by simpa using h4, h5⟩
theorem SRs.base {H0 H3 : Hp} (t : ∀ a, H3 a = none → H0 a = none) : ∀ {ss : List Sl} {xs : List V}, SRs k σ H3 ρ F H ss xs → SRs k σ H0 ρ F H ss xs
  | [], _, h => h
  | s :: ss, _, ⟨x, r, e, h1, h2, h3⟩ => ⟨x, r, e, by
    cases s with
    | fz d => exact h1
    | ow d =>
      have h1 : RR k σ H3 ρ F H (.fr d) x := h1
      exact RR.base t h1
    | _ => exact h1, h2, SRs.base t h3⟩
end
section
variable {X : Cx} {W : WX} {e a b : Expr} {es : List Expr} {ma : Env → Out Rr} {ml : Env → Out (List Sl)}
theorem ep_nil : EP' X W [] mNil := ⟨pa_mono pa_nil fun _ _ _ ⟨_, _, r0, p⟩ => Pv.ok r0 p [] rfl⟩
theorem ep_cons (ha : EV X W e ma) (hr : EP' X W es ml) (hs : starEach (e :: es) X.env = (false, eval e X.env) :: starEach es X.env) : EP' X W (e :: es) (mPs ma ml) := by
  refine ⟨pa_mono (pa_cons ha.pe hr.pa hs) fun σ H Q ⟨ρ, F, r0, p⟩ => ?_⟩
  refine ⟨ρ, F, r0, Pv.bind0 p fun r ρ1 F1 H1 t1 p1 x rr => ?_⟩
  have keep : Pv (Cx.kn X) W σ ρ F H ((useR r ρ1).bind fun d ρ2 => (ml ρ2).bind fun ss ρ3 => .ok (Sl.fz d :: ss) ρ3) (fun ss ρ' F' H' => ∀ xs, SRs (Cx.kn X) σ H ρ' F' H' ss xs → Q xs H') → tPs (Cx.kn X) W ml σ H1 fun xs H2 => Q (x :: xs) H2 := fun p1 =>
    Pv.use r0 t1 rr p1 fun d ρ2 F2 t2 v p2 => ⟨ρ2, F2, t2.rp, Pv.bind (Pv.shift t2 p2) fun ss ρ3 F3 H3 _ t3 p3 xs hx => Pv.ok t3.rp p3 (x :: xs) ⟨x, xs, rfl, v.mono (t3.sub t2.rp), fun d a e => (by cases e), SRs.base t2.dom hx⟩⟩
  cases r with
  | fz d => exact keep p1
  | own i => exact keep p1
  | fr d =>
    have p1 : Pv (Cx.kn X) W σ ρ F H ((ml ρ1).bind fun ss ρ3 => .ok (Sl.ow d :: ss) ρ3) _ := p1
    refine ⟨ρ1, F1, t1.rp, Pv.bind (Pv.shift t1 p1) fun ss ρ3 F3 H3 _ t3 p3 xs hx => Pv.ok t3.rp p3 (x :: xs) ⟨x, xs, rfl, RR.next t1.rp rr t3 (fun i z => by cases z), fun d' a e ex j e' hj hr => ?_, SRs.base t1.dom hx⟩⟩
    obtain ⟨b, h1, h2⟩ := SRs.ow hx hj
    rw [hr] at h1
    cases h1
    obtain ⟨c, e1, h3, h4, h5, h6, h7⟩ := rr
    rw [ex] at e1
    cases e1
    obtain ⟨c, o, e2, ho⟩ := h7.at h6
    cases e2
    rw [h2] at ho
    cases ho
/-- the stores -/
theorem stoS_tr {σ' : L2.St} {ρ' : Env} {F' H0 : Hp} {F H : Hp} : ∀ {l : List Nat} {ss : List Sl} {vs : List V} {σ : L2.St} {ρ ρ2 : Env}, stoS l ss ρ = some ρ2 → SRs (Cx.kn X) σ H0 ρ F H ss vs → Rp (Cx.kn X) ρ F σ H → Tr (Cx.kn X) σ' ρ' F' H0 σ ρ F H → vs.length = l.length ∧ Tr (Cx.kn X) σ' ρ' F' H0 (setAll σ l vs) ρ2 F H
  | [], [], vs, σ, ρ, ρ2, e, h, r, t => by
    cases e
    have h : vs = [] := h
    rw [h]
    exact ⟨rfl, t⟩
  | [], _ :: _, vs, σ, ρ, ρ2, e, h, r, t => by cases e
  | _ :: _, [], vs, σ, ρ, ρ2, e, h, r, t => by cases e
  | i :: l, s :: ss, vs, σ, ρ, ρ2, e, h, r, t => by
    obtain ⟨v, vr, rfl, h1, h2, h3⟩ := h
    have e' : (match sto ρ i s with
      | some ρ' => stoS l ss ρ'
      | none => none) = some ρ2 := e
    cases es : sto ρ i s with
    | none => rw [es] at e'; cases e'
    | some ρ3 =>
      rw [es] at e'
      obtain ⟨rfl, u, g1, g2⟩ := sto_some es
      have t3 : Tr (Cx.kn X) σ' ρ' F' H0 (σ.set i (some v)) (ρ.set i s) F H := by
        cases s with
        | fz d => exact Tr.sto (x := v) r g1 g2 (.inl ⟨d, rfl, h1⟩) (fun a d z => by cases z) t
        | ow d =>
          obtain ⟨a, rfl, q1, q2, q3, q4, q5⟩ := h1
          exact Tr.sto r g1 g2 (.inr ⟨a, d, rfl, rfl, q2, q3, q4, q5⟩) (fun b d z y => by cases y; exact q1) t
        | _ => exact False.elim h1
      -- the rest, behind this store
      have hd : ∀ {b : Addr}, Hd (σ.set i (some v)) (ρ.set i s) b → Hd σ ρ b ∨ (∃ d, s = .ow d) ∧ v = .ref b := fun {b} ⟨j, w, d, m1, m2, m3⟩ => by
        have hσ : i < σ.length := by rw [← r.len]; exact (List.getElem?_eq_some_iff.mp g1).1
        rcases set_get m1 with ⟨rfl, rfl, _⟩ | ⟨ne, m1⟩
        · rw [List.getElem?_set_self hσ] at m3
          cases m3
          refine .inr ⟨?_, rfl⟩
          cases w <;> first | exact ⟨_, rfl⟩ | exact False.elim h1 | cases m2
        · rw [List.getElem?_set_ne ne] at m3
          exact .inl ⟨j, w, d, m1, m2, m3⟩
      have rest : ∀ {ss : List Sl} {vr : List V}, (∀ (d : D) (a : Addr), s = .ow d → v = .ref a → ∀ (j : Nat) (e : D), ss[j]? = some (.ow e) → ¬ vr[j]? = some (.ref a)) → SRs (Cx.kn X) σ H0 ρ F H ss vr → SRs (Cx.kn X) (σ.set i (some v)) H0 (ρ.set i s) F H ss vr := fun {ss} => by
        induction ss with
        | nil => intro vr _ h; exact h
        | cons w ss ih =>
          intro vr hn h
          obtain ⟨x, r', rfl, k1, k2, k3⟩ := h
          refine ⟨x, r', rfl, ?_, k2, ih (fun d a e1 e2 j e3 hj => by simpa using hn d a e1 e2 (j + 1) e3 (by simpa using hj)) k3⟩
          cases w with
          | fz d => exact k1
          | ow d =>
            obtain ⟨a, rfl, q1, q2, q3⟩ := k1
            refine ⟨a, rfl, q1, fun z => ?_, q3⟩
            rcases hd z with z | ⟨⟨d2, e1⟩, e2⟩
            · exact q2 z
            · exact hn d2 a e1 e2 0 d rfl rfl
          | _ => exact k1
      obtain ⟨q1, q2⟩ := stoS_tr e' (rest h2 h3) t3.rp t3
      exact ⟨by simp [q1], q2⟩
theorem par_end {σ : L2.St} {H : Hp} {En : Ends} {l : List Nat} {ms : Env → Out (List Sl)} (h : tS (Cx.kn X) W (mPar l ms) En σ H) : tPs (Cx.kn X) W ms σ H fun vs H1 => vs.length = l.length ∧ En.nx (setAll σ l vs) H1 := by
  obtain ⟨ρ, F, r0, p⟩ := h
  refine ⟨ρ, F, r0, Ps.fl p fun ss ρ1 F1 H1 t p1 xs hx => ?_⟩
  cases e : stoS l ss ρ1 with
  | none => rw [e] at p1; exact False.elim p1
  | some ρ2 =>
    rw [e] at p1
    obtain ⟨q1, q2⟩ := stoS_tr e hx t.rp t
    exact ⟨q1, p1 _ F1 H1 q2⟩
theorem es_par2 {i j : Nat} {x y : Str} {px py pt pos : Pos} {kt k2 pt2} {ms : Env → Out (List Sl)} (hc : X.calm = true) (hN : X.N.Nodup) (hi : X.N[i]? = some x) (hj : X.N[j]? = some y) (hij : i ≠ j) (hx : X.env.scope.names.lookup x = some .local) (hy : X.env.scope.names.lookup y = some .local) (ha : EP' X W [a, b] ms)
    (hw : swappedStores [.Tuple [.Name x px, .Name y py] kt pt] (.Tuple [a, b] k2 pt2) X.env = pure (some [x, y])) (hs : swapsWithSole [.Tuple [.Name x px, .Name y py] kt pt] (.Tuple [a, b] k2 pt2) pos.line X.env = pure false) :
    ES X W (.Assign [.Tuple [.Name x px, .Name y py] kt pt] (.Tuple [a, b] k2 pt2) pos) (mPar [i, j] ms) := by
  refine ⟨ps_mono (ps_par hc hN hi hj hij hx hy ha.pa hw hs) fun En σ H h => ?_⟩
  obtain ⟨ρ, F, r0, p⟩ := par_end h
  refine ⟨ρ, F, r0, ?_⟩
  cases em : ms ρ with
  | bad => rw [em] at p; exact p
  | exc c v ρ1 => rw [em] at p; exact p
  | ok ss ρ1 =>
    rw [em] at p
    intro F1 H1 t xs hx
    obtain ⟨q1, q2⟩ := p F1 H1 t xs hx
    match xs, q1 with
    | [v, w], _ => exact ⟨v, w, rfl, q2⟩
theorem es_par3 {i j l : Nat} {x y z : Str} {c : Expr} {px py pz pt pos : Pos} {kt k2 pt2} {ms : Env → Out (List Sl)} (hc : X.calm = true) (hN : X.N.Nodup) (hi : X.N[i]? = some x) (hj : X.N[j]? = some y) (hl : X.N[l]? = some z) (hij : i ≠ j) (hil : i ≠ l) (hjl : j ≠ l)
    (hx : X.env.scope.names.lookup x = some .local) (hy : X.env.scope.names.lookup y = some .local) (hz : X.env.scope.names.lookup z = some .local) (ha : EP' X W [a, b, c] ms)
    (hw : swappedStores [.Tuple [.Name x px, .Name y py, .Name z pz] kt pt] (.Tuple [a, b, c] k2 pt2) X.env = pure (some [x, y, z])) (hs : swapsWithSole [.Tuple [.Name x px, .Name y py, .Name z pz] kt pt] (.Tuple [a, b, c] k2 pt2) pos.line X.env = pure false) :
    ES X W (.Assign [.Tuple [.Name x px, .Name y py, .Name z pz] kt pt] (.Tuple [a, b, c] k2 pt2) pos) (mPar [i, j, l] ms) := by
  refine ⟨ps_mono (ps_par3 hc hN hi hj hl hij hil hjl hx hy hz ha.pa hw hs) fun En σ H h => ?_⟩
  obtain ⟨ρ, F, r0, p⟩ := par_end h
  refine ⟨ρ, F, r0, ?_⟩
  cases em : ms ρ with
  | bad => rw [em] at p; exact p
  | exc c v ρ1 => rw [em] at p; exact p
  | ok ss ρ1 =>
    rw [em] at p
    intro F1 H1 t xs hx
    obtain ⟨q1, q2⟩ := p F1 H1 t xs hx
    match xs, q1 with
    | [u, v, w], _ => exact ⟨u, v, w, rfl, q2⟩
theorem ev_bad : EV X W e mBad := ⟨⟨fun pins s σ H Q I ⟨ρ, F, r0, p⟩ => False.elim p⟩⟩
theorem et_bad : ET X W e (mTru mBad) := ⟨⟨fun pins s σ H Q I ⟨ρ, F, r0, p⟩ => False.elim p⟩⟩
theorem es_bad {st : Stmt} : ES X W st mBadS := ⟨⟨fun pins s σ H En I ⟨ρ, F, r0, p⟩ => False.elim p⟩⟩
end
end VS

set_option Elab.async false
set_option linter.all false
set_option maxRecDepth 100000
set_option maxHeartbeats 4000000
/-! VS 20d: displays of dicts; sorted sets of tuples of ints. -/
namespace VS
open PySem PySem.Spec PyProof.Rows L2
section
variable {k : Kn} {W : WX} {σ : L2.St} {ρ ρ1 : Env} {F F1 H H1 : Hp}
/-- what stands at an address made since, held by nobody -/
theorem Tr.fresh {p : Addr} {o : HO} (t : Tr k σ ρ F H σ ρ1 F1 H1) (hp : H p = none) (nh : ¬ Hd σ ρ1 p) (nf : F1 p = none) : Tr k σ ρ F H σ ρ1 F1 (upd H1 p o) := by
  have ne : ∀ {a : Addr} {u : HO}, H a = some u → a ≠ p := fun {a u} h z => by rw [z, hp] at h; cases h
  have far : ∀ {i : Nat} {s : Sl} {d : D} {a : Addr}, ρ1[i]? = some s → s.con = some d → σ[i]? = some (some (.ref a)) → V.ref a ≠ .ref p := fun {i s d a} h1 h2 h3 z => by
    cases z
    exact nh ⟨i, s, d, h1, h2, h3⟩
  refine ⟨⟨t.rp.len, fun a u h => ?_, fun i s h => ?_, t.rp.disj, t.rp.lkd⟩, fun a u h no => ?_, fun a h => ?_, t.own, t.hld, t.fix, t.lks⟩
  · have n : a ≠ p := fun z => by rw [z, nf] at h; cases h
    rw [upd_ne n]
    exact t.rp.sub a u h
  · have q := t.rp.slot i s h
    cases s with
    | un => trivial
    | fz w => exact q
    | lz w => exact q
    | ow w => obtain ⟨c, h1, h2, h3, h4⟩ := q; exact ⟨c, h1, h2, h3, h4.keep fun _ => far h rfl h1⟩
    | le w => obtain ⟨c, h1, h2, h3, h4⟩ := q; exact ⟨c, h1, h2, h3, h4.keep fun _ => far h rfl h1⟩
    | lk w => obtain ⟨c, h1, h3, h4⟩ := q; exact ⟨c, h1, h3, h4.keep fun _ => far h rfl h1⟩
  · obtain ⟨k1, k2⟩ := t.keep a u h no
    exact ⟨by rw [upd_ne (ne h)]; exact k1, k2⟩
  · by_cases z : a = p
    · rw [z]; exact hp
    · rw [upd_ne z] at h; exact t.dom a h
end
section
variable {X : Cx} {W : WX} {a b c : Expr} {pos : Pos} {ma mb mc : Env → Out Rr}
theorem ev_dic0 : EV X W (.Dict [] [] pos) mDic0 := by
  refine ⟨pe_mono pe_dnewK fun σ H Q ⟨ρ, F, r0, p⟩ q hq => p F _ (Tr.grow r0 (upd_grow0 hq) (sub_upd0 r0.sub hq)) _ ?_⟩
  refine ⟨q, rfl, hq, fun z => ?_, sub_none r0.sub hq, rfl, q, [], rfl, upd_same, RepK.nil⟩
  obtain ⟨o, ho⟩ := r0.hdSome z
  rw [hq] at ho
  cases ho
theorem ev_dic1 (ha : EV X W a ma) (hb : EV X W b mb) : EV X W (.Dict [some a] [b] pos) (mDic1 ma mb) := by
  refine ⟨pe_mono (pe_disp (pps_cons ha.pe hb.pe pps_nil) rfl rfl (List.cons_ne_nil _ _) (show 1 ≤ 15 by decide)) fun σ H Q ⟨ρ, F, r0, p⟩ q hq => ?_⟩
  have nh0 : ¬ Hd σ ρ q := fun z => by
    obtain ⟨o, ho⟩ := r0.hdSome z
    rw [hq] at ho
    cases ho
  have t0 : Tr (Cx.kn X) σ ρ F H σ ρ F (upd H q (.dK [])) := Tr.grow r0 (upd_grow0 hq) (sub_upd0 r0.sub hq)
  have p : Pv (Cx.kn X) W σ ρ F H ((ma ρ).bind fun r ρ1 => (useR r ρ1).bind fun a ρ2 => (mb ρ2).bind fun q ρ3 => (useR q ρ3).bind fun b ρ4 => if keyOk false a then .ok (.fr (.dic false [(a, b)])) ρ4 else .bad) (fun r ρ' F' H' => ∀ x, RR (Cx.kn X) σ H ρ' F' H' r x → Q x H') := p
  refine ⟨ρ, F, t0.rp, ?_⟩
  cases em : ma ρ with
  | bad => rw [em] at p; exact p
  | exc c v ρ1 => rw [em] at p; exact fun F' H' u => p F' H' (t0.trans u)
  | ok r ρ1 =>
    rw [em] at p
    have p : Pv (Cx.kn X) W σ ρ F H ((useR r ρ1).bind fun a ρ2 => (mb ρ2).bind fun q ρ3 => (useR q ρ3).bind fun b ρ4 => if keyOk false a then .ok (.fr (.dic false [(a, b)])) ρ4 else .bad) (fun r ρ' F' H' => ∀ x, RR (Cx.kn X) σ H ρ' F' H' r x → Q x H') := p
    intro F1 H1 t1 x rr
    cases eu : useR r ρ1 with
    | bad => rw [eu] at p; exact False.elim p
    | exc c v ρ2 => exact (useR_exc eu).elim
    | ok d ρ2 =>
      rw [eu] at p
      have p : Pv (Cx.kn X) W σ ρ F H ((mb ρ2).bind fun q ρ3 => (useR q ρ3).bind fun b ρ4 => if keyOk false d then .ok (.fr (.dic false [(d, b)])) ρ4 else .bad) (fun r ρ' F' H' => ∀ x, RR (Cx.kn X) σ H ρ' F' H' r x → Q x H') := p
      obtain ⟨F2, t2, v2⟩ := use_ok t0.rp t1 rr eu
      refine ⟨ρ2, F2, t2.rp, ?_⟩
      cases em2 : mb ρ2 with
      | bad => rw [em2] at p; exact p
      | exc c v ρ3 => rw [em2] at p; exact fun F' H' u => p F' H' ((t0.trans t2).trans u)
      | ok r' ρ3 =>
        rw [em2] at p
        have p : Pv (Cx.kn X) W σ ρ F H ((useR r' ρ3).bind fun b ρ4 => if keyOk false d then .ok (.fr (.dic false [(d, b)])) ρ4 else .bad) (fun r ρ' F' H' => ∀ x, RR (Cx.kn X) σ H ρ' F' H' r x → Q x H') := p
        intro F3 H3 t3 y rr3
        cases eu2 : useR r' ρ3 with
        | bad => rw [eu2] at p; exact False.elim p
        | exc c v ρ4 => exact (useR_exc eu2).elim
        | ok e ρ4 =>
          rw [eu2] at p
          obtain ⟨F4, t4, v4⟩ := use_ok t2.rp t3 rr3 eu2
          have p : Pv (Cx.kn X) W σ ρ F H (if keyOk false d = true then Out.ok (Rr.fr (.dic false [(d, e)])) ρ4 else .bad) (fun r ρ' F' H' => ∀ x, RR (Cx.kn X) σ H ρ' F' H' r x → Q x H') := p
          obtain ⟨k1, k2⟩ := t2.keep q _ upd_same fun z => nh0 z.hd
          have nh2 : ¬ Hd σ ρ2 q := fun z => by
            rcases t2.hld q z with z | z
            · exact nh0 z
            · rw [upd_same] at z; cases z
          obtain ⟨k3, k4⟩ := t4.keep q _ k1 fun z => nh2 z.hd
          have nh4 : ¬ Hd σ ρ4 q := fun z => by
            rcases t4.hld q z with z | z
            · exact nh2 z
            · rw [k1] at z; cases z
          have nf : F4 q = none := by rw [k4, k2]; exact sub_none r0.sub hq
          refine ⟨k3, ?_⟩
          by_cases z : keyOk false d = true
          · rw [if_pos z] at p
            obtain ⟨w, rfl⟩ := key_of_ok z
            have v2' : RepP (Cx.kn X) F2 H1 (kD w) x := RepV.peek t2.rp.sub v2
            have ex := rep_key v2'
            subst ex
            refine ⟨[(w, y)], rfl, by show 1 ≤ 15; decide, ?_⟩
            exact p F4 _ (((t0.trans t2).trans t4).fresh hq nh4 nf) _ ⟨q, rfl, hq, nh4, nf, rfl, q, _, rfl, upd_same, RepK.cons v4 RepK.nil⟩
          · rw [if_neg z] at p
            exact False.elim p
end
/-! ### sorted(set(..)) -/
theorem codeI_eq : ∀ ns : List Int, codeI ns = TS.code 1000 ns
  | [] => rfl
  | d :: r => by
    show d * 1000 ^ r.length + codeI r = d * 1000 ^ r.length + TS.code 1000 r
    rw [codeI_eq r]
theorem code_inj {B : Int} : ∀ {r q : List Int}, r.length = q.length → TS.Bd B r → TS.Bd B q → TS.code B r = TS.code B q → r = q
  | [], [], _, _, _, _ => rfl
  | [], _ :: _, h, _, _, _ => by cases h
  | _ :: _, [], h, _, _, _ => by cases h
  | d :: r, e :: q, h, h1, h2, hc => by
    have hl : r.length = q.length := by simpa using h
    have de : d = e := by
      rcases Int.lt_trichotomy d e with z | z | z
      · have := TS.code_lt hl h1.tail h2.tail z
        omega
      · exact z
      · have := TS.code_lt hl.symm h2.tail h1.tail z
        omega
    subst de
    rw [code_inj hl h1.tail h2.tail]
    have e1 : d * B ^ r.length + TS.code B r = d * B ^ q.length + TS.code B q := hc
    rw [hl] at e1
    omega
/-- rows alike in form -/
def RowOk (n : Nat) (r : List Int) : Prop := r.length = n ∧ TS.Bd 1000 r
theorem codeI_inj {n : Nat} {r q : List Int} (h1 : RowOk n r) (h2 : RowOk n q) (h : codeI r = codeI q) : r = q := by
  rw [codeI_eq, codeI_eq] at h
  exact code_inj (h1.1.trans h2.1.symm) h1.2 h2.2 h
theorem insT_mem {n : Nat} {x : List Int} (hx : RowOk n x) : ∀ {l : List (List Int)}, (∀ r ∈ l, RowOk n r) → ∀ z, z ∈ insT x l ↔ z = x ∨ z ∈ l
  | [], _, z => by simp [insT]
  | y :: l, h, z => by
    unfold insT
    by_cases c1 : codeI x < codeI y
    · rw [if_pos c1, List.mem_cons]
    · rw [if_neg c1]
      by_cases c2 : codeI x = codeI y
      · rw [if_pos c2]
        have e := codeI_inj hx (h y List.mem_cons_self) c2
        subst e
        simp
      · rw [if_neg c2, List.mem_cons, insT_mem hx (fun r hr => h r (List.mem_cons_of_mem _ hr)), List.mem_cons]
        constructor
        · rintro (a | a | a)
          · exact .inr (.inl a)
          · exact .inl a
          · exact .inr (.inr a)
        · rintro (a | a | a)
          · exact .inr (.inl a)
          · exact .inl a
          · exact .inr (.inr a)
theorem insT_sorted {n : Nat} {x : List Int} (hx : RowOk n x) : ∀ {l : List (List Int)}, (∀ r ∈ l, RowOk n r) → l.Pairwise (fun a b => codeI a < codeI b) → (insT x l).Pairwise fun a b => codeI a < codeI b
  | [], _, _ => List.pairwise_singleton _ _
  | y :: l, h, hs => by
    obtain ⟨h1, h2⟩ := List.pairwise_cons.mp hs
    unfold insT
    by_cases c1 : codeI x < codeI y
    · rw [if_pos c1]
      refine List.pairwise_cons.mpr ⟨fun z hz => ?_, hs⟩
      rcases List.mem_cons.mp hz with rfl | hz
      · exact c1
      · exact Int.lt_trans c1 (h1 z hz)
    · rw [if_neg c1]
      by_cases c2 : codeI x = codeI y
      · rw [if_pos c2]
        exact hs
      · rw [if_neg c2]
        have hl : ∀ r ∈ l, RowOk n r := fun r hr => h r (List.mem_cons_of_mem _ hr)
        refine List.pairwise_cons.mpr ⟨fun z hz => ?_, insT_sorted hx hl h2⟩
        rcases (insT_mem hx hl z).mp hz with rfl | hz
        · omega
        · exact h1 z hz
theorem sortT_ok {n : Nat} : ∀ {l : List (List Int)}, (∀ r ∈ l, RowOk n r) → (∀ z, z ∈ sortT l ↔ z ∈ l) ∧ (sortT l).Pairwise fun a b => codeI a < codeI b
  | [], _ => ⟨fun z => Iff.rfl, List.Pairwise.nil⟩
  | x :: l, h => by
    obtain ⟨h1, h2⟩ := sortT_ok (l := l) fun r hr => h r (List.mem_cons_of_mem _ hr)
    have hx := h x List.mem_cons_self
    have hl : ∀ r ∈ sortT l, RowOk n r := fun r hr => h r (List.mem_cons_of_mem _ ((h1 r).mp hr))
    refine ⟨fun z => ?_, insT_sorted hx hl h2⟩
    show z ∈ insT x (sortT l) ↔ _
    rw [insT_mem hx hl, h1, List.mem_cons]
theorem asc_uniq : ∀ {l m : List (List Int)}, l.Pairwise (fun a b => codeI a < codeI b) → m.Pairwise (fun a b => codeI a < codeI b) → (∀ z, z ∈ l ↔ z ∈ m) → l = m
  | [], [], _, _, _ => rfl
  | [], b :: m, _, _, h => by have := (h b).mpr List.mem_cons_self; simp at this
  | a :: l, [], _, _, h => by have := (h a).mp List.mem_cons_self; simp at this
  | a :: l, b :: m, h1, h2, h => by
    obtain ⟨p1, p2⟩ := List.pairwise_cons.mp h1
    obtain ⟨q1, q2⟩ := List.pairwise_cons.mp h2
    have e : a = b := by
      rcases List.mem_cons.mp ((h a).mp List.mem_cons_self) with e | ha
      · exact e
      · rcases List.mem_cons.mp ((h b).mpr List.mem_cons_self) with e | hb
        · exact e.symm
        · have x1 := q1 a ha
          have x2 := p1 b hb
          omega
    subst e
    rw [asc_uniq p2 q2 fun z => ?_]
    have hz := h z
    rw [List.mem_cons, List.mem_cons] at hz
    constructor
    · intro hm
      rcases hz.mp (.inr hm) with e | e
      · have := p1 z hm
        rw [e] at this
        omega
      · exact e
    · intro hm
      rcases hz.mpr (.inr hm) with e | e
      · have := q1 z hm
        rw [e] at this
        omega
      · exact e
theorem rowsI_ok {k : Kn} {F : Hp} {n : Nat} : ∀ {l : List D} {rs : List (List Int)} {xs : List V}, rowsI n l = some rs → RepL k F l xs → ∃ ks : List (Addr × List Int), xs = (ks.map fun p => V.ref p.1) ∧ ks.map (·.2) = rs ∧ (∀ p ∈ ks, SqT k.K F p.1 (p.2.map V.int)) ∧ ∀ r ∈ rs, RowOk n r
  | [], rs, xs, e, h => by
    cases e
    unfold RepL at h
    exact ⟨[], h, rfl, fun p hp => by simp at hp, fun r hr => by simp at hr⟩
  | d :: l, rs, xs, e, h => by
    cases d with
    | tup a =>
      obtain ⟨ns, e1, e2⟩ := Option.bind_eq_some_iff.mp (show ((ints? a).bind fun ns => if (Nat.beq ns.length n && ns.all (fun i => decide (0 ≤ i) && decide (i < 1000))) = true then (rowsI n l).map (ns :: ·) else none) = some rs from e)
      obtain ⟨z, e3⟩ := if_some e2
      obtain ⟨qs, e4, rfl⟩ := Option.map_eq_some_iff.mp e3
      unfold RepL at h
      obtain ⟨x, r, rfl, hx, h⟩ := h
      unfold RepV at hx
      obtain ⟨t, ys, rfl, h1, h2⟩ := hx
      obtain ⟨ey, _⟩ := ints_rep e1 h2
      subst ey
      obtain ⟨ks, rfl, g1, g2, g3⟩ := rowsI_ok e4 h
      obtain ⟨z1, z2⟩ := Bool.and_eq_true_iff.mp z
      refine ⟨(t, ns) :: ks, rfl, by rw [List.map_cons, g1], fun p hp => ?_, fun r hr => ?_⟩
      · rcases List.mem_cons.mp hp with rfl | hp
        · exact h1
        · exact g2 p hp
      · rcases List.mem_cons.mp hr with rfl | hr
        · refine ⟨Nat.eq_of_beq_eq_true z1, fun m hm => ?_⟩
          have := List.all_eq_true.mp z2 m hm
          obtain ⟨b1, b2⟩ := Bool.and_eq_true_iff.mp this
          exact ⟨of_decide_eq_true b1, of_decide_eq_true b2⟩
        · exact g3 r hr
    | _ => cases e
theorem rep_rows {k : Kn} {F : Hp} : ∀ (L : List (Addr × List Int)), (∀ p ∈ L, SqT k.K F p.1 (p.2.map V.int)) → RepL k F ((L.map (·.2)).map fun r => D.tup (r.map .int)) (L.map fun p => V.ref p.1)
  | [], _ => RepL.nil
  | p :: L, h => by
    refine RepL.cons ?_ (rep_rows L fun q hq => h q (List.mem_cons_of_mem _ hq))
    unfold RepV
    exact ⟨p.1, _, rfl, h p List.mem_cons_self, repL_ints _⟩
section
variable {X : Cx} {W : WX} {a : Expr} {pos q p p2 : Pos} {ma : Env → Out Rr}
theorem ev_sset (hc : X.calm = true) (hu : X.A.units + 64 < cLine) (hg : Gl X "sorted") (hm : X.mg "sorted" = none) (hg2 : Gl X "set") (hm2 : X.mg "set" = none) (ha : EV X W a ma)
    (hs : starEach [a] X.env = (false, eval a X.env) :: starEach [] X.env) : EV X W (.Call (.Name "sorted" p) [.Call (.Name "set" p2) [a] [] q] [] pos) (mOne ssetF ma) := by
  refine ⟨pe_mono (pe_callB (cr_sortedT hc) hg hm PyProof.Rows.boot_sorted (pa_cons (pe_callTy (cr_setOfT hc hu) hg2 hm2 PyProof.Rows.boot_set (pa_cons ha.pe pa_nil hs) (by decide) (by decide) hs rfl) pa_nil rfl) (by decide) (by decide) rfl rfl) fun σ H Q h => ?_⟩
  have h := tV_one h
  obtain ⟨ρ, F, r0, p⟩ := h
  refine ⟨ρ, F, r0, ?_⟩
  cases em : ma ρ with
  | bad => rw [em] at p; exact p
  | exc c v ρ1 => rw [em] at p; exact p
  | ok r ρ1 =>
    rw [em] at p
    intro F1 H1 t x rr
    obtain ⟨F2, d, w, sF, r1, e, go⟩ := rP1 (p F1 H1 t x rr)
    cases d with
    | lst l =>
      cases l with
      | nil => cases e
      | cons d l =>
        cases d with
        | tup a0 =>
          obtain ⟨rs, e1, e2⟩ := Option.bind_eq_some_iff.mp (show ((rowsI a0.length (.tup a0 :: l)).bind fun rs => if (Nat.blt 0 a0.length && Nat.blt rs.length 64) = true then some (Vr.fr (.lst ((sortT rs).map fun r => .tup (r.map .int)))) else none) = some w from e)
          obtain ⟨z, ew⟩ := some_if e2
          subst ew
          obtain ⟨z1, z2⟩ := Bool.and_eq_true_iff.mp z
          obtain ⟨p0, xs, rfl, h1, h2⟩ := rep_lst r1
          obtain ⟨ks, rfl, g1, g2, g3⟩ := rowsI_ok e1 h2
          have lk : ks.length = rs.length := by rw [← g1, List.length_map]
          refine ⟨p0, ks, rfl, SqL.of h1, fun q hq => sub_sqT sF (g2 q hq), by rw [lk]; exact Nat.blt_eq.mp z2, fun b L hb hL hA => ?_⟩
          have inL : ∀ q ∈ L, RowOk a0.length q.2 := fun q hq => g3 q.2 (by rw [← g1]; exact List.mem_map_of_mem (hL q hq))
          refine ⟨b, L, a0.length, 1000, rfl, upd_same, fun q hq => sub_sqT (sub_upd0 sF hb) (g2 q (hL q hq)), Nat.blt_eq.mp z1, fun q hq => inL q hq, fun L' c pm nd few pw hcn => ?_⟩
          have hc1 : H1 c = none := by
            by_cases z : c = b
            · rw [z]; exact hb
            · rw [upd_ne z] at hcn; exact hcn
          have eL : L'.map (·.2) = sortT rs := by
            obtain ⟨s1, s2⟩ := sortT_ok g3
            refine asc_uniq ?_ s2 fun z => ?_
            · rw [List.pairwise_map]
              have nd' : L'.Pairwise fun x y => x.2 ≠ y.2 := by
                have := nd
                unfold List.Nodup at this
                rwa [List.pairwise_map] at this
              have both := pw.and nd'
              refine List.Pairwise.imp_of_mem (fun {x y} hx hy hxy => ?_) both
              have hx' := inL x (pm.mem_iff.mp hx)
              have hy' := inL y (pm.mem_iff.mp hy)
              have le : codeI x.2 ≤ codeI y.2 := by rw [codeI_eq, codeI_eq]; exact hxy.1
              have ne : codeI x.2 ≠ codeI y.2 := fun z => hxy.2 (codeI_inj hx' hy' z)
              omega
            · rw [s1]
              constructor
              · intro hz
                obtain ⟨q, hq, rfl⟩ := List.mem_map.mp hz
                rw [← g1]
                exact List.mem_map_of_mem (hL q (pm.mem_iff.mp hq))
              · intro hz
                rw [← g1] at hz
                obtain ⟨q, hq, rfl⟩ := List.mem_map.mp hz
                have hm := hA q hq
                obtain ⟨q', hq', e'⟩ := List.mem_map.mp hm
                exact List.mem_map.mpr ⟨q', pm.mem_iff.mpr hq', e'⟩
          have sub2 : Sub F2 (upd H1 b (SetTO X.prog X.w b L)) := sub_upd0 sF hb
          refine go (.ref c) F2 _ (fun a o ha => ⟨?_, rfl⟩) (sub_upd0 sub2 hcn) ⟨c, rfl, hc1, sub_none sF hc1, rfl, c, _, rfl, upd_same, ?_⟩
          · have n1 : a ≠ c := fun z => by rw [z, hc1] at ha; cases ha
            have n2 : a ≠ b := fun z => by rw [z, hb] at ha; cases ha
            rw [upd_ne n1, upd_ne n2]
            exact ha
          · rw [← eL]
            exact rep_rows L' fun q hq => g2 q (hL q (pm.mem_iff.mp hq))
        | _ => cases e
    | _ => cases e
end
end VS

set_option Elab.async false
set_option linter.all false
set_option maxRecDepth 100000
set_option maxHeartbeats 4000000
/-! VS 21: the check of a program's text against its IR: expressions. -/
namespace VS
open PySem PySem.Spec PyProof.Rows L2
/-- what a text may name -/
structure Ck where
  N : List Str
  fid : Str → Option (Nat × Nat)
  gl : Str → Option D
def noStar : Expr → Bool
  | .Starred _ _ => false
  | _ => true
def noSet : Expr → Bool
  | .Set _ _ _ => false
  | _ => true
def plainB : Expr → Bool
  | .Slice _ _ none _ => false
  | _ => true
/-- tests that the model takes apart otherwise -/
def tstB : Expr → Bool
  | .IfExp _ _ _ _ => false
  | _ => true
def bltN : List Str := ["len", "abs", "int", "bool", "str", "tuple", "list", "sorted", "sum", "min", "max", "all", "any", "range", "isinstance", "zip", "enumerate", "set"]
def kindB (sc : Scope) (x : Str) (k : NameKind) : Bool := match sc.names.lookup x with
  | some k' => k' == k
  | none => false
def visB (sc : Scope) (x : Str) : Bool := kindB sc x .local || (kindB sc x .cell || kindB sc x .free)
def ownB (x : Str) : Bool := !(x == ("__debug__" : Str)) && !(x == ("__classdict__" : Str))
def slotB (N : List Str) (i : Nat) (x : Str) : Bool := match N[i]? with
  | some y => y == x
  | none => false
def varB (g : Ck) (sc : Scope) (i : Nat) (x : Str) : Bool := slotB g.N i x && (visB sc x && ownB x)
/-- a built-in by its name -/
def bltB (sc : Scope) (x y : Str) : Bool := x == y && kindB sc x .globalImplicit
def asB (a : Scope) (x : Str) : Bool := kindB a x .local || kindB a x .cell
def namesB (g : Ck) (a : Scope) : List Nat → List Expr → Bool
  | [], [] => true
  | i :: l, .Name x _ :: es => slotB g.N i x && asB a x && namesB g a l es
  | _, _ => false
def tgB (g : Ck) (a : Scope) : Tg → Expr → Bool
  | .nm i, .Name x _ => slotB g.N i x && asB a x
  | .tp l, .Tuple es _ _ => namesB g a l es
  | _, _ => false
def isTup : Expr → Bool
  | .Tuple _ _ _ => true
  | _ => false
mutual
def D.same : D → D → Bool
  | .non, .non => true
  | .bl a, .bl b => a == b
  | .int a, .int b => a == b
  | .str a, .str b => a == b
  | .tup a, .tup b => D.sames a b
  | .lst a, .lst b => D.sames a b
  | _, _ => false
def D.sames : List D → List D → Bool
  | [], [] => true
  | a :: l, b :: m => a.same b && D.sames l m
  | _, _ => false
end
mutual
theorem same_eq : ∀ {a b : D}, a.same b = true → a = b
  | .non, b, h => by cases b <;> first | rfl | cases h
  | .bl a, b, h => by cases b <;> first | (cases h; done) | skip
                      rw [eq_of_beq (show (a == _) = true from h)]
  | .int a, b, h => by cases b <;> first | (cases h; done) | skip
                       rw [eq_of_beq (show (a == _) = true from h)]
  | .str a, b, h => by cases b <;> first | (cases h; done) | skip
                       rw [eq_of_beq (show (a == _) = true from h)]
  | .tup a, b, h => by cases b <;> first | (cases h; done) | skip
                       rw [sames_eq (show D.sames a _ = true from h)]
  | .lst a, b, h => by cases b <;> first | (cases h; done) | skip
                       rw [sames_eq (show D.sames a _ = true from h)]
  | .rng _ _, b, h => by cases h
  | .dic _ _, b, h => by cases h
  | .scr _, b, h => by cases h
  | .fn _, b, h => by cases h
theorem sames_eq : ∀ {a b : List D}, D.sames a b = true → a = b
  | [], [], _ => rfl
  | [], _ :: _, h => by cases h
  | _ :: _, [], h => by cases h
  | a :: l, b :: m, h => by
    obtain ⟨h1, h2⟩ := Bool.and_eq_true_iff.mp (show (a.same b && D.sames l m) = true from h)
    rw [same_eq h1, sames_eq h2]
end
def bopB : Bop → Operator → Bool
  | .add, .Add => true
  | .sub, .Sub => true
  | .mul, .Mult => true
  | .fdv, .FloorDiv => true
  | .mod, .Mod => true
  | .pow, .Pow => true
  | _, _ => false
def copB : Cop → CmpOp → Bool
  | .eq, .Eq => true
  | .ne, .NotEq => true
  | .lt, .Lt => true
  | .le, .LtE => true
  | .gt, .Gt => true
  | .ge, .GtE => true
  | .is, .Is => true
  | .isn, .IsNot => true
  | .isin, .In => true
  | .nin, .NotIn => true
  | _, _ => false
theorem bopB_eq {o : Bop} {p : Operator} (h : bopB o p = true) : p = bopO o := by cases o <;> cases p <;> first | rfl | cases h
theorem copB_eq {o : Cop} {p : CmpOp} (h : copB o p = true) : p = copO o := by cases o <;> cases p <;> first | rfl | cases h
def conB : D → Const → Bool
  | .non, .none => true
  | .bl a, .bool b => a == b
  | .int a, .int b => a == b
  | .str a, .str b => a == b
  | _, _ => false
def tyB (sc : Scope) : Ty → Expr → Bool
  | t, .Name x _ => bltB sc x (Str.ofString (tyN t))
  | _, _ => false
def tysB (sc : Scope) : List Ty → List Expr → Bool
  | [], [] => true
  | t :: l, e :: es => tyB sc t e && tysB sc l es
  | _, _ => false
def natsB : List Nat → List Nat → Bool
  | [], [] => true
  | a :: l, b :: m => Nat.beq a b && natsB l m
  | _, _ => false
theorem natsB_eq : ∀ {a b : List Nat}, natsB a b = true → a = b
  | [], [], _ => rfl
  | [], _ :: _, h => by cases h
  | _ :: _, [], h => by cases h
  | a :: l, b :: m, h => by
    obtain ⟨h1, h2⟩ := Bool.and_eq_true_iff.mp (show (Nat.beq a b && natsB l m) = true from h)
    rw [Nat.eq_of_beq_eq_true h1, natsB_eq h2]
def ixOf (x : Str) : List Str → Nat → Option Nat
  | [], _ => none
  | y :: l, n => if x == y then some n else ixOf x l (n + 1)
/-- a block's own names and their slots -/
def ownOf (N : List Str) : List (Str × NameKind) → List (Str × Nat)
  | [] => []
  | (x, k) :: l => if k == .local || k == .cell then (match ixOf x N 0 with
    | some i => (x, i) :: ownOf N l
    | none => ownOf N l) else ownOf N l
def fidB (g : Ck) (x : Str) (f n : Nat) : Bool := match g.fid x with
  | some (f', n') => Nat.beq f' f && Nat.beq n' n
  | none => false
def glB (g : Ck) (x : Str) (d : D) : Bool := match g.gl x with
  | some d' => d'.same d
  | none => false
mutual
def chkE (g : Ck) : Nat → Scope → Ex → Expr → Bool
  | n + 1, sc, .bad, _ => true
  | n + 1, sc, .var i, .Name x _ => varB g sc i x
  | n + 1, sc, .con d, .Constant c _ _ => conB d c
  | n + 1, sc, .glo d, .Name x _ => kindB sc x .globalImplicit && glB g x d && !(x == ("__debug__" : Str))
  | n + 1, sc, .bin o a b, .BinOp l p r _ => bopB o p && chkE g n sc a l && chkE g n sc b r
  | n + 1, sc, .neg a, .UnaryOp .USub e _ => chkE g n sc a e
  | n + 1, sc, .cmp o a b, .Compare l [p] [r] _ => copB o p && !behindInMarks p r && chkE g n sc a l && chkE g n sc b r
  | n + 1, sc, .chain o1 o2 a b c, .Compare l [p, q] [r, t] _ => copB o1 p && copB o2 q && !lastMarks [p, q] [r, t] && chkE g n sc a l && chkE g n sc b r && chkE g n sc c t
  | n + 1, sc, .band l, .BoolOp .And es _ => !l.isEmpty && chkBs g n sc l es
  | n + 1, sc, .bor l, .BoolOp .Or es _ => !l.isEmpty && chkBs g n sc l es
  | n + 1, sc, .bnot a, .UnaryOp .Not e _ => tstB e && chkE g n sc a e
  | n + 1, sc, .ite c a b, .IfExp t x y _ => tstB t && chkE g n sc c t && chkE g n sc a x && chkE g n sc b y
  | n + 1, sc, .tup l, .Tuple es _ _ => chkEs g n sc l es
  | n + 1, sc, .lst l, .List es _ => chkEs g n sc l es
  | n + 1, sc, .dic0, .Dict [] [] _ => true
  | n + 1, sc, .dic1 a b, .Dict [some x] [y] _ => chkE g n sc a x && chkE g n sc b y
  | n + 1, sc, .sset a, .Call (.Name f _) [.Call (.Name h _) [x] [] _] [] _ => bltB sc f "sorted" && bltB sc h "set" && noStar x && chkE g n sc a x
  | n + 1, sc, .ix a i, .Subscript x y _ => plainB y && chkE g n sc a x && chkE g n sc i y
  | n + 1, sc, .sl a lo hi, .Subscript x (.Slice l h none _) _ => chkE g n sc a x && chkO g n sc lo l && chkO g n sc hi h
  | n + 1, sc, .rev a, .Subscript x (.Slice none none (some (.UnaryOp .USub (.Constant (.int 1) _ _) _)) _) _ => chkE g n sc a x
  | n + 1, sc, .isi a [t], .Call (.Name f _) [x, .Name y p] [] _ => bltB sc f "isinstance" && noStar x && tyB sc t (.Name y p) && chkE g n sc a x
  | n + 1, sc, .isi a ts, .Call (.Name f _) [x, .Tuple es _ _] [] _ => bltB sc f "isinstance" && noStar x && (!ts.isEmpty && Nat.ble ts.length 100) && tysB sc ts es && chkE g n sc a x
  | n + 1, sc, .bf f l, .Call (.Name x _) es [] _ => bltB sc x (Str.ofString (bfN f)) && !l.isEmpty && chkEs g n sc l es
  | n + 1, sc, .mf f i l, .Call (.Attribute (.Name x _) name apos) es [] cpos => name == mfN f && varB g sc i x && (apos.endLine == cpos.line) && (Nat.blt l.length 20) && chkEs g n sc l es
  | n + 1, sc, .call f l, .Call (.Name x _) es [] _ => fidB g x f l.length && kindB sc x .globalImplicit && !(x == ("__debug__" : Str)) && chkAs g n sc l es
  | n + 1, sc, .comp e t k it ifs own, .ListComp elt [⟨tg, iter, ifs', 0⟩] scope _ => blkC g.N sc scope (ownOf g.N scope.names) && natsB ((ownOf g.N scope.names).map (·.2)) own && tgB g scope t tg && noSet iter && chkI g n sc k it tg iter && chkF g n (relS scope sc) ifs ifs' && chkE g n (relS scope sc) e elt
  | n + 1, sc, .comp2 e t k it ifs t2 k2 it2 ifs2 own, .ListComp elt [⟨tg, iter, ifs', 0⟩, ⟨tg2, iter2, ifs2', 0⟩] scope _ =>
    blkC g.N sc scope (ownOf g.N scope.names) && natsB ((ownOf g.N scope.names).map (·.2)) own && subB (tgS t2) own && tgB g scope t tg && noSet iter && chkI g n sc k it tg iter && chkF g n (relS scope sc) ifs ifs' &&
      tgB g scope t2 tg2 && noSet iter2 && chkI g n (relS scope sc) k2 it2 tg2 iter2 && chkF g n (relS scope sc) ifs2 ifs2' && chkE g n (relS scope sc) e elt
  | _, _, _, _ => false
def chkEs (g : Ck) : Nat → Scope → List Ex → List Expr → Bool
  | n + 1, sc, [], [] => true
  | n + 1, sc, a :: l, e :: es => noStar e && chkE g n sc a e && chkEs g n sc l es
  | _, _, _, _ => false
/-- of and, or -/
def chkBs (g : Ck) : Nat → Scope → List Ex → List Expr → Bool
  | n + 1, sc, [], [] => true
  | n + 1, sc, a :: l, e :: es => tstB e && chkE g n sc a e && chkBs g n sc l es
  | _, _, _, _ => false
/-- a clause's tests -/
def chkF (g : Ck) : Nat → Scope → List Ex → List Expr → Bool
  | n + 1, sc, [], [] => true
  | n + 1, sc, [a], [e] => tstB e && chkE g n sc a e
  | _, _, _, _ => false
def chkO (g : Ck) : Nat → Scope → Option Ex → Option Expr → Bool
  | n + 1, sc, none, none => true
  | n + 1, sc, some a, some e => chkE g n sc a e
  | _, _, _, _ => false
def chkAs (g : Ck) : Nat → Scope → List Ex → List Expr → Bool
  | n + 1, sc, [], [] => true
  | n + 1, sc, .lend i :: l, .Name x _ :: es => varB g sc i x && chkAs g n sc l es
  | n + 1, sc, .look i :: l, .Name x _ :: es => varB g sc i x && chkAs g n sc l es
  | n + 1, sc, a :: l, e :: es => noStar e && chkE g n sc a e && chkAs g n sc l es
  | _, _, _, _ => false
def chkI (g : Ck) : Nat → Scope → Ik → List Ex → Expr → Expr → Bool
  | n + 1, sc, .val, [a], _, e => chkE g n sc a e
  | n + 1, sc, .rng, l, _, .Call (.Name x _) es [] _ => bltB sc x "range" && (Nat.ble 1 l.length && Nat.ble l.length 3) && chkEs g n sc l es
  | n + 1, sc, .enum, [a], tg, .Call (.Name x _) [e] [] _ => bltB sc x "enumerate" && isTup tg && noStar e && chkE g n sc a e
  | n + 1, sc, .zip, l, tg, .Call (.Name x _) es [] _ => bltB sc x "zip" && isTup tg && (Nat.ble 2 l.length && Nat.ble l.length 3) && chkEs g n sc l es
  | _, _, _, _, _, _ => false
end
end VS

set_option Elab.async false
set_option linter.all false
set_option maxRecDepth 100000
set_option maxHeartbeats 4000000
/-! VS 22: the check is sound: expressions. -/
namespace VS
open PySem PySem.Spec PyProof.Rows L2
structure CkE (g : Ck) (lv : Nat) (cl : Cl) (sc sa : Scope) (X : Cx) (W : WX) : Prop where
  calm : X.calm = true
  nd : X.N.Nodup
  N : X.N = g.N
  scope : X.env.scope = sc
  asg : ∀ x, asB sa x = true → Loc sc x ∧ (X.fn x = true ∨ sc.names.lookup x = some .local)
  fn : ∀ x f np, g.fid x = some (f, np) → FnK X lv x np (cl f)
  gl : ∀ x d, g.gl x = some d → GloV X x d
  bl : ∀ x ∈ bltN, X.mg x = none
  room : Room lv X.A
  hu : X.A.units + 64 < cLine
  tk : Takes X W
theorem kindB_ok {sc : Scope} {x : Str} {k : NameKind} (h : kindB sc x k = true) : sc.names.lookup x = some k := by
  unfold kindB at h
  cases e : sc.names.lookup x with
  | none => rw [e] at h; cases h
  | some k' => rw [e] at h; rw [eq_of_beq h]
theorem visB_ok {sc : Scope} {x : Str} (h : visB sc x = true) : Vis sc x := by
  unfold visB at h
  rcases Bool.or_eq_true_iff.mp h with h | h
  · exact .inl (kindB_ok h)
  · rcases Bool.or_eq_true_iff.mp h with h | h
    · exact .inr (.inl (kindB_ok h))
    · exact .inr (.inr (kindB_ok h))
theorem slotB_ok {N : List Str} {i : Nat} {x : Str} (h : slotB N i x = true) : N[i]? = some x := by
  unfold slotB at h
  cases e : N[i]? with
  | none => rw [e] at h; cases h
  | some y => rw [e] at h; rw [eq_of_beq h]
theorem not_t {b : Bool} (h : (!b) = true) : b = false := by cases b <;> first | rfl | cases h
theorem ownB_ok {x : Str} (h : ownB x = true) : (x == ("__debug__" : Str)) = false ∧ (x == ("__classdict__" : Str)) = false := by
  obtain ⟨h1, h2⟩ := Bool.and_eq_true_iff.mp h
  exact ⟨not_t h1, not_t h2⟩
section
variable {es : List Expr} {e : Expr} {env : PySem.Env} {pos : Pos}
theorem star1 (h : noStar e = true) : starEach (e :: es) env = (false, eval e env) :: starEach es env := by cases e <;> first | rfl | cases h
def noStars : List Expr → Bool
  | [] => true
  | e :: es => noStar e && noStars es
theorem stars_any : ∀ {es : List Expr}, noStars es = true → (backTo pos (starEach es env)).any (·.1) = false
  | [], _ => rfl
  | e :: es, h => by
    obtain ⟨h1, h2⟩ := Bool.and_eq_true_iff.mp h
    rw [star1 h1]
    show (false || (backTo pos (starEach es env)).any (·.1)) = false
    rw [stars_any h2]
    rfl
theorem stars_all : ∀ {es : List Expr}, noStars es = true → (backTo pos (starEach es env)).all (fun x => !x.1) = true
  | [], _ => rfl
  | e :: es, h => by
    obtain ⟨h1, h2⟩ := Bool.and_eq_true_iff.mp h
    rw [star1 h1]
    show (true && (backTo pos (starEach es env)).all (fun x => !x.1)) = true
    rw [stars_all h2]
    rfl
end
theorem mTru_and (ma mr : Env → Out Rr) : mTru (mAndV ma mr) = mAndT (mTru ma) (mTru mr) := by
  funext ρ
  show ((ma ρ).bind fun r ρ1 => (truR r ρ1).bind fun b ρ2 => match b with
    | true => mr ρ2
    | false => .ok r ρ2).bind (fun r ρ1 => truR r ρ1) = ((ma ρ).bind fun r ρ1 => truR r ρ1).bind fun b ρ1 => match b with
      | true => mTru mr ρ1
      | false => .ok false ρ1
  cases ma ρ with
  | bad => rfl
  | exc c v ρ1 => rfl
  | ok r ρ1 =>
    show ((truR r ρ1).bind fun b ρ2 => match b with
      | true => mr ρ2
      | false => .ok r ρ2).bind (fun r ρ1 => truR r ρ1) = (truR r ρ1).bind fun b ρ1 => match b with
        | true => mTru mr ρ1
        | false => .ok false ρ1
    cases e : truR r ρ1 with
    | bad => rfl
    | exc c v ρ2 => rfl
    | ok b ρ2 =>
      cases b with
      | true => rfl
      | false =>
        show truR r ρ2 = .ok false ρ2
        obtain ⟨rfl, d, h1, h2⟩ := truR_some e
        unfold truR
        rw [h1, Option.bind_some, h2]
theorem mTru_or (ma mr : Env → Out Rr) : mTru (mOrV ma mr) = mOrT (mTru ma) (mTru mr) := by
  funext ρ
  show ((ma ρ).bind fun r ρ1 => (truR r ρ1).bind fun b ρ2 => match b with
    | true => .ok r ρ2
    | false => mr ρ2).bind (fun r ρ1 => truR r ρ1) = ((ma ρ).bind fun r ρ1 => truR r ρ1).bind fun b ρ1 => match b with
      | true => .ok true ρ1
      | false => mTru mr ρ1
  cases ma ρ with
  | bad => rfl
  | exc c v ρ1 => rfl
  | ok r ρ1 =>
    show ((truR r ρ1).bind fun b ρ2 => match b with
      | true => .ok r ρ2
      | false => mr ρ2).bind (fun r ρ1 => truR r ρ1) = (truR r ρ1).bind fun b ρ1 => match b with
        | true => .ok true ρ1
        | false => mTru mr ρ1
    cases e : truR r ρ1 with
    | bad => rfl
    | exc c v ρ2 => rfl
    | ok b ρ2 =>
      cases b with
      | false => rfl
      | true =>
        show truR r ρ2 = .ok true ρ2
        obtain ⟨rfl, d, h1, h2⟩ := truR_some e
        unfold truR
        rw [h1, Option.bind_some, h2]
theorem mTru_not (ma : Env → Out Rr) : mTru (mNotV ma) = mNotT (mTru ma) := by
  funext ρ
  show ((ma ρ).bind fun r ρ1 => (truR r ρ1).bind fun b ρ2 => Out.ok (Rr.fz (.bl (!b))) ρ2).bind (fun r ρ1 => truR r ρ1) = ((ma ρ).bind fun r ρ1 => truR r ρ1).bind fun b ρ1 => .ok (!b) ρ1
  cases ma ρ with
  | bad => rfl
  | exc c v ρ1 => rfl
  | ok r ρ1 =>
    show ((truR r ρ1).bind fun b ρ2 => Out.ok (Rr.fz (.bl (!b))) ρ2).bind (fun r ρ1 => truR r ρ1) = (truR r ρ1).bind fun b ρ1 => .ok (!b) ρ1
    cases e : truR r ρ1 with
    | bad => rfl
    | exc c v ρ2 => rfl
    | ok b ρ2 => rfl
structure OkN (g : Ck) (lv : Nat) (cl : Cl) (n : Nat) : Prop where
  e : ∀ {sc sa X W ir x}, CkE g lv cl sc sa X W → chkE g n sc ir x = true → EV X W x (evE cl ir)
  t : ∀ {sc sa X W ir x}, CkE g lv cl sc sa X W → tstB x = true → chkE g n sc ir x = true → ET X W x (mTru (evE cl ir))
  es : ∀ {sc sa X W l x}, CkE g lv cl sc sa X W → chkEs g n sc l x = true → EL X W x (evEs cl l) ∧ EU X W x (evUs cl l) ∧ EP' X W x (evPs cl l) ∧ noStars x = true ∧ x.length = l.length
  bs : ∀ {sc sa X W l x pos}, CkE g lv cl sc sa X W → l ≠ [] → chkBs g n sc l x = true → EV X W (.BoolOp .And x pos) (evAnd cl l) ∧ EV X W (.BoolOp .Or x pos) (evOr cl l) ∧ EW X W (.BoolOp .And x pos) (mTru (evAnd cl l)) ∧ EW X W (.BoolOp .Or x pos) (mTru (evOr cl l))
  f : ∀ {sc sa X W l x}, CkE g lv cl sc sa X W → chkF g n sc l x = true → EPT X W x (evIf cl l)
  o : ∀ {sc sa X W l x}, CkE g lv cl sc sa X W → chkO g n sc l x = true → EO X W x (evO cl l)
  as : ∀ {sc sa X W l x}, CkE g lv cl sc sa X W → chkAs g n sc l x = true → EA X W x (evAs cl l) ∧ noStars x = true ∧ x.length = l.length
  i : ∀ {sc sa X W k l tg x}, CkE g lv cl sc sa X W → chkI g n sc k l tg x = true → EI X W tg x k (evEs cl l)
theorem ok_zero {g : Ck} {lv : Nat} {cl : Cl} : OkN g lv cl 0 := by
  constructor
  · intro _ _ _ _ _ _ _ h; cases h
  · intro _ _ _ _ _ _ _ _ h; cases h
  · intro _ _ _ _ _ _ _ h; cases h
  · intro _ _ _ _ _ _ _ _ _ h; cases h
  · intro _ _ _ _ _ _ _ h; cases h
  · intro _ _ _ _ _ _ _ h; cases h
  · intro _ _ _ _ _ _ _ h; cases h
  · intro _ _ _ _ _ _ _ _ _ h; cases h
section
variable {g : Ck} {lv n : Nat} {cl : Cl} {sc sa : Scope} {X : Cx} {W : WX}
theorem CkE.gl_ (c : CkE g lv cl sc sa X W) {x : Str} (h : kindB sc x .globalImplicit = true) : Gl X x := by
  show X.env.scope.names.lookup x = some .globalImplicit
  rw [c.scope]
  exact kindB_ok h
theorem CkE.var (c : CkE g lv cl sc sa X W) {i : Nat} {x : Str} (h : varB g sc i x = true) : X.N[i]? = some x ∧ Vis X.env.scope x ∧ (x == ("__debug__" : Str)) = false ∧ (x == ("__classdict__" : Str)) = false := by
  obtain ⟨h1, h2⟩ := Bool.and_eq_true_iff.mp h
  obtain ⟨h2, h3⟩ := Bool.and_eq_true_iff.mp h2
  rw [c.N, c.scope]
  exact ⟨slotB_ok h1, visB_ok h2, (ownB_ok h3).1, (ownB_ok h3).2⟩
theorem CkE.blt (c : CkE g lv cl sc sa X W) {x y : Str} (h : bltB sc x y = true) (m : y ∈ bltN) : x = y ∧ Gl X y ∧ X.mg y = none := by
  obtain ⟨h1, h2⟩ := Bool.and_eq_true_iff.mp h
  have e := eq_of_beq h1
  subst e
  exact ⟨rfl, c.gl_ h2, c.bl _ m⟩
theorem CkE.names (c : CkE g lv cl sc sa X W) : ∀ {l : List Nat} {es : List Expr}, namesB g sa l es = true → NameEs X es l
  | [], [], _ => .nil
  | i :: l, .Name x p :: es, h => by
    obtain ⟨h1, h2⟩ := Bool.and_eq_true_iff.mp (show (slotB g.N i x && asB sa x && namesB g sa l es) = true from h)
    obtain ⟨h1, h3⟩ := Bool.and_eq_true_iff.mp h1
    obtain ⟨a1, a2⟩ := c.asg x h3
    exact .cons (by rw [c.N]; exact slotB_ok h1) (by rw [c.scope]; exact a1) (by rw [c.scope]; exact a2) (c.names h2)
  | [], _ :: _, h => by cases h
  | _ :: _, [], h => by cases h
  | i :: l, e :: es, h => by
    cases e with
    | Name x p =>
      obtain ⟨h1, h2⟩ := Bool.and_eq_true_iff.mp (show (slotB g.N i x && asB sa x && namesB g sa l es) = true from h)
      obtain ⟨h1, h3⟩ := Bool.and_eq_true_iff.mp h1
      obtain ⟨a1, a2⟩ := c.asg x h3
      exact .cons (by rw [c.N]; exact slotB_ok h1) (by rw [c.scope]; exact a1) (by rw [c.scope]; exact a2) (c.names h2)
    | _ => cases h
theorem names_len {X : Cx} : ∀ {es : List Expr} {l : List Nat}, NameEs X es l → (assignEach es X.env).length = l.length ∧ (assignEach es X.env).findIdx? (·.1) = none
  | _, _, .nil => ⟨rfl, rfl⟩
  | _, _, .cons _ _ _ h => by
    obtain ⟨h1, h2⟩ := names_len h
    refine ⟨congrArg (· + 1) h1, ?_⟩
    show (((false, _) :: assignEach _ X.env : List (Bool × (Value → Sem Unit))).findIdx? (·.1)) = none
    rw [List.findIdx?_cons]
    show Option.map (· + 1) ((assignEach _ X.env).findIdx? (·.1)) = none
    rw [h2]
    rfl
theorem CkE.tg (c : CkE g lv cl sc sa X W) {t : Tg} {e : Expr} (h : tgB g sa t e = true) : PG X e (gT X.K t) := by
  cases t with
  | nm i =>
    cases e with
    | Name x p =>
      obtain ⟨h1, h2⟩ := Bool.and_eq_true_iff.mp (show (slotB g.N i x && asB sa x) = true from h)
      obtain ⟨a1, a2⟩ := c.asg x h2
      exact pg_name c.nd (by rw [c.N]; exact slotB_ok h1) (by rw [c.scope]; exact a1) (by rw [c.scope]; exact a2)
    | _ => cases h
  | tp l =>
    cases e with
    | Tuple es k p =>
      have hn := c.names (show namesB g sa l es = true from h)
      obtain ⟨h1, h2⟩ := names_len hn
      exact pg_tup c.calm (pgs_names c.nd hn) h1 h2
    | _ => cases h
theorem tys_ok (c : CkE g lv cl sc sa X W) {t : Ty} {e : Expr} (h : tyB sc t e = true) : TyE X e t := by
  cases e with
  | Name x p =>
    have m : Str.ofString (tyN t) ∈ bltN := by cases t <;> decide
    obtain ⟨rfl, h1, h2⟩ := c.blt (show bltB sc x (Str.ofString (tyN t)) = true from h) m
    refine ⟨pe_tyName h1 h2 ?_ ?_ ?_⟩
    · cases t <;> decide +kernel
    · cases t <;> decide
    · cases t <;> decide
  | _ => cases h
theorem tysE_ok (c : CkE g lv cl sc sa X W) : ∀ {ts : List Ty} {es : List Expr}, tysB sc ts es = true → TyEs X es ts
  | [], [], _ => .nil
  | [], _ :: _, h => by cases h
  | _ :: _, [], h => by cases h
  | t :: ts, e :: es, h => by
    obtain ⟨h1, h2⟩ := Bool.and_eq_true_iff.mp (show (tyB sc t e && tysB sc ts es) = true from h)
    exact .cons (tys_ok c h1) (star1 (by cases e <;> first | rfl | cases h1)) (tysE_ok c h2)
theorem lk_keep {scope sc : Scope} {x : Str} {k : NameKind} (hk : k ≠ .free) (h : scope.names.lookup x = some k) : (relS scope sc).names.lookup x = some k := lookup_relS_keep hk h
/-- a block's context -/
theorem CkE.blk (c : CkE g lv cl sc sa X W) {scope : Scope} (s : Shared) (H : Hp) (C : Addr) (cls : List (Str × Addr)) (fp : List Addr) : CkE g lv cl (relS scope sc) scope (X.blk s H scope (compEnvC scope cls C X.env) fp) WF := by
  refine ⟨c.calm, c.nd, c.N, ?_, fun x h => ?_, fun x f np e => ⟨(c.fn x f np e).len, (c.fn x f np e).ex⟩, fun x d e => ⟨(c.gl x d e).ex⟩, c.bl, c.room, c.hu, fun u s' ⟨_, _, _, _, _, _, _, _, _, _, _, _, _, _, _, _, w⟩ => False.elim w⟩
  · show relS scope X.env.scope = relS scope sc
    rw [c.scope]
  · rcases Bool.or_eq_true_iff.mp h with h | h
    · have e := kindB_ok h
      exact ⟨.inl (lk_keep (by decide) e), .inr (lk_keep (by decide) e)⟩
    · have e := kindB_ok h
      refine ⟨.inr (lk_keep (by decide) e), .inl ?_⟩
      show (scope.names.lookup x == some .cell) = true
      rw [e]
      rfl
theorem set_ok {e : Expr} {env : PySem.Env} (h : noSet e = true) : ∀ x, foldedSetIterable e env x = pure x := fun x => by cases e <;> first | rfl | cases h
end
end VS

set_option Elab.async false
set_option linter.all false
set_option maxRecDepth 100000
set_option maxHeartbeats 8000000
/-! VS 23: the check is sound: expressions, the step. -/
namespace VS
open PySem PySem.Spec PyProof.Rows L2
theorem and2 {a b : Bool} (h : (a && b) = true) : a = true ∧ b = true := Bool.and_eq_true_iff.mp h
section
variable {g : Ck} {lv n : Nat} {cl : Cl} {sc sa : Scope} {X : Cx} {W : WX}
theorem chkE_split {P : Ex → Expr → Prop} (n : Nat) (sc : Scope)
    (bad : ∀ e, P .bad e)
    (var : ∀ i x p, varB g sc i x = true → P (.var i) (.Name x p))
    (con : ∀ d c k p, conB d c = true → P (.con d) (.Constant c k p))
    (glo : ∀ d x p, (kindB sc x .globalImplicit && glB g x d && !(x == ("__debug__" : Str))) = true → P (.glo d) (.Name x p))
    (bin : ∀ o a b l p r q, (bopB o p && chkE g n sc a l && chkE g n sc b r) = true → P (.bin o a b) (.BinOp l p r q))
    (neg : ∀ a e p, chkE g n sc a e = true → P (.neg a) (.UnaryOp .USub e p))
    (cmp : ∀ o a b l p r q, (copB o p && !behindInMarks p r && chkE g n sc a l && chkE g n sc b r) = true → P (.cmp o a b) (.Compare l [p] [r] q))
    (chain : ∀ o1 o2 a b c l p q r t s, (copB o1 p && copB o2 q && !lastMarks [p, q] [r, t] && chkE g n sc a l && chkE g n sc b r && chkE g n sc c t) = true → P (.chain o1 o2 a b c) (.Compare l [p, q] [r, t] s))
    (band : ∀ l es p, (!l.isEmpty && chkBs g n sc l es) = true → P (.band l) (.BoolOp .And es p))
    (bor : ∀ l es p, (!l.isEmpty && chkBs g n sc l es) = true → P (.bor l) (.BoolOp .Or es p))
    (bnot : ∀ a e p, (tstB e && chkE g n sc a e) = true → P (.bnot a) (.UnaryOp .Not e p))
    (ite : ∀ c a b t x y p, (tstB t && chkE g n sc c t && chkE g n sc a x && chkE g n sc b y) = true → P (.ite c a b) (.IfExp t x y p))
    (tup : ∀ l es k p, chkEs g n sc l es = true → P (.tup l) (.Tuple es k p))
    (lst : ∀ l es p, chkEs g n sc l es = true → P (.lst l) (.List es p))
    (dic0 : ∀ p, P .dic0 (.Dict [] [] p))
    (dic1 : ∀ a b x y p, (chkE g n sc a x && chkE g n sc b y) = true → P (.dic1 a b) (.Dict [some x] [y] p))
    (sset : ∀ a f h x p1 p2 p3 p4, (bltB sc f "sorted" && bltB sc h "set" && noStar x && chkE g n sc a x) = true → P (.sset a) (.Call (.Name f p1) [.Call (.Name h p2) [x] [] p3] [] p4))
    (ix : ∀ a i x y p, (plainB y && chkE g n sc a x && chkE g n sc i y) = true → P (.ix a i) (.Subscript x y p))
    (sl : ∀ a lo hi x l h p q, (chkE g n sc a x && chkO g n sc lo l && chkO g n sc hi h) = true → P (.sl a lo hi) (.Subscript x (.Slice l h none p) q))
    (rev : ∀ a x k p1 p2 p3 p4, chkE g n sc a x = true → P (.rev a) (.Subscript x (.Slice none none (some (.UnaryOp .USub (.Constant (.int 1) k p1) p2)) p3) p4))
    (isi : ∀ a t f x y p p1 p2, (bltB sc f "isinstance" && noStar x && tyB sc t (.Name y p) && chkE g n sc a x) = true → P (.isi a [t]) (.Call (.Name f p1) [x, .Name y p] [] p2))
    (isiT : ∀ a ts f x es k p p1 p2, (bltB sc f "isinstance" && noStar x && (!ts.isEmpty && Nat.ble ts.length 100) && tysB sc ts es && chkE g n sc a x) = true → P (.isi a ts) (.Call (.Name f p1) [x, .Tuple es k p] [] p2))
    (bf : ∀ f l x es p p1, (bltB sc x (Str.ofString (bfN f)) && !l.isEmpty && chkEs g n sc l es) = true → P (.bf f l) (.Call (.Name x p) es [] p1))
    (mf : ∀ f i l x name apos es cpos p, (name == mfN f && varB g sc i x && (apos.endLine == cpos.line) && (Nat.blt l.length 20) && chkEs g n sc l es) = true → P (.mf f i l) (.Call (.Attribute (.Name x p) name apos) es [] cpos))
    (call : ∀ f l x es p p1, (fidB g x f l.length && kindB sc x .globalImplicit && !(x == ("__debug__" : Str)) && chkAs g n sc l es) = true → P (.call f l) (.Call (.Name x p) es [] p1))
    (comp : ∀ e t k it ifs own elt tg iter ifs' scope p, (blkC g.N sc scope (ownOf g.N scope.names) && natsB ((ownOf g.N scope.names).map (·.2)) own && tgB g scope t tg && noSet iter && chkI g n sc k it tg iter && chkF g n (relS scope sc) ifs ifs' && chkE g n (relS scope sc) e elt) = true → P (.comp e t k it ifs own) (.ListComp elt [⟨tg, iter, ifs', 0⟩] scope p))
    (comp2 : ∀ e t k it ifs t2 k2 it2 ifs2 own elt tg iter ifs' tg2 iter2 ifs2' scope p, (blkC g.N sc scope (ownOf g.N scope.names) && natsB ((ownOf g.N scope.names).map (·.2)) own && subB (tgS t2) own && tgB g scope t tg && noSet iter && chkI g n sc k it tg iter && chkF g n (relS scope sc) ifs ifs' &&
      tgB g scope t2 tg2 && noSet iter2 && chkI g n (relS scope sc) k2 it2 tg2 iter2 && chkF g n (relS scope sc) ifs2 ifs2' && chkE g n (relS scope sc) e elt) = true → P (.comp2 e t k it ifs t2 k2 it2 ifs2 own) (.ListComp elt [⟨tg, iter, ifs', 0⟩, ⟨tg2, iter2, ifs2', 0⟩] scope p)) :
    ∀ {ir : Ex} {x : Expr}, chkE g (n + 1) sc ir x = true → P ir x := by
  intro ir x h
  unfold chkE at h
  split at h
  · exact bad _
  · next heq => cases heq; exact var _ _ _ h
  · next heq => cases heq; exact con _ _ _ _ h
  · next heq => cases heq; exact glo _ _ _ h
  · next heq => cases heq; exact bin _ _ _ _ _ _ _ h
  · next heq => cases heq; exact neg _ _ _ h
  · next heq => cases heq; exact cmp _ _ _ _ _ _ _ h
  · next heq => cases heq; exact chain _ _ _ _ _ _ _ _ _ _ _ h
  · next heq => cases heq; exact band _ _ _ h
  · next heq => cases heq; exact bor _ _ _ h
  · next heq => cases heq; exact bnot _ _ _ h
  · next heq => cases heq; exact ite _ _ _ _ _ _ _ h
  · next heq => cases heq; exact tup _ _ _ _ h
  · next heq => cases heq; exact lst _ _ _ h
  · exact dic0 _
  · next heq => cases heq; exact dic1 _ _ _ _ _ h
  · next heq => cases heq; exact sset _ _ _ _ _ _ _ _ h
  · next heq => cases heq; exact ix _ _ _ _ _ h
  · next heq => cases heq; exact sl _ _ _ _ _ _ _ _ h
  · next heq => cases heq; exact rev _ _ _ _ _ _ _ h
  · next heq => cases heq; exact isi _ _ _ _ _ _ _ _ h
  · next heq => cases heq; exact isiT _ _ _ _ _ _ _ _ _ h
  · next heq => cases heq; exact bf _ _ _ _ _ _ h
  · next heq => cases heq; exact mf _ _ _ _ _ _ _ _ _ h
  · next heq => cases heq; exact call _ _ _ _ _ _ h
  · next heq => cases heq; exact comp _ _ _ _ _ _ _ _ _ _ _ _ h
  · next heq => cases heq; exact comp2 _ _ _ _ _ _ _ _ _ _ _ _ _ _ _ _ _ _ _ h
  · cases h
end
end VS

set_option Elab.async false
set_option linter.all false
set_option maxRecDepth 100000
set_option maxHeartbeats 8000000
/-! VS 24: the check is sound: expressions, the step. -/
namespace VS
open PySem PySem.Spec PyProof.Rows L2
theorem ne_of_emp {α : Type} {l : List α} (h : (!l.isEmpty) = true) : l ≠ [] := fun e => by subst e; cases h
section
variable {g : Ck} {lv n : Nat} {cl : Cl} {sc sa : Scope} {X : Cx} {W : WX}
theorem plain_ok {e : Expr} (h : plainB e = true) : PlainIx e := fun o i => by
  cases e with
  | Slice a b c d => cases c <;> first | (cases h; done) | rfl
  | _ => rfl
theorem con_ok {d : D} {c : Const} {k : Nat} {p : Pos} (h : conB d c = true) : EV X W (.Constant c k p) (mCon d) := by
  cases d <;> cases c <;> first | (cases h; done) | skip
  · exact ev_non
  · rw [eq_of_beq (show (_ == _) = true from h)]; exact ev_bl
  · rw [eq_of_beq (show (_ == _) = true from h)]; exact ev_int
  · rw [eq_of_beq (show (_ == _) = true from h)]; exact ev_str
theorem bf_name (f : Bf) : Str.ofString (bfN f) ∈ bltN := by cases f <;> decide
theorem len_es (cl : Cl) : ∀ (l : List Ex), LenIs (evEs cl l) l.length
  | [] => len_nil
  | _ :: l => len_cons (len_es cl l)
theorem bf_step (IH : OkN g lv cl n) (c : CkE g lv cl sc sa X W) {f : Bf} {l : List Ex} {x : Str} {es : List Expr} {p p1 : Pos} (h : (bltB sc x (Str.ofString (bfN f)) && !l.isEmpty && chkEs g n sc l es) = true) : EV X W (.Call (.Name x p) es [] p1) (mBf (bfD f) (evEs cl l)) := by
  obtain ⟨h1, h2⟩ := and2 h
  obtain ⟨h1, h3⟩ := and2 h1
  obtain ⟨e1, _, _, e4, e5⟩ := IH.es c h2
  have ne : l ≠ [] := ne_of_emp h3
  cases es with
  | nil => exact absurd (List.length_eq_zero_iff.mp e5.symm) ne
  | cons e es =>
    obtain ⟨s1, s2⟩ := and2 (show (noStar e && noStars es) = true from e4)
    obtain ⟨rfl, h4, h5⟩ := c.blt h1 (bf_name f)
    have hv := boot_bf f
    have hn : Str.ofString (bfN f) ≠ "__name__" := by cases f <;> decide +kernel
    have hd : (Str.ofString (bfN f) == ("__debug__" : Str)) = false := by cases f <;> decide +kernel
    unfold bfVal at hv
    have ok := bf_ok c.calm f
    unfold bfVal at ok
    by_cases ty : bfTy f = true
    · rw [if_pos ty] at hv ok
      exact ev_bt ok h4 h5 hv e1 hn hd (star1 s1) (stars_any s2)
    · rw [if_neg ty] at hv ok
      exact ev_bf ok h4 h5 hv e1 hn hd (star1 s1) (stars_any s2)
theorem few_ok {e : Expr} {es : List Expr} {env : PySem.Env} {pos : Pos} (h : noStars (e :: es) = true) (hl : (e :: es).length < 20) : ((backTo pos (starEach (e :: es) env)).all (fun x => !x.1) && (backToKw pos (keywordEach [] env)).all (fun x => x.1.isSome)
    && decide ((e :: es).length + ([] : List Keyword).length + (if ([] : List Keyword).isEmpty then 0 else 1) < 30)) = true := by
  rw [stars_all h]
  show (true && true && decide ((e :: es).length + 0 + 0 < 30)) = true
  rw [decide_eq_true (by omega)]
  rfl
theorem mf_some {f : Mf} {d : D} {ds : List D} {p : D × D} (h : mfD f d ds = some p) : ∃ l, d = .lst l := by
  cases f <;> (obtain ⟨xs, e, _⟩ := onL_some h; exact ⟨xs, e⟩)
theorem mf_slot (f : Mf) : Slot "list" (mfN f) (mfId f) ∧ typeOf (.builtin (mfId f)) = pure (.type "method_descriptor") := by
  cases f
  · exact ⟨PySem.F.slot_list_append, PySem.F.type_list_append⟩
  · exact ⟨PySem.F.slot_list_extend, PySem.F.type_list_extend⟩
  · exact ⟨PySem.F.slot_list_pop, PySem.F.type_list_pop⟩
  · exact ⟨PySem.F.slot_list_pop, PySem.F.type_list_pop⟩
theorem mf_step (IH : OkN g lv cl n) (c : CkE g lv cl sc sa X W) {f : Mf} {i : Nat} {l : List Ex} {x name : Str} {apos cpos p : Pos} {es : List Expr}
    (h : (name == mfN f && varB g sc i x && (apos.endLine == cpos.line) && (Nat.blt l.length 20) && chkEs g n sc l es) = true) : EV X W (.Call (.Attribute (.Name x p) name apos) es [] cpos) (mMfO (mfD f) i (evUs cl l)) := by
  obtain ⟨h, h1⟩ := and2 h
  obtain ⟨h, h2⟩ := and2 h
  obtain ⟨h, h3⟩ := and2 h
  obtain ⟨h, h4⟩ := and2 h
  have e := eq_of_beq h
  subst e
  obtain ⟨v1, v2, v3, v4⟩ := c.var h4
  obtain ⟨_, e2, _, e4, e5⟩ := IH.es c h1
  obtain ⟨s1, s2⟩ := mf_slot f
  have hl : l.length < 20 := Nat.blt_eq.mp h2 |> fun h => h
  cases es with
  | nil =>
    have el : l = [] := List.length_eq_zero_iff.mp e5.symm
    subst el
    exact ev_mf0 (mf_ok f) PySem.F.plainAttrs_list s1 s2 v1 v2 v3 v4 rfl h3
  | cons e es =>
    obtain ⟨t1, t2⟩ := and2 (show (noStar e && noStars es) = true from e4)
    exact ev_mf (mf_ok f) (fun d ds p h => mf_some h) PySem.F.plainAttrs_list s1 s2 v1 v2 v3 v4 e2 rfl (few_ok e4 (by rw [e5]; exact hl)) h3 (star1 t1) (stars_any t2)
theorem call_step (IH : OkN g lv cl n) (c : CkE g lv cl sc sa X W) {f : Nat} {l : List Ex} {x : Str} {es : List Expr} {p p1 : Pos} (h : (fidB g x f l.length && kindB sc x .globalImplicit && !(x == ("__debug__" : Str)) && chkAs g n sc l es) = true) : EV X W (.Call (.Name x p) es [] p1) (mCall (cl f) (evAs cl l)) := by
  obtain ⟨h, h1⟩ := and2 h
  obtain ⟨h, h2⟩ := and2 h
  obtain ⟨h, h3⟩ := and2 h
  obtain ⟨e1, e4, e5⟩ := IH.as c h1
  unfold fidB at h
  cases ef : g.fid x with
  | none => rw [ef] at h; cases h
  | some q =>
    obtain ⟨f', np⟩ := q
    rw [ef] at h
    obtain ⟨q1, q2⟩ := and2 h
    have q1 := Nat.eq_of_beq_eq_true q1
    have q2 := Nat.eq_of_beq_eq_true q2
    subst q1 q2
    have F := c.fn x f' l.length ef
    cases es with
    | nil =>
      have el : l = [] := List.length_eq_zero_iff.mp e5.symm
      subst el
      exact ev_call0 F c.room c.tk (c.gl_ h3) (not_t h2)
    | cons e es =>
      obtain ⟨t1, t2⟩ := and2 (show (noStar e && noStars es) = true from e4)
      exact ev_call F c.room c.tk (c.gl_ h3) e1 (not_t h2) (star1 t1) (stars_any t2)
theorem comp_step (IH : OkN g lv cl n) (c : CkE g lv cl sc sa X W) {e : Ex} {t : Tg} {k : Ik} {it ifs : List Ex} {own : List Nat} {elt tg iter : Expr} {ifs' : List Expr} {scope : Scope} {p : Pos}
    (h : (blkC g.N sc scope (ownOf g.N scope.names) && natsB ((ownOf g.N scope.names).map (·.2)) own && tgB g scope t tg && noSet iter && chkI g n sc k it tg iter && chkF g n (relS scope sc) ifs ifs' && chkE g n (relS scope sc) e elt) = true) :
    EV X W (.ListComp elt [⟨tg, iter, ifs', 0⟩] scope p) (mComp own t k (evEs cl it) (evIf cl ifs) (evE cl e)) ∧ (∀ {i : Nat} {y : Str} {py spos : Pos}, X.N[i]? = some y → X.env.scope.names.lookup y = some .local → swapsWith (.ListComp elt [⟨tg, iter, ifs', 0⟩] scope p) (some (.Name y py)) spos.line X.env = pure true →
      ES X W (.Assign [.Name y py] (.ListComp elt [⟨tg, iter, ifs', 0⟩] scope p) spos) (mAsg (.nm i) (mComp own t k (evEs cl it) (evIf cl ifs) (evE cl e)))) := by
  obtain ⟨h, h7⟩ := and2 h
  obtain ⟨h, h6⟩ := and2 h
  obtain ⟨h, h5⟩ := and2 h
  obtain ⟨h, h4⟩ := and2 h
  obtain ⟨h, h3⟩ := and2 h
  obtain ⟨h1, h2⟩ := and2 h
  have ok : BlkOk X.N X.env.scope scope (ownOf g.N scope.names) := by rw [c.N, c.scope]; exact blkOk_by h1
  have ho := natsB_eq h2
  have hg : Blk X scope fun Y => PG Y tg (gT X.K t) := fun s H C cls fp => CkE.tg (c.blk s H C cls fp) h3
  have ht : Blk X scope fun Y => EPT Y WF ifs' (evIf cl ifs) := fun s H C cls fp => IH.f (c.blk s H C cls fp) h6
  have he : Blk X scope fun Y => EV Y WF elt (evE cl e) := fun s H C cls fp => IH.e (c.blk s H C cls fp) h7
  exact ⟨ev_lc c.calm c.nd (IH.i c h5) ok ho hg ht he (set_ok h4), fun hy hl hs => es_lc c.calm c.nd hy hl hs (IH.i c h5) ok ho hg ht he (set_ok h4)⟩
theorem comp2_step (IH : OkN g lv cl n) (c : CkE g lv cl sc sa X W) {e : Ex} {t t2 : Tg} {k k2 : Ik} {it ifs it2 ifs2 : List Ex} {own : List Nat} {elt tg iter tg2 iter2 : Expr} {ifs' ifs2' : List Expr} {scope : Scope} {p : Pos}
    (h : (blkC g.N sc scope (ownOf g.N scope.names) && natsB ((ownOf g.N scope.names).map (·.2)) own && subB (tgS t2) own && tgB g scope t tg && noSet iter && chkI g n sc k it tg iter && chkF g n (relS scope sc) ifs ifs' &&
      tgB g scope t2 tg2 && noSet iter2 && chkI g n (relS scope sc) k2 it2 tg2 iter2 && chkF g n (relS scope sc) ifs2 ifs2' && chkE g n (relS scope sc) e elt) = true) :
    EV X W (.ListComp elt [⟨tg, iter, ifs', 0⟩, ⟨tg2, iter2, ifs2', 0⟩] scope p) (mComp2 own t t2 k k2 (evEs cl it) (evIf cl ifs) (evEs cl it2) (evIf cl ifs2) (evE cl e)) ∧ (∀ {i : Nat} {y : Str} {py spos : Pos}, X.N[i]? = some y → X.env.scope.names.lookup y = some .local → swapsWith (.ListComp elt [⟨tg, iter, ifs', 0⟩, ⟨tg2, iter2, ifs2', 0⟩] scope p) (some (.Name y py)) spos.line X.env = pure true →
      ES X W (.Assign [.Name y py] (.ListComp elt [⟨tg, iter, ifs', 0⟩, ⟨tg2, iter2, ifs2', 0⟩] scope p) spos) (mAsg (.nm i) (mComp2 own t t2 k k2 (evEs cl it) (evIf cl ifs) (evEs cl it2) (evIf cl ifs2) (evE cl e)))) := by
  obtain ⟨h, h12⟩ := and2 h
  obtain ⟨h, h11⟩ := and2 h
  obtain ⟨h, h10⟩ := and2 h
  obtain ⟨h, h9⟩ := and2 h
  obtain ⟨h, h8⟩ := and2 h
  obtain ⟨h, h7⟩ := and2 h
  obtain ⟨h, h6⟩ := and2 h
  obtain ⟨h, h5⟩ := and2 h
  obtain ⟨h, h4⟩ := and2 h
  obtain ⟨h, h3⟩ := and2 h
  obtain ⟨h1, h2⟩ := and2 h
  have ok : BlkOk X.N X.env.scope scope (ownOf g.N scope.names) := by rw [c.N, c.scope]; exact blkOk_by h1
  have ho := natsB_eq h2
  have hv := subB_ok h3
  have hg : Blk X scope fun Y => PG Y tg (gT X.K t) := fun s H C cls fp => CkE.tg (c.blk s H C cls fp) h4
  have ht : Blk X scope fun Y => EPT Y WF ifs' (evIf cl ifs) := fun s H C cls fp => IH.f (c.blk s H C cls fp) h7
  have hg2 : Blk X scope fun Y => PG Y tg2 (gT X.K t2) := fun s H C cls fp => CkE.tg (c.blk s H C cls fp) h8
  have hi2 : Blk X scope fun Y => EI Y WF tg2 iter2 k2 (evEs cl it2) := fun s H C cls fp => IH.i (c.blk s H C cls fp) h10
  have ht2 : Blk X scope fun Y => EPT Y WF ifs2' (evIf cl ifs2) := fun s H C cls fp => IH.f (c.blk s H C cls fp) h11
  have he : Blk X scope fun Y => EV Y WF elt (evE cl e) := fun s H C cls fp => IH.e (c.blk s H C cls fp) h12
  exact ⟨ev_lc2 c.calm c.nd (IH.i c h6) ok ho hv hg ht hi2 hg2 ht2 he (set_ok h5) (fun env => set_ok h9), fun hy hl hs => es_lc2 c.calm c.nd hy hl hs (IH.i c h6) ok ho hv hg ht hi2 hg2 ht2 he (set_ok h5) (fun env => set_ok h9)⟩
end
end VS

set_option Elab.async false
set_option linter.all false
set_option maxRecDepth 100000
set_option maxHeartbeats 8000000
/-! VS 25: the check is sound: expressions. -/
namespace VS
open PySem PySem.Spec PyProof.Rows L2
section
variable {g : Ck} {lv n : Nat} {cl : Cl} {sc sa : Scope} {X : Cx} {W : WX}
theorem e_step (IH : OkN g lv cl n) (c : CkE g lv cl sc sa X W) : ∀ {ir : Ex} {x : Expr}, chkE g (n + 1) sc ir x = true → EV X W x (evE cl ir) := by
  refine chkE_split (P := fun ir x => EV X W x (evE cl ir)) n sc ?_ ?_ ?_ ?_ ?_ ?_ ?_ ?_ ?_ ?_ ?_ ?_ ?_ ?_ ?_ ?_ ?_ ?_ ?_ ?_ ?_ ?_ ?_ ?_ ?_ ?_ ?_
  · exact fun e => ev_bad
  · intro i x p h
    obtain ⟨v1, v2, v3, v4⟩ := c.var h
    exact ev_var v1 v2 v3 v4
  · exact fun d c k p h => con_ok h
  · intro d x p h
    obtain ⟨h, h1⟩ := and2 h
    obtain ⟨h3, h2⟩ := and2 h
    unfold glB at h2
    cases eg : g.gl x with
    | none => rw [eg] at h2; cases h2
    | some d' =>
      rw [eg] at h2
      rw [← same_eq h2]
      exact ev_glo (c.gl_ h3) (c.gl x d' eg) (not_t h1)
  · intro o a b l p r q h
    obtain ⟨h, h1⟩ := and2 h
    obtain ⟨h, h2⟩ := and2 h
    rw [bopB_eq h]
    exact ev_bin (bop_ok o) (IH.e c h2) (IH.e c h1)
  · exact fun a e p h => ev_un neg_ok (IH.e c h)
  · intro o a b l p r q h
    obtain ⟨h, h1⟩ := and2 h
    obtain ⟨h, h2⟩ := and2 h
    obtain ⟨h, h3⟩ := and2 h
    have e := copB_eq h
    subst e
    exact ev_cmp (cop_ok c.hu o) (IH.e c h2) (IH.e c h1) (not_t h3)
  · intro o1 o2 a b c' l p q r t s h
    obtain ⟨h, h1⟩ := and2 h
    obtain ⟨h, h2⟩ := and2 h
    obtain ⟨h, h3⟩ := and2 h
    obtain ⟨h, h4⟩ := and2 h
    obtain ⟨h, h5⟩ := and2 h
    have e := copB_eq h
    have e2 := copB_eq h5
    subst e e2
    exact ev_chain c.hu (IH.e c h3) (IH.e c h2) (IH.e c h1) (not_t h4)
  · intro l es p h
    obtain ⟨h, h1⟩ := and2 h
    exact (IH.bs c (ne_of_emp h) h1).1
  · intro l es p h
    obtain ⟨h, h1⟩ := and2 h
    exact (IH.bs c (ne_of_emp h) h1).2.1
  · exact fun a e p h => ev_not (IH.e c (and2 h).2)
  · intro c' a b t x y p h
    obtain ⟨h, h1⟩ := and2 h
    obtain ⟨h, h2⟩ := and2 h
    obtain ⟨h, h3⟩ := and2 h
    exact ev_ite (IH.t c h h3) (IH.e c h2) (IH.e c h1)
  · exact fun l es k p h => ev_tup (IH.es c h).2.1
  · exact fun l es p h => ev_lst (IH.es c h).2.1
  · exact fun p => ev_dic0
  · intro a b x y p h
    obtain ⟨h, h1⟩ := and2 h
    exact ev_dic1 (IH.e c h) (IH.e c h1)
  · intro a f h' x p1 p2 p3 p4 h
    obtain ⟨h, h1⟩ := and2 h
    obtain ⟨h, h2⟩ := and2 h
    obtain ⟨h, h3⟩ := and2 h
    obtain ⟨rfl, g1, g2⟩ := c.blt h (by decide)
    obtain ⟨rfl, g3, g4⟩ := c.blt h3 (by decide)
    exact ev_sset c.calm c.hu g1 g2 g3 g4 (IH.e c h1) (star1 h2)
  · intro a i x y p h
    obtain ⟨h, h1⟩ := and2 h
    obtain ⟨h, h2⟩ := and2 h
    exact ev_ix (ix_ok (by have := c.hu; omega)) (IH.e c h2) (IH.e c h1) (plain_ok h)
  · intro a lo hi x l h' p q h
    obtain ⟨h, h1⟩ := and2 h
    obtain ⟨h, h2⟩ := and2 h
    exact ev_sl sl_ok (IH.e c h) (IH.o c h2) (IH.o c h1)
  · exact fun a x k p1 p2 p3 p4 h => ev_rev (IH.e c h)
  · intro a t f x y p p1 p2 h
    obtain ⟨h, h1⟩ := and2 h
    obtain ⟨h, h2⟩ := and2 h
    obtain ⟨h, h3⟩ := and2 h
    obtain ⟨rfl, h4, h5⟩ := c.blt h (by decide)
    exact ev_isi h4 h5 (IH.e c h1) (tys_ok c h2) (star1 h3) (star1 rfl) rfl
  · intro a ts f x es k p p1 p2 h
    obtain ⟨h, h1⟩ := and2 h
    obtain ⟨h, h2⟩ := and2 h
    obtain ⟨h, h3⟩ := and2 h
    obtain ⟨h, h4⟩ := and2 h
    obtain ⟨h5, h6⟩ := and2 h3
    obtain ⟨rfl, h7, h8⟩ := c.blt h (by decide)
    exact ev_isiT (ne_of_emp h5) (Nat.le_trans (Nat.le_of_ble_eq_true h6) (by decide)) h7 h8 (IH.e c h1) (tysE_ok c h2) (star1 h4) (star1 rfl) rfl
  · exact fun f l x es p p1 h => bf_step IH c h
  · exact fun f i l x name apos es cpos p h => mf_step IH c h
  · exact fun f l x es p p1 h => call_step IH c h
  · exact fun e t k it ifs own elt tg iter ifs' scope p h => (comp_step IH c h).1
  · exact fun e t k it ifs t2 k2 it2 ifs2 own elt tg iter ifs' tg2 iter2 ifs2' scope p h => (comp2_step IH c h).1
theorem t_step (IH : OkN g lv cl n) (c : CkE g lv cl sc sa X W) : ∀ {ir : Ex} {x : Expr}, tstB x = true → chkE g (n + 1) sc ir x = true → ET X W x (mTru (evE cl ir)) := by
  have ev := fun {ir : Ex} {x : Expr} => e_step (sc := sc) IH c (ir := ir) (x := x)
  have gen : ∀ {ir : Ex} {x : Expr}, chkE g (n + 1) sc ir x = true → tstB x = true → ET X W x (mTru (evE cl ir)) := by
    intro ir x h0
    have h1 := ev h0
    revert h1
    refine chkE_split (P := fun ir x => EV X W x (evE cl ir) → tstB x = true → ET X W x (mTru (evE cl ir))) n sc ?_ ?_ ?_ ?_ ?_ ?_ ?_ ?_ ?_ ?_ ?_ ?_ ?_ ?_ ?_ ?_ ?_ ?_ ?_ ?_ ?_ ?_ ?_ ?_ ?_ ?_ ?_ h0
    · exact fun e _ _ => et_bad
    · exact fun i x p h h1 _ => et_val h1 fun _ => rfl
    · exact fun d c k p h h1 _ => et_val h1 fun _ => rfl
    · exact fun d x p h h1 _ => et_val h1 fun _ => rfl
    · exact fun o a b l p r q h h1 _ => et_val h1 fun _ => rfl
    · exact fun a e p h h1 _ => et_val h1 fun _ => rfl
    · intro o a b l p r q h _ _
      obtain ⟨h, h1⟩ := and2 h
      obtain ⟨h, h2⟩ := and2 h
      obtain ⟨h, h3⟩ := and2 h
      have e := copB_eq h
      subst e
      exact et_cmp (cop_ok c.hu o) (fun _ _ _ => cmpV_bl) (IH.e c h2) (IH.e c h1) (not_t h3)
    · intro o1 o2 a b c' l p q r t s h _ _
      obtain ⟨h, h1⟩ := and2 h
      obtain ⟨h, h2⟩ := and2 h
      obtain ⟨h, h3⟩ := and2 h
      obtain ⟨h, h4⟩ := and2 h
      obtain ⟨h, h5⟩ := and2 h
      have e := copB_eq h
      have e2 := copB_eq h5
      subst e e2
      exact et_chain c.hu (IH.e c h3) (IH.e c h2) (IH.e c h1) (not_t h4)
    · intro l es p h _ _
      obtain ⟨h, h1⟩ := and2 h
      exact (IH.bs c (ne_of_emp h) h1).2.2.1.et
    · intro l es p h _ _
      obtain ⟨h, h1⟩ := and2 h
      exact (IH.bs c (ne_of_emp h) h1).2.2.2.et
    · intro a e p h _ _
      obtain ⟨h1, h2⟩ := and2 h
      show ET X W (.UnaryOp .Not e p) (mTru (mNotV (evE cl a)))
      rw [mTru_not]
      exact et_not (IH.t c h1 h2)
    · exact fun c a b t x y p h h1 z => by cases z
    · exact fun l es k p h h1 _ => et_val h1 fun _ => rfl
    · exact fun l es p h h1 _ => et_val h1 fun _ => rfl
    · exact fun p h1 _ => et_val h1 fun _ => rfl
    · exact fun a b x y p h h1 _ => et_val h1 fun _ => rfl
    · exact fun a f h' x p1 p2 p3 p4 h h1 _ => et_val h1 fun _ => rfl
    · exact fun a i x y p h h1 _ => et_val h1 fun _ => rfl
    · exact fun a lo hi x l h' p q h h1 _ => et_val h1 fun _ => rfl
    · exact fun a x k p1 p2 p3 p4 h h1 _ => et_val h1 fun _ => rfl
    · exact fun a t f x y p p1 p2 h h1 _ => et_val h1 fun _ => rfl
    · exact fun a ts f x es k p p1 p2 h h1 _ => et_val h1 fun _ => rfl
    · exact fun f l x es p p1 h h1 _ => et_val h1 fun _ => rfl
    · exact fun f i l x name apos es cpos p h h1 _ => et_val h1 fun _ => rfl
    · exact fun f l x es p p1 h h1 _ => et_val h1 fun _ => rfl
    · exact fun e t k it ifs own elt tg iter ifs' scope p h h1 _ => et_val h1 fun _ => rfl
    · exact fun e t k it ifs t2 k2 it2 ifs2 own elt tg iter ifs' tg2 iter2 ifs2' scope p h h1 _ => et_val h1 fun _ => rfl
  exact fun {ir x} z h => gen h z
theorem es_step (IH : OkN g lv cl n) (c : CkE g lv cl sc sa X W) : ∀ {l : List Ex} {x : List Expr}, chkEs g (n + 1) sc l x = true → EL X W x (evEs cl l) ∧ EU X W x (evUs cl l) ∧ EP' X W x (evPs cl l) ∧ noStars x = true ∧ x.length = l.length := by
  intro l x h
  unfold chkEs at h
  split at h
  · exact ⟨el_nil, eu_nil, ep_nil, rfl, rfl⟩
  · next heq =>
    cases heq
    obtain ⟨h, h1⟩ := and2 h
    obtain ⟨h, h2⟩ := and2 h
    obtain ⟨q1, q2, q3, q4, q5⟩ := IH.es c h1
    have e := IH.e c h2
    exact ⟨el_cons e q1 (star1 h), eu_cons e q2 (star1 h), ep_cons e q3 (star1 h), by show (_ && _) = true; rw [h, q4]; rfl, by rw [List.length_cons, List.length_cons, q5]⟩
  · cases h
theorem as_step (IH : OkN g lv cl n) (c : CkE g lv cl sc sa X W) : ∀ {l : List Ex} {x : List Expr}, chkAs g (n + 1) sc l x = true → EA X W x (evAs cl l) ∧ noStars x = true ∧ x.length = l.length := by
  intro l x h
  unfold chkAs at h
  split at h
  · exact ⟨ea_nil, rfl, rfl⟩
  · next heq =>
    cases heq
    obtain ⟨h, h1⟩ := and2 h
    obtain ⟨q1, q2, q3⟩ := IH.as c h1
    obtain ⟨v1, v2, v3, v4⟩ := c.var h
    exact ⟨ea_name (.inl rfl) v1 v2 v3 v4 q1 (star1 rfl), by show (_ && _) = true; rw [q2]; rfl, by rw [List.length_cons, List.length_cons, q3]⟩
  · next heq =>
    cases heq
    obtain ⟨h, h1⟩ := and2 h
    obtain ⟨q1, q2, q3⟩ := IH.as c h1
    obtain ⟨v1, v2, v3, v4⟩ := c.var h
    exact ⟨ea_name (.inr rfl) v1 v2 v3 v4 q1 (star1 rfl), by show (_ && _) = true; rw [q2]; rfl, by rw [List.length_cons, List.length_cons, q3]⟩
  · next a l e es n1 n2 heq =>
    cases heq
    obtain ⟨h, h1⟩ := and2 h
    obtain ⟨h, h2⟩ := and2 h
    obtain ⟨q1, q2, q3⟩ := IH.as c h1
    refine ⟨?_, by show (_ && _) = true; rw [h, q2]; rfl, by rw [List.length_cons, List.length_cons, q3]⟩
    have e := ea_val (IH.e c h2) q1 (star1 h)
    cases a <;> first | exact e | (exfalso; cases n <;> (first | cases h2 | (unfold chkE at h2; split at h2 <;> first | cases h2 | contradiction)))
  · cases h
theorem f_step (IH : OkN g lv cl n) (c : CkE g lv cl sc sa X W) : ∀ {l : List Ex} {x : List Expr}, chkF g (n + 1) sc l x = true → EPT X W x (evIf cl l) := by
  intro l x h
  unfold chkF at h
  split at h
  · exact ept_nil
  · next heq =>
    cases heq
    obtain ⟨h, h1⟩ := and2 h
    exact ept_one (IH.t c h h1)
  · cases h
theorem o_step (IH : OkN g lv cl n) (c : CkE g lv cl sc sa X W) : ∀ {l : Option Ex} {x : Option Expr}, chkO g (n + 1) sc l x = true → EO X W x (evO cl l) := by
  intro l x h
  unfold chkO at h
  split at h
  · exact eo_none
  · next heq => cases heq; exact eo_some (IH.e c h)
  · cases h
theorem bs_step (IH : OkN g lv cl n) (c : CkE g lv cl sc sa X W) : ∀ {l : List Ex} {x : List Expr} {pos : Pos}, l ≠ [] → chkBs g (n + 1) sc l x = true → EV X W (.BoolOp .And x pos) (evAnd cl l) ∧ EV X W (.BoolOp .Or x pos) (evOr cl l) ∧ EW X W (.BoolOp .And x pos) (mTru (evAnd cl l)) ∧ EW X W (.BoolOp .Or x pos) (mTru (evOr cl l)) := by
  intro l x pos hne h
  unfold chkBs at h
  split at h
  · exact absurd rfl hne
  · next a l e es heq =>
    cases heq
    obtain ⟨h, h1⟩ := and2 h
    obtain ⟨h, h2⟩ := and2 h
    have ev := IH.e c h2
    have et := IH.t c h h2
    cases l with
    | nil =>
      cases es with
      | nil => exact ⟨ev_one ev, ev_one ev, ew_and1 et, ew_or1 et⟩
      | cons _ _ => cases n <;> cases h1
    | cons b l =>
      obtain ⟨q1, q2, q3, q4⟩ := IH.bs (pos := pos) c (List.cons_ne_nil b l) h1
      cases es with
      | nil => cases n <;> cases h1
      | cons f es =>
        refine ⟨ev_and ev q1, ev_or ev q2, ?_, ?_⟩
        · show EW X W _ (mTru (mAndV (evE cl a) (evAnd cl (b :: l))))
          rw [mTru_and]
          exact ew_and et q3
        · show EW X W _ (mTru (mOrV (evE cl a) (evOr cl (b :: l))))
          rw [mTru_or]
          exact ew_or et q4
  · cases h
theorem chkI_split {P : Ik → List Ex → Expr → Expr → Prop} (n : Nat) (sc : Scope)
    (val : ∀ a tg e, chkE g n sc a e = true → P .val [a] tg e)
    (rng : ∀ l tg x p es p1, (bltB sc x "range" && (Nat.ble 1 l.length && Nat.ble l.length 3) && chkEs g n sc l es) = true → P .rng l tg (.Call (.Name x p) es [] p1))
    (enum : ∀ a tg x p e p1, (bltB sc x "enumerate" && isTup tg && noStar e && chkE g n sc a e) = true → P .enum [a] tg (.Call (.Name x p) [e] [] p1))
    (zip : ∀ l tg x p es p1, (bltB sc x "zip" && isTup tg && (Nat.ble 2 l.length && Nat.ble l.length 3) && chkEs g n sc l es) = true → P .zip l tg (.Call (.Name x p) es [] p1)) :
    ∀ {k : Ik} {l : List Ex} {tg x : Expr}, chkI g (n + 1) sc k l tg x = true → P k l tg x := by
  intro k l tg x h
  unfold chkI at h
  split at h
  · next heq => cases heq; exact val _ _ _ h
  · next heq => cases heq; exact rng _ _ _ _ _ _ h
  · next heq => cases heq; exact enum _ _ _ _ _ _ h
  · next heq => cases heq; exact zip _ _ _ _ _ _ h
  · cases h
theorem i_step (IH : OkN g lv cl n) (c : CkE g lv cl sc sa X W) : ∀ {k : Ik} {l : List Ex} {tg x : Expr}, chkI g (n + 1) sc k l tg x = true → EI X W tg x k (evEs cl l) := by
  refine chkI_split (P := fun k l tg x => EI X W tg x k (evEs cl l)) n sc ?_ ?_ ?_ ?_
  · exact fun a tg e h => ei_val (IH.e c h)
  · intro l tg y p es p1 h
    obtain ⟨h, h1⟩ := and2 h
    obtain ⟨h, h2⟩ := and2 h
    obtain ⟨h2, h3⟩ := and2 h2
    obtain ⟨rfl, g1, g2⟩ := c.blt h (by decide)
    obtain ⟨e1, _, _, e4, e5⟩ := IH.es c h1
    have hn := len_es cl l
    have h2 := Nat.le_of_ble_eq_true h2
    have h3 := Nat.le_of_ble_eq_true h3
    match es, e1, e4, e5 with
    | [], _, _, e5 => simp at e5; omega
    | [a], e1, e4, e5 =>
      have s1 := (and2 e4).1
      exact ei_rng1 g1 g2 e1 (by rw [← e5] at hn; exact hn) (by rw [star1 s1]; rfl)
    | [a, b], e1, e4, e5 =>
      have s1 := (and2 e4).1
      have s2 := (and2 (and2 e4).2).1
      exact ei_rng2 g1 g2 e1 (by rw [← e5] at hn; exact hn) (by rw [star1 s1, star1 s2]; rfl) (by rw [star1 s2]; rfl)
    | [a, b, d], e1, e4, e5 =>
      have s1 := (and2 e4).1
      exact ei_rng3 g1 g2 e1 (by rw [← e5] at hn; exact hn) (star1 s1) (stars_any (and2 e4).2)
    | _ :: _ :: _ :: _ :: _, _, _, e5 => simp at e5; omega
  · intro a tg y p e p1 h
    obtain ⟨h, h1⟩ := and2 h
    obtain ⟨h, h2⟩ := and2 h
    obtain ⟨h, h3⟩ := and2 h
    obtain ⟨rfl, g1, g2⟩ := c.blt h (by decide)
    cases tg <;> first | (cases h3; done) | skip
    exact ei_enum g1 g2 (el_cons (IH.e c h1) el_nil (star1 h2)) (len_cons len_nil) (by rw [star1 h2]; rfl)
  · intro l tg y p es p1 h
    obtain ⟨h, h1⟩ := and2 h
    obtain ⟨h, h2⟩ := and2 h
    obtain ⟨h, h4⟩ := and2 h
    obtain ⟨h2, h3⟩ := and2 h2
    obtain ⟨rfl, g1, g2⟩ := c.blt h (by decide)
    obtain ⟨e1, _, _, e4, e5⟩ := IH.es c h1
    have hn := len_es cl l
    have h2 := Nat.le_of_ble_eq_true h2
    have h3 := Nat.le_of_ble_eq_true h3
    cases tg <;> first | (cases h4; done) | skip
    match es, e1, e4, e5 with
    | [], _, _, e5 => simp at e5; omega
    | [a], _, _, e5 => simp at e5; omega
    | [a, b], e1, e4, e5 =>
      have s1 := (and2 e4).1
      exact ei_zip2 g1 g2 e1 (by rw [← e5] at hn; exact hn) (star1 s1) (stars_any (and2 e4).2)
    | [a, b, d], e1, e4, e5 =>
      have s1 := (and2 e4).1
      exact ei_zip3 g1 g2 e1 (by rw [← e5] at hn; exact hn) (star1 s1) (stars_any (and2 e4).2)
    | _ :: _ :: _ :: _ :: _, _, _, e5 => simp at e5; omega
end
theorem ok_all {g : Ck} {lv : Nat} {cl : Cl} : ∀ n, OkN g lv cl n
  | 0 => ok_zero
  | n + 1 => by
    have IH := ok_all (g := g) (lv := lv) (cl := cl) n
    exact ⟨fun c h => e_step IH c h, fun c z h => t_step IH c z h, fun c h => es_step IH c h, fun c z h => bs_step IH c z h, fun c h => f_step IH c h, fun c h => o_step IH c h, fun c h => as_step IH c h, fun c h => i_step IH c h⟩
end VS

set_option Elab.async false
set_option linter.all false
set_option maxRecDepth 100000
set_option maxHeartbeats 8000000
/-! VS 26: the check of a program's text against its IR: statements. -/
namespace VS
open PySem PySem.Spec PyProof.Rows L2
def isComp : Expr → Bool
  | .ListComp _ _ _ _ => true
  | .SetComp _ _ _ _ => true
  | .DictComp _ _ _ _ _ => true
  | _ => false
def sameB (s : Scope) (y : Str) : Bool := s.names.any fun (n, k) => n == y && (k == .local || k == .cell)
/-- a store that swaps the comprehension's value in -/
def swB (sc : Scope) (y : Str) (py : Pos) : Expr → Bool
  | .ListComp _ _ s pos => kindB sc y .local && py.line == pos.line && !sameB s y
  | .SetComp _ _ s pos => kindB sc y .local && py.line == pos.line && !sameB s y
  | .DictComp _ _ _ s pos => kindB sc y .local && py.line == pos.line && !sameB s y
  | _ => false
theorem kindB_eq (sc : Scope) (y : Str) (k : NameKind) : kindB sc y k = (sc.names.lookup y == some k) := by
  unfold kindB
  cases sc.names.lookup y <;> rfl
theorem sw_eq {env : PySem.Env} (hk : env.scope.kind = .function) (v : Expr) (y : Str) (py : Pos) (l : Nat) : swapsWith v (some (.Name y py)) l env = pure (swB env.scope y py v) := by
  have hb : env.blockKind = .function := by unfold Env.blockKind; rw [hk]; rfl
  cases v <;> first | rfl | skip
  all_goals
    unfold swapsWith swB
    simp only [hb, kindB_eq]
    rfl
theorem sw_no {v : Expr} (h : isComp v = false) (t : Option Expr) (l : Nat) (env : PySem.Env) : swapsWith v t l env = pure false := by cases v <;> first | rfl | cases h
theorem sw_tup (v : Expr) (es : List Expr) (k : Nat) (p : Pos) (l : Nat) (env : PySem.Env) : swapsWith v (some (.Tuple es k p)) l env = pure false := by cases v <;> rfl
theorem sw_sub (v a b : Expr) (p : Pos) (l : Nat) (env : PySem.Env) : swapsWith v (some (.Subscript a b p)) l env = pure false := by cases v <;> rfl
def notTup : Expr → Bool
  | .Tuple _ _ _ => false
  | _ => true
theorem ss_no {v : Expr} (h : notTup v = true) (es : List Expr) (k : Nat) (p : Pos) (env : PySem.Env) : swappedStores [.Tuple es k p] v env = pure none := by cases v <;> first | (cases h; done) | rfl
theorem ss_sub (v a b : Expr) (p : Pos) (env : PySem.Env) : swappedStores [.Subscript a b p] v env = pure none := by cases v <;> rfl
theorem ss_con {ts vs : List Expr} {k1 k2 : Nat} {p1 p2 : Pos} (h : vs.all (foldedForSure 8) = true) (env : PySem.Env) : swappedStores [.Tuple ts k1 p1] (.Tuple vs k2 p2) env = pure none := by
  unfold swappedStores
  simp only [h, if_true]
  split
  · rfl
  · split
    · rfl
    · split <;> rfl
/-- a target that is no plain local: no swap -/
def noSw (sc : Scope) (es : List Expr) : Bool := es.any fun e => match e with
  | .Name x _ => !(kindB sc x .local)
  | _ => false
theorem fm_lt {α β : Type} {f : α → Option β} : ∀ {l : List α} {a : α}, a ∈ l → f a = none → (l.filterMap f).length < l.length
  | [], _, h, _ => by simp at h
  | b :: l, a, h, e => by
    have le := List.length_filterMap_le f l
    rw [List.filterMap_cons]
    rcases List.mem_cons.mp h with rfl | h
    · rw [e]
      show (l.filterMap f).length < l.length + 1
      omega
    · have := fm_lt (f := f) h e
      cases f b with
      | none => show (l.filterMap f).length < l.length + 1; omega
      | some c => show (l.filterMap f).length + 1 < l.length + 1; omega
theorem ss_cell {env : PySem.Env} {es vs : List Expr} {k1 k2 : Nat} {p1 p2 : Pos} (h : noSw env.scope es = true) : swappedStores [.Tuple es k1 p1] (.Tuple vs k2 p2) env = pure none := by
  obtain ⟨e, he, hk⟩ := List.any_eq_true.mp h
  have key : ∀ line : Nat, ((es.filterMap fun
    | .Name id pos => if env.kindOf id == some .local && pos.line == line then some id else none
    | _ => none).length != es.length) = true := fun line => by
    rw [bne_iff_ne]
    refine Nat.ne_of_lt (fm_lt he ?_)
    cases e with
    | Name x p =>
      have hk := not_t (show (!(kindB env.scope x .local)) = true from hk)
      have : (env.kindOf x == some NameKind.local) = false := by
        rw [← hk, kindB_eq]
        rfl
      simp only [this, Bool.false_and]
      rfl
    | _ => rfl
  unfold swappedStores
  simp only []
  split
  · rfl
  · split
    · rfl
    · exact if_pos (Bool.or_eq_true_iff.mpr (.inl (key _)))
/-- a, b = x, y by the plain locals' way -/
def parB (sc : Scope) : List Expr → List Expr → Bool
  | [.Name x px, .Name y py], vs => kindB sc x .local && kindB sc y .local && (py.line == px.line) && !(x == y) && !(vs.all (foldedForSure 8)) && !(vs.all (constantsAlone 8))
  | [.Name x px, .Name y py, .Name z pz], vs => kindB sc x .local && kindB sc y .local && kindB sc z .local && (py.line == px.line) && (pz.line == px.line) && !(x == y) && !(x == z) && !(y == z) && !(vs.all (foldedForSure 8)) && !(vs.all (constantsAlone 8))
  | _, _ => false
theorem any_star : ∀ {vs : List Expr}, noStars vs = true → (vs.any fun
    | .Starred .. => true
    | _ => false) = false
  | [], _ => rfl
  | e :: es, h => by
    obtain ⟨h1, h2⟩ := and2 (show (noStar e && noStars es) = true from h)
    rw [List.any_cons, any_star h2]
    cases e <;> first | rfl | cases h1
theorem ss_two {env : PySem.Env} (hk : env.scope.kind = .function) {x y : Str} {px py : Pos} {a b : Expr} {k1 k2 : Nat} {p1 p2 : Pos} (hs : noStars [a, b] = true) (h : parB env.scope [.Name x px, .Name y py] [a, b] = true) : swappedStores [.Tuple [.Name x px, .Name y py] k1 p1] (.Tuple [a, b] k2 p2) env = pure (some [x, y]) := by
  have hb : env.blockKind = .function := by unfold Env.blockKind; rw [hk]; rfl
  obtain ⟨h, h1⟩ := and2 h
  obtain ⟨h, h2⟩ := and2 h
  obtain ⟨h, h3⟩ := and2 h
  obtain ⟨h, h4⟩ := and2 h
  obtain ⟨h5, h6⟩ := and2 h
  have e1 : env.kindOf x = some .local := kindB_ok h5
  have e2 : env.kindOf y = some .local := kindB_ok h6
  have h1 := not_t h1
  have h2 := not_t h2
  have h3 := not_t h3
  have hd : ([x, y] : List Str).eraseDups = [x, y] := by
    have e : (y == x) = false := by
      rw [Bool.eq_false_iff] at h3 ⊢
      exact fun z => h3 (by rw [eq_of_beq z]; exact beq_self_eq_true x)
    simp [List.eraseDups_cons, e]
  have an := any_star hs
  unfold swappedStores
  simp only [hb]
  refine (if_neg (show ¬ false = true from Bool.false_ne_true)).trans ?_
  refine (if_neg fun z => Bool.false_ne_true (an.symm.trans z)).trans ?_
  simp only [List.filterMap_cons, List.filterMap_nil, e1, e2, List.head?_cons, Option.map_some, Option.getD_some, Expr.pos, beq_self_eq_true, h4, Bool.and_self, if_true, h1, h2, hd]
  rfl
theorem ne_of_bf {x y : Str} (h : (x == y) = false) : x ≠ y := fun e => by subst e; rw [beq_self_eq_true] at h; cases h
theorem bf_symm {x y : Str} (h : (x == y) = false) : (y == x) = false := by
  rw [Bool.eq_false_iff] at h ⊢
  exact fun z => h (by rw [eq_of_beq z]; exact beq_self_eq_true x)
theorem ss_three {env : PySem.Env} (hk : env.scope.kind = .function) {x y z : Str} {px py pz : Pos} {a b c : Expr} {k1 k2 : Nat} {p1 p2 : Pos} (hs : noStars [a, b, c] = true) (h : parB env.scope [.Name x px, .Name y py, .Name z pz] [a, b, c] = true) : swappedStores [.Tuple [.Name x px, .Name y py, .Name z pz] k1 p1] (.Tuple [a, b, c] k2 p2) env = pure (some [x, y, z]) := by
  have hb : env.blockKind = .function := by unfold Env.blockKind; rw [hk]; rfl
  obtain ⟨h, h1⟩ := and2 h
  obtain ⟨h, h2⟩ := and2 h
  obtain ⟨h, h3⟩ := and2 h
  obtain ⟨h, h4⟩ := and2 h
  obtain ⟨h, h5⟩ := and2 h
  obtain ⟨h, h6⟩ := and2 h
  obtain ⟨h, h7⟩ := and2 h
  obtain ⟨h, h8⟩ := and2 h
  obtain ⟨h9, h10⟩ := and2 h
  have e1 : env.kindOf x = some .local := kindB_ok h9
  have e2 : env.kindOf y = some .local := kindB_ok h10
  have e3 : env.kindOf z = some .local := kindB_ok h8
  have h1 := not_t h1
  have h2 := not_t h2
  have f1 := bf_symm (not_t h5)
  have f2 := bf_symm (not_t h4)
  have f3 := bf_symm (not_t h3)
  have hd : ([x, y, z] : List Str).eraseDups = [x, y, z] := by
    simp [List.eraseDups_cons, f1, f2, f3]
  have an := any_star hs
  unfold swappedStores
  simp only [hb]
  refine (if_neg (show ¬ false = true from Bool.false_ne_true)).trans ?_
  refine (if_neg fun z => Bool.false_ne_true (an.symm.trans z)).trans ?_
  simp only [List.filterMap_cons, List.filterMap_nil, e1, e2, e3, List.head?_cons, Option.map_some, Option.getD_some, Expr.pos, beq_self_eq_true, h6, h7, Bool.and_self, if_true, h1, h2, hd]
  rfl
theorem asg_sub {i : Expr} (h : plainB i = true) (o : Expr) (p : Pos) (env : PySem.Env) (v : Value) : assign (.Subscript o i p) env v = (do
      let ov ← holding [v] (eval o env)
      let iv ← holding [v, ov] (eval i env)
      standAt p
      holding [v, ov, iv] (setItem ov iv v)
      release [v, ov, iv] []) := by
  cases i with
  | Slice a b c d => cases c <;> first | (cases h; done) | (unfold assign; rfl)
  | _ => unfold assign; rfl
theorem asg_each (o i : Expr) (p : Pos) (env : PySem.Env) : (assignEach [.Subscript o i p] env).map (·.2) = [assign (.Subscript o i p) env] := rfl
/-! ### the check -/
def parsB (g : Ck) : List Nat → List Expr → Bool
  | [], [] => true
  | i :: l, .Name x _ :: es => slotB g.N i x && parsB g l es
  | _, _ => false
mutual
def chkS (g : Ck) : Nat → Scope → Sm → Stmt → Bool
  | n + 1, sc, .bad, _ => true
  | n + 1, sc, .asg (.nm i) e, .Assign [.Name y py] v _ => slotB g.N i y && asB sc y && chkE g n sc e v
  | n + 1, sc, .asg (.tp l) e, .Assign [.Tuple es _ _] v _ => namesB g sc l es && (notTup v || (match v with
    | .Tuple vs _ _ => vs.all (foldedForSure 8) || noSw sc es
    | _ => false)) && chkE g n sc e v
  | n + 1, sc, .par l es', .Assign [.Tuple es _ _] (.Tuple vs _ _) _ => parsB g l es && parB sc es vs && (Nat.beq es.length vs.length) && chkEs g n sc es' vs
  | n + 1, sc, .seti i j e, .Assign [.Subscript (.Name x _) j' _] v _ => varB g sc i x && plainB j' && chkE g n sc j j' && chkE g n sc e v
  | n + 1, sc, .pas, .Expr (.Constant (.str _) _ _) _ => true
  | n + 1, sc, .ex e, .Expr v _ => !isComp v && chkE g n sc e v
  | n + 1, sc, .ret e, .Return (some v) _ => chkE g n sc e v
  | n + 1, sc, .ret (.con .non), .Return none _ => true
  | n + 1, sc, .ite c a b, .If t x y _ => tstB t && chkE g n sc c t && chkB g n sc a x && chkB g n sc b y
  | n + 1, sc, .for t k it b, .For tg iter body [] _ => tgB g sc t tg && noSet iter && chkI g n sc k it tg iter && chkB g n sc b body
  | n + 1, sc, .whl c b, .While t body [] _ => tstB t && chkE g n sc c t && chkB g n sc b body
  | n + 1, sc, .brk, .Break _ => true
  | n + 1, sc, .cnt, .Continue _ => true
  | n + 1, sc, .pas, .Pass _ => true
  | _, _, _, _ => false
def chkB (g : Ck) : Nat → Scope → List Sm → List Stmt → Bool
  | n + 1, sc, [], [] => true
  | n + 1, sc, s :: l, st :: sts => chkS g n sc s st && chkB g n sc l sts
  | _, _, _, _ => false
end
structure CkS (g : Ck) (lv : Nat) (cl : Cl) (sc : Scope) (X : Cx) (W : WX) : Prop where
  e : CkE g lv cl sc sc X W
  kind : sc.kind = .function
  po : PassesOwn (model X.prog X.w) X.A X.env X.xe
section
variable {g : Ck} {lv n : Nat} {cl : Cl} {sc : Scope} {X : Cx} {W : WX}
theorem bad_asg {st : Stmt} {t : Tg} : ES X W st (mAsg t mBad) := ⟨⟨fun pins s σ H En I ⟨ρ, F, r0, p⟩ => False.elim p⟩⟩
theorem asg_ok (c : CkS g lv cl sc X W) {i : Nat} {e : Ex} {y : Str} {py pos : Pos} {v : Expr} (h : (slotB g.N i y && asB sc y && chkE g (n + 1) sc e v) = true) : ES X W (.Assign [.Name y py] v pos) (mAsg (.nm i) (evE cl e)) := by
  obtain ⟨h, h1⟩ := and2 h
  obtain ⟨h2, h3⟩ := and2 h
  have IH := ok_all (g := g) (lv := lv) (cl := cl) n
  have ev := (ok_all (g := g) (lv := lv) (cl := cl) (n + 1)).e c.e h1
  have hi : X.N[i]? = some y := by rw [c.e.N]; exact slotB_ok h2
  have hk : X.env.scope.kind = .function := by rw [c.e.scope]; exact c.kind
  obtain ⟨a1, a2⟩ := c.e.asg y h3
  cases es : swB sc y py v with
  | false =>
    exact es_set c.e.nd hi (by rw [c.e.scope]; exact a1) ev (by rw [sw_eq hk, c.e.scope, es]) (by rw [c.e.scope]; exact a2)
  | true =>
    revert ev es
    refine chkE_split (P := fun e v => EV X W v (evE cl e) → swB sc y py v = true → ES X W (.Assign [.Name y py] v pos) (mAsg (.nm i) (evE cl e))) n sc ?_ ?_ ?_ ?_ ?_ ?_ ?_ ?_ ?_ ?_ ?_ ?_ ?_ ?_ ?_ ?_ ?_ ?_ ?_ ?_ ?_ ?_ ?_ ?_ ?_ ?_ ?_ h1
    · exact fun e _ _ => bad_asg
    · exact fun _ _ _ _ _ z => by cases z
    · exact fun _ _ _ _ _ _ z => by cases z
    · exact fun _ _ _ _ _ z => by cases z
    · exact fun _ _ _ _ _ _ _ _ _ z => by cases z
    · exact fun _ _ _ _ _ z => by cases z
    · exact fun _ _ _ _ _ _ _ _ _ z => by cases z
    · exact fun _ _ _ _ _ _ _ _ _ _ _ _ _ z => by cases z
    · exact fun _ _ _ _ _ z => by cases z
    · exact fun _ _ _ _ _ z => by cases z
    · exact fun _ _ _ _ _ z => by cases z
    · exact fun _ _ _ _ _ _ _ _ _ z => by cases z
    · exact fun _ _ _ _ _ _ z => by cases z
    · exact fun _ _ _ _ _ z => by cases z
    · exact fun _ _ z => by cases z
    · exact fun _ _ _ _ _ _ _ z => by cases z
    · exact fun _ _ _ _ _ _ _ _ _ _ z => by cases z
    · exact fun _ _ _ _ _ _ _ z => by cases z
    · exact fun _ _ _ _ _ _ _ _ _ _ z => by cases z
    · exact fun _ _ _ _ _ _ _ _ _ z => by cases z
    · exact fun _ _ _ _ _ _ _ _ _ _ z => by cases z
    · exact fun _ _ _ _ _ _ _ _ _ _ _ z => by cases z
    · exact fun _ _ _ _ _ _ _ _ z => by cases z
    · exact fun _ _ _ _ _ _ _ _ _ _ _ z => by cases z
    · exact fun _ _ _ _ _ _ _ _ z => by cases z
    · intro e t k it ifs own elt tg iter ifs' scope p h _ z
      have hl : X.env.scope.names.lookup y = some .local := by
        rw [c.e.scope]
        exact kindB_ok (and2 (and2 z).1).1
      exact (comp_step IH c.e h).2 hi hl (by rw [sw_eq hk, c.e.scope, z])
    · intro e t k it ifs t2 k2 it2 ifs2 own elt tg iter ifs' tg2 iter2 ifs2' scope p h _ z
      have hl : X.env.scope.names.lookup y = some .local := by
        rw [c.e.scope]
        exact kindB_ok (and2 (and2 z).1).1
      exact (comp2_step IH c.e h).2 hi hl (by rw [sw_eq hk, c.e.scope, z])
end
end VS

set_option Elab.async false
set_option linter.all false
set_option maxRecDepth 100000
set_option maxHeartbeats 8000000
/-! VS 27: the check is sound: statements. -/
namespace VS
open PySem PySem.Spec PyProof.Rows L2
section
variable {g : Ck} {lv n : Nat} {cl : Cl} {sc : Scope} {X : Cx} {W : WX}
theorem chkS_split {P : Sm → Stmt → Prop} (n : Nat) (sc : Scope)
    (bad : ∀ st, P .bad st)
    (asg : ∀ i e y py v p, (slotB g.N i y && asB sc y && chkE g n sc e v) = true → P (.asg (.nm i) e) (.Assign [.Name y py] v p))
    (unp : ∀ l e es k p1 v p, (namesB g sc l es && (notTup v || (match v with
      | .Tuple vs _ _ => vs.all (foldedForSure 8) || noSw sc es
      | _ => false)) && chkE g n sc e v) = true → P (.asg (.tp l) e) (.Assign [.Tuple es k p1] v p))
    (par : ∀ l es' es k1 p1 vs k2 p2 p, (parsB g l es && parB sc es vs && (Nat.beq es.length vs.length) && chkEs g n sc es' vs) = true → P (.par l es') (.Assign [.Tuple es k1 p1] (.Tuple vs k2 p2) p))
    (seti : ∀ i j e x xp j' tp v p, (varB g sc i x && plainB j' && chkE g n sc j j' && chkE g n sc e v) = true → P (.seti i j e) (.Assign [.Subscript (.Name x xp) j' tp] v p))
    (doc : ∀ x k p q, P .pas (.Expr (.Constant (.str x) k p) q))
    (ex : ∀ e v p, (!isComp v && chkE g n sc e v) = true → P (.ex e) (.Expr v p))
    (ret : ∀ e v p, chkE g n sc e v = true → P (.ret e) (.Return (some v) p))
    (retN : ∀ p, P (.ret (.con .non)) (.Return none p))
    (ite : ∀ c a b t x y p, (tstB t && chkE g n sc c t && chkB g n sc a x && chkB g n sc b y) = true → P (.ite c a b) (.If t x y p))
    (for_ : ∀ t k it b tg iter body p, (tgB g sc t tg && noSet iter && chkI g n sc k it tg iter && chkB g n sc b body) = true → P (.for t k it b) (.For tg iter body [] p))
    (whl : ∀ c b t body p, (tstB t && chkE g n sc c t && chkB g n sc b body) = true → P (.whl c b) (.While t body [] p))
    (brk : ∀ p, P .brk (.Break p)) (cnt : ∀ p, P .cnt (.Continue p)) (pas : ∀ p, P .pas (.Pass p)) :
    ∀ {s : Sm} {st : Stmt}, chkS g (n + 1) sc s st = true → P s st := by
  intro s st h
  unfold chkS at h
  split at h
  · exact bad _
  · next heq => cases heq; exact asg _ _ _ _ _ _ h
  · next heq => cases heq; exact unp _ _ _ _ _ _ _ h
  · next heq => cases heq; exact par _ _ _ _ _ _ _ _ _ h
  · next heq => cases heq; exact seti _ _ _ _ _ _ _ _ _ h
  · exact doc _ _ _ _
  · next heq => cases heq; exact ex _ _ _ h
  · next heq => cases heq; exact ret _ _ _ h
  · exact retN _
  · next heq => cases heq; exact ite _ _ _ _ _ _ _ h
  · next heq => cases heq; exact for_ _ _ _ _ _ _ _ _ h
  · next heq => cases heq; exact whl _ _ _ _ _ h
  · exact brk _
  · exact cnt _
  · exact pas _
  · cases h
structure OkS (g : Ck) (lv : Nat) (cl : Cl) (n : Nat) : Prop where
  s : ∀ {sc X W s st}, CkS g lv cl sc X W → chkS g n sc s st = true → ES X W st (evS cl s)
  b : ∀ {sc X W s st}, CkS g lv cl sc X W → chkB g n sc s st = true → EB X W st (evB cl s)
theorem pars_ok (c : CkE g lv cl sc sc X W) : ∀ {l : List Nat} {es : List Expr}, parsB g l es = true → l.length = es.length ∧ ∀ (j : Nat) (x : Str) (p : Pos), es[j]? = some (.Name x p) → ∃ i, l[j]? = some i ∧ X.N[i]? = some x
  | [], [], _ => ⟨rfl, fun j x p h => by simp at h⟩
  | [], _ :: _, h => by cases h
  | _ :: _, [], h => by cases h
  | i :: l, e :: es, h => by
    cases e with
    | Name x p =>
      obtain ⟨h1, h2⟩ := and2 (show (slotB g.N i x && parsB g l es) = true from h)
      obtain ⟨q1, q2⟩ := pars_ok c h2
      refine ⟨by rw [List.length_cons, List.length_cons, q1], fun j y py hj => ?_⟩
      cases j with
      | zero =>
        have e : Expr.Name x p = .Name y py := by simpa using hj
        cases e
        exact ⟨i, rfl, by rw [c.N]; exact slotB_ok h1⟩
      | succ j => exact q2 j y py (by simpa using hj)
    | _ => cases h
theorem nd_ne {N : List Str} {i j : Nat} {x y : Str} (h1 : N[i]? = some x) (h2 : N[j]? = some y) (ne : x ≠ y) : i ≠ j := fun e => by
  subst e
  rw [h1] at h2
  cases h2
  exact ne rfl
theorem par_step (c : CkS g lv cl sc X W) {l : List Nat} {es' : List Ex} {es vs : List Expr} {k1 k2 : Nat} {p1 p2 p : Pos} (h : (parsB g l es && parB sc es vs && (Nat.beq es.length vs.length) && chkEs g n sc es' vs) = true) : ES X W (.Assign [.Tuple es k1 p1] (.Tuple vs k2 p2) p) (mPar l (evPs cl es')) := by
  obtain ⟨h, h1⟩ := and2 h
  obtain ⟨h, h2⟩ := and2 h
  obtain ⟨h3, h4⟩ := and2 h
  obtain ⟨_, _, ep, hs, _⟩ := (ok_all (g := g) (lv := lv) (cl := cl) n).es c.e h1
  obtain ⟨ll, at_⟩ := pars_ok c.e h3
  have hl := Nat.eq_of_beq_eq_true h2
  have hk : X.env.scope.kind = .function := by rw [c.e.scope]; exact c.kind
  have hw := h4
  match es, vs, hl, ll, at_, hs, ep, h4, hw with
  | [.Name x px, .Name y py], [a, b], _, ll, at_, hs, ep, h4, hw =>
    obtain ⟨i, i1, i2⟩ := at_ 0 x px rfl
    obtain ⟨j, j1, j2⟩ := at_ 1 y py rfl
    match l, ll, i1, j1 with
    | [i', j'], _, i1, j1 =>
      cases i1
      cases j1
      obtain ⟨q, q1⟩ := and2 h4
      obtain ⟨q, q2⟩ := and2 q
      obtain ⟨q, q3⟩ := and2 q
      obtain ⟨q, q4⟩ := and2 q
      obtain ⟨q5, q6⟩ := and2 q
      exact es_par2 c.e.calm c.e.nd i2 j2 (nd_ne i2 j2 (ne_of_bf (not_t q3))) (by rw [c.e.scope]; exact kindB_ok q5) (by rw [c.e.scope]; exact kindB_ok q6) ep (ss_two hk hs (by rw [c.e.scope]; exact hw)) rfl
  | [.Name x px, .Name y py, .Name z pz], [a, b, d], _, ll, at_, hs, ep, h4, hw =>
    obtain ⟨i, i1, i2⟩ := at_ 0 x px rfl
    obtain ⟨j, j1, j2⟩ := at_ 1 y py rfl
    obtain ⟨k, k1, k2⟩ := at_ 2 z pz rfl
    match l, ll, i1, j1, k1 with
    | [i', j', k'], _, i1, j1, k1 =>
      cases i1
      cases j1
      cases k1
      obtain ⟨q, q1⟩ := and2 h4
      obtain ⟨q, q2⟩ := and2 q
      obtain ⟨q, q3⟩ := and2 q
      obtain ⟨q, q4⟩ := and2 q
      obtain ⟨q, q5⟩ := and2 q
      obtain ⟨q, q6⟩ := and2 q
      obtain ⟨q, q7⟩ := and2 q
      obtain ⟨q, q8⟩ := and2 q
      obtain ⟨q9, q10⟩ := and2 q
      exact es_par3 c.e.calm c.e.nd i2 j2 k2 (nd_ne i2 j2 (ne_of_bf (not_t q5))) (nd_ne i2 k2 (ne_of_bf (not_t q4))) (nd_ne j2 k2 (ne_of_bf (not_t q3))) (by rw [c.e.scope]; exact kindB_ok q9) (by rw [c.e.scope]; exact kindB_ok q10) (by rw [c.e.scope]; exact kindB_ok q8) ep (ss_three hk hs (by rw [c.e.scope]; exact hw)) rfl
theorem s_step (IH : OkS g lv cl n) (c : CkS g lv cl sc X W) : ∀ {s : Sm} {st : Stmt}, chkS g (n + 1) sc s st = true → ES X W st (evS cl s) := by
  have E := ok_all (g := g) (lv := lv) (cl := cl) n
  intro s0 st0 h0
  refine chkS_split (g := g) (P := fun s st => ES X W st (evS cl s)) n sc ?_ ?_ ?_ ?_ ?_ ?_ ?_ ?_ ?_ ?_ ?_ ?_ ?_ ?_ ?_ h0
  · exact fun st => es_bad
  · intro i e y py v p h
    cases n with
    | zero => exact absurd (and2 h).2 (by intro z; cases z)
    | succ n => exact asg_ok c h
  · intro l e es k p1 v p h
    obtain ⟨h, h1⟩ := and2 h
    obtain ⟨h2, h3⟩ := and2 h
    have hn := c.e.names h2
    obtain ⟨l1, l2⟩ := names_len hn
    refine es_unp c.e.calm c.e.nd hn (E.e c.e h1) (sw_tup v es k p1 p.line X.env) ?_ rfl l1 l2
    rcases Bool.or_eq_true_iff.mp h3 with h3 | h3
    · exact ss_no h3 _ _ _ _
    · cases v <;> first | (cases h3; done) | skip
      rename_i vs k2 p2 _ _
      rcases Bool.or_eq_true_iff.mp (show (vs.all (foldedForSure 8) || noSw sc es) = true from h3) with h3 | h3
      · exact ss_con h3 _
      · exact ss_cell (by rw [c.e.scope]; exact h3)
  · exact fun l es' es k1 p1 vs k2 p2 p h => par_step c h
  · intro i j e x xp j' tp v p h
    obtain ⟨h, h1⟩ := and2 h
    obtain ⟨h, h2⟩ := and2 h
    obtain ⟨h, h3⟩ := and2 h
    obtain ⟨v1, v2, v3, v4⟩ := c.e.var h
    exact es_seti (by have := c.e.hu; omega) v1 v2 v3 v4 (E.e c.e h2) (E.e c.e h1) (asg_sub h3 _ _ _) (sw_sub v (.Name x xp) j' tp p.line X.env) (ss_sub v (.Name x xp) j' tp X.env) (asg_each _ _ _ _)
  · exact fun x k p q => es_doc
  · intro e v p h
    obtain ⟨h, h1⟩ := and2 h
    exact es_expr (E.e c.e h1) (sw_no (not_t h) _ _ _)
  · exact fun e v p h => es_ret (E.e c.e h)
  · exact fun p => es_retN
  · intro c' a b t x y p h
    obtain ⟨h, h1⟩ := and2 h
    obtain ⟨h, h2⟩ := and2 h
    obtain ⟨h, h3⟩ := and2 h
    exact es_if (E.t c.e h h3) (IH.b c h2) (IH.b c h1)
  · intro t k it b tg iter body p h
    obtain ⟨h, h1⟩ := and2 h
    obtain ⟨h, h2⟩ := and2 h
    obtain ⟨h, h3⟩ := and2 h
    exact es_for c.po c.e.calm (E.i c.e h2) (c.e.tg h) (IH.b c h1) (set_ok h3)
  · intro c' b t body p h
    obtain ⟨h, h1⟩ := and2 h
    obtain ⟨h, h2⟩ := and2 h
    exact es_whl c.po (E.t c.e h h2) (IH.b c h1)
  · exact fun p => es_brk
  · exact fun p => es_cnt
  · exact fun p => es_pass
theorem b_step (IH : OkS g lv cl n) (c : CkS g lv cl sc X W) : ∀ {s : List Sm} {st : List Stmt}, chkB g (n + 1) sc s st = true → EB X W st (evB cl s) := by
  intro s st h
  unfold chkB at h
  split at h
  · exact eb_nil
  · next heq =>
    cases heq
    obtain ⟨h, h1⟩ := and2 h
    exact eb_cons (IH.s c h) (IH.b c h1)
  · cases h
end
theorem oks_all {g : Ck} {lv : Nat} {cl : Cl} : ∀ n, OkS g lv cl n
  | 0 => by
    constructor
    · intro _ _ _ _ _ _ h; cases h
    · intro _ _ _ _ _ _ h; cases h
  | n + 1 => by
    have IH := oks_all (g := g) (lv := lv) (cl := cl) n
    exact ⟨fun c h => s_step IH c h, fun c h => b_step IH c h⟩
end VS

set_option Elab.async false
set_option linter.all false
set_option maxRecDepth 100000
set_option maxHeartbeats 8000000
/-! VS 28: a def's promise. -/
namespace VS
open PySem PySem.Spec PyProof.Rows L2
section
variable {k : Kn} {σ σ' : L2.St} {ρ ρ' ss : Env} {F F' H H' : Hp} {vs : List V} {m n : Nat}
theorem ext_get {i : Nat} {s : Sl} (h : (ss ++ List.replicate m Sl.un)[i]? = some s) : ss[i]? = some s ∨ s = .un := by
  by_cases z : i < ss.length
  · rw [List.getElem?_append_left z] at h
    exact .inl h
  · rw [List.getElem?_append_right (by omega)] at h
    refine .inr ?_
    have := List.mem_of_getElem? h
    exact (List.mem_replicate.mp this).2
theorem ext_st {i : Nat} {x : Option V} (hi : i < vs.length) : (vs.map some ++ List.replicate n none)[i]? = (vs.map some)[i]? := List.getElem?_append_left (by rw [List.length_map]; exact hi)
theorem Rp.ext (r : Rp k ss F (vs.map some) H) (e : ss.length + m = vs.length + n) : Rp k (ss ++ List.replicate m .un) F (vs.map some ++ List.replicate n none) H := by
  have hl : ss.length = vs.length := by rw [r.len, List.length_map]
  have at_ : ∀ {i : Nat} {s : Sl}, ss[i]? = some s → (vs.map some ++ List.replicate n none)[i]? = (vs.map some)[i]? := fun {i s} h => by
    have := (List.getElem?_eq_some_iff.mp h).1
    exact List.getElem?_append_left (by rw [List.length_map]; omega)
  refine ⟨by simp; omega, r.sub, fun i s h => ?_, fun i j s t d e a h1 h2 h3 h4 h5 h6 => ?_, fun i j t d e a h1 h2 h3 h4 h5 => ?_⟩
  · rcases ext_get h with h | rfl
    · rw [at_ h]; exact r.slot i s h
    · trivial
  · rcases ext_get h1 with h1 | rfl
    · rcases ext_get h2 with h2 | rfl
      · rw [at_ h1] at h5
        rw [at_ h2] at h6
        exact r.disj i j s t d e a h1 h2 h3 h4 h5 h6
      · cases h4
    · cases h3
  · rcases ext_get h1 with h1 | z
    · rcases ext_get h2 with h2 | rfl
      · rw [at_ h1] at h4
        rw [at_ h2] at h5
        exact r.lkd i j t d e a h1 h2 h3 h4 h5
      · cases h3
    · cases z
/-- the caller's slots behind the run -/
theorem outs_nil : ∀ {ss : Env}, outs ss [] = ss
  | [] => rfl
  | a :: l => by cases a <;> (show _ :: outs l [] = _; rw [outs_nil])
theorem outs_get : ∀ {ss ρ' : Env} {i : Nat} {s : Sl}, ss[i]? = some s → (outs ss ρ')[i]? = match s with
    | .le d => some (ρ'[i]?.getD (.le d))
    | _ => some s
  | [], _, i, s, h => by simp at h
  | a :: l, [], i, s, h => by
    rw [outs_nil, h]
    cases s <;> rfl
  | a :: l, b :: ρ, 0, s, h => by
    have e : a = s := by simpa using h
    subst e
    cases a <;> rfl
  | a :: l, b :: ρ, i + 1, s, h => by
    have ih := outs_get (ss := l) (ρ' := ρ) (i := i) (s := s) (by simpa using h)
    cases a <;> (show (outs l ρ)[i]? = _; rw [ih]; cases s <;> rfl)
theorem outs_len : ∀ {ss ρ' : Env}, (outs ss ρ').length = ss.length
  | [], _ => rfl
  | a :: l, [] => by
    cases a <;> (show (outs l []).length + 1 = _; rw [outs_len]; rfl)
  | a :: l, b :: ρ => by
    cases a <;> (show (outs l ρ).length + 1 = _; rw [outs_len]; rfl)
theorem outs_tr (r : Rp k ss F (vs.map some) H) (ar : ∀ s ∈ ss, s.arg = true) (t : Tr k (vs.map some ++ List.replicate n none) (ss ++ List.replicate m .un) F H σ' ρ' F' H') :
    Tr k (vs.map some) ss F H (vs.map some) (outs ss ρ') F' H' ∧ ∀ a, Hd (vs.map some) (outs ss ρ') a → Hd σ' ρ' a := by
  have hl : ss.length = vs.length := by rw [r.len, List.length_map]
  have st : ∀ {i : Nat}, i < ss.length → (vs.map some ++ List.replicate n none)[i]? = (vs.map some)[i]? := fun {i} h => List.getElem?_append_left (by rw [List.length_map]; omega)
  have ex : ∀ {i : Nat} {s : Sl}, ss[i]? = some s → (ss ++ List.replicate m Sl.un)[i]? = some s := fun {i s} h => by
    rw [List.getElem?_append_left (List.getElem?_eq_some_iff.mp h).1]; exact h
  have owE : ∀ {a}, Ow (vs.map some ++ List.replicate n none) (ss ++ List.replicate m .un) a → Ow (vs.map some) ss a := fun {a} ⟨i, s, d, h1, h2, h3⟩ => by
    rcases ext_get h1 with h1 | rfl
    · rw [st (List.getElem?_eq_some_iff.mp h1).1] at h3
      exact ⟨i, s, d, h1, h2, h3⟩
    · cases h2
  have hdE : ∀ {a}, Hd (vs.map some ++ List.replicate n none) (ss ++ List.replicate m .un) a → Hd (vs.map some) ss a := fun {a} ⟨i, s, d, h1, h2, h3⟩ => by
    rcases ext_get h1 with h1 | rfl
    · rw [st (List.getElem?_eq_some_iff.mp h1).1] at h3
      exact ⟨i, s, d, h1, h2, h3⟩
    · cases h2
  -- each slot behind
  have out : ∀ {i : Nat} {u : Sl}, (outs ss ρ')[i]? = some u → ∃ s, ss[i]? = some s ∧ ((∃ d, s = .fz d ∧ u = .fz d) ∨ (∃ d, s = .le d ∧ ρ'[i]? = some u ∧ ((∃ e, u = .le e) ∨ ∃ e, u = .lz e)) ∨ ∃ d, s = .lk d ∧ u = .lk d ∧ ρ'[i]? = some (.lk d)) := fun {i u} h => by
    have hi : i < ss.length := by
      have := (List.getElem?_eq_some_iff.mp h).1
      rw [outs_len] at this
      exact this
    have hs := List.getElem?_eq_getElem hi
    have ha := ar _ (List.getElem_mem hi)
    refine ⟨ss[i], hs, ?_⟩
    generalize ss[i] = s at hs ha
    have g := outs_get (ρ' := ρ') hs
    rw [h] at g
    cases s with
    | fz d => cases g; exact .inl ⟨d, rfl, rfl⟩
    | le d =>
      have g : some u = some (ρ'[i]?.getD (.le d)) := g
      obtain ⟨_, s', h2, h3⟩ := t.fix i _ (ex hs) rfl
      rw [h2] at g
      have e : u = s' := Option.some.inj g
      subst e
      exact .inr (.inl ⟨d, rfl, h2, h3⟩)
    | lk d =>
      cases g
      obtain ⟨_, s', h2, h3⟩ := t.fix i _ (ex hs) rfl
      have h3 : s' = .lk d := h3
      subst h3
      exact .inr (.inr ⟨d, rfl, rfl, h2⟩)
    | _ => cases ha
  have fixσ : ∀ {i : Nat} {s : Sl}, ss[i]? = some s → s.fixd = true → σ'[i]? = (vs.map some)[i]? := fun {i s} h1 h2 => by
    rw [(t.fix i s (ex h1) h2).1]
    exact st (List.getElem?_eq_some_iff.mp h1).1
  -- one that holds something is one of the run's
  have con : ∀ {i : Nat} {u : Sl} {d : D}, (outs ss ρ')[i]? = some u → u.con = some d → ρ'[i]? = some u ∧ σ'[i]? = (vs.map some)[i]? := fun {i u d} h1 h2 => by
    obtain ⟨s, hs, ⟨e, rfl, rfl⟩ | ⟨e, rfl, q, _⟩ | ⟨e, rfl, rfl, q⟩⟩ := out h1
    · cases h2
    · exact ⟨q, fixσ hs rfl⟩
    · exact ⟨q, fixσ hs rfl⟩
  have hdA : ∀ a, Hd (vs.map some) (outs ss ρ') a → Hd σ' ρ' a := fun a ⟨i, u, d, h1, h2, h3⟩ => by
    obtain ⟨q1, q2⟩ := con h1 h2
    exact ⟨i, u, d, q1, h2, by rw [q2]; exact h3⟩
  have owA : ∀ a, Ow (vs.map some) (outs ss ρ') a → Ow σ' ρ' a := fun a ⟨i, u, d, h1, h2, h3⟩ => by
    obtain ⟨q1, q2⟩ := con h1 (Sl.own_con h2)
    exact ⟨i, u, d, q1, h2, by rw [q2]; exact h3⟩
  have sF : Sub F F' := fun a o h => by
    by_cases q : Ow (vs.map some ++ List.replicate n none) (ss ++ List.replicate m .un) a
    · rw [r.notF (owE q)] at h
      cases h
    · rw [(t.keep a o (r.sub a o h) q).2]
      exact h
  refine ⟨⟨⟨by rw [outs_len]; exact r.len, t.rp.sub, fun i u h => ?_, fun i j s u d e a h1 h2 h3 h4 h5 h6 => ?_, fun i j u d e a h1 h2 h3 h4 h5 => ?_⟩, fun a o h nb => t.keep a o h fun z => nb (owE z), t.dom, fun a h => (t.own a (owA a h)).imp owE id, fun a h => (t.hld a (hdA a h)).imp hdE id, fun i s h1 h2 => ⟨rfl, ?_⟩, fun i d h => ⟨?_, rfl⟩⟩, hdA⟩
  · obtain ⟨s, hs, ⟨e, rfl, rfl⟩ | ⟨e, rfl, q, _⟩ | ⟨e, rfl, rfl, q⟩⟩ := out h
    · obtain ⟨x, p1, p2⟩ := r.slot i _ hs
      exact ⟨x, p1, p2.mono sF⟩
    · have sl := t.rp.slot i u q
      rw [fixσ hs rfl] at sl
      exact sl
    · have sl := t.rp.slot i _ q
      rw [fixσ hs rfl] at sl
      exact sl
  · obtain ⟨p1, p2⟩ := con h1 (Sl.own_con h3)
    obtain ⟨q1, q2⟩ := con h2 (Sl.own_con h4)
    exact t.rp.disj i j s u d e a p1 q1 h3 h4 (by rw [p2]; exact h5) (by rw [q2]; exact h6)
  · obtain ⟨p1, p2⟩ := con h1 rfl
    obtain ⟨q1, q2⟩ := con h2 (Sl.own_con h3)
    exact t.rp.lkd i j u d e a p1 q1 h3 (by rw [p2]; exact h4) (by rw [q2]; exact h5)
  · have g := outs_get (ρ' := ρ') h1
    cases s with
    | le d =>
      obtain ⟨_, s', h3, h4⟩ := t.fix i _ (ex h1) rfl
      have g : (outs ss ρ')[i]? = some (ρ'[i]?.getD (.le d)) := g
      rw [h3] at g
      exact ⟨s', g, h4⟩
    | lk d => exact ⟨.lk d, g, rfl⟩
    | lz d => exact ⟨.lz d, g, rfl⟩
    | _ => cases h2
  · obtain ⟨s, hs, ⟨e, rfl, z⟩ | ⟨e, rfl, _, ⟨_, z⟩ | ⟨_, z⟩⟩ | ⟨e, rfl, z, _⟩⟩ := out h
    · cases z
    · cases z
    · cases z
    · cases z; exact hs
end
/-! ### the promise -/
section
variable {P : Program} {w : World} {K : PySem.W.Frag} {mg : Str → Option Value} {base : Heap}
theorem sp_body {k : Kn} {W : WX} {m : Env → Fl} {np ns : Nat} {vs : List V} {H : Hp} {Q : VK} {E : XK} {N : List Str} (hN : N.length = ns) (hn : np ≤ ns) (hw : ∀ c d σ H, E c d H → W c d σ H)
    (h : spV k np (fun ss => if Nat.beq ss.length np then fin ss (m (ss ++ List.replicate (ns - np) .un)) else .bad) vs H Q E) : tS k W m { nx := fun _ H' => Q .non H', rt := Q } (L2.start N vs) H := by
  obtain ⟨hl, ss, F, r, ar, h⟩ := h
  by_cases z : Nat.beq ss.length np = true
  · simp only [z, if_true] at h
    have hs := Nat.eq_of_beq_eq_true z
    have r' : Rp k (ss ++ List.replicate (ns - np) .un) F (L2.start N vs) H := by
      unfold L2.start
      exact Rp.ext r (by omega)
    refine ⟨_, F, r', ?_⟩
    have tr : ∀ {σ' : L2.St} {ρ' : Env} {F' H' : Hp}, Tr k (L2.start N vs) (ss ++ List.replicate (ns - np) .un) F H σ' ρ' F' H' → Tr k (vs.map some) ss F H (vs.map some) (outs ss ρ') F' H' ∧ ∀ a, Hd (vs.map some) (outs ss ρ') a → Hd σ' ρ' a := fun {σ' ρ' F' H'} t => by
      unfold L2.start at t
      exact outs_tr r ar t
    cases em : m (ss ++ List.replicate (ns - np) .un) with
    | nx ρ' =>
      rw [em] at h
      exact fun σ' F' H' t => h F' H' (tr t).1 .non (by show RepV k F' .non .non; unfold RepV; rfl)
    | rt v ρ' =>
      rw [em] at h
      intro σ' F' H' t x rr
      obtain ⟨t1, t2⟩ := tr t
      refine h F' H' t1 x ?_
      cases v with
      | fz d => exact rr
      | fr d => obtain ⟨a, h1, h2, h3, h4⟩ := rr; exact ⟨a, h1, h2, fun z => h3 (t2 a z), h4⟩
    | bk ρ' => rw [em] at h; exact False.elim h
    | ct ρ' => rw [em] at h; exact False.elim h
    | exc c v ρ' =>
      rw [em] at h
      exact fun σ' F' H' t cls dx xo => hw _ _ _ _ (h F' H' (tr t).1 cls dx xo)
    | bad => rw [em] at h; exact False.elim h
  · simp only [z] at h; exact False.elim h
end
end VS

set_option Elab.async false
set_option linter.all false
set_option maxRecDepth 100000
set_option maxHeartbeats 8000000
/-! VS 29: the defs of a program, all levels. -/
namespace VS
open PySem PySem.Spec PyProof.Rows L2
theorem zip_look {x : Str} : ∀ {ps : List Str} {us : List Value}, x ∈ ps → us.length = ps.length → ((ps.zip us).lookup x).isNone = false
  | [], _, h, _ => by simp at h
  | p :: ps, [], _, hl => by simp at hl
  | p :: ps, u :: us, h, hl => by
    rw [List.zip_cons_cons, List.lookup_cons]
    cases e : x == p with
    | true => rfl
    | false =>
      rcases List.mem_cons.mp h with rfl | h
      · rw [beq_self_eq_true] at e; cases e
      · exact zip_look h (by simpa using hl)
theorem zip_back : ∀ (ps : List Str) (us : List Value), ps.Nodup → us.length = ps.length → (ps.filterMap fun n => ((ps.zip us).lookup n).map (n, ·)) = ps.zip us
  | [], us, _, _ => by simp
  | p :: ps, [], _, hl => by simp at hl
  | p :: ps, u :: us, nd, hl => by
    obtain ⟨n1, n2⟩ := List.nodup_cons.mp nd
    rw [List.zip_cons_cons, List.filterMap_cons]
    have e : ((p, u) :: ps.zip us).lookup p = some u := by rw [List.lookup_cons, beq_self_eq_true]
    rw [e]
    show (p, u) :: _ = _
    congr 1
    have : ∀ n ∈ ps, ((p, u) :: ps.zip us).lookup n = (ps.zip us).lookup n := fun n hn => by
      rw [List.lookup_cons]
      cases e : n == p with
      | true => rw [eq_of_beq e] at hn; exact absurd hn n1
      | false => rfl
    have gen : ∀ l : List Str, (∀ n ∈ l, n ∈ ps) → (l.filterMap fun n => (((p, u) :: ps.zip us).lookup n).map (n, ·)) = l.filterMap fun n => ((ps.zip us).lookup n).map (n, ·) := fun l => by
      induction l with
      | nil => intro _; rfl
      | cons n l ih =>
        intro h
        rw [List.filterMap_cons, List.filterMap_cons, this n (h n List.mem_cons_self), ih fun m hm => h m (List.mem_cons_of_mem _ hm)]
    rw [gen ps fun _ h => h]
    exact zip_back ps us n2 (by simpa using hl)
theorem bind_plain {fd : FuncData} {as : List Arg} {us : List Value} (hp : fd.params = ⟨[], as, none, [], [], none, []⟩) (hd : fd.defaults = .none) (nd : (as.map (·.arg)).Nodup) (hl : us.length = (as.map (·.arg)).length) : bindArgs fd ⟨us, []⟩ = pure ((as.map (·.arg)).zip us) := by
  generalize hps : as.map (·.arg) = ps at *
  unfold bindArgs
  simp only [hp, hd, hps, List.map_nil, List.nil_append, List.append_nil]
  have e1 : (ps.take ps.length).filter (fun n => ((ps.zip us).lookup n).isNone) = [] := by
    rw [List.take_length]
    exact List.filter_eq_nil_iff.mpr fun n hn => by rw [zip_look hn hl]; decide
  have e2 := zip_back ps us nd hl
  have e3 : (seqItems? Value.none : Sem (Option (Array Value))) = pure none := rfl
  rw [e3]
  have e4 : ¬ (us.length > ps.length) := by omega
  simp [e4, e1, e2]
  intro x hx h
  exfalso
  have q := zip_look hx hl
  cases e : (ps.zip us).lookup x with
  | none => rw [e] at q; cases q
  | some v => exact h v (PySem.mem_of_lookup e)
/-! ### the table -/
structure DefI where
  name : Str
  qual : Str
  as : List Arg
  body : List Stmt
  scope : Scope
  N : List Str
  fn : Fn
def DefI.ps (d : DefI) : List Str := d.as.map (·.arg)
def DefI.chk (fid : Str → Option (Nat × Nat)) (gl : Str → Option D) (n : Nat) (d : DefI) : Bool :=
  C8.scC d.N d.ps d.scope && (Nat.beq d.fn.ns d.N.length && (Nat.beq d.fn.np d.ps.length && chkB ⟨d.N, fid, gl⟩ n d.scope d.fn.body d.body))
/-- a def of the table stands in the written part -/
structure DefF (K : PySem.W.Frag) (mg : Str → Option Value) (d : DefI) : Prop where
  ex : ∃ (f : Addr) (fd : FuncData), FunD K d.name d.qual ⟨[], d.as, none, [], [], none, []⟩ d.body d.scope [] [] f fd ∧ mg d.name = some (.ref f)
structure GlK (K : PySem.W.Frag) (mg : Str → Option Value) (x : Str) (d : D) : Prop where
  ex : ∃ u v, mg x = some u ∧ RelV v u ∧ ∀ F, RepV ⟨K, mg⟩ F d v
/-- the defs at a level -/
structure Lib (P : Program) (w : World) (K : PySem.W.Frag) (mg : Str → Option Value) (base : Heap) (G : Nat → Option Fn) (fid : Str → Option (Nat × Nat)) (lv : Nat) : Prop where
  fn : ∀ x f np, fid x = some (f, np) → (∀ ss, ss.length ≠ np → callF G lv f ss = .bad) ∧ ∃ (a : Addr) (fd : FuncData) (ps : List Str), ps.length = np ∧ mg x = some (.ref a) ∧ PySem.W.keepIn K (.ref a) = true ∧ Binds K fd ps [] ∧
    FnOk P w K mg base (L2.CX P w) lv a fd ps (spV ⟨K, mg⟩ np (callF G lv f))
section
variable {P : Program} {w : World} {K : PySem.W.Frag} {mg : Str → Option Value} {base : Heap} {G : Nat → Option Fn} {fid : Str → Option (Nat × Nat)} {gl : Str → Option D} {n : Nat}
theorem def_ok {lv : Nat} {d : DefI} {f : Nat} (L : Lib P w K mg base G fid lv) (hgl : ∀ x v, gl x = some v → GlK K mg x v) (hbl : ∀ x ∈ bltN, mg x = none) (hG : G f = some d.fn) (hf : DefF K mg d) (hc : d.chk fid gl n = true) :
    (∀ ss, ss.length ≠ d.ps.length → callF G (lv + 1) f ss = .bad) ∧ ∃ (a : Addr) (fd : FuncData) (ps : List Str), ps.length = d.ps.length ∧ mg d.name = some (.ref a) ∧ PySem.W.keepIn K (.ref a) = true ∧ Binds K fd ps [] ∧
      FnOk P w K mg base (L2.CX P w) (lv + 1) a fd ps (spV ⟨K, mg⟩ d.ps.length (callF G (lv + 1) f)) := by
  obtain ⟨h1, hc⟩ := and2 hc
  obtain ⟨h2, hc⟩ := and2 hc
  obtain ⟨h3, h4⟩ := and2 hc
  have S := C8.fnScope_by h1
  have h2 := Nat.eq_of_beq_eq_true h2
  have h3 := Nat.eq_of_beq_eq_true h3
  obtain ⟨a, fd, F, hm⟩ := hf.ex
  have ec : ∀ ss, callF G (lv + 1) f ss = if Nat.beq ss.length d.ps.length then fin ss (evB (callF G lv) d.fn.body (ss ++ List.replicate (d.fn.ns - d.ps.length) .un)) else .bad := fun ss => by
    show (match G f with
      | some fn => runF (callF G lv) fn ss
      | none => .bad) = _
    rw [hG]
    show (if Nat.beq ss.length d.fn.np then fin ss (evB (callF G lv) d.fn.body (ss ++ List.replicate (d.fn.ns - d.fn.np) .un)) else .bad) = _
    rw [h3]
  have len : d.ps.length ≤ d.N.length := by
    have := congrArg List.length S.pre
    rw [List.length_take] at this
    omega
  have nd : d.ps.Nodup := by
    rw [← S.pre]
    exact (List.take_sublist _ _).nodup S.nd
  refine ⟨fun ss hl => ?_, a, fd, d.ps, rfl, hm, F.kp, ?_, ?_⟩
  · rw [ec ss]
    have : ¬ Nat.beq ss.length d.ps.length = true := fun z => hl (Nat.eq_of_beq_eq_true z)
    rw [if_neg this]
  · exact F.bindsN fun kV doc pm an cdv ct us hl => bind_plain rfl rfl nd hl
  · refine FunD.ok F S (fun vs H Q E h => h.1) fun cdv A outer s H vs Q E hr hsp => ?_
    have tk : Takes (cxOf (L2.CX P w) P w K mg base d.N d.qual d.scope a cdv A outer s H E) (fun cls dx _ H => E cls dx H) := takes_of rfl rfl rfl rfl
    have ce : CkE ⟨d.N, fid, gl⟩ lv (callF G lv) d.scope d.scope (cxOf (L2.CX P w) P w K mg base d.N d.qual d.scope a cdv A outer s H E) (fun cls dx _ H => E cls dx H) := by
      refine ⟨rfl, S.nd, rfl, rfl, fun x hx => ?_, fun x f np e => ?_, fun x v e => ?_, hbl, hr, hr.units, tk⟩
      · rcases Bool.or_eq_true_iff.mp hx with hx | hx
        · exact ⟨.inl (kindB_ok hx), .inl rfl⟩
        · exact ⟨.inr (kindB_ok hx), .inl rfl⟩
      · obtain ⟨q1, q2⟩ := L.fn x f np e
        exact ⟨q1, q2⟩
      · exact ⟨(hgl x v e).ex⟩
    have cs : CkS ⟨d.N, fid, gl⟩ lv (callF G lv) d.scope (cxOf (L2.CX P w) P w K mg base d.N d.qual d.scope a cdv A outer s H E) (fun cls dx _ H => E cls dx H) := ⟨ce, S.kind, passes_of rfl⟩
    refine ⟨_, ((oks_all n).b cs h4).ps, ?_⟩
    refine sp_body (np := d.ps.length) (ns := d.fn.ns) h2.symm (by rw [h2]; exact len) (fun _ _ _ _ h => h) ?_
    have e : (callF G (lv + 1) f) = fun ss => if Nat.beq ss.length d.ps.length then fin ss (evB (callF G lv) d.fn.body (ss ++ List.replicate (d.fn.ns - d.ps.length) .un)) else .bad := funext ec
    rw [e] at hsp
    exact hsp
/-- every def of the table keeps its promise, at each level -/
theorem lib_all (hd : ∀ x f np, fid x = some (f, np) → ∃ d : DefI, d.name = x ∧ d.ps.length = np ∧ G f = some d.fn ∧ DefF K mg d ∧ d.chk fid gl n = true) (hgl : ∀ x v, gl x = some v → GlK K mg x v) (hbl : ∀ x ∈ bltN, mg x = none) : ∀ lv, Lib P w K mg base G fid lv
  | 0 => ⟨fun x f np e => by
    obtain ⟨d, rfl, rfl, hG, hf, hc⟩ := hd x f np e
    obtain ⟨h1, hc⟩ := and2 hc
    have S := C8.fnScope_by h1
    have nd : d.ps.Nodup := by
      rw [← S.pre]
      exact (List.take_sublist _ _).nodup S.nd
    obtain ⟨a, fd, F, hm⟩ := hf.ex
    exact ⟨fun _ _ => rfl, a, fd, d.ps, rfl, hm, F.kp, F.bindsN fun kV doc pm an cdv ct us hl => bind_plain rfl rfl nd hl, fun vs H Q E h => h.1, fun A outer s H args us vs Q E hr he hb hv hs => by
      obtain ⟨_, _, _, _, _, h⟩ := hs
      exact False.elim h⟩⟩
  | lv + 1 => by
    have L := lib_all hd hgl hbl lv
    refine ⟨fun x f np e => ?_⟩
    obtain ⟨d, rfl, rfl, hG, hf, hc⟩ := hd x f np e
    exact def_ok L hgl hbl hG hf hc
end
end VS

set_option Elab.async false
set_option linter.all false
set_option maxRecDepth 100000
set_option maxHeartbeats 4000000
/-! VS 30: the evaluator by steps. -/
namespace VS
open PySem PySem.Spec PyProof.Rows L2
section
variable {α β : Type} {cl : Cl} {ρ ρ1 : Env} {a b c : Ex} {d e : D} {i j : Nat} {l : List Ex}
@[simp] theorem bind_ok (x : α) (ρ : Env) (f : α → Env → Out β) : (Out.ok x ρ).bind f = f x ρ := rfl
@[simp] theorem bind_bad (f : α → Env → Out β) : (Out.bad : Out α).bind f = .bad := rfl
@[simp] theorem fl_ok (x : α) (ρ : Env) (f : α → Env → Fl) : (Out.ok x ρ).fl f = f x ρ := rfl
/-! the IR -/
@[simp] theorem ev_var_ : evE cl (.var i) = mVar i := rfl
@[simp] theorem ev_con_ : evE cl (.con d) = mCon d := rfl
@[simp] theorem ev_glo_ : evE cl (.glo d) = mCon d := rfl
@[simp] theorem ev_bin_ {o : Bop} : evE cl (.bin o a b) = mTwo (binD o) (evE cl a) (evE cl b) := rfl
@[simp] theorem ev_neg_ : evE cl (.neg a) = mOne negD (evE cl a) := rfl
@[simp] theorem ev_cmp_ {o : Cop} : evE cl (.cmp o a b) = mTwo (cmpV o) (evE cl a) (evE cl b) := rfl
@[simp] theorem ev_chain_ {o p : Cop} : evE cl (.chain o p a b c) = mChain (cmpV o) (cmpV p) (evE cl a) (evE cl b) (evE cl c) := rfl
@[simp] theorem ev_band_ : evE cl (.band l) = evAnd cl l := rfl
@[simp] theorem ev_bor_ : evE cl (.bor l) = evOr cl l := rfl
@[simp] theorem ev_bnot_ : evE cl (.bnot a) = mNotV (evE cl a) := rfl
@[simp] theorem ev_ite_ : evE cl (.ite c a b) = mIte (mTru (evE cl c)) (evE cl a) (evE cl b) := rfl
@[simp] theorem ev_tup_ : evE cl (.tup l) = mTup (evUs cl l) := rfl
@[simp] theorem ev_lst_ : evE cl (.lst l) = mLst (evUs cl l) := rfl
@[simp] theorem ev_ix_ : evE cl (.ix a b) = mTwo ixV (evE cl a) (evE cl b) := rfl
@[simp] theorem ev_sl_ {lo hi : Option Ex} : evE cl (.sl a lo hi) = mSl slD (evE cl a) (evO cl lo) (evO cl hi) := rfl
@[simp] theorem ev_rev_ : evE cl (.rev a) = mOne revD (evE cl a) := rfl
@[simp] theorem ev_isi_ {t : List Ty} : evE cl (.isi a t) = mOne (isiV t) (evE cl a) := rfl
@[simp] theorem ev_bf_ {f : Bf} : evE cl (.bf f l) = mBf (bfD f) (evEs cl l) := rfl
@[simp] theorem ev_mf_ {f : Mf} : evE cl (.mf f i l) = mMfO (mfD f) i (evUs cl l) := rfl
@[simp] theorem ev_call_ : evE cl (.call i l) = mCall (cl i) (evAs cl l) := rfl
@[simp] theorem ev_dic0_ : evE cl .dic0 = mDic0 := rfl
@[simp] theorem ev_dic1_ : evE cl (.dic1 a b) = mDic1 (evE cl a) (evE cl b) := rfl
@[simp] theorem ev_sset_ : evE cl (.sset a) = mOne ssetF (evE cl a) := rfl
@[simp] theorem ev_comp_ {t : Tg} {k : Ik} {it ifs : List Ex} {own : List Nat} : evE cl (.comp a t k it ifs own) = mComp own t k (evEs cl it) (evIf cl ifs) (evE cl a) := rfl
@[simp] theorem ev_comp2_ {t t2 : Tg} {k k2 : Ik} {it ifs it2 ifs2 : List Ex} {own : List Nat} : evE cl (.comp2 a t k it ifs t2 k2 it2 ifs2 own) = mComp2 own t t2 k k2 (evEs cl it) (evIf cl ifs) (evEs cl it2) (evIf cl ifs2) (evE cl a) := rfl
@[simp] theorem ev_and1_ : evAnd cl [a] = evE cl a := rfl
@[simp] theorem ev_and2_ : evAnd cl (a :: b :: l) = mAndV (evE cl a) (evAnd cl (b :: l)) := rfl
@[simp] theorem ev_or1_ : evOr cl [a] = evE cl a := rfl
@[simp] theorem ev_or2_ : evOr cl (a :: b :: l) = mOrV (evE cl a) (evOr cl (b :: l)) := rfl
@[simp] theorem ev_if0_ : evIf cl [] = mYes := rfl
@[simp] theorem ev_if1_ : evIf cl [a] = mTru (evE cl a) := rfl
@[simp] theorem ev_o0_ : evO cl none = mNone := rfl
@[simp] theorem ev_o1_ : evO cl (some a) = mOpt (evE cl a) := rfl
@[simp] theorem ev_es0_ : evEs cl [] = mNil := rfl
@[simp] theorem ev_es1_ : evEs cl (a :: l) = mLs (evE cl a) (evEs cl l) := rfl
@[simp] theorem ev_us0_ : evUs cl [] = mNil := rfl
@[simp] theorem ev_us1_ : evUs cl (a :: l) = mUs (evE cl a) (evUs cl l) := rfl
@[simp] theorem ev_as0_ : evAs cl [] = mNil := rfl
@[simp] theorem ev_asl_ : evAs cl (.lend i :: l) = mAn (.lend i) i (evAs cl l) := rfl
@[simp] theorem ev_ask_ : evAs cl (.look i :: l) = mAn (.look i) i (evAs cl l) := rfl
@[simp] theorem ev_as_var : evAs cl (.var i :: l) = mAv (mVar i) (evAs cl l) := rfl
@[simp] theorem ev_as_con : evAs cl (.con d :: l) = mAv (mCon d) (evAs cl l) := rfl
@[simp] theorem ev_as_glo : evAs cl (.glo d :: l) = mAv (mCon d) (evAs cl l) := rfl
@[simp] theorem ev_as_bin {o : Bop} : evAs cl (.bin o a b :: l) = mAv (evE cl (.bin o a b)) (evAs cl l) := rfl
@[simp] theorem ev_as_neg : evAs cl (.neg a :: l) = mAv (evE cl (.neg a)) (evAs cl l) := rfl
@[simp] theorem ev_as_cmp {o : Cop} : evAs cl (.cmp o a b :: l) = mAv (evE cl (.cmp o a b)) (evAs cl l) := rfl
@[simp] theorem ev_as_ite : evAs cl (.ite c a b :: l) = mAv (evE cl (.ite c a b)) (evAs cl l) := rfl
@[simp] theorem ev_as_tup {m : List Ex} : evAs cl (.tup m :: l) = mAv (evE cl (.tup m)) (evAs cl l) := rfl
@[simp] theorem ev_as_lst {m : List Ex} : evAs cl (.lst m :: l) = mAv (evE cl (.lst m)) (evAs cl l) := rfl
@[simp] theorem ev_as_ix : evAs cl (.ix a b :: l) = mAv (evE cl (.ix a b)) (evAs cl l) := rfl
@[simp] theorem ev_as_sl {lo hi : Option Ex} : evAs cl (.sl a lo hi :: l) = mAv (evE cl (.sl a lo hi)) (evAs cl l) := rfl
@[simp] theorem ev_as_rev : evAs cl (.rev a :: l) = mAv (evE cl (.rev a)) (evAs cl l) := rfl
@[simp] theorem ev_as_bf {f : Bf} {m : List Ex} : evAs cl (.bf f m :: l) = mAv (evE cl (.bf f m)) (evAs cl l) := rfl
@[simp] theorem ev_as_mf {f : Mf} {m : List Ex} : evAs cl (.mf f i m :: l) = mAv (evE cl (.mf f i m)) (evAs cl l) := rfl
@[simp] theorem ev_as_call {m : List Ex} : evAs cl (.call i m :: l) = mAv (evE cl (.call i m)) (evAs cl l) := rfl
@[simp] theorem ev_as_comp {t : Tg} {k : Ik} {it ifs : List Ex} {own : List Nat} : evAs cl (.comp a t k it ifs own :: l) = mAv (evE cl (.comp a t k it ifs own)) (evAs cl l) := rfl
@[simp] theorem ev_ps0_ : evPs cl [] = mNil := rfl
@[simp] theorem ev_ps1_ : evPs cl (a :: l) = mPs (evE cl a) (evPs cl l) := rfl
variable {s : Sm} {sa sb : List Sm} {t : Tg}
@[simp] theorem ev_sasg_ : evS cl (.asg t a) = mAsg t (evE cl a) := rfl
@[simp] theorem ev_spar_ {m : List Nat} : evS cl (.par m l) = mPar m (evPs cl l) := rfl
@[simp] theorem ev_sseti_ : evS cl (.seti i a b) = mSeti i (evE cl a) (evE cl b) := rfl
@[simp] theorem ev_sex_ : evS cl (.ex a) = mExp (evE cl a) := rfl
@[simp] theorem ev_sret_ : evS cl (.ret a) = mRet (evE cl a) := rfl
@[simp] theorem ev_site_ : evS cl (.ite c sa sb) = mIf (mTru (evE cl c)) (evB cl sa) (evB cl sb) := rfl
@[simp] theorem ev_sfor_ {k : Ik} : evS cl (.for t k l sa) = mFor t k (evEs cl l) (evB cl sa) := rfl
@[simp] theorem ev_swhl_ : evS cl (.whl c sa) = whiles (mTru (evE cl c)) (evB cl sa) wmost := rfl
@[simp] theorem ev_sbrk_ : evS cl .brk ρ = .bk ρ := rfl
@[simp] theorem ev_scnt_ : evS cl .cnt ρ = .ct ρ := rfl
@[simp] theorem ev_spas_ : evS cl .pas ρ = .nx ρ := rfl
@[simp] theorem ev_b0_ : evB cl [] ρ = .nx ρ := rfl
@[simp] theorem ev_b1_ : evB cl (s :: sa) ρ = mSeq (evS cl s) (evB cl sa) ρ := rfl
/-! the steps -/
variable {ma mb mc : Env → Out Rr} {mt mu : Env → Out Bool} {ml : Env → Out (List Rr)} {md : Env → Out (List D)} {mr : Env → Out (List Ar)} {ms mw : Env → Fl}
@[simp] theorem mVar_ap : mVar i ρ = match ρ[i]? with
  | some (.fz d) => .ok (.fz d) ρ
  | some (.lz d) => .ok (.fz d) ρ
  | some (.ow _) => .ok (.own i) ρ
  | some (.le _) => .ok (.own i) ρ
  | some (.lk _) => .ok (.own i) ρ
  | _ => .bad := rfl
@[simp] theorem mCon_ap : mCon d ρ = .ok (.fz d) ρ := rfl
def opt2 (f : D → D → Option Vr) : Option D → Option D → Env → Out Rr
  | some x, some y, ρ => outV (f x y) ρ
  | _, _, _ => .bad
def opt1 (f : D → Option Vr) : Option D → Env → Out Rr
  | some x, ρ => outV (f x) ρ
  | _, _ => .bad
def opts (f : List D → Option Vr) : Option (List D) → Env → Out Rr
  | some x, ρ => outV (f x) ρ
  | _, _ => .bad
@[simp] theorem opt2_some {f : D → D → Option Vr} {x y : D} : opt2 f (some x) (some y) ρ = outV (f x y) ρ := rfl
@[simp] theorem opt1_some {f : D → Option Vr} {x : D} : opt1 f (some x) ρ = outV (f x) ρ := rfl
@[simp] theorem opts_some {f : List D → Option Vr} {x : List D} : opts f (some x) ρ = outV (f x) ρ := rfl
@[simp] theorem mTwo_ap {f : D → D → Option Vr} : mTwo f ma mb ρ = (ma ρ).bind fun r ρ1 => (mb ρ1).bind fun q ρ2 => opt2 f (pkR r ρ2) (pkR q ρ2) ρ2 := by
  show ((ma ρ).bind fun r ρ1 => (mb ρ1).bind fun q ρ2 => match pk2 r q ρ2 with
  | some (x, y) => outV (f x y) ρ2
  | none => .bad) = _
  congr 1; funext r ρ1; congr 1; funext q ρ2
  unfold pk2
  cases pkR r ρ2 <;> cases pkR q ρ2 <;> rfl
@[simp] theorem mOne_ap {f : D → Option Vr} : mOne f ma ρ = (ma ρ).bind fun r ρ1 => opt1 f (pkR r ρ1) ρ1 := by
  show ((ma ρ).bind fun r ρ1 => match pkR r ρ1 with
  | some x => outV (f x) ρ1
  | none => .bad) = _
  congr 1; funext r ρ1
  cases pkR r ρ1 <;> rfl
@[simp] theorem mBf_ap {f : List D → Option Vr} : mBf f ml ρ = (ml ρ).bind fun rs ρ1 => opts f (pkRs rs ρ1) ρ1 := by
  show ((ml ρ).bind fun rs ρ1 => match pkRs rs ρ1 with
  | some ds => outV (f ds) ρ1
  | none => .bad) = _
  congr 1; funext r ρ1
  cases pkRs r ρ1 <;> rfl
@[simp] theorem outV_fz : outV (some (.fz d)) ρ = .ok (.fz d) ρ := rfl
@[simp] theorem outV_fr : outV (some (.fr d)) ρ = .ok (.fr d) ρ := rfl
@[simp] theorem pkR_fz : pkR (.fz d) ρ = some d := rfl
@[simp] theorem pkR_fr : pkR (.fr d) ρ = some d := rfl
@[simp] theorem pkR_own : pkR (.own i) ρ = match ρ[i]? with
    | some (.ow d) => some d
    | some (.le d) => some d
    | some (.lk d) => some d
    | _ => none := rfl
@[simp] theorem pkRs_nil : pkRs [] ρ = some [] := rfl
def ocons : Option D → Option (List D) → Option (List D)
  | some d, some l => some (d :: l)
  | _, _ => none
@[simp] theorem ocons_some {l : List D} : ocons (some d) (some l) = some (d :: l) := rfl
@[simp] theorem pkRs_cons {r : Rr} {l : List Rr} : pkRs (r :: l) ρ = ocons (pkR r ρ) (pkRs l ρ) := by
  show (match pkR r ρ with
    | some d => (pkRs l ρ).map (d :: ·)
    | none => none) = _
  cases pkR r ρ <;> cases pkRs l ρ <;> rfl
@[simp] theorem useR_fz : useR (.fz d) ρ = .ok d ρ := rfl
@[simp] theorem useR_fr : useR (.fr d) ρ = .ok d ρ := rfl
@[simp] theorem useR_own : useR (.own i) ρ = match ρ[i]? with
    | some (.ow d) => .ok d (ρ.set i (.fz d))
    | some (.le d) => .ok d (ρ.set i (.lz d))
    | _ => .bad := rfl
@[simp] theorem settle_fz : settle (.fz d) = .fz d := rfl
@[simp] theorem settle_fr : settle (.fr d) = .fz d := rfl
@[simp] theorem settle_own : settle (.own i) = .own i := rfl
def tru1 : Option D → Env → Out Bool
  | some d, ρ => (match d.truth with
    | some b => .ok b ρ
    | none => .bad)
  | none, _ => .bad
@[simp] theorem tru1_bl {b : Bool} : tru1 (some (.bl b)) ρ = .ok b ρ := rfl
@[simp] theorem tru1_int {k : Int} : tru1 (some (.int k)) ρ = .ok (k != 0) ρ := rfl
@[simp] theorem tru1_tup {l : List D} : tru1 (some (.tup l)) ρ = .ok (!l.isEmpty) ρ := rfl
@[simp] theorem tru1_lst {l : List D} : tru1 (some (.lst l)) ρ = .ok (!l.isEmpty) ρ := rfl
@[simp] theorem tru1_non : tru1 (some .non) ρ = .ok false ρ := rfl
@[simp] theorem truR_eq {r : Rr} : truR r ρ = tru1 (pkR r ρ) ρ := by
  unfold truR
  cases pkR r ρ with
  | none => rfl
  | some d => rfl
@[simp] theorem mTru_ap : mTru ma ρ = (ma ρ).bind fun r ρ1 => truR r ρ1 := rfl
@[simp] theorem mUs_ap : mUs ma md ρ = (ma ρ).bind fun r ρ1 => (useR r ρ1).bind fun d ρ2 => (md ρ2).bind fun ds ρ3 => .ok (d :: ds) ρ3 := rfl
@[simp] theorem mLs_ap : mLs ma ml ρ = (ma ρ).bind fun r ρ1 => (ml ρ1).bind fun rs ρ2 => .ok (settle r :: rs) ρ2 := rfl
@[simp] theorem mAndV_ap : mAndV ma mb ρ = (ma ρ).bind fun r ρ1 => (truR r ρ1).bind fun b ρ2 => match b with
  | true => mb ρ2
  | false => .ok r ρ2 := rfl
@[simp] theorem mOrV_ap : mOrV ma mb ρ = (ma ρ).bind fun r ρ1 => (truR r ρ1).bind fun b ρ2 => match b with
  | true => .ok r ρ2
  | false => mb ρ2 := rfl
@[simp] theorem mNotV_ap : mNotV ma ρ = (ma ρ).bind fun r ρ1 => (truR r ρ1).bind fun b ρ2 => .ok (.fz (.bl (!b))) ρ2 := rfl
@[simp] theorem mIte_ap : mIte mt ma mb ρ = (mt ρ).bind fun k ρ2 => match k with
  | true => ma ρ2
  | false => mb ρ2 := rfl
@[simp] theorem mTup_ap : mTup md ρ = (md ρ).bind fun ds ρ1 => if szB ds.length then .ok (.fz (.tup ds)) ρ1 else .bad := rfl
@[simp] theorem mLst_ap : mLst md ρ = (md ρ).bind fun ds ρ1 => if szB ds.length then .ok (.fr (.lst ds)) ρ1 else .bad := rfl
@[simp] theorem mOpt_ap : mOpt ma ρ = (ma ρ).bind fun r ρ1 => match (pkR r ρ1).bind intOf with
  | some i => .ok (some i) ρ1
  | none => .bad := rfl
@[simp] theorem intOf_int {k : Int} : intOf (.int k) = some k := rfl
@[simp] theorem mSl_ap {f : D → Option Int → Option Int → Option Vr} {mo mp : Env → Out (Option Int)} : mSl f ma mo mp ρ = (ma ρ).bind fun r ρ1 => (mo ρ1).bind fun u ρ2 => (mp ρ2).bind fun v ρ3 => opt1 (fun x => f x u v) (pkR r ρ3) ρ3 := by
  show ((ma ρ).bind fun r ρ1 => (mo ρ1).bind fun u ρ2 => (mp ρ2).bind fun v ρ3 => match pkR r ρ3 with
  | some x => outV (f x u v) ρ3
  | none => .bad) = _
  congr 1; funext r ρ1; congr 1; funext u ρ2; congr 1; funext v ρ3
  cases pkR r ρ3 <;> rfl
@[simp] theorem mMf_ap {f : D → List D → Option (D × D)} : mMfO f i md ρ = if ownL ρ i then mMf f i md ρ else .bad := rfl
@[simp] theorem mMf_ap2 {f : D → List D → Option (D × D)} : mMf f i md ρ = (md ρ).bind fun ds ρ1 => match ρ1[i]? with
  | some (.ow d) => (match f d ds with
    | some (d', v) => .ok (.fz v) (ρ1.set i (.ow d'))
    | none => .bad)
  | some (.le d) => (match f d ds with
    | some (d', v) => .ok (.fz v) (ρ1.set i (.le d'))
    | none => .bad)
  | _ => .bad := rfl
@[simp] theorem mAv_ap : mAv ma mr ρ = (ma ρ).bind fun r ρ1 => (useR r ρ1).bind fun d ρ2 => (mr ρ2).bind fun as ρ3 => .ok (.val d :: as) ρ3 := rfl
@[simp] theorem mAn_ap {x : Ar} : mAn x i mr ρ = if hasB ρ i then (mr ρ).bind fun as ρ1 => .ok (x :: as) ρ1 else .bad := rfl
/-- behind a call -/
def aft (as : List Ar) (ρ : Env) : Cr → Out Rr
  | .ok r o => (match backs as o ρ with
        | some ρ' => .ok r.rr ρ'
        | none => .bad)
  | .exc c v o => (match backs as o ρ with
        | some ρ' => .exc c v ρ'
        | none => .bad)
  | .bad => .bad
def callO (c : List Sl → Cr) (as : List Ar) (ρ : Env) : Option (List Sl) → Out Rr
  | some ss => aft as ρ (c ss)
  | none => .bad
@[simp] theorem callO_some {c : List Sl → Cr} {as : List Ar} {ss : List Sl} : callO c as ρ (some ss) = aft as ρ (c ss) := rfl
@[simp] theorem mCall_ap {c : List Sl → Cr} : mCall c mr ρ = (mr ρ).bind fun as ρ1 => if arOk as then callO c as ρ1 (arSs ρ1 as) else .bad := by
  show ((mr ρ).bind fun as ρ1 => if arOk as then
    match arSs ρ1 as with
    | some ss => (match c ss with
      | .ok r o => (match backs as o ρ1 with
        | some ρ' => .ok r.rr ρ'
        | none => .bad)
      | .exc c v o => (match backs as o ρ1 with
        | some ρ' => .exc c v ρ'
        | none => .bad)
      | .bad => .bad)
    | none => .bad
  else .bad) = _
  congr 1
@[simp] theorem aft_ok {as : List Ar} {v : Vr} {o : List Sl} : aft as ρ (.ok v o) = match backs as o ρ with
        | some ρ' => .ok v.rr ρ'
        | none => .bad := rfl
@[simp] theorem rr_fz : Vr.rr (.fz d) = .fz d := rfl
@[simp] theorem rr_fr : Vr.rr (.fr d) = .fr d := rfl
@[simp] theorem arOk_nil : arOk [] = true := rfl
@[simp] theorem arOk_val {as : List Ar} : arOk (.val d :: as) = arOk as := rfl
@[simp] theorem arOk_lend {as : List Ar} : arOk (.lend i :: as) = (!as.any (lendB i) && arOk as) := rfl
@[simp] theorem arOk_look_ {as : List Ar} : arOk (.look i :: as) = ((as.all fun a => match a with
    | .lend j => !Nat.beq i j
    | _ => true) && arOk as) := rfl
@[simp] theorem lendB_val : lendB i (.val d) = false := rfl
@[simp] theorem lendB_lend : lendB i (.lend j) = Nat.beq i j := rfl
@[simp] theorem lendB_look : lendB i (.look j) = Nat.beq i j := rfl
def scons : Option Sl → Option (List Sl) → Option (List Sl)
  | some d, some l => some (d :: l)
  | _, _ => none
@[simp] theorem scons_some {x : Sl} {l : List Sl} : scons (some x) (some l) = some (x :: l) := rfl
@[simp] theorem arSs_nil : arSs ρ [] = some [] := rfl
@[simp] theorem arSs_cons {x : Ar} {as : List Ar} : arSs ρ (x :: as) = scons (arS ρ x) (arSs ρ as) := by
  show (match arS ρ x with
    | some s => (arSs ρ as).map (s :: ·)
    | none => none) = _
  cases arS ρ x <;> cases arSs ρ as <;> rfl
@[simp] theorem arS_val : arS ρ (.val d) = some (.fz d) := rfl
@[simp] theorem arS_lend : arS ρ (.lend i) = match ρ[i]? with
    | some (.ow d) => some (.le d)
    | some (.le d) => some (.le d)
    | _ => none := rfl
@[simp] theorem arS_look : arS ρ (.look i) = match ρ[i]? with
    | some (.ow d) => some (.lk d)
    | some (.le d) => some (.lk d)
    | some (.lk d) => some (.lk d)
    | some (.fz d) => some (.fz d)
    | some (.lz d) => some (.fz d)
    | _ => none := rfl
@[simp] theorem backs_nil {o : List Sl} : backs [] o ρ = some ρ := rfl
@[simp] theorem backs_val {as : List Ar} {o : List Sl} {x : Sl} : backs (.val d :: as) (x :: o) ρ = backs as o ρ := rfl
@[simp] theorem backs_look {as : List Ar} {o : List Sl} {x : Sl} : backs (.look i :: as) (x :: o) ρ = backs as o ρ := rfl
@[simp] theorem backs_lend {as : List Ar} {o : List Sl} {x : Sl} : backs (.lend i :: as) (x :: o) ρ = match back1 i x ρ with
    | some ρ' => backs as o ρ'
    | none => none := rfl
@[simp] theorem back1_le : back1 i (.le d) ρ = match ρ[i]? with
  | some (.ow _) => some (ρ.set i (.ow d))
  | some (.le _) => some (ρ.set i (.le d))
  | _ => none := by
  unfold back1
  cases ρ[i]? with
  | none => rfl
  | some x => cases x <;> rfl
@[simp] theorem mNil_ap : (mNil : Env → Out (List α)) ρ = .ok [] ρ := rfl
@[simp] theorem mBad_ap : (mBad : Env → Out α) ρ = .bad := rfl
@[simp] theorem mNone_ap : mNone ρ = .ok none ρ := rfl
@[simp] theorem mYes_ap : mYes ρ = .ok true ρ := rfl
@[simp] theorem mDic0_ap : mDic0 ρ = .ok (.fr (.dic false [])) ρ := rfl
@[simp] theorem mDic1_ap : mDic1 ma mb ρ = (ma ρ).bind fun r ρ1 => (useR r ρ1).bind fun a ρ2 => (mb ρ2).bind fun q ρ3 => (useR q ρ3).bind fun b ρ4 => if keyOk false a then .ok (.fr (.dic false [(a, b)])) ρ4 else .bad := rfl
@[simp] theorem mChain_ap {f g : D → D → Option Vr} : mChain f g ma mb mc ρ = (ma ρ).bind fun r ρ1 => (mb ρ1).bind fun q ρ2 => match pk2 r q ρ2 with
  | some (x, y) => (match f x y with
    | some (.fz (.bl true)) => (mc ρ2).bind fun t ρ3 => (match pk2 q t ρ3 with
      | some (y, z) => outV (g y z) ρ3
      | none => .bad)
    | some (.fz (.bl false)) => .ok (.fz (.bl false)) ρ2
    | _ => .bad)
  | none => .bad := rfl
@[simp] theorem pk2_eq {r q : Rr} : pk2 r q ρ = match pkR r ρ, pkR q ρ with
  | some a, some b => some (a, b)
  | _, _ => none := rfl
@[simp] theorem mAsg_ap : mAsg t ma ρ = (ma ρ).fl fun r ρ1 => asgR t r ρ1 := rfl
@[simp] theorem mExp_ap : mExp ma ρ = (ma ρ).fl fun _ ρ1 => .nx ρ1 := rfl
@[simp] theorem mRet_ap : mRet ma ρ = (ma ρ).fl fun r ρ1 => retR r ρ1 := rfl
@[simp] theorem mIf_ap : mIf mt ms mw ρ = (mt ρ).fl fun k ρ1 => match k with
  | true => ms ρ1
  | false => mw ρ1 := rfl
@[simp] theorem mPar_ap {l : List Nat} {mx : Env → Out (List Sl)} : mPar l mx ρ = (mx ρ).fl fun ss ρ1 => flO (stoS l ss ρ1) := rfl
@[simp] theorem mPs_ap {mx : Env → Out (List Sl)} : mPs ma mx ρ = (ma ρ).bind fun r ρ1 => match r with
  | .fr d => (mx ρ1).bind fun ss ρ3 => .ok (.ow d :: ss) ρ3
  | r => (useR r ρ1).bind fun d ρ2 => (mx ρ2).bind fun ss ρ3 => .ok (.fz d :: ss) ρ3 := rfl
@[simp] theorem mSeti_ap : mSeti i ma mb ρ = (mb ρ).fl fun r ρ1 => (useR r ρ1).fl fun v ρ2 => if hasB ρ2 i then (ma ρ2).fl fun q ρ3 => match pkR q ρ3 with
  | some x => setR i x v ρ3
  | none => .bad else .bad := rfl
@[simp] theorem setR_ap {x v : D} : setR i x v ρ = match ρ[i]? with
  | some (.ow d) => (match setF d x v with
    | some d' => .nx (ρ.set i (.ow d'))
    | none => .bad)
  | some (.le d) => (match setF d x v with
    | some d' => .nx (ρ.set i (.le d'))
    | none => .bad)
  | _ => .bad := rfl
@[simp] theorem asgR_fr : asgR (.nm i) (.fr d) ρ = flO (sto ρ i (.ow d)) := rfl
@[simp] theorem asgR_fz : asgR (.nm i) (.fz d) ρ = flO (sto ρ i (.fz d)) := rfl
@[simp] theorem asgR_own : asgR (.nm i) (.own j) ρ = (useR (.own j) ρ).fl fun d ρ1 => flO (sto ρ1 i (.fz d)) := rfl
@[simp] theorem asgR_tpfz {l : List Nat} : asgR (.tp l) (.fz d) ρ = flO (tgD (.tp l) d ρ) := rfl
@[simp] theorem asgR_tpfr {l : List Nat} : asgR (.tp l) (.fr d) ρ = flO (tgD (.tp l) d ρ) := rfl
@[simp] theorem retR_fr : retR (.fr d) ρ = .rt (.fr d) ρ := rfl
@[simp] theorem retR_fz : retR (.fz d) ρ = .rt (.fz d) ρ := rfl
@[simp] theorem retR_own : retR (.own j) ρ = (useR (.own j) ρ).fl fun d ρ1 => .rt (.fz d) ρ1 := rfl
@[simp] theorem flO_some : flO (some ρ) = .nx ρ := rfl
@[simp] theorem sto_ap {x : Sl} : sto ρ i x = if stoB ρ i then some (ρ.set i x) else none := rfl
@[simp] theorem stoB_ap : stoB ρ i = match ρ[i]? with
  | some s => !s.fixd
  | none => false := rfl
@[simp] theorem fixd_un : Sl.fixd .un = false := rfl
@[simp] theorem fixd_fz : Sl.fixd (.fz d) = false := rfl
@[simp] theorem fixd_ow : Sl.fixd (.ow d) = false := rfl
@[simp] theorem tgD_nm : tgD (.nm i) d ρ = sto ρ i (.fz d) := rfl
@[simp] theorem tgD_tp {l : List Nat} {m : List D} : tgD (.tp l) (.tup m) ρ = stos l m ρ := rfl
@[simp] theorem stos_nil : stos [] [] ρ = some ρ := rfl
@[simp] theorem stos_cons {l : List Nat} {m : List D} : stos (i :: l) (d :: m) ρ = match sto ρ i (.fz d) with
    | some ρ' => stos l m ρ'
    | none => none := rfl
@[simp] theorem stoS_nil : stoS [] [] ρ = some ρ := rfl
@[simp] theorem stoS_cons {l : List Nat} {x : Sl} {m : List Sl} : stoS (i :: l) (x :: m) ρ = match sto ρ i x with
    | some ρ' => stoS l m ρ'
    | none => none := rfl
@[simp] theorem hasB_ap : hasB ρ i = match ρ[i]? with
  | some .un => false
  | some _ => true
  | none => false := rfl
@[simp] theorem ownL_ap : ownL ρ i = match ρ[i]? with
  | some (.ow (.lst _)) => true
  | some (.le (.lst _)) => true
  | _ => false := rfl
/-- statements in a row -/
def flB : Fl → (Env → Fl) → Fl
  | .nx ρ, m => m ρ
  | o, _ => o
@[simp] theorem mSeq_ap : mSeq ms mw ρ = flB (ms ρ) mw := by
  show (match ms ρ with
  | .nx ρ' => mw ρ'
  | o => o) = _
  cases ms ρ <;> rfl
@[simp] theorem flB_nx : flB (.nx ρ) mw = mw ρ := rfl
@[simp] theorem flB_rt {v : Vr} : flB (.rt v ρ) mw = .rt v ρ := rfl
@[simp] theorem flB_bk : flB (.bk ρ) mw = .bk ρ := rfl
@[simp] theorem flB_ct : flB (.ct ρ) mw = .ct ρ := rfl
@[simp] theorem fin_nx {ss : List Sl} : fin ss (.nx ρ) = .ok (.fz .non) (outs ss ρ) := rfl
@[simp] theorem fin_rt {ss : List Sl} {v : Vr} : fin ss (.rt v ρ) = .ok v (outs ss ρ) := rfl
@[simp] theorem outs_nil_ : outs [] ρ = [] := rfl
@[simp] theorem outs_le {ss : List Sl} {x : Sl} : outs (.le d :: ss) (x :: ρ) = x :: outs ss ρ := rfl
@[simp] theorem outs_fz {ss : List Sl} {x : Sl} : outs (.fz d :: ss) (x :: ρ) = .fz d :: outs ss ρ := rfl
@[simp] theorem outs_lk {ss : List Sl} {x : Sl} : outs (.lk d :: ss) (x :: ρ) = .lk d :: outs ss ρ := rfl
/-! operations -/
variable {x y : Int} {p q : Bool} {m n : List D} {u v : Str}
@[simp] theorem bin_add : binD .add (.int x) (.int y) = some (.fz (.int (x + y))) := rfl
@[simp] theorem bin_sub : binD .sub (.int x) (.int y) = some (.fz (.int (x - y))) := rfl
@[simp] theorem bin_mul : binD .mul (.int x) (.int y) = if fitB x || fitB y then some (.fz (.int (x * y))) else none := rfl
@[simp] theorem bin_fdv : binD .fdv (.int x) (.int y) = if decide (0 < y) && fitB y then some (.fz (.int (x / y))) else none := rfl
@[simp] theorem bin_mod : binD .mod (.int x) (.int y) = if decide (0 < y) then some (.fz (.int (x % y))) else none := rfl
@[simp] theorem bin_addT : binD .add (.tup m) (.tup n) = if szB (m.length + n.length) then some (.fz (.tup (m ++ n))) else none := rfl
@[simp] theorem bin_addL : binD .add (.lst m) (.lst n) = if szB (m.length + n.length) then some (.fr (.lst (m ++ n))) else none := rfl
@[simp] theorem bin_mulL : binD .mul (.lst m) (.int y) = if rgOk y && szB (m.length * y.toNat) then some (.fr (.lst (List.replicate y.toNat m).flatten)) else none := rfl
@[simp] theorem neg_int : negD (.int x) = some (.fz (.int (-x))) := rfl
@[simp] theorem cmpV_eq {o : Cop} : cmpV o d e = (cmpD o d e).map fun t => .fz (.bl t) := rfl
@[simp] theorem cmp_eqI : cmpD .eq (.int x) (.int y) = some (decide (x = y)) := rfl
@[simp] theorem cmp_eqS : cmpD .eq (.str u) (.str v) = some (decide (u = v)) := rfl
@[simp] theorem cmp_neS : cmpD .ne (.str u) (.str v) = some (!decide (u = v)) := rfl
@[simp] theorem cmp_neI : cmpD .ne (.int x) (.int y) = some (!decide (x = y)) := rfl
@[simp] theorem cmp_eqB : cmpD .eq (.bl p) (.bl q) = some (p == q) := rfl
@[simp] theorem cmp_neB : cmpD .ne (.bl p) (.bl q) = some (!(p == q)) := rfl
@[simp] theorem cmp_lt : cmpD .lt (.int x) (.int y) = some (decide (x < y)) := rfl
@[simp] theorem cmp_le : cmpD .le (.int x) (.int y) = some (decide (x ≤ y)) := rfl
@[simp] theorem cmp_gt : cmpD .gt (.int x) (.int y) = some (decide (y < x)) := rfl
@[simp] theorem cmp_ge : cmpD .ge (.int x) (.int y) = some (decide (y ≤ x)) := rfl
@[simp] theorem cmp_isN : cmpD .is .non .non = some true := rfl
@[simp] theorem cmp_isnN : cmpD .isn .non .non = some false := rfl
@[simp] theorem cmp_isI : cmpD .is (.int x) .non = some false := rfl
@[simp] theorem cmp_isnI : cmpD .isn (.int x) .non = some true := rfl
@[simp] theorem cmp_isT : cmpD .is (.tup m) .non = some false := rfl
@[simp] theorem cmp_isnT : cmpD .isn (.tup m) .non = some true := rfl
@[simp] theorem cmp_isL : cmpD .is (.lst m) .non = some false := rfl
@[simp] theorem cmp_isnL : cmpD .isn (.lst m) .non = some true := rfl
@[simp] theorem cmp_isB : cmpD .is (.bl p) .non = some false := rfl
@[simp] theorem cmp_isS : cmpD .is (.str u) .non = some false := rfl
@[simp] theorem cmp_inK {l : List (D × D)} : cmpD .isin (.int x) (.dic false l) = some (dhas l (.int x)) := rfl
@[simp] theorem cmp_ninK {l : List (D × D)} : cmpD .nin (.int x) (.dic false l) = some (!dhas l (.int x)) := rfl
@[simp] theorem ixV_eq : ixV d e = (ixD d e).map .fz := rfl
@[simp] theorem ix_tupI : ixD (.tup m) (.int x) = getI m x := rfl
@[simp] theorem ix_lstI : ixD (.lst m) (.int x) = getI m x := rfl
@[simp] theorem ix_scrI {l : List Int} : ixD (.scr l) (.int x) = (getI l x).map .int := rfl
@[simp] theorem ix_dicI {l : List (D × D)} : ixD (.dic false l) (.int x) = dget l (.int x) := rfl
@[simp] theorem getI_nat {l : List α} {k : Nat} : getI l (k : Int) = l[k]? := rfl
@[simp] theorem getI_lit {l : List α} {k : Nat} : getI l (OfNat.ofNat k) = l[k]? := rfl
@[simp] theorem isiV_eq {t : List Ty} : isiV t d = (tysD d t).map fun b => .fz (.bl b) := rfl
def ty1 : Option Bool → Option Bool → Option Bool
  | some true, _ => some true
  | some false, o => o
  | none, _ => none
@[simp] theorem ty1_t {o : Option Bool} : ty1 (some true) o = some true := rfl
@[simp] theorem ty1_f {o : Option Bool} : ty1 (some false) o = o := rfl
@[simp] theorem tys_nil : tysD d [] = some false := rfl
@[simp] theorem tys_cons {t : Ty} {ts : List Ty} : tysD d (t :: ts) = ty1 (tyD d t) (tysD d ts) := by
  show (match tyD d t with
    | some true => some true
    | some false => tysD d ts
    | none => none) = _
  cases tyD d t with
  | none => rfl
  | some b => cases b <;> rfl
@[simp] theorem ty_int {t : Ty} : tyD (.int x) t = some (catB .int t) := rfl
@[simp] theorem ty_bl {t : Ty} : tyD (.bl p) t = some (catB .bool t) := rfl
@[simp] theorem ty_str {t : Ty} : tyD (.str u) t = some (catB .str t) := rfl
@[simp] theorem ty_tup {t : Ty} : tyD (.tup m) t = some (catB .tup t) := rfl
@[simp] theorem ty_lst {t : Ty} : tyD (.lst m) t = some (catB .lst t) := rfl
@[simp] theorem ty_scr {l : List Int} {t : Ty} : tyD (.scr l) t = some (catB .lst t) := rfl
@[simp] theorem ty_non {t : Ty} : tyD .non t = some (catB .non t) := rfl
@[simp] theorem bf_len {l : List D} : bfD .len l = on1 lenF l := rfl
@[simp] theorem bf_abs {l : List D} : bfD .abs l = on1 absF l := rfl
@[simp] theorem bf_int {l : List D} : bfD .int l = on1 intF l := rfl
@[simp] theorem bf_tup {l : List D} : bfD .tup l = on1 tupF l := rfl
@[simp] theorem bf_lst {l : List D} : bfD .lst l = on1 lstF l := rfl
@[simp] theorem bf_sorted {l : List D} : bfD .sorted l = on1 sortF l := rfl
@[simp] theorem bf_sum {l : List D} : bfD .sum l = on1 sumF l := rfl
@[simp] theorem bf_all {l : List D} : bfD .all l = on1 allF l := rfl
@[simp] theorem bf_any {l : List D} : bfD .any l = on1 anyF l := rfl
@[simp] theorem bf_range {l : List D} : bfD .range l = on12 rng1 rng2 l := rfl
@[simp] theorem on1_one {f : D → Option Vr} : on1 f [d] = f d := rfl
@[simp] theorem on12_one {f : D → Option Vr} {g : D → D → Option Vr} : on12 f g [d] = f d := rfl
@[simp] theorem on12_two {f : D → Option Vr} {g : D → D → Option Vr} : on12 f g [d, e] = g d e := rfl
@[simp] theorem len_tup : lenF (.tup m) = some (.fz (.int m.length)) := rfl
@[simp] theorem len_lst : lenF (.lst m) = some (.fz (.int m.length)) := rfl
@[simp] theorem len_scr {l : List Int} : lenF (.scr l) = some (.fz (.int l.length)) := rfl
@[simp] theorem tup_tup : tupF (.tup m) = some (.fz (.tup m)) := rfl
@[simp] theorem tup_lst : tupF (.lst m) = some (.fz (.tup m)) := rfl
@[simp] theorem lst_tup : lstF (.tup m) = some (.fr (.lst m)) := rfl
@[simp] theorem lst_lst : lstF (.lst m) = some (.fr (.lst m)) := rfl
@[simp] theorem rng1_int : rng1 (.int x) = if rgOk x then some (.fz (.rng 0 x)) else none := rfl
@[simp] theorem rng2_int : rng2 (.int x) (.int y) = if rgOk x && rgOk y then some (.fz (.rng x y)) else none := rfl
@[simp] theorem int_int : intF (.int x) = some (.fz (.int x)) := rfl
@[simp] theorem int_bl : intF (.bl p) = some (.fz (.int (b2z p))) := rfl
@[simp] theorem abs_int : absF (.int x) = some (.fz (.int (if x < 0 then -x else x))) := rfl
end
/-- a call at a level -/
theorem call_at {G : Nat → Option Fn} {n f : Nat} {fn : Fn} {ss : List Sl} (h : G f = some fn) (hl : ss.length = fn.np) : callF G (n + 1) f ss = fin ss (evB (callF G n) fn.body (ss ++ List.replicate (fn.ns - fn.np) .un)) := by
  show (match G f with
    | some fn => runF (callF G n) fn ss
    | none => .bad) = _
  rw [h]
  show (if Nat.beq ss.length fn.np then fin ss (evB (callF G n) fn.body (ss ++ List.replicate (fn.ns - fn.np) .un)) else .bad) = _
  rw [hl, if_pos (Nat.beq_refl _)]
end VS

set_option Elab.async false
set_option linter.all false
set_option maxRecDepth 100000
set_option maxHeartbeats 4000000
/-! VS 31: comprehensions and loops, by what they compute. -/
namespace VS
open PySem PySem.Spec PyProof.Rows L2
theorem wipe_len : ∀ (l : List Nat) (ρ : Env), (wipeE l ρ).length = ρ.length
  | [], ρ => rfl
  | i :: l, ρ => by
    show ((wipeE l ρ).set i .un).length = _
    rw [List.length_set, wipe_len l ρ]
theorem wipe_out {j : Nat} : ∀ {l : List Nat} {ρ : Env}, j ∉ l → (wipeE l ρ)[j]? = ρ[j]?
  | [], ρ, _ => rfl
  | i :: l, ρ, h => by
    show ((wipeE l ρ).set i .un)[j]? = _
    rw [List.getElem?_set_ne (fun z => h (by rw [z]; exact List.mem_cons_self)), wipe_out fun z => h (List.mem_cons_of_mem _ z)]
theorem zunlock_len (ρ0 : Env) : ∀ (l : List Nat) (ρ : Env), (unlockAll ρ0 l ρ).length = ρ.length
  | [], ρ => rfl
  | i :: l, ρ => by
    show (unlockAll ρ0 l (match ρ0[i]? with
    | some s => ρ.set i s
    | none => ρ)).length = _
    rw [zunlock_len ρ0 l]
    cases ρ0[i]? with
    | none => rfl
    | some s => exact List.length_set
theorem zunlock_get (ρ0 : Env) {j : Nat} : ∀ {l : List Nat} {ρ : Env}, ρ0.length = ρ.length → (unlockAll ρ0 l ρ)[j]? = if j ∈ l then ρ0[j]? else ρ[j]?
  | [], ρ, _ => by simp [unlockAll]
  | i :: l, ρ, h => by
    show (unlockAll ρ0 l (match ρ0[i]? with
    | some s => ρ.set i s
    | none => ρ))[j]? = _
    have hl : ρ0.length = (match ρ0[i]? with
      | some s => ρ.set i s
      | none => ρ).length := by
      cases ρ0[i]? with
      | none => exact h
      | some s => rw [List.length_set]; exact h
    rw [zunlock_get ρ0 hl]
    by_cases hj : j ∈ l
    · rw [if_pos hj, if_pos (List.mem_cons_of_mem _ hj)]
    · rw [if_neg hj]
      by_cases e : j = i
      · subst e
        rw [if_pos List.mem_cons_self]
        cases e0 : ρ0[j]? with
        | none =>
          have h9 := List.getElem?_eq_none_iff.mp e0
          exact List.getElem?_eq_none (by show ρ.length ≤ j; omega)
        | some s =>
          have := (List.getElem?_eq_some_iff.mp e0).1
          exact List.getElem?_set_self (by omega)
      · rw [if_neg (by simp [e, hj])]
        cases ρ0[i]? with
        | none => rfl
        | some s => exact List.getElem?_set_ne (fun z => e z.symm)
theorem zlock1_len (i : Nat) (ρ : Env) : (lock1 i ρ).length = ρ.length := by
  unfold lock1
  cases ρ[i]? with
  | none => rfl
  | some s => cases s <;> first | rfl | exact List.length_set
theorem zlock_len : ∀ (l : List Nat) (ρ : Env), (lockAll l ρ).length = ρ.length
  | [], ρ => rfl
  | i :: l, ρ => (zlock_len l (lock1 i ρ)).trans (zlock1_len i ρ)
theorem lock1_out {i j : Nat} {ρ : Env} (h : i ≠ j) : (lock1 i ρ)[j]? = ρ[j]? := by
  unfold lock1
  cases ρ[i]? with
  | none => rfl
  | some s => cases s <;> first | rfl | exact List.getElem?_set_ne h
theorem lock_out {j : Nat} : ∀ {l : List Nat} {ρ : Env}, j ∉ l → (lockAll l ρ)[j]? = ρ[j]?
  | [], ρ, _ => rfl
  | i :: l, ρ, h => (lock_out (l := l) fun z => h (List.mem_cons_of_mem _ z)).trans (lock1_out fun z => h (by rw [z]; exact List.mem_cons_self))
theorem unlock_lock (l : List Nat) (ρ : Env) : unlockAll ρ l (lockAll l ρ) = ρ := by
  apply List.ext_getElem?
  intro j
  rw [zunlock_get ρ (zlock_len l ρ).symm]
  by_cases h : j ∈ l
  · rw [if_pos h]
  · rw [if_neg h, lock_out h]
theorem unlock_wipe {own : List Nat} {ρ ρ0 : Env} (h : wipeE own ρ = wipeE own ρ0) : unlockAll ρ0 own ρ = ρ0 := by
  have hl : ρ0.length = ρ.length := by
    have := congrArg List.length h
    rw [wipe_len, wipe_len] at this
    exact this.symm
  apply List.ext_getElem?
  intro j
  rw [zunlock_get ρ0 hl]
  by_cases hj : j ∈ own
  · rw [if_pos hj]
  · rw [if_neg hj, ← wipe_out (ρ := ρ) hj, h, wipe_out hj]
theorem lapF_wipe {own : List Nat} {t : Tg} {mi : Env → Out Bool} {me : Env → Out Rr} {d : D} {ρ ρ' : Env} (h : wipeE own ρ = wipeE own ρ') : lapF own t mi me d ρ = lapF own t mi me d ρ' := by
  unfold lapF
  rw [h]
theorem laps_pure {f : D → Env → Out (Option D)} {own : List Nat} {ρ0 : Env} {g : D → Option D} (hw : ∀ d ρ ρ', wipeE own ρ = wipeE own ρ' → f d ρ = f d ρ') : ∀ {ds : List D} {ρ : Env}, (∀ d ∈ ds, ∃ ρ', f d ρ0 = .ok (g d) ρ' ∧ wipeE own ρ' = wipeE own ρ0) → wipeE own ρ = wipeE own ρ0 → ∃ ρ', laps f ds ρ = .ok (ds.filterMap g) ρ' ∧ wipeE own ρ' = wipeE own ρ0
  | [], ρ, _, h0 => ⟨ρ, rfl, h0⟩
  | d :: l, ρ, h, h0 => by
    obtain ⟨ρ1, h1, h2⟩ := h d List.mem_cons_self
    obtain ⟨ρ2, h3, h4⟩ := laps_pure hw (ds := l) (ρ := ρ1) (fun e he => h e (List.mem_cons_of_mem _ he)) h2
    refine ⟨ρ2, ?_, h4⟩
    show (match f d ρ with
    | Out.ok o ρ' => (match laps f l ρ' with
      | Out.ok r ρ2 => Out.ok (match o with
        | some e => e :: r
        | none => r) ρ2
      | _ => .bad)
    | _ => .bad) = _
    rw [hw d ρ ρ0 h0, h1]
    simp only [h3, List.filterMap_cons]
    cases g d <;> rfl
/-- a comprehension over ds, the slots L locked -/
def compD (own : List Nat) (t : Tg) (mi : Env → Out Bool) (me : Env → Out Rr) (L : List Nat) (ρ1 : Env) (ds : List D) : Out Rr := if disjB own L && subB (tgS t) own then compEnd ρ1 own L (laps (lapF own t mi me) ds (lockAll L ρ1)) else .bad
def compO (own : List Nat) (t : Tg) (mi : Env → Out Bool) (me : Env → Out Rr) (L : List Nat) (ρ1 : Env) : Option (List D) → Out Rr
  | some ds => compD own t mi me L ρ1 ds
  | none => .bad
section
variable {own : List Nat} {t : Tg} {ik : Ik} {ml : Env → Out (List Rr)} {mi : Env → Out Bool} {me : Env → Out Rr} {ρ ρ1 : Env} {rs : List Rr} {vs ds : List D} {L : List Nat}
@[simp] theorem mComp_ap : mComp own t ik ml mi me ρ = (ml ρ).bind fun rs ρ1 => compO own t mi me (ownsR rs) ρ1 ((pkRs rs ρ1).bind (ikD ik)) := by
  show (ml ρ).bind (compR own t ik mi me) = _
  congr 1
@[simp] theorem compO_some : compO own t mi me L ρ1 (some ds) = compD own t mi me L ρ1 ds := rfl
theorem compD_ok {g : D → Option D} (h4 : (disjB own L && subB (tgS t) own) = true)
    (h5 : ∀ d ∈ ds, ∃ ρ', lapF own t mi me d (lockAll L ρ1) = .ok (g d) ρ' ∧ wipeE own ρ' = wipeE own (lockAll L ρ1)) (h6 : (ds.filterMap g).length ≤ 16777216) : compD own t mi me L ρ1 ds = .ok (.fr (.lst (ds.filterMap g))) ρ1 := by
  unfold compD
  rw [if_pos h4]
  obtain ⟨ρ', e1, e2⟩ := laps_pure (f := lapF own t mi me) (fun d ρ ρ' h => lapF_wipe h) h5 rfl
  rw [e1]
  show (if szB (ds.filterMap g).length = true then Out.ok (Rr.fr (.lst (ds.filterMap g))) (unlockAll ρ1 L (unlockAll (lockAll L ρ1) own ρ')) else .bad) = _
  rw [if_pos (show szB (ds.filterMap g).length = true from Nat.ble_eq.mpr h6), unlock_wipe e2, unlock_lock]
theorem compD_map {e : D → D} (h4 : (disjB own L && subB (tgS t) own) = true)
    (h5 : ∀ d ∈ ds, ∃ ρ', lapF own t mi me d (lockAll L ρ1) = .ok (some (e d)) ρ' ∧ wipeE own ρ' = wipeE own (lockAll L ρ1)) (h6 : ds.length ≤ 16777216) : compD own t mi me L ρ1 ds = .ok (.fr (.lst (ds.map e))) ρ1 := by
  have := compD_ok (g := fun d => some (e d)) h4 h5 (Nat.le_trans (List.length_filterMap_le _ _) h6)
  rw [List.filterMap_eq_map'] at this
  exact this
theorem compD_mapM {α : Type} {l : List α} {c : α → D} (e : α → D) (h4 : (disjB own L && subB (tgS t) own) = true)
    (h5 : ∀ x ∈ l, ∃ ρ', lapF own t mi me (c x) (lockAll L ρ1) = .ok (some (e x)) ρ' ∧ wipeE own ρ' = wipeE own (lockAll L ρ1)) (h6 : l.length ≤ 16777216) : compD own t mi me L ρ1 (l.map c) = .ok (.fr (.lst (l.map e))) ρ1 := by
  unfold compD
  rw [if_pos h4]
  have go : ∀ {l : List α} {ρ : Env}, (∀ x ∈ l, ∃ ρ', lapF own t mi me (c x) (lockAll L ρ1) = .ok (some (e x)) ρ' ∧ wipeE own ρ' = wipeE own (lockAll L ρ1)) → wipeE own ρ = wipeE own (lockAll L ρ1) → ∃ ρ', laps (lapF own t mi me) (l.map c) ρ = .ok (l.map e) ρ' ∧ wipeE own ρ' = wipeE own (lockAll L ρ1) := fun {l} => by
    induction l with
    | nil => exact fun {ρ} _ h0 => ⟨ρ, rfl, h0⟩
    | cons x l ih =>
      intro ρ h h0
      obtain ⟨ρ1, h1, h2⟩ := h x List.mem_cons_self
      obtain ⟨ρ2, h3, h4⟩ := ih (ρ := ρ1) (fun e he => h e (List.mem_cons_of_mem _ he)) h2
      refine ⟨ρ2, ?_, h4⟩
      rw [List.map_cons]
      unfold laps
      rw [lapF_wipe h0, h1]
      simp only [h3, List.map_cons]
  obtain ⟨ρ', e1, e2⟩ := go h5 (ρ := lockAll L ρ1) rfl
  rw [e1]
  show (if szB (l.map e).length = true then Out.ok (Rr.fr (.lst (l.map e))) (unlockAll ρ1 L (unlockAll (lockAll L ρ1) own ρ')) else .bad) = _
  rw [if_pos (show szB (l.map e).length = true from Nat.ble_eq.mpr (by rw [List.length_map]; exact h6)), unlock_wipe e2, unlock_lock]
/-- .. with a test -/
theorem compD_filM {α : Type} {l : List α} {c : α → D} (p : α → Bool) (e : α → D) (h4 : (disjB own L && subB (tgS t) own) = true)
    (h5 : ∀ x ∈ l, ∃ ρ', lapF own t mi me (c x) (lockAll L ρ1) = .ok (if p x then some (e x) else none) ρ' ∧ wipeE own ρ' = wipeE own (lockAll L ρ1)) (h6 : l.length ≤ 16777216) : compD own t mi me L ρ1 (l.map c) = .ok (.fr (.lst ((l.filter p).map e))) ρ1 := by
  unfold compD
  rw [if_pos h4]
  have go : ∀ {l : List α} {ρ : Env}, (∀ x ∈ l, ∃ ρ', lapF own t mi me (c x) (lockAll L ρ1) = .ok (if p x then some (e x) else none) ρ' ∧ wipeE own ρ' = wipeE own (lockAll L ρ1)) → wipeE own ρ = wipeE own (lockAll L ρ1) → ∃ ρ', laps (lapF own t mi me) (l.map c) ρ = .ok ((l.filter p).map e) ρ' ∧ wipeE own ρ' = wipeE own (lockAll L ρ1) := fun {l} => by
    induction l with
    | nil => exact fun {ρ} _ h0 => ⟨ρ, rfl, h0⟩
    | cons x l ih =>
      intro ρ h h0
      obtain ⟨ρ1, h1, h2⟩ := h x List.mem_cons_self
      obtain ⟨ρ2, h3, h4⟩ := ih (ρ := ρ1) (fun e he => h e (List.mem_cons_of_mem _ he)) h2
      refine ⟨ρ2, ?_, h4⟩
      rw [List.map_cons]
      unfold laps
      rw [lapF_wipe h0, h1]
      simp only [h3]
      cases ep : p x with
      | true => rw [List.filter_cons_of_pos ep]; simp
      | false => rw [List.filter_cons_of_neg (by rw [ep]; exact Bool.false_ne_true)]; simp
  obtain ⟨ρ', e1, e2⟩ := go h5 (ρ := lockAll L ρ1) rfl
  rw [e1]
  show (if szB ((l.filter p).map e).length = true then Out.ok (Rr.fr (.lst ((l.filter p).map e))) (unlockAll ρ1 L (unlockAll (lockAll L ρ1) own ρ')) else .bad) = _
  rw [if_pos (show szB ((l.filter p).map e).length = true from Nat.ble_eq.mpr (by rw [List.length_map]; exact Nat.le_trans (List.length_filter_le _ _) h6)), unlock_wipe e2, unlock_lock]
end
@[simp] theorem lapF_ap {own : List Nat} {t : Tg} {mi : Env → Out Bool} {me : Env → Out Rr} {d : D} {ρ : Env} : lapF own t mi me d ρ = match tgD t d (wipeE own ρ) with
  | some ρ3 => (mi ρ3).bind fun b ρ4 => (match b with
    | true => (me ρ4).bind fun r ρ5 => (useR r ρ5).bind fun x ρ6 => .ok (some x) ρ6
    | false => .ok none ρ4)
  | none => .bad := rfl
@[simp] theorem wipe_nil {ρ : Env} : wipeE [] ρ = ρ := rfl
@[simp] theorem wipe_cons {i : Nat} {l : List Nat} {ρ : Env} : wipeE (i :: l) ρ = (wipeE l ρ).set i .un := rfl
@[simp] theorem lockAll_nil {ρ : Env} : lockAll [] ρ = ρ := rfl
@[simp] theorem lockAll_cons {i : Nat} {l : List Nat} {ρ : Env} : lockAll (i :: l) ρ = lockAll l (lock1 i ρ) := rfl
@[simp] theorem lock1_ap {i : Nat} {ρ : Env} : lock1 i ρ = match ρ[i]? with
  | some (.ow d) => ρ.set i (.lk d)
  | some (.le d) => ρ.set i (.lk d)
  | _ => ρ := rfl
@[simp] theorem ownsR_nil : ownsR [] = [] := rfl
@[simp] theorem ownsR_fz {d : D} {l : List Rr} : ownsR (.fz d :: l) = ownsR l := rfl
@[simp] theorem ownsR_fr {d : D} {l : List Rr} : ownsR (.fr d :: l) = ownsR l := rfl
@[simp] theorem ownsR_own {i : Nat} {l : List Rr} : ownsR (.own i :: l) = i :: ownsR l := rfl
/-! ### loops -/
theorem turns_fold {S : Type} {R : S → Env → Prop} {step : S → D → S} {f : D → Env → Fl} : ∀ {ds : List D} {s : S} {ρ : Env}, (∀ d ∈ ds, ∀ s ρ, R s ρ → ∃ ρ', (f d ρ = .nx ρ' ∨ f d ρ = .ct ρ') ∧ R (step s d) ρ') → R s ρ → ∃ ρ', turns f ds ρ = .nx ρ' ∧ R (ds.foldl step s) ρ'
  | [], s, ρ, _, h0 => ⟨ρ, rfl, h0⟩
  | d :: l, s, ρ, h, h0 => by
    obtain ⟨ρ1, h1, h2⟩ := h d List.mem_cons_self s ρ h0
    obtain ⟨ρ2, h3, h4⟩ := turns_fold (ds := l) (s := step s d) (ρ := ρ1) (fun e he => h e (List.mem_cons_of_mem _ he)) h2
    refine ⟨ρ2, ?_, h4⟩
    show (match f d ρ with
    | .nx ρ' => turns f l ρ'
    | .ct ρ' => turns f l ρ'
    | .bk ρ' => .nx ρ'
    | .rt r ρ' => .rt r ρ'
    | .exc c v ρ' => .exc c v ρ'
    | .bad => .bad) = _
    rcases h1 with h1 | h1 <;> rw [h1] <;> exact h3
/-- a loop over ds, the slots L locked -/
def forD (t : Tg) (mb : Env → Fl) (L : List Nat) (ρ1 : Env) (ds : List D) : Fl := (turns (fun d ρ2 => match tgD t d ρ2 with
    | some ρ3 => mb ρ3
    | none => .bad) ds (lockAll L ρ1)).map (unlockAll ρ1 L)
def forO (t : Tg) (mb : Env → Fl) (L : List Nat) (ρ1 : Env) : Option (List D) → Fl
  | some ds => forD t mb L ρ1 ds
  | none => .bad
section
variable {t : Tg} {ik : Ik} {ml : Env → Out (List Rr)} {mb : Env → Fl} {ρ ρ1 : Env} {ds : List D} {L : List Nat}
@[simp] theorem mFor_ap : mFor t ik ml mb ρ = (ml ρ).fl fun rs ρ1 => forO t mb (ownsR rs) ρ1 ((pkRs rs ρ1).bind (ikD ik)) := by
  show (ml ρ).fl (fun rs ρ1 => match (pkRs rs ρ1).bind (ikD ik) with
  | some ds => (turns (fun d ρ2 => match tgD t d ρ2 with
    | some ρ3 => mb ρ3
    | none => .bad) ds (lockAll (ownsR rs) ρ1)).map (unlockAll ρ1 (ownsR rs))
  | none => .bad) = _
  congr 1
@[simp] theorem forO_some : forO t mb L ρ1 (some ds) = forD t mb L ρ1 ds := rfl
/-- a loop that goes to its end -/
theorem forD_inv {S : Type} (R : S → Env → Prop) (step : S → D → S) {s : S} (h0 : R s (lockAll L ρ1))
    (h : ∀ d ∈ ds, ∀ s ρ, R s ρ → ∃ ρ3, tgD t d ρ = some ρ3 ∧ ∃ ρ', (mb ρ3 = .nx ρ' ∨ mb ρ3 = .ct ρ') ∧ R (step s d) ρ') : ∃ ρ', forD t mb L ρ1 ds = .nx (unlockAll ρ1 L ρ') ∧ R (ds.foldl step s) ρ' := by
  obtain ⟨ρ', e1, e2⟩ := turns_fold (f := fun d ρ2 => match tgD t d ρ2 with
    | some ρ3 => mb ρ3
    | none => .bad) (R := R) (step := step) (ds := ds) (fun d hd s ρ r => by
      obtain ⟨ρ3, g1, ρ', g2, g3⟩ := h d hd s ρ r
      refine ⟨ρ', ?_, g3⟩
      simp only [g1]
      exact g2) h0
  refine ⟨ρ', ?_, e2⟩
  show Fl.map (unlockAll ρ1 L) (turns _ ds (lockAll L ρ1)) = _
  rw [e1]
  rfl
/-- .. with nothing but an invariant -/
theorem forD_keep (R : Env → Prop) (h0 : R (lockAll L ρ1)) (h : ∀ d ∈ ds, ∀ ρ, R ρ → ∃ ρ3, tgD t d ρ = some ρ3 ∧ ∃ ρ', (mb ρ3 = .nx ρ' ∨ mb ρ3 = .ct ρ') ∧ R ρ') : ∃ ρ', forD t mb L ρ1 ds = .nx (unlockAll ρ1 L ρ') ∧ R ρ' := by
  obtain ⟨ρ', e1, e2⟩ := forD_inv (S := Unit) (R := fun _ ρ => R ρ) (step := fun s _ => s) (s := ()) (t := t) (mb := mb) (ds := ds) h0 fun d hd s ρ r => h d hd ρ r
  exact ⟨ρ', e1, e2⟩
end
/-- while: s steps on until it is done -/
theorem while_inv {S : Type} {mt : Env → Out Bool} {mb : Env → Fl} (R : S → Env → Prop) (more : S → Bool) (μ : S → Nat) (h : ∀ s ρ, R s ρ → ∃ ρ1, mt ρ = .ok (more s) ρ1 ∧ (more s = true → ∃ s' ρ', μ s' < μ s ∧ (mb ρ1 = .nx ρ' ∨ mb ρ1 = .ct ρ') ∧ R s' ρ') ∧ (more s = false → R s ρ1)) :
    ∀ (n : Nat) {s : S} {ρ : Env}, R s ρ → μ s < n → ∃ (s' : S) (ρ' : Env), whiles mt mb n ρ = .nx ρ' ∧ R s' ρ' ∧ more s' = false
  | 0, s, ρ, r, hn => by omega
  | n + 1, s, ρ, r, hn => by
    obtain ⟨ρ1, e1, g1, g2⟩ := h s ρ r
    cases em : more s with
    | false =>
      refine ⟨s, ρ1, ?_, g2 em, em⟩
      unfold whiles
      rw [e1, em]
    | true =>
      obtain ⟨s2, ρ2, hm, e2, r2⟩ := g1 em
      obtain ⟨s', ρ', e3, e4, e5⟩ := while_inv R more μ h n r2 (by omega)
      refine ⟨s', ρ', ?_, e4, e5⟩
      unfold whiles
      rw [e1, em]
      rcases e2 with e2 | e2 <;> simp only [e2] <;> exact e3
@[simp] theorem unlockAll_nil {ρ0 ρ : Env} : unlockAll ρ0 [] ρ = ρ := rfl
@[simp] theorem unlockAll_cons {ρ0 ρ : Env} {i : Nat} {l : List Nat} : unlockAll ρ0 (i :: l) ρ = unlockAll ρ0 l (match ρ0[i]? with
    | some s => ρ.set i s
    | none => ρ) := rfl
/-- over 0, 1, .. -/
theorem turns_rng {f : D → Env → Fl} {c : Nat → D} (P : Nat → Env → Prop) : ∀ (n : Nat) {ρ : Env}, P 0 ρ → (∀ k, k < n → ∀ ρ, P k ρ → ∃ ρ', (f (c k) ρ = .nx ρ' ∨ f (c k) ρ = .ct ρ') ∧ P (k + 1) ρ') → ∃ ρ', turns f ((List.range n).map c) ρ = .nx ρ' ∧ P n ρ' := fun n ρ h0 h => by
  have go : ∀ (l : List Nat) (k : Nat) (ρ : Env), l = List.range' k l.length → k + l.length ≤ n → P k ρ → ∃ ρ', turns f (l.map c) ρ = .nx ρ' ∧ P (k + l.length) ρ' := fun l => by
    induction l with
    | nil => intro k ρ _ _ p; exact ⟨ρ, rfl, p⟩
    | cons a l ih =>
      intro k ρ e hn p
      rw [List.length_cons, List.range'_succ] at e
      injection e with e1 e2
      subst e1
      rw [List.length_cons] at hn
      obtain ⟨ρ1, g1, g2⟩ := h a (by omega) ρ p
      obtain ⟨ρ2, g3, g4⟩ := ih (a + 1) ρ1 e2 (by omega) g2
      refine ⟨ρ2, ?_, by rw [List.length_cons]; have : a + (l.length + 1) = a + 1 + l.length := by omega
                         rw [this]; exact g4⟩
      rw [List.map_cons]
      unfold turns
      rcases g1 with g1 | g1 <;> simp only [g1] <;> exact g3
  obtain ⟨ρ', e1, e2⟩ := go (List.range n) 0 ρ (by rw [List.length_range, List.range_eq_range']) (by rw [List.length_range]; omega) h0
  rw [List.length_range, Nat.zero_add] at e2
  exact ⟨ρ', e1, e2⟩
theorem forD_rng {t : Tg} {mb : Env → Fl} {ρ1 : Env} {L : List Nat} {c : Nat → D} {n : Nat} (P : Nat → Env → Prop) (h0 : P 0 (lockAll L ρ1))
    (h : ∀ k, k < n → ∀ ρ, P k ρ → ∃ ρ3, tgD t (c k) ρ = some ρ3 ∧ ∃ ρ', (mb ρ3 = .nx ρ' ∨ mb ρ3 = .ct ρ') ∧ P (k + 1) ρ') : ∃ ρ', forD t mb L ρ1 ((List.range n).map c) = .nx (unlockAll ρ1 L ρ') ∧ P n ρ' := by
  obtain ⟨ρ', e1, e2⟩ := turns_rng (f := fun d ρ2 => match tgD t d ρ2 with
    | some ρ3 => mb ρ3
    | none => .bad) (c := c) P n h0 fun k hk ρ p => by
      obtain ⟨ρ3, g1, ρ', g2, g3⟩ := h k hk ρ p
      refine ⟨ρ', ?_, g3⟩
      simp only [g1]
      exact g2
  refine ⟨ρ', ?_, e2⟩
  show Fl.map (unlockAll ρ1 L) (turns _ _ (lockAll L ρ1)) = _
  rw [e1]
  rfl
/-- 0, 1, .. -/
def nats (n : Nat) : List D := (List.range n).map fun k => D.int (k : Nat)
theorem forD_k {t : Tg} {mb : Env → Fl} {ρ1 : Env} {L : List Nat} {c : Nat → D} {n : Nat} {K : Fl → Prop} (P : Nat → Env → Prop) (h0 : P 0 (lockAll L ρ1))
    (h : ∀ k, k < n → ∀ ρ, P k ρ → ∃ ρ3, tgD t (c k) ρ = some ρ3 ∧ ∃ ρ', (mb ρ3 = .nx ρ' ∨ mb ρ3 = .ct ρ') ∧ P (k + 1) ρ') (hk : ∀ ρ', P n ρ' → K (.nx (unlockAll ρ1 L ρ'))) : K (forD t mb L ρ1 ((List.range n).map c)) := by
  obtain ⟨ρ', e1, e2⟩ := forD_rng (t := t) (mb := mb) (c := c) P h0 h
  rw [e1]
  exact hk ρ' e2
theorem forD_n {t : Tg} {mb : Env → Fl} {ρ1 : Env} {L : List Nat} {n : Nat} {K : Fl → Prop} (P : Nat → Env → Prop) (h0 : P 0 (lockAll L ρ1))
    (h : ∀ k, k < n → ∀ ρ, P k ρ → ∃ ρ3, tgD t (.int (k : Nat)) ρ = some ρ3 ∧ ∃ ρ', (mb ρ3 = .nx ρ' ∨ mb ρ3 = .ct ρ') ∧ P (k + 1) ρ') (hk : ∀ ρ', P n ρ' → K (.nx (unlockAll ρ1 L ρ'))) : K (forD t mb L ρ1 (nats n)) :=
  forD_k (c := fun k => .int (k : Nat)) P h0 h hk
/-- a loop within a loop -/
theorem forD_in {t : Tg} {mb w : Env → Fl} {ρ1 : Env} {L : List Nat} {c : Nat → D} {n : Nat} {Q : Env → Prop} (P : Nat → Env → Prop) (h0 : P 0 (lockAll L ρ1))
    (h : ∀ k, k < n → ∀ ρ, P k ρ → ∃ ρ3, tgD t (c k) ρ = some ρ3 ∧ ∃ ρ', (mb ρ3 = .nx ρ' ∨ mb ρ3 = .ct ρ') ∧ P (k + 1) ρ') (hk : ∀ ρ', P n ρ' → ∃ ρ2, (w (unlockAll ρ1 L ρ') = .nx ρ2 ∨ w (unlockAll ρ1 L ρ') = .ct ρ2) ∧ Q ρ2) :
    ∃ ρ2, (flB (forD t mb L ρ1 ((List.range n).map c)) w = .nx ρ2 ∨ flB (forD t mb L ρ1 ((List.range n).map c)) w = .ct ρ2) ∧ Q ρ2 := by
  obtain ⟨ρ', e1, e2⟩ := forD_rng (t := t) (mb := mb) (c := c) P h0 h
  rw [e1]
  exact hk ρ' e2
theorem forD_inN {t : Tg} {mb w : Env → Fl} {ρ1 : Env} {L : List Nat} {n : Nat} {Q : Env → Prop} (P : Nat → Env → Prop) (h0 : P 0 (lockAll L ρ1))
    (h : ∀ k, k < n → ∀ ρ, P k ρ → ∃ ρ3, tgD t (.int (k : Nat)) ρ = some ρ3 ∧ ∃ ρ', (mb ρ3 = .nx ρ' ∨ mb ρ3 = .ct ρ') ∧ P (k + 1) ρ') (hk : ∀ ρ', P n ρ' → ∃ ρ2, (w (unlockAll ρ1 L ρ') = .nx ρ2 ∨ w (unlockAll ρ1 L ρ') = .ct ρ2) ∧ Q ρ2) :
    ∃ ρ2, (flB (forD t mb L ρ1 (nats n)) w = .nx ρ2 ∨ flB (forD t mb L ρ1 (nats n)) w = .ct ρ2) ∧ Q ρ2 :=
  forD_in (c := fun k => .int (k : Nat)) P h0 h hk
/-! ### what is walked -/
@[simp] theorem ik_tup {l : List D} : ikD .val [.tup l] = some l := rfl
@[simp] theorem ik_lst {l : List D} : ikD .val [.lst l] = some l := rfl
theorem rgOk_nat {n : Nat} (h : n < 4611686018427387904) : rgOk (n : Int) = true := Nat.blt_eq.mpr h
theorem rngD_nat (n : Nat) : rngD 0 (n : Int) = nats n := by
  unfold rngD nats
  have : ((n : Int) - 0).toNat = n := by omega
  rw [this]
  apply List.map_congr_left
  intro k _
  rw [Int.zero_add]
theorem ik_rng {n : Nat} (h : n < 4611686018427387904) : ikD .rng [.int (n : Int)] = some (nats n) := by
  show (if rgOk (n : Int) = true then some (rngD 0 (n : Int)) else none) = _
  rw [if_pos (rgOk_nat h), rngD_nat]
theorem ik_rngV {n : Nat} (h : n < 4611686018427387904) : ikD .val [.rng 0 (n : Int)] = some (nats n) := by
  show (if (rgOk 0 && rgOk (n : Int)) = true then some (rngD 0 (n : Int)) else none) = _
  rw [rgOk_nat h, rngD_nat]
  rfl
theorem mem_nats {n : Nat} {d : D} : d ∈ nats n ↔ ∃ k, k < n ∧ d = .int (k : Nat) := by
  unfold nats
  rw [List.mem_map]
  constructor
  · rintro ⟨k, h, rfl⟩; exact ⟨k, List.mem_range.mp h, rfl⟩
  · rintro ⟨k, h, rfl⟩; exact ⟨k, List.mem_range.mpr h, rfl⟩
@[simp] theorem nats_len (n : Nat) : (nats n).length = n := by simp [nats]
theorem nats_map {α : Type} (n : Nat) (f : D → α) : (nats n).map f = (List.range n).map fun k => f (.int (k : Nat)) := by
  unfold nats
  rw [List.map_map]
  rfl
end VS

set_option Elab.async false
set_option linter.all false
set_option maxRecDepth 100000
set_option maxHeartbeats 4000000
/-! VS 32: a law's end. -/
namespace VS
open PySem PySem.Spec PyProof.Rows L2
/-- a law: F gives the written part, the function object, the promise over every base; exceptions may be on the way -/
theorem walk_ofX {l : PySem.W.OpenLaw} {n k : Nat} {q : Program} {loose : List Str} {XP : (Str → Option Value) → Heap → Prop} {YP : World → Heap → Prop} {d : DefRec} {x : Str}
    (hn : l.most = some n) (hn2 : n ≤ sizeLine) (hdf : d.params.defaults = []) (hr : Room k callerA)
    (F : ∀ (w : World) (mg : Str → Option Value) (fa : Addr) (h : Heap), YP w h → h.Ns mainGlobals mg → mg d.name = some (.ref fa) →
      ∃ (K : PySem.W.Frag) (fd : FuncData) (sp : Sp), K.In h ∧ (∀ (s : Shared) (u : Value), BindsTo s fd ⟨[u], []⟩ [(x, u)]) ∧
        (∀ (H : Hp) (a : Addr) (ns : List Int), ns.length ≤ n → Only H → SqL K H a (ns.map V.int) → sp [.ref a] H (fun v _ => v = .bl true) fun _ _ _ => False) ∧
        ∀ base : Heap, K.In base → base.Ns mainGlobals mg → FnOk l.prog w K mg base (L2.CX l.prog w) k fa fd [x] sp) :
    PySem.W.WalkO q loose XP YP l.row.toRowW d [] (fun f vs => PySem.call f vs) := by
  refine Att.attach_call hn hdf fun w s₀ s₁ mg mb fa o pm cd doc a vs ns G Y ho hd hcd hmg hobj hints hlen hg => ?_
  obtain ⟨K, fd, sp, KX, hb, hsp, hF⟩ := F w mg fa _ Y G.T.g hmg
  exact law_call KX G.T.g G.T.b G.T.builtins G.T.nolimit hg hobj hints (Nat.le_trans hlen hn2) hr hF hb (fun H hO hS => hsp H a ns hlen hO hS) fun H e s' hx => by
    obtain ⟨_, _, _, _, _, _, _, _, _, _, _, _, z⟩ := hx
    exact z
/-- a def with its place in the IR -/
structure Row where
  d : DefI
  id : Nat
inductive AllR (P : Row → Prop) : List Row → Prop
  | nil : AllR P []
  | cons {r : Row} {l : List Row} : P r → AllR P l → AllR P (r :: l)
theorem AllR.mem {P : Row → Prop} : ∀ {l : List Row}, AllR P l → ∀ r ∈ l, P r
  | _, .nil, r, h => by simp at h
  | _, .cons p t, r, h => by
    rcases List.mem_cons.mp h with rfl | h
    · exact p
    · exact t.mem r h
def fidR (l : List Row) (x : Str) : Option (Nat × Nat) := (l.map fun r => (r.d.name, (r.id, r.d.ps.length))).lookup x
theorem fidR_some {l : List Row} {x : Str} {f np : Nat} (h : fidR l x = some (f, np)) : ∃ r ∈ l, r.d.name = x ∧ r.d.ps.length = np ∧ r.id = f := by
  have := PySem.mem_of_lookup h
  obtain ⟨r, hr, e⟩ := List.mem_map.mp this
  cases e
  exact ⟨r, hr, rfl, rfl, rfl⟩
def glR (l : List (Str × D)) (x : Str) : Option D := l.lookup x
/-- what a row of the table must show -/
structure InTab (G : Nat → Option Fn) (fid : Str → Option (Nat × Nat)) (gl : Str → Option D) (n : Nat) (K : PySem.W.Frag) (mg : Str → Option Value) (r : Row) : Prop where
  fn : G r.id = some r.d.fn
  f : DefF K mg r.d
  chk : r.d.chk fid gl n = true
inductive AllG (P : Str × D → Prop) : List (Str × D) → Prop
  | nil : AllG P []
  | cons {r : Str × D} {l : List (Str × D)} : P r → AllG P l → AllG P (r :: l)
theorem AllG.mem {P : Str × D → Prop} : ∀ {l : List (Str × D)}, AllG P l → ∀ r ∈ l, P r
  | _, .nil, r, h => by simp at h
  | _, .cons p t, r, h => by
    rcases List.mem_cons.mp h with rfl | h
    · exact p
    · exact t.mem r h
section
variable {P : Program} {w : World} {K : PySem.W.Frag} {mg : Str → Option Value} {base : Heap} {G : Nat → Option Fn} {l : List Row} {g : List (Str × D)} {n : Nat}
theorem lib_rows (hd : AllR (InTab G (fidR l) (glR g) n K mg) l) (hg : AllG (fun p => GlK K mg p.1 p.2) g) (hbl : ∀ x ∈ bltN, mg x = none) (lv : Nat) : Lib P w K mg base G (fidR l) lv :=
  lib_all (gl := glR g) (n := n) (fun x f np h => by
    obtain ⟨r, hr, rfl, rfl, rfl⟩ := fidR_some h
    have q := hd.mem r hr
    exact ⟨r.d, rfl, rfl, q.fn, q.f, q.chk⟩) (fun x v h => by
    have := PySem.mem_of_lookup h
    exact hg.mem (x, v) this) hbl lv
theorem def_okF {fid : Str → Option (Nat × Nat)} {gl : Str → Option D} {lv : Nat} {d : DefI} {f : Nat} (L : Lib P w K mg base G fid lv) (hgl : ∀ x v, gl x = some v → GlK K mg x v) (hbl : ∀ x ∈ bltN, mg x = none) (hG : G f = some d.fn) {a : Addr} {fd : FuncData}
    (F : FunD K d.name d.qual ⟨[], d.as, none, [], [], none, []⟩ d.body d.scope [] [] a fd) (hc : d.chk fid gl n = true) : FnOk P w K mg base (L2.CX P w) (lv + 1) a fd d.ps (spV ⟨K, mg⟩ d.ps.length (callF G (lv + 1) f)) := by
  obtain ⟨h1, hc⟩ := and2 hc
  obtain ⟨h2, hc⟩ := and2 hc
  obtain ⟨h3, h4⟩ := and2 hc
  have S := C8.fnScope_by h1
  have h2 := Nat.eq_of_beq_eq_true h2
  have h3 := Nat.eq_of_beq_eq_true h3
  have ec : ∀ ss, callF G (lv + 1) f ss = if Nat.beq ss.length d.ps.length then fin ss (evB (callF G lv) d.fn.body (ss ++ List.replicate (d.fn.ns - d.ps.length) .un)) else .bad := fun ss => by
    show (match G f with
      | some fn => runF (callF G lv) fn ss
      | none => .bad) = _
    rw [hG]
    show (if Nat.beq ss.length d.fn.np then fin ss (evB (callF G lv) d.fn.body (ss ++ List.replicate (d.fn.ns - d.fn.np) .un)) else .bad) = _
    rw [h3]
  have len : d.ps.length ≤ d.N.length := by
    have := congrArg List.length S.pre
    rw [List.length_take] at this
    omega
  refine FunD.ok F S (fun vs H Q E h => h.1) fun cdv A outer s H vs Q E hr hsp => ?_
  have tk : Takes (cxOf (L2.CX P w) P w K mg base d.N d.qual d.scope a cdv A outer s H E) (fun cls dx _ H => E cls dx H) := takes_of rfl rfl rfl rfl
  have ce : CkE ⟨d.N, fid, gl⟩ lv (callF G lv) d.scope d.scope (cxOf (L2.CX P w) P w K mg base d.N d.qual d.scope a cdv A outer s H E) (fun cls dx _ H => E cls dx H) := by
    refine ⟨rfl, S.nd, rfl, rfl, fun x hx => ?_, fun x f np e => ?_, fun x v e => ?_, hbl, hr, hr.units, tk⟩
    · rcases Bool.or_eq_true_iff.mp hx with hx | hx
      · exact ⟨.inl (kindB_ok hx), .inl rfl⟩
      · exact ⟨.inr (kindB_ok hx), .inl rfl⟩
    · obtain ⟨q1, q2⟩ := L.fn x f np e
      exact ⟨q1, q2⟩
    · exact ⟨(hgl x v e).ex⟩
  have cs : CkS ⟨d.N, fid, gl⟩ lv (callF G lv) d.scope (cxOf (L2.CX P w) P w K mg base d.N d.qual d.scope a cdv A outer s H E) (fun cls dx _ H => E cls dx H) := ⟨ce, S.kind, passes_of rfl⟩
  refine ⟨_, ((oks_all n).b cs h4).ps, ?_⟩
  refine sp_body (np := d.ps.length) (ns := d.fn.ns) h2.symm (by rw [h2]; exact len) (fun _ _ _ _ h => h) ?_
  have e : (callF G (lv + 1) f) = fun ss => if Nat.beq ss.length d.ps.length then fin ss (evB (callF G lv) d.fn.body (ss ++ List.replicate (d.fn.ns - d.ps.length) .un)) else .bad := funext ec
  rw [e] at hsp
  exact hsp
theorem def_law {lv : Nat} {d : DefI} {f : Nat} (hd : AllR (InTab G (fidR l) (glR g) n K mg) l) (hg : AllG (fun p => GlK K mg p.1 p.2) g) (hbl : ∀ x ∈ bltN, mg x = none) (hG : G f = some d.fn) {a : Addr} {fd : FuncData}
    (F : FunD K d.name d.qual ⟨[], d.as, none, [], [], none, []⟩ d.body d.scope [] [] a fd) (hc : d.chk (fidR l) (glR g) n = true) : FnOk P w K mg base (L2.CX P w) (lv + 1) a fd d.ps (spV ⟨K, mg⟩ d.ps.length (callF G (lv + 1) f)) :=
  def_okF (gl := glR g) (lib_rows hd hg hbl lv) (fun x v h => hg.mem (x, v) (PySem.mem_of_lookup h)) hbl hG F hc
/-- a law that is true by the evaluator keeps its promise -/
theorem sp_true {c : Cl} {f : Nat} (h : ∀ ns : List Int, c f [.fz (.scr ns)] = .ok (.fz (.bl true)) [.fz (.scr ns)]) {H : Hp} {a : Addr} {ns : List Int} (hS : SqL K H a (ns.map V.int)) : spV ⟨K, mg⟩ 1 (c f) [.ref a] H (fun v _ => v = .bl true) fun _ _ _ => False := by
  refine ⟨rfl, [.fz (.scr ns)], H, ⟨rfl, fun _ _ z => z, fun i s e => ?_, fun i j s t d e a h1 h2 h3 h4 => ?_, fun i j t d e a h1 => ?_⟩, fun s hs => ?_, ?_⟩
  · match i, e with
    | 0, e =>
      cases e
      refine ⟨.ref a, rfl, ?_⟩
      show RepV _ H (.scr ns) _
      unfold RepV
      exact ⟨a, rfl, hS⟩
    | i + 1, e => cases e
  · match i, h1 with
    | 0, h1 => cases h1; cases h3
    | i + 1, h1 => cases h1
  · match i, h1 with
    | 0, h1 => cases h1
    | i + 1, h1 => cases h1
  · rw [List.mem_singleton.mp hs]; rfl
  · rw [h]
    exact fun F' H' t x rr => by
      have rr : RepV ⟨K, mg⟩ F' (.bl true) x := rr
      unfold RepV at rr
      exact rr
end
end VS

set_option Elab.async false
set_option linter.all false
set_option maxRecDepth 100000
set_option maxHeartbeats 4000000
namespace VS
open PySem PySem.Spec
/-- 0 -/
def f_is_number : Fn := ⟨1, 1, [.ret (.band [.isi (.var 0) [.int], .bnot (.isi (.var 0) [.bool])])]⟩
/-- 1 -/
def f_is_within : Fn := ⟨3, 3, [.ret (.band [.call 0 [.var 0], .chain .le .le (.var 1) (.var 0) (.var 2)])]⟩
/-- 2 -/
def f_is_long : Fn := ⟨2, 2, [.ret (.band [.isi (.var 0) [.tup], .cmp .eq (.bf .len [.var 0]) (.var 1)])]⟩
/-- 3 -/
def f_are_numbers : Fn := ⟨1, 2, [.ret (.band [.isi (.var 0) [.tup], .bf .all [.comp (.call 0 [.var 1]) (.nm 1) .val [.var 0] [] [1]]])]⟩
/-- 4 -/
def f_tupled : Fn := ⟨1, 2, [.ret (.ite (.isi (.var 0) [.lst, .tup]) (.bf .tup [.comp (.call 4 [.var 1]) (.nm 1) .val [.var 0] [] [1]]) (.var 0))]⟩
/-- 5 -/
def f_sure_within : Fn := ⟨3, 3, [.ite (.bnot (.call 1 [.var 0, .var 1, .var 2])) [.bad] [], .ret (.var 0)]⟩
/-- 6 -/
def f_common_of : Fn := ⟨2, 2, [.whl (.cmp .ne (.var 1) (.con (.int 0))) [.par [0, 1] [.var 1, .bin .mod (.var 0) (.var 1)]], .ret (.var 0)]⟩
/-- 7 -/
def f_is_linear_in : Fn := ⟨1, 4, [.ite (.bor [.bnot (.call 2 [.var 0, .con (.int 3)]), .bnot (.isi (.ix (.var 0) (.con (.int 0))) [.str])]) [.ret (.con (.bl false))] [], .ite (.cmp .eq (.ix (.var 0) (.con (.int 0))) (.con (.str "linear"))) [.ite (.bor [.bnot (.call 1 [.ix (.var 0) (.con (.int 1)), .con (.int 2), .glo (.int 12)]), .bnot (.call 1 [.ix (.var 0) (.con (.int 2)), .con (.int 1), .bin .sub (.ix (.var 0) (.con (.int 1))) (.con (.int 1))])]) [.ret (.con (.bl false))] [], .ret (.cmp .eq (.call 6 [.ix (.var 0) (.con (.int 1)), .ix (.var 0) (.con (.int 2))]) (.con (.int 1)))] [], .ite (.bor [.cmp .ne (.ix (.var 0) (.con (.int 0))) (.con (.str "square")), .bnot (.call 1 [.ix (.var 0) (.con (.int 1)), .con (.int 2), .con (.int 3)]), .bnot (.call 2 [.ix (.var 0) (.con (.int 2)), .con (.int 4)])]) [.ret (.con (.bl false))] [], .asg (.tp [1, 2]) (.tup [.ix (.var 0) (.con (.int 1)), .ix (.var 0) (.con (.int 2))]), .ite (.bor [.bnot (.call 3 [.var 2]), .bnot (.bf .all [.comp (.chain .le .lt (.con (.int 0)) (.var 3) (.var 1)) (.nm 3) .val [.var 2] [] [3]])]) [.ret (.con (.bl false))] [], .ret (.cmp .ne (.bin .mod (.bin .sub (.bin .mul (.ix (.var 2) (.con (.int 0))) (.ix (.var 2) (.con (.int 3)))) (.bin .mul (.ix (.var 2) (.con (.int 1))) (.ix (.var 2) (.con (.int 2))))) (.var 1)) (.con (.int 0)))]⟩
/-- 8 -/
def f_sure_linear : Fn := ⟨1, 2, [.asg (.nm 1) (.call 4 [.var 0]), .ite (.bnot (.call 7 [.var 1])) [.bad] [], .ret (.var 1)]⟩
/-- 9 -/
def f_size_in : Fn := ⟨1, 1, [.ret (.ite (.cmp .eq (.ix (.var 0) (.con (.int 0))) (.con (.str "linear"))) (.ix (.var 0) (.con (.int 1))) (.bin .mul (.ix (.var 0) (.con (.int 1))) (.ix (.var 0) (.con (.int 1)))))]⟩
/-- 10 -/
def f_matrix_in : Fn := ⟨1, 2, [.ite (.cmp .eq (.ix (.var 0) (.con (.int 0))) (.con (.str "linear"))) [.ret (.lst [.lst [.ix (.var 0) (.con (.int 2))]])] [], .asg (.nm 1) (.ix (.var 0) (.con (.int 2))), .ret (.lst [.lst [.ix (.var 1) (.con (.int 0)), .ix (.var 1) (.con (.int 1))], .lst [.ix (.var 1) (.con (.int 2)), .ix (.var 1) (.con (.int 3))]])]⟩
/-- 11 -/
def f_by_rows : Fn := ⟨3, 7, [.asg (.nm 3) (.bf .range [.bf .len [.ix (.var 1) (.con (.int 0))]]), .ret (.bf .tup [.comp (.bin .mod (.bf .sum [.comp (.bin .mul (.var 5) (.ix (.var 6) (.var 4))) (.tp [5, 6]) .zip [.var 0, .var 1] [] [5, 6]]) (.var 2)) (.nm 4) .val [.var 3] [] [4]])]⟩
/-- 12 -/
def f_vector_in : Fn := ⟨2, 2, [.ret (.ite (.cmp .eq (.ix (.var 0) (.con (.int 0))) (.con (.str "linear"))) (.tup [.var 1]) (.tup [.bin .fdv (.var 1) (.ix (.var 0) (.con (.int 1))), .bin .mod (.var 1) (.ix (.var 0) (.con (.int 1)))]))]⟩
/-- 13 -/
def f_thing_of : Fn := ⟨2, 2, [.ret (.ite (.cmp .eq (.ix (.var 0) (.con (.int 0))) (.con (.str "linear"))) (.ix (.var 1) (.con (.int 0))) (.bin .add (.bin .mul (.ix (.var 1) (.con (.int 0))) (.ix (.var 0) (.con (.int 1)))) (.ix (.var 1) (.con (.int 1)))))]⟩
/-- 14 -/
def f_turned_in : Fn := ⟨3, 10, [.asg (.tp [3, 4]) (.tup [.ix (.var 0) (.con (.int 1)), .call 10 [.var 0]]), .asg (.nm 5) (.call 12 [.var 0, .var 2]), .asg (.nm 6) (.bf .tup [.comp (.bin .sub (.var 8) (.var 9)) (.tp [8, 9]) .zip [.call 12 [.var 0, .var 1], .var 5] [] [8, 9]]), .asg (.nm 7) (.call 11 [.var 6, .var 4, .var 3]), .ret (.call 13 [.var 0, .bf .tup [.comp (.bin .mod (.bin .add (.var 8) (.var 9)) (.var 3)) (.tp [8, 9]) .zip [.var 7, .var 5] [] [8, 9]]])]⟩
/-- 15 -/
def f_table_in : Fn := ⟨1, 4, [.asg (.nm 1) (.bf .range [.call 9 [.var 0]]), .ret (.bf .tup [.comp (.bf .tup [.comp (.call 14 [.var 0, .var 2, .var 3]) (.nm 3) .val [.var 1] [] [3]]) (.nm 2) .val [.var 1] [] [2]])]⟩
/-- 16 -/
def f_parts_count_in : Fn := ⟨1, 7, [.asg (.nm 1) (.ix (.var 0) (.con (.int 1))), .ite (.cmp .eq (.ix (.var 0) (.con (.int 0))) (.con (.str "linear"))) [.ret (.call 6 [.var 1, .bin .mod (.bin .sub (.con (.int 1)) (.ix (.var 0) (.con (.int 2)))) (.var 1)])] [], .asg (.tp [2, 3, 4, 5]) (.ix (.var 0) (.con (.int 2))), .asg (.nm 6) (.tup [.tup [.bin .mod (.bin .sub (.con (.int 1)) (.var 2)) (.var 1), .bin .mod (.neg (.var 3)) (.var 1)], .tup [.bin .mod (.neg (.var 4)) (.var 1), .bin .mod (.bin .sub (.con (.int 1)) (.var 5)) (.var 1)]]), .ite (.cmp .ne (.bin .mod (.bin .sub (.bin .mul (.ix (.ix (.var 6) (.con (.int 0))) (.con (.int 0))) (.ix (.ix (.var 6) (.con (.int 1))) (.con (.int 1)))) (.bin .mul (.ix (.ix (.var 6) (.con (.int 0))) (.con (.int 1))) (.ix (.ix (.var 6) (.con (.int 1))) (.con (.int 0))))) (.var 1)) (.con (.int 0))) [.ret (.con (.int 1))] [], .ret (.ite (.cmp .eq (.var 6) (.tup [.tup [.con (.int 0), .con (.int 0)], .tup [.con (.int 0), .con (.int 0)]])) (.bin .mul (.var 1) (.var 1)) (.var 1))]⟩
/-- 17 -/
def f_all_linears_in : Fn := ⟨1, 7, [.asg (.nm 1) (.comp (.tup [.con (.str "linear"), .var 0, .var 5]) (.nm 5) .rng [.con (.int 1), .var 0] [.band [.cmp .gt (.var 0) (.con (.int 1)), .cmp .eq (.call 6 [.var 0, .var 5]) (.con (.int 1))]] [5]), .for (.nm 2) .val [.tup [.con (.int 2), .con (.int 3)]] [.ite (.cmp .eq (.bin .mul (.var 2) (.var 2)) (.var 0)) [.asg (.nm 3) (.lst [.tup []]), .for (.nm 4) .rng [.con (.int 4)] [.asg (.nm 3) (.comp2 (.bin .add (.var 5) (.tup [.var 6])) (.nm 5) .val [.var 3] [] (.nm 6) .rng [.var 2] [] [5, 6])], .ex (.mf .extend 1 [.comp (.tup [.con (.str "square"), .var 2, .var 5]) (.nm 5) .val [.var 3] [.call 7 [.tup [.con (.str "square"), .var 2, .var 5]]] [5]])] []], .ret (.var 1)]⟩
/-- 18 -/
def f_is_linear : Fn := ⟨1, 1, [.ret (.call 7 [.var 0])]⟩
/-- 19 -/
def f_linear_table : Fn := ⟨1, 1, [.ret (.call 15 [.call 8 [.var 0]])]⟩
/-- 20 -/
def f_linear_turned : Fn := ⟨3, 4, [.asg (.nm 3) (.call 8 [.var 0]), .ite (.bor [.bnot (.call 1 [.var 1, .con (.int 0), .bin .sub (.call 9 [.var 3]) (.con (.int 1))]), .bnot (.call 1 [.var 2, .con (.int 0), .bin .sub (.call 9 [.var 3]) (.con (.int 1))])]) [.bad] [], .ret (.call 14 [.var 3, .var 1, .var 2])]⟩
/-- 21 -/
def f_linear_parts : Fn := ⟨1, 1, [.ret (.call 16 [.call 8 [.var 0]])]⟩
/-- 22 -/
def f_all_linears : Fn := ⟨1, 1, [.ite (.bnot (.call 1 [.var 0, .con (.int 2), .glo (.int 12)])) [.bad] [], .ret (.call 17 [.var 0])]⟩
/-- 23 -/
def f_linear_contrary : Fn := ⟨1, 9, [.asg (.nm 1) (.call 8 [.var 0]), .asg (.nm 2) (.ix (.var 1) (.con (.int 1))), .ite (.cmp .eq (.ix (.var 1) (.con (.int 0))) (.con (.str "linear"))) [.ret (.tup [.ix (.var 1) (.con (.int 0)), .var 2, .ix (.comp (.var 8) (.nm 8) .rng [.con (.int 1), .var 2] [.cmp .eq (.bin .mod (.bin .mul (.var 8) (.ix (.var 1) (.con (.int 2)))) (.var 2)) (.con (.int 1))] [8]) (.con (.int 0))])] [], .asg (.tp [3, 4, 5, 6]) (.ix (.var 1) (.con (.int 2))), .asg (.nm 7) (.ite (.cmp .eq (.bin .mod (.bin .sub (.bin .mul (.var 3) (.var 6)) (.bin .mul (.var 4) (.var 5))) (.var 2)) (.con (.int 1))) (.con (.int 1)) (.bin .sub (.var 2) (.con (.int 1)))), .ret (.tup [.ix (.var 1) (.con (.int 0)), .var 2, .bf .tup [.comp (.bin .mod (.bin .mul (.var 8) (.var 7)) (.var 2)) (.nm 8) .val [.tup [.var 6, .neg (.var 4), .neg (.var 5), .var 3]] [] [8]]])]⟩
/-- 24 -/
def f_is_square_in : Fn := ⟨1, 4, [.ite (.bor [.bnot (.isi (.var 0) [.tup]), .bnot (.chain .le .le (.con (.int 1)) (.bf .len [.var 0]) (.glo (.int 12)))]) [.ret (.con (.bl false))] [], .asg (.nm 1) (.bf .len [.var 0]), .ret (.bf .all [.comp (.band [.call 2 [.var 2, .var 1], .call 3 [.var 2], .bf .all [.comp (.chain .le .lt (.con (.int 0)) (.var 3) (.var 1)) (.nm 3) .val [.var 2] [] [3]]]) (.nm 2) .val [.var 0] [] [2]])]⟩
/-- 25 -/
def f_column_in : Fn := ⟨2, 3, [.ret (.bf .tup [.comp (.ix (.var 2) (.var 1)) (.nm 2) .val [.var 0] [] [2]])]⟩
/-- 26 -/
def f_first_flaw : Fn := ⟨2, 5, [.asg (.nm 2) (.dic0), .for (.tp [3, 4]) .enum [.var 0] [.ite (.cmp .isin (.ix (.var 4) (.var 1)) (.var 2)) [.ret (.tup [.ix (.var 2) (.ix (.var 4) (.var 1)), .var 3, .var 1])] [], .seti 2 (.ix (.var 4) (.var 1)) (.var 3)], .ret (.con .non)]⟩
/-- 27 -/
def f_flaw_in : Fn := ⟨1, 7, [.asg (.nm 1) (.bf .range [.bf .len [.var 0]]), .for (.nm 2) .val [.var 1] [.ite (.cmp .ne (.ix (.ix (.var 0) (.var 2)) (.var 2)) (.var 2)) [.ret (.tup [.con (.int 1), .tup [.var 2]])] []], .for (.nm 3) .val [.var 1] [.asg (.nm 4) (.call 26 [.var 0, .var 3]), .ite (.cmp .isn (.var 4) (.con .non)) [.ret (.tup [.con (.int 2), .var 4])] []], .for (.nm 2) .val [.var 1] [.for (.nm 5) .val [.var 1] [.for (.nm 6) .val [.var 1] [.ite (.cmp .ne (.ix (.ix (.var 0) (.ix (.ix (.var 0) (.var 2)) (.var 5))) (.var 6)) (.ix (.ix (.var 0) (.ix (.ix (.var 0) (.var 2)) (.var 6))) (.ix (.ix (.var 0) (.var 5)) (.var 6)))) [.ret (.tup [.con (.int 3), .tup [.var 2, .var 5, .var 6]])] []]]], .ret (.con .non)]⟩
/-- 28 -/
def f_is_table_in : Fn := ⟨1, 1, [.ret (.band [.call 24 [.var 0], .cmp .is (.call 27 [.var 0]) (.con .non)])]⟩
/-- 29 -/
def f_sure_table : Fn := ⟨1, 2, [.asg (.nm 1) (.call 4 [.var 0]), .ite (.bnot (.call 28 [.var 1])) [.bad] [], .ret (.var 1)]⟩
/-- 30 -/
def f_back_in : Fn := ⟨3, 4, [.ret (.ix (.comp (.var 3) (.nm 3) .rng [.bf .len [.var 0]] [.cmp .eq (.ix (.ix (.var 0) (.var 3)) (.var 2)) (.var 1)] [3]) (.con (.int 0)))]⟩
/-- 31 -/
def f_contrary_in : Fn := ⟨1, 4, [.asg (.nm 1) (.bf .range [.bf .len [.var 0]]), .ret (.bf .tup [.comp (.bf .tup [.comp (.call 30 [.var 0, .var 2, .var 3]) (.nm 3) .val [.var 1] [] [3]]) (.nm 2) .val [.var 1] [] [2]])]⟩
/-- 32 -/
def f_is_table : Fn := ⟨1, 1, [.ret (.call 28 [.var 0])]⟩
/-- 33 -/
def f_sure_thing : Fn := ⟨2, 2, [.ret (.call 5 [.var 1, .con (.int 0), .bin .sub (.bf .len [.var 0]) (.con (.int 1))])]⟩
/-- 34 -/
def f_column : Fn := ⟨2, 3, [.asg (.nm 2) (.call 29 [.var 0]), .ret (.call 25 [.var 2, .call 33 [.var 2, .var 1]])]⟩
/-- 35 -/
def f_contrary : Fn := ⟨1, 1, [.ret (.call 31 [.call 29 [.var 0]])]⟩
/-- 36 -/
def f_part_in : Fn := ⟨2, 5, [.par [2, 3] [.dic1 (.var 1) (.con (.bl true)), .lst [.var 1]], .whl (.cmp .ne (.var 3) (.lst [])) [.for (.nm 4) .val [.ix (.var 0) (.mf .pop 3 [])] [.ite (.cmp .nin (.var 4) (.var 2)) [.seti 2 (.var 4) (.con (.bl true)), .ex (.mf .append 3 [.var 4])] []]], .ret (.bf .tup [.bf .sorted [.var 2]])]⟩
/-- 37 -/
def f_parts_in : Fn := ⟨1, 2, [.ret (.sset (.comp (.call 36 [.var 0, .var 1]) (.nm 1) .rng [.bf .len [.var 0]] [] [1]))]⟩
/-- 38 -/
def f_is_crosswise_in : Fn := ⟨1, 6, [.asg (.nm 1) (.bf .range [.bf .len [.var 0]]), .for (.nm 2) .val [.var 1] [.for (.nm 3) .val [.var 1] [.for (.nm 4) .val [.var 1] [.for (.nm 5) .val [.var 1] [.ite (.cmp .ne (.ix (.ix (.var 0) (.ix (.ix (.var 0) (.var 2)) (.var 3))) (.ix (.ix (.var 0) (.var 4)) (.var 5))) (.ix (.ix (.var 0) (.ix (.ix (.var 0) (.var 2)) (.var 4))) (.ix (.ix (.var 0) (.var 3)) (.var 5)))) [.ret (.con (.bl false))] []]]]], .ret (.con (.bl true))]⟩
/-- 39 -/
def f_parts : Fn := ⟨1, 1, [.ret (.call 37 [.call 29 [.var 0]])]⟩
/-- 40 -/
def f_hangs_together : Fn := ⟨1, 1, [.ret (.cmp .eq (.bf .len [.call 37 [.call 29 [.var 0]]]) (.con (.int 1)))]⟩
/-- 41 -/
def f_is_crosswise : Fn := ⟨1, 1, [.ret (.call 38 [.call 29 [.var 0]])]⟩
/-- 42 -/
def f_law_box : Fn := ⟨2, 3, [.asg (.nm 2) (.ite (.cmp .lt (.var 1) (.bf .len [.var 0])) (.ix (.var 0) (.var 1)) (.con (.int 0))), .ret (.lst [.bin .mul (.bf .abs [.var 2]) (.bf .int [.cmp .ge (.bf .abs [.var 2]) (.bin .pow (.con (.int 10)) (.con (.int 18)))]), .bin .add (.bin .add (.bin .mod (.bf .int [.var 2]) (.con (.int 2305843009213693951))) (.bin .mul (.con (.int 39373)) (.var 1))) (.con (.int 26299)), .con (.int 0)])]⟩
/-- 43 -/
def f_law_take : Fn := ⟨2, 6, [.ite (.cmp .gt (.ix (.var 0) (.con (.int 0))) (.con (.int 0))) [.asg (.nm 2) (.bin .mod (.bf .int [.ix (.var 0) (.con (.int 0))]) (.var 1)), .seti 0 (.con (.int 0)) (.bin .fdv (.ix (.var 0) (.con (.int 0))) (.var 1)), .ret (.var 2)] [], .seti 0 (.con (.int 2)) (.bin .add (.ix (.var 0) (.con (.int 2))) (.con (.int 1))), .asg (.nm 3) (.bin .mod (.bf .int [.bin .mul (.bin .add (.ix (.var 0) (.con (.int 1))) (.bin .mul (.con (.int 48271)) (.ix (.var 0) (.con (.int 2))))) (.bin .add (.con (.int 39373)) (.ix (.var 0) (.con (.int 2))))]) (.con (.int 2147483647))), .asg (.nm 4) (.bin .add (.bin .mod (.bf .int [.var 3]) (.con (.int 40009))) (.con (.int 7))), .asg (.nm 5) (.bin .mod (.bf .int [.bin .mul (.bin .add (.bin .add (.var 3) (.ix (.var 0) (.con (.int 2)))) (.bin .fdv (.ix (.var 0) (.con (.int 1))) (.con (.int 1000003)))) (.var 4)]) (.con (.int 2147483629))), .ret (.bin .mod (.bf .int [.bin .fdv (.bin .mod (.bf .int [.bin .add (.bin .mul (.var 5) (.con (.int 48271))) (.var 3)]) (.con (.int 2147483587))) (.con (.int 64))]) (.var 1))]⟩
/-- 44 -/
def f_law_cells : Fn := ⟨2, 6, [.asg (.nm 2) (.bor [.bf .lst [.sl (.var 0) none (some (.var 1))], .lst [.con (.int 0)]]), .for (.tp [3, 4]) .enum [.sl (.var 0) (some (.var 1)) (some (.con (.int 63)))] [.asg (.nm 5) (.bin .mod (.bf .int [.var 3]) (.var 1)), .seti 2 (.var 5) (.bin .add (.ix (.var 2) (.var 5)) (.bin .mul (.var 4) (.bin .add (.var 3) (.con (.int 2)))))], .ret (.var 2)]⟩
/-- 45 -/
def f_law_of : Fn := ⟨2, 2, [.ret (.ix (.var 1) (.call 43 [.lend 0, .bf .len [.var 1]]))]⟩
/-- 46 -/
def f_law_same : Fn := ⟨2, 4, [.ite (.isi (.var 1) [.lst, .tup]) [.ite (.bor [.cmp .ne (.isi (.var 0) [.lst]) (.isi (.var 1) [.lst]), .cmp .ne (.isi (.var 0) [.tup]) (.isi (.var 1) [.tup])]) [.ret (.con (.bl false))] [], .ret (.band [.cmp .eq (.bf .len [.var 0]) (.bf .len [.var 1]), .bf .all [.comp (.call 46 [.var 2, .var 3]) (.tp [2, 3]) .zip [.var 0, .var 1] [] [2, 3]]])] [], .ite (.cmp .is (.var 1) (.con .non)) [.ret (.cmp .is (.var 0) (.con .non))] [], .ite (.isi (.var 1) [.bool, .str]) [.ret (.band [.cmp .eq (.isi (.var 0) [.bool]) (.isi (.var 1) [.bool]), .cmp .eq (.isi (.var 0) [.str]) (.isi (.var 1) [.str]), .cmp .eq (.var 0) (.var 1)])] [], .ret (.band [.isi (.var 0) [.int], .bnot (.isi (.var 0) [.bool]), .cmp .eq (.var 0) (.var 1)])]⟩
/-- 47 -/
def f_law_linear : Fn := ⟨2, 4, [.ret (.bf .tup [.comp (.bf .tup [.comp (.bin .mod (.bin .add (.bin .mul (.var 1) (.var 2)) (.bin .mul (.bin .sub (.con (.int 1)) (.var 1)) (.var 3))) (.var 0)) (.nm 3) .rng [.var 0] [] [3]]) (.nm 2) .rng [.var 0] [] [2]])]⟩
/-- 48 -/
def f_law_pairs : Fn := ⟨2, 12, [.asg (.tp [2, 3, 4, 5]) (.var 1), .asg (.nm 6) (.lst []), .for (.nm 7) .rng [.bin .mul (.var 0) (.var 0)] [.asg (.nm 8) (.lst []), .for (.nm 9) .rng [.bin .mul (.var 0) (.var 0)] [.par [10, 11] [.bin .sub (.bin .fdv (.var 7) (.var 0)) (.bin .fdv (.var 9) (.var 0)), .bin .sub (.bin .mod (.var 7) (.var 0)) (.bin .mod (.var 9) (.var 0))], .ex (.mf .append 8 [.bin .add (.bin .mul (.bin .mod (.bin .add (.bin .add (.bin .mul (.var 10) (.var 2)) (.bin .mul (.var 11) (.var 4))) (.bin .fdv (.var 9) (.var 0))) (.var 0)) (.var 0)) (.bin .mod (.bin .add (.bin .add (.bin .mul (.var 10) (.var 3)) (.bin .mul (.var 11) (.var 5))) (.bin .mod (.var 9) (.var 0))) (.var 0))])], .ex (.mf .append 6 [.bf .tup [.var 8]])], .ret (.bf .tup [.var 6])]⟩
/-- 49 -/
def f_law_common : Fn := ⟨2, 3, [.for (.nm 2) .rng [.con (.int 400)] [.ite (.cmp .eq (.var 1) (.con (.int 0))) [.brk] [], .par [0, 1] [.var 1, .bin .mod (.var 0) (.var 1)]], .ret (.bf .abs [.var 0])]⟩
/-- 50 -/
def f_law_all : Fn := ⟨1, 6, [.asg (.nm 1) (.comp (.tup [.con (.str "linear"), .var 0, .var 5]) (.nm 5) .rng [.con (.int 1), .var 0] [.cmp .eq (.call 49 [.var 0, .var 5]) (.con (.int 1))] [5]), .for (.nm 2) .val [.tup [.con (.int 2), .con (.int 3)]] [.ite (.cmp .eq (.bin .mul (.var 2) (.var 2)) (.var 0)) [.for (.nm 3) .rng [.bin .mul (.bin .mul (.bin .mul (.var 2) (.var 2)) (.var 2)) (.var 2)] [.asg (.nm 4) (.tup [.bin .fdv (.var 3) (.bin .mul (.bin .mul (.var 2) (.var 2)) (.var 2)), .bin .mod (.bin .fdv (.var 3) (.bin .mul (.var 2) (.var 2))) (.var 2), .bin .mod (.bin .fdv (.var 3) (.var 2)) (.var 2), .bin .mod (.var 3) (.var 2)]), .ite (.cmp .ne (.bin .mod (.bin .sub (.bin .mul (.ix (.var 4) (.con (.int 0))) (.ix (.var 4) (.con (.int 3)))) (.bin .mul (.ix (.var 4) (.con (.int 1))) (.ix (.var 4) (.con (.int 2))))) (.var 2)) (.con (.int 0))) [.ex (.mf .append 1 [.tup [.con (.str "square"), .var 2, .var 4]])] []]] []], .ret (.var 1)]⟩
/-- 51 -/
def f_turned : Fn := ⟨3, 5, [.asg (.nm 3) (.call 29 [.var 0]), .asg (.nm 4) (.call 33 [.var 3, .var 1]), .ret (.ix (.ix (.var 3) (.var 4)) (.call 33 [.var 3, .var 2]))]⟩
/-- 52 -/
def f_turned_back : Fn := ⟨3, 5, [.asg (.nm 3) (.call 29 [.var 0]), .asg (.nm 4) (.call 33 [.var 3, .var 1]), .ret (.call 30 [.var 3, .var 4, .call 33 [.var 3, .var 2]])]⟩
/-- 53 -/
def f_turned_along : Fn := ⟨3, 7, [.asg (.nm 3) (.call 29 [.var 0]), .asg (.nm 4) (.call 33 [.var 3, .var 1]), .asg (.nm 5) (.call 4 [.var 2]), .ite (.bor [.bnot (.call 3 [.var 5]), .cmp .gt (.bf .len [.var 5]) (.con (.int 1000)), .bnot (.bf .all [.comp (.chain .le .lt (.con (.int 0)) (.var 6) (.bf .len [.var 3])) (.nm 6) .val [.var 5] [] [6]])]) [.bad] [], .for (.nm 6) .val [.var 5] [.asg (.nm 4) (.ix (.ix (.var 3) (.var 4)) (.var 6))], .ret (.var 4)]⟩
/-- 54 -/
def f_still_table : Fn := ⟨1, 3, [.asg (.nm 1) (.call 5 [.var 0, .con (.int 1), .glo (.int 12)]), .ret (.bf .tup [.comp (.bin .mul (.tup [.var 2]) (.var 1)) (.nm 2) .rng [.var 1] [] [2]])]⟩
/-- 55 -/
def f_is_order_in : Fn := ⟨2, 2, [.ret (.band [.call 3 [.var 1], .cmp .eq (.bf .sorted [.var 1]) (.bf .lst [.bf .range [.var 0]])])]⟩
/-- 56 -/
def f_is_own_in : Fn := ⟨2, 5, [.asg (.nm 2) (.bf .len [.var 0]), .ite (.bnot (.call 55 [.var 2, .var 1])) [.ret (.con (.bl false))] [], .ret (.bf .all [.comp2 (.cmp .eq (.ix (.var 1) (.ix (.ix (.var 0) (.var 3)) (.var 4))) (.ix (.ix (.var 0) (.ix (.var 1) (.var 3))) (.ix (.var 1) (.var 4)))) (.nm 3) .rng [.var 2] [] (.nm 4) .rng [.var 2] [] [3, 4]])]⟩
/-- 57 -/
def f_is_own_move : Fn := ⟨2, 2, [.ret (.call 56 [.call 29 [.var 0], .var 1])]⟩
/-- 58 -/
def f_law_pick : Fn := ⟨3, 6, [.par [3, 4] [.bf .lst [.var 1], .lst []], .for (.nm 5) .rng [.bf .min [.bf .int [.var 2], .bf .len [.var 3]]] [.ex (.mf .append 4 [.mf .popAt 3 [.call 43 [.lend 0, .bf .len [.var 3]]]])], .ret (.var 4)]⟩
/-- 59 -/
def f_law_flat : Fn := ⟨1, 3, [.asg (.nm 1) (.lst []), .for (.nm 2) .val [.var 0] [.ex (.mf .extend 1 [.var 2])], .ret (.var 1)]⟩
/-- 60 -/
def f_law_still : Fn := ⟨1, 2, [.ret (.bf .tup [.comp (.bin .mul (.tup [.var 1]) (.var 0)) (.nm 1) .rng [.var 0] [] [1]])]⟩
/-- 61 -/
def f_law_through : Fn := ⟨2, 4, [.asg (.nm 2) (.bin .mul (.lst [.con (.int 0)]) (.bf .len [.var 0])), .for (.nm 3) .rng [.bf .len [.var 0]] [.seti 2 (.ix (.var 1) (.var 3)) (.ix (.var 1) (.ix (.var 0) (.var 3)))], .ret (.bf .tup [.var 2])]⟩
/-- 62 -/
def f_law_exchanges : Fn := ⟨1, 4, [.ret (.comp (.bf .tup [.comp (.ite (.cmp .eq (.var 3) (.var 1)) (.var 2) (.ite (.cmp .eq (.var 3) (.var 2)) (.var 1) (.var 3))) (.nm 3) .rng [.var 0] [] [3]]) (.tp [1, 2]) .val [.call 59 [.comp (.comp (.tup [.var 1, .var 2]) (.nm 2) .rng [.bin .add (.var 1) (.con (.int 1)), .var 0] [] [2]) (.nm 1) .rng [.var 0] [] [1]]] [] [1, 2])]⟩
/-- 63 -/
def f_law_moves_table : Fn := ⟨1, 3, [.ret (.bf .tup [.comp (.bf .tup [.comp (.bad) (.nm 2) .val [.var 0] [] [2]]) (.nm 1) .val [.var 0] [] [1]])]⟩
/-- 64 -/
def f_law_renamed : Fn := ⟨2, 6, [.asg (.nm 2) (.comp (.bad) (.nm 3) .rng [.bf .len [.var 1]] [] [3]), .ret (.bf .tup [.comp (.bf .tup [.comp (.ix (.var 1) (.ix (.ix (.var 0) (.ix (.var 2) (.var 4))) (.ix (.var 2) (.var 5)))) (.nm 5) .rng [.bf .len [.var 1]] [] [5]]) (.nm 4) .rng [.bf .len [.var 1]] [] [4]])]⟩
/-- 65 -/
def f_law_beside : Fn := ⟨2, 7, [.asg (.nm 2) (.bf .len [.var 0]), .asg (.nm 3) (.comp (.bin .add (.var 5) (.bin .mul (.tup [.var 4]) (.bf .len [.var 1]))) (.tp [4, 5]) .enum [.var 0] [] [4, 5]), .ret (.bf .tup [.bin .add (.var 3) (.comp (.bin .add (.bin .mul (.tup [.bin .add (.var 4) (.var 2)]) (.var 2)) (.bf .tup [.comp (.bin .add (.var 6) (.var 2)) (.nm 6) .val [.var 5] [] [6]])) (.tp [4, 5]) .enum [.var 1] [] [4, 5])])]⟩
/-- 66 -/
def f_law_product : Fn := ⟨2, 5, [.asg (.nm 2) (.bf .len [.var 1]), .ret (.bf .tup [.comp (.bf .tup [.comp (.bin .add (.bin .mul (.ix (.ix (.var 0) (.bin .fdv (.var 3) (.var 2))) (.bin .fdv (.var 4) (.var 2))) (.var 2)) (.ix (.ix (.var 1) (.bin .mod (.var 3) (.var 2))) (.bin .mod (.var 4) (.var 2)))) (.nm 4) .rng [.bin .mul (.bf .len [.var 0]) (.var 2)] [] [4]]) (.nm 3) .rng [.bin .mul (.bf .len [.var 0]) (.var 2)] [] [3]])]⟩
/-- 67 -/
def f_law_small : Fn := ⟨0, 3, [.par [0, 1] [.tup [.tup [.con (.int 0), .con (.int 0), .con (.int 0)], .tup [.con (.int 2), .con (.int 1), .con (.int 1)], .tup [.con (.int 1), .con (.int 2), .con (.int 2)]], .tup [.tup [.con (.int 0), .con (.int 0), .con (.int 0), .con (.int 0)], .tup [.con (.int 2), .con (.int 1), .con (.int 1), .con (.int 1)], .tup [.con (.int 3), .con (.int 2), .con (.int 2), .con (.int 2)], .tup [.con (.int 1), .con (.int 3), .con (.int 3), .con (.int 3)]]], .asg (.nm 2) (.lst [.call 60 [.con (.int 1)], .call 60 [.con (.int 2)], .call 60 [.con (.int 3)], .var 0, .call 47 [.con (.int 3), .con (.int 2)], .call 60 [.con (.int 4)], .call 47 [.con (.int 4), .con (.int 3)]]), .asg (.nm 2) (.bin .add (.var 2) (.lst [.call 48 [.con (.int 2), .tup [.con (.int 0), .con (.int 1), .con (.int 1), .con (.int 1)]], .call 65 [.call 60 [.con (.int 1)], .call 47 [.con (.int 3), .con (.int 2)]], .var 1])), .ret (.bin .add (.var 2) (.lst [.call 47 [.con (.int 5), .con (.int 2)], .call 47 [.con (.int 5), .con (.int 3)], .call 47 [.con (.int 5), .con (.int 4)], .call 65 [.call 60 [.con (.int 2)], .var 0]]))]⟩
/-- 68 -/
def f_law_some_table : Fn := ⟨2, 9, [.asg (.nm 2) (.call 43 [.lend 0, .con (.int 5)]), .asg (.nm 3) (.comp (.var 7) (.nm 7) .val [.call 67 []] [.cmp .le (.bf .len [.var 7]) (.var 1)] [7]), .asg (.nm 4) (.call 45 [.lend 0, .var 3]), .ite (.band [.cmp .eq (.var 2) (.con (.int 1)), .cmp .gt (.var 1) (.con (.int 5))]) [.asg (.nm 5) (.bin .add (.con (.int 6)) (.call 43 [.lend 0, .bin .sub (.var 1) (.con (.int 5))])), .asg (.nm 4) (.call 47 [.var 5, .call 45 [.lend 0, .comp (.var 8) (.nm 8) .rng [.con (.int 1), .var 5] [.cmp .eq (.call 49 [.var 5, .var 8]) (.con (.int 1))] [8]]])] [], .ite (.band [.cmp .eq (.var 2) (.con (.int 2)), .cmp .gt (.var 1) (.con (.int 5))]) [.asg (.nm 4) (.call 63 [.call 62 [.con (.int 4)]])] [], .ite (.cmp .eq (.var 2) (.con (.int 3))) [.asg (.nm 6) (.call 45 [.lend 0, .var 3]), .ite (.cmp .le (.bin .add (.bf .len [.var 4]) (.bf .len [.var 6])) (.var 1)) [.asg (.nm 4) (.call 65 [.var 4, .var 6])] []] [], .ite (.cmp .eq (.var 2) (.con (.int 4))) [.asg (.nm 6) (.call 45 [.lend 0, .var 3]), .ite (.cmp .le (.bin .mul (.bf .len [.var 4]) (.bf .len [.var 6])) (.var 1)) [.asg (.nm 4) (.call 66 [.var 4, .var 6])] []] [], .ret (.call 64 [.var 4, .bf .tup [.call 58 [.lend 0, .bf .lst [.bf .range [.bf .len [.var 4]]], .bf .len [.var 4]]]])]⟩
/-- 69 -/
def f_law_back : Fn := ⟨3, 4, [.ret (.ix (.comp (.var 3) (.nm 3) .rng [.bf .len [.var 0]] [.cmp .eq (.ix (.ix (.var 0) (.var 3)) (.var 2)) (.var 1)] [3]) (.con (.int 0)))]⟩
/-- 70 -/
def f_law_contrary : Fn := ⟨1, 3, [.ret (.bf .tup [.comp (.bf .tup [.comp (.call 69 [.var 0, .var 1, .var 2]) (.nm 2) .rng [.bf .len [.var 0]] [] [2]]) (.nm 1) .rng [.bf .len [.var 0]] [] [1]])]⟩
/-- 71 -/
def f_after_in : Fn := ⟨2, 3, [.ret (.bf .tup [.comp (.ix (.var 1) (.var 2)) (.nm 2) .val [.var 0] [] [2]])]⟩
/-- 72 -/
def f_movers_in : Fn := ⟨1, 9, [.asg (.nm 1) (.bf .len [.var 0]), .asg (.nm 3) (.comp (.call 25 [.var 0, .var 2]) (.nm 2) .rng [.var 1] [] [2]), .asg (.nm 4) (.bf .tup [.bf .range [.var 1]]), .par [5, 6] [.dic1 (.var 4) (.con (.bl true)), .lst [.var 4]], .whl (.cmp .ne (.var 6) (.lst [])) [.asg (.nm 7) (.mf .pop 6 []), .for (.nm 2) .val [.var 3] [.asg (.nm 8) (.call 71 [.var 7, .var 2]), .ite (.cmp .nin (.var 8) (.var 5)) [.ite (.cmp .eq (.bf .len [.var 5]) (.glo (.int 5040))) [.ret (.con .non)] [], .seti 5 (.var 8) (.con (.bl true)), .ex (.mf .append 6 [.var 8])] []]], .ret (.bf .sorted [.var 5])]⟩
/-- 73 -/
def f_rounds_in : Fn := ⟨1, 6, [.par [1, 2] [.lst [], .dic0], .for (.nm 3) .val [.var 0] [.par [4, 5] [.var 3, .con (.int 0)], .whl (.cmp .nin (.var 4) (.var 2)) [.seti 2 (.var 4) (.con (.bl true)), .par [4, 5] [.ix (.var 0) (.var 4), .bin .add (.var 5) (.con (.int 1))]], .ite (.cmp .gt (.var 5) (.con (.int 0))) [.ex (.mf .append 1 [.var 5])] []], .ret (.bf .tup [.bf .sorted [.var 1]])]⟩
/-- 74 -/
def f_movers : Fn := ⟨1, 2, [.asg (.nm 1) (.call 72 [.call 29 [.var 0]]), .ite (.cmp .is (.var 1) (.con .non)) [.bad] [], .ret (.var 1)]⟩
/-- 75 -/
def f_part_of : Fn := ⟨2, 3, [.asg (.nm 2) (.call 29 [.var 0]), .ret (.call 36 [.var 2, .call 33 [.var 2, .var 1]])]⟩
/-- 76 -/
def f_rounds_of : Fn := ⟨2, 3, [.asg (.nm 2) (.call 29 [.var 0]), .ret (.call 73 [.call 25 [.var 2, .call 33 [.var 2, .var 1]]])]⟩
/-- 77 -/
def f_product_in : Fn := ⟨2, 9, [.asg (.nm 2) (.bf .len [.var 1]), .asg (.nm 3) (.bf .range [.bin .mul (.bf .len [.var 0]) (.var 2)]), .asg (.nm 4) (.lst []), .for (.nm 5) .val [.var 3] [.asg (.tp [6, 7]) (.tup [.ix (.var 0) (.bin .fdv (.var 5) (.var 2)), .ix (.var 1) (.bin .mod (.var 5) (.var 2))]), .ex (.mf .append 4 [.bf .tup [.comp (.bin .add (.bin .mul (.ix (.var 6) (.bin .fdv (.var 8) (.var 2))) (.var 2)) (.ix (.var 7) (.bin .mod (.var 8) (.var 2)))) (.nm 8) .val [.var 3] [] [8]]])], .ret (.bf .tup [.var 4])]⟩
/-- 78 -/
def f_beside_in : Fn := ⟨2, 7, [.asg (.nm 2) (.bf .len [.var 0]), .asg (.nm 3) (.comp (.bin .add (.var 5) (.bin .mul (.tup [.var 4]) (.bf .len [.var 1]))) (.tp [4, 5]) .enum [.var 0] [] [4, 5]), .ret (.bf .tup [.bin .add (.var 3) (.comp (.bin .add (.bin .mul (.tup [.bin .add (.var 4) (.var 2)]) (.var 2)) (.bf .tup [.comp (.bin .add (.var 6) (.var 2)) (.nm 6) .val [.var 5] [] [6]])) (.tp [4, 5]) .enum [.var 1] [] [4, 5])])]⟩
/-- 79 -/
def f_product_table : Fn := ⟨2, 4, [.asg (.nm 2) (.call 29 [.var 0]), .asg (.nm 3) (.call 29 [.var 1]), .ite (.cmp .gt (.bin .mul (.bf .len [.var 2]) (.bf .len [.var 3])) (.glo (.int 12))) [.bad] [], .ret (.call 77 [.var 2, .var 3])]⟩
/-- 80 -/
def f_beside_table : Fn := ⟨2, 4, [.asg (.nm 2) (.call 29 [.var 0]), .asg (.nm 3) (.call 29 [.var 1]), .ite (.cmp .gt (.bin .add (.bf .len [.var 2]) (.bf .len [.var 3])) (.glo (.int 12))) [.bad] [], .ret (.call 78 [.var 2, .var 3])]⟩
/-- 81 -/
def f_law_parts : Fn := ⟨1, 7, [.asg (.nm 2) (.comp (.lst [.var 1]) (.nm 1) .rng [.bf .len [.var 0]] [] [1]), .for (.nm 1) .rng [.bf .len [.var 0]] [.for (.nm 3) .val [.ix (.var 0) (.var 1)] [.asg (.tp [4, 5]) (.tup [.ix (.comp (.var 6) (.nm 6) .val [.var 2] [.cmp .isin (.var 1) (.var 6)] [6]) (.con (.int 0)), .ix (.comp (.var 6) (.nm 6) .val [.var 2] [.cmp .isin (.var 3) (.var 6)] [6]) (.con (.int 0))]), .ite (.cmp .ne (.var 4) (.var 5)) [.asg (.nm 2) (.bin .add (.comp (.var 6) (.nm 6) .val [.var 2] [.cmp .nin (.var 6) (.tup [.var 4, .var 5])] [6]) (.lst [.bin .add (.var 4) (.var 5)]))] []]], .ret (.bf .sorted [.comp (.bf .tup [.bf .sorted [.var 6]]) (.nm 6) .val [.var 2] [] [6]])]⟩
/-- 82 -/
def f_law_rounds : Fn := ⟨1, 7, [.par [1, 2] [.lst [], .lst []], .for (.nm 3) .rng [.bf .len [.var 0]] [.par [4, 5] [.var 3, .con (.int 0)], .for (.nm 6) .rng [.con (.int 13)] [.ite (.cmp .isin (.var 4) (.var 2)) [.brk] [], .ex (.mf .append 2 [.var 4]), .par [4, 5] [.ix (.var 0) (.var 4), .bin .add (.var 5) (.con (.int 1))]], .ite (.cmp .gt (.var 5) (.con (.int 0))) [.ex (.mf .append 1 [.var 5])] []], .ret (.bf .tup [.bf .sorted [.var 1]])]⟩
/-- 83 -/
def f_law_crosswise : Fn := ⟨1, 6, [.asg (.nm 1) (.bf .len [.var 0]), .for (.nm 2) .rng [.var 1] [.for (.nm 3) .rng [.var 1] [.for (.nm 4) .rng [.var 1] [.for (.nm 5) .rng [.var 1] [.ite (.cmp .ne (.ix (.ix (.var 0) (.ix (.ix (.var 0) (.var 2)) (.var 3))) (.ix (.ix (.var 0) (.var 4)) (.var 5))) (.ix (.ix (.var 0) (.ix (.ix (.var 0) (.var 2)) (.var 4))) (.ix (.ix (.var 0) (.var 3)) (.var 5)))) [.ret (.con (.bl false))] []]]]], .ret (.con (.bl true))]⟩
/-- 84 -/
def f_sure_square : Fn := ⟨1, 2, [.asg (.nm 1) (.call 4 [.var 0]), .ite (.bnot (.call 24 [.var 1])) [.bad] [], .ret (.var 1)]⟩
/-- 85 -/
def f_is_flaw_in : Fn := ⟨2, 7, [.ite (.bor [.bnot (.call 2 [.var 1, .con (.int 2)]), .bnot (.call 1 [.ix (.var 1) (.con (.int 0)), .con (.int 1), .con (.int 3)]), .bnot (.call 3 [.ix (.var 1) (.con (.int 1))])]) [.ret (.con (.bl false))] [], .asg (.tp [2, 3]) (.var 1), .ite (.bor [.cmp .ne (.bf .len [.var 3]) (.ite (.cmp .eq (.var 2) (.con (.int 1))) (.con (.int 1)) (.con (.int 3))), .bnot (.bf .all [.comp (.chain .le .lt (.con (.int 0)) (.var 4) (.bf .len [.var 0])) (.nm 4) .val [.var 3] [] [4]])]) [.ret (.con (.bl false))] [], .ite (.cmp .eq (.var 2) (.con (.int 1))) [.ret (.cmp .ne (.ix (.ix (.var 0) (.ix (.var 3) (.con (.int 0)))) (.ix (.var 3) (.con (.int 0)))) (.ix (.var 3) (.con (.int 0))))] [], .asg (.tp [4, 5, 6]) (.var 3), .ite (.cmp .eq (.var 2) (.con (.int 2))) [.ret (.band [.cmp .ne (.var 4) (.var 5), .cmp .eq (.ix (.ix (.var 0) (.var 4)) (.var 6)) (.ix (.ix (.var 0) (.var 5)) (.var 6))])] [], .ret (.cmp .ne (.ix (.ix (.var 0) (.ix (.ix (.var 0) (.var 4)) (.var 5))) (.var 6)) (.ix (.ix (.var 0) (.ix (.ix (.var 0) (.var 4)) (.var 6))) (.ix (.ix (.var 0) (.var 5)) (.var 6))))]⟩
/-- 86 -/
def f_flaw : Fn := ⟨1, 2, [.asg (.nm 1) (.call 27 [.call 84 [.var 0]]), .ite (.cmp .is (.var 1) (.con .non)) [.bad] [], .ret (.var 1)]⟩
/-- 87 -/
def f_is_flaw : Fn := ⟨2, 2, [.ret (.call 85 [.call 84 [.var 0], .var 1])]⟩
/-- 88 -/
def f_law_lists : Fn := ⟨1, 2, [.ret (.ite (.isi (.var 0) [.lst, .tup]) (.comp (.call 88 [.var 1]) (.nm 1) .val [.var 0] [] [1]) (.var 0))]⟩
/-- 89 -/
def f_law_unmarked : Fn := ⟨1, 1, [.ret (.ite (.band [.isi (.var 0) [.lst], .cmp .gt (.bf .len [.var 0]) (.con (.int 0)), .isi (.ix (.var 0) (.con (.int 0))) [.str]]) (.lst [.con (.str "told"), .con (.str "a mark")]) (.var 0))]⟩
/-- 90 -/
def f_law_put : Fn := ⟨3, 3, [.ret (.bin .add (.bin .add (.sl (.var 0) none (some (.var 1))) (.tup [.var 2])) (.sl (.var 0) (some (.bin .add (.var 1) (.con (.int 1)))) none))]⟩
/-- 91 -/
def f_law_breaks : Fn := ⟨3, 6, [.ite (.cmp .eq (.var 1) (.con (.int 1))) [.ret (.cmp .ne (.ix (.ix (.var 0) (.ix (.var 2) (.con (.int 0)))) (.ix (.var 2) (.con (.int 0)))) (.ix (.var 2) (.con (.int 0))))] [], .asg (.tp [3, 4, 5]) (.var 2), .ite (.cmp .eq (.var 1) (.con (.int 2))) [.ret (.band [.cmp .ne (.var 3) (.var 4), .cmp .eq (.ix (.ix (.var 0) (.var 3)) (.var 5)) (.ix (.ix (.var 0) (.var 4)) (.var 5))])] [], .ret (.cmp .ne (.ix (.ix (.var 0) (.ix (.ix (.var 0) (.var 3)) (.var 4))) (.var 5)) (.ix (.ix (.var 0) (.ix (.ix (.var 0) (.var 3)) (.var 5))) (.ix (.ix (.var 0) (.var 4)) (.var 5))))]⟩
/-- 92 -/
def f_law_flaws : Fn := ⟨1, 5, [.asg (.nm 1) (.bf .len [.var 0]), .for (.nm 2) .rng [.var 1] [.ite (.call 91 [.var 0, .con (.int 1), .tup [.var 2]]) [.ret (.con (.bl true))] [], .for (.nm 3) .rng [.var 1] [.for (.nm 4) .rng [.var 1] [.ite (.bor [.call 91 [.var 0, .con (.int 2), .tup [.var 2, .var 3, .var 4]], .call 91 [.var 0, .con (.int 3), .tup [.var 2, .var 3, .var 4]]]) [.ret (.con (.bl true))] []]]], .ret (.con (.bl false))]⟩
/-- 300 -/
def f_law_lap_one : Fn := ⟨1, 9, [.asg (.nm 1) (.bin .add (.con (.int 2)) (.call 43 [.lend 0, .con (.int 11)])), .asg (.nm 2) (.call 50 [.var 1]), .ite (.bnot (.call 46 [.call 22 [.var 1], .var 2])) [.ret (.con (.bl false))] [], .asg (.nm 3) (.call 45 [.lend 0, .var 2]), .asg (.nm 4) (.ite (.cmp .eq (.ix (.var 3) (.con (.int 0))) (.con (.str "linear"))) (.call 47 [.ix (.var 3) (.con (.int 1)), .ix (.var 3) (.con (.int 2))]) (.call 48 [.ix (.var 3) (.con (.int 1)), .ix (.var 3) (.con (.int 2))])), .ite (.bnot (.call 46 [.lst [.call 18 [.var 3], .call 18 [.bf .lst [.var 3]], .call 19 [.var 3], .call 32 [.var 4], .call 19 [.call 23 [.var 3]]], .lst [.con (.bl true), .con (.bl false), .var 4, .con (.bl true), .call 35 [.var 4]]])) [.ret (.con (.bl false))] [], .par [5, 6] [.call 43 [.lend 0, .var 1], .call 43 [.lend 0, .var 1]], .ite (.bnot (.call 46 [.lst [.call 20 [.var 3, .var 5, .var 6], .call 23 [.call 23 [.var 3]], .call 18 [.call 23 [.var 3]]], .lst [.ix (.ix (.var 4) (.var 5)) (.var 6), .var 3, .con (.bl true)]])) [.ret (.con (.bl false))] [], .ite (.band [.cmp .lt (.var 1) (.con (.int 8)), .bnot (.call 41 [.var 4])]) [.ret (.con (.bl false))] [], .asg (.nm 7) (.bf .len [.call 39 [.var 4]]), .ite (.bnot (.call 46 [.lst [.call 21 [.var 3], .call 40 [.var 4]], .lst [.var 7, .cmp .eq (.var 7) (.con (.int 1))]])) [.ret (.con (.bl false))] [], .ite (.cmp .eq (.ix (.var 3) (.con (.int 0))) (.con (.str "linear"))) [.ret (.band [.cmp .eq (.var 7) (.call 49 [.var 1, .bin .mod (.bin .sub (.con (.int 1)) (.ix (.var 3) (.con (.int 2)))) (.var 1)]), .cmp .eq (.call 34 [.var 4, .con (.int 0)]) (.bf .tup [.comp (.bin .mod (.bin .mul (.ix (.var 3) (.con (.int 2))) (.var 8)) (.var 1)) (.nm 8) .rng [.var 1] [] [8]])])] [], .ret (.cmp .eq (.ix (.call 34 [.var 4, .con (.int 0)]) (.con (.int 0))) (.con (.int 0)))]⟩
/-- 301 -/
def f_law : Fn := ⟨1, 6, [.asg (.nm 1) (.call 42 [.call 44 [.var 0, .con (.int 1)], .con (.int 0)]), .for (.nm 2) .rng [.con (.int 5)] [.ite (.bnot (.call 300 [.lend 1])) [.ret (.con (.bl false))] []], .asg (.nm 3) (.lst [.con .non, .con (.int 5), .tup [], .tup [.con (.str "linear"), .con (.int 3)], .tup [.con (.str "linear"), .con (.int 3), .con (.int 0)], .tup [.con (.str "linear"), .con (.int 3), .con (.int 3)], .tup [.con (.str "linear"), .con (.int 4), .con (.int 2)], .tup [.con (.str "linear"), .con (.int 13), .con (.int 2)], .tup [.con (.str "linear"), .con (.int 1), .con (.int 1)], .tup [.con (.str "linear"), .con (.int 3), .con (.bl true)], .tup [.con (.str "square"), .con (.int 4), .tup [.con (.int 1), .con (.int 0), .con (.int 0), .con (.int 1)]], .tup [.con (.str "square"), .con (.int 2), .tup [.con (.int 1), .con (.int 1), .con (.int 1), .con (.int 1)]], .tup [.con (.str "square"), .con (.int 2), .tup [.con (.int 1), .con (.int 0), .con (.int 0)]], .tup [.con (.str "square"), .con (.int 2), .tup [.con (.int 1), .con (.int 0), .con (.int 0), .con (.int 2)]], .tup [.con (.str "lines"), .con (.int 3), .con (.int 2)]]), .asg (.nm 4) (.bin .add (.comp (.call 18 [.var 5]) (.nm 5) .val [.var 3] [] [5]) (.lst [.call 21 [.tup [.con (.str "linear"), .con (.int 9), .con (.int 4)]], .call 21 [.tup [.con (.str "linear"), .con (.int 8), .con (.int 1)]], .call 21 [.tup [.con (.str "square"), .con (.int 2), .tup [.con (.int 0), .con (.int 1), .con (.int 1), .con (.int 0)]]], .call 21 [.tup [.con (.str "square"), .con (.int 3), .tup [.con (.int 1), .con (.int 0), .con (.int 0), .con (.int 1)]]], .bf .len [.call 22 [.con (.int 9)]]])), .ret (.call 46 [.var 4, .bin .add (.bin .mul (.lst [.con (.bl false)]) (.con (.int 15))) (.lst [.con (.int 3), .con (.int 8), .con (.int 2), .con (.int 9), .con (.int 54)])])]⟩
def FsC : List Fn := [f_is_number, f_is_within, f_is_long, f_are_numbers, f_tupled, f_sure_within, f_common_of, f_is_linear_in, f_sure_linear, f_size_in, f_matrix_in, f_by_rows, f_vector_in, f_thing_of, f_turned_in, f_table_in, f_parts_count_in, f_all_linears_in, f_is_linear, f_linear_table, f_linear_turned, f_linear_parts, f_all_linears, f_linear_contrary, f_is_square_in, f_column_in, f_first_flaw, f_flaw_in, f_is_table_in, f_sure_table, f_back_in, f_contrary_in, f_is_table, f_sure_thing, f_column, f_contrary, f_part_in, f_parts_in, f_is_crosswise_in, f_parts, f_hangs_together, f_is_crosswise, f_law_box, f_law_take, f_law_cells, f_law_of, f_law_same, f_law_linear, f_law_pairs, f_law_common, f_law_all, f_turned, f_turned_back, f_turned_along, f_still_table, f_is_order_in, f_is_own_in, f_is_own_move, f_law_pick, f_law_flat, f_law_still, f_law_through, f_law_exchanges, f_law_moves_table, f_law_renamed, f_law_beside, f_law_product, f_law_small, f_law_some_table, f_law_back, f_law_contrary, f_after_in, f_movers_in, f_rounds_in, f_movers, f_part_of, f_rounds_of, f_product_in, f_beside_in, f_product_table, f_beside_table, f_law_parts, f_law_rounds, f_law_crosswise, f_sure_square, f_is_flaw_in, f_flaw, f_is_flaw, f_law_lists, f_law_unmarked, f_law_put, f_law_breaks, f_law_flaws]
def FsL : List Fn := [f_law_lap_one, f_law]
def G (i : Nat) : Option Fn := if Nat.blt i 300 then FsC[i]? else FsL[i - 300]?
end VS

set_option Elab.async false
set_option linter.all false
set_option maxRecDepth 100000
set_option maxHeartbeats 4000000
/-! S 1: numbers, tuples. -/
namespace VS
open PySem PySem.Spec
@[simp] theorem szB_nat {n : Nat} : szB n = decide (n ≤ 16777216) := by
  unfold szB
  rw [Bool.eq_iff_iff, Nat.ble_eq, decide_eq_true_iff]
theorem bools_map {α : Type} (p : α → Bool) : ∀ l : List α, bools? (l.map fun x => D.bl (p x)) = some (l.map p)
  | [] => rfl
  | a :: l => by
    show (bools? (l.map fun x => D.bl (p x))).map (p a :: ·) = _
    rw [bools_map p l]
    rfl
theorem ints_map {α : Type} (p : α → Int) : ∀ l : List α, ints? (l.map fun x => D.int (p x)) = some (l.map p)
  | [] => rfl
  | a :: l => by
    show (ints? (l.map fun x => D.int (p x))).map (p a :: ·) = _
    rw [ints_map p l]
    rfl
@[simp] theorem all_map {α : Type} (p : α → Bool) (l : List α) : allF (.lst (l.map fun x => D.bl (p x))) = some (.fz (.bl (l.all p))) := by
  show (bools? (l.map fun x => D.bl (p x))).map _ = _
  rw [bools_map]
  simp [List.all_map]
@[simp] theorem any_map {α : Type} (p : α → Bool) (l : List α) : anyF (.lst (l.map fun x => D.bl (p x))) = some (.fz (.bl (l.any p))) := by
  show (bools? (l.map fun x => D.bl (p x))).map _ = _
  rw [bools_map]
  simp [List.any_map]
@[simp] theorem sum_map {α : Type} (p : α → Int) (l : List α) : sumF (.lst (l.map fun x => D.int (p x))) = some (.fz (.int (l.map p).sum)) := by
  show (ints? (l.map fun x => D.int (p x))).map _ = _
  rw [ints_map]
  rfl
@[simp] theorem sp_is_number (n : Nat) (i : Int) : callF G (n + 1) 0 [.fz (.int i)] = .ok (.fz (.bl true)) [.fz (.int i)] := by
  rw [call_at (fn := f_is_number) rfl rfl]
  simp [f_is_number, catB]
@[simp] theorem sp_is_within (n : Nat) (i a b : Int) : callF G (n + 2) 1 [.fz (.int i), .fz (.int a), .fz (.int b)] = .ok (.fz (.bl (decide (a ≤ i) && decide (i ≤ b)))) [.fz (.int i), .fz (.int a), .fz (.int b)] := by
  rw [call_at (fn := f_is_within) rfl rfl]
  by_cases h : a ≤ i <;> simp [f_is_within, h]
@[simp] theorem sp_is_long (n : Nat) (l : List D) (k : Int) : callF G (n + 1) 2 [.fz (.tup l), .fz (.int k)] = .ok (.fz (.bl (decide ((l.length : Int) = k)))) [.fz (.tup l), .fz (.int k)] := by
  rw [call_at (fn := f_is_long) rfl rfl]
  simp [f_is_long, catB]
theorem sp_are_numbers {α : Type} (n : Nat) (l : List α) (g : α → Int) (hl : l.length ≤ 16777216) : callF G (n + 2) 3 [.fz (.tup (l.map fun x => .int (g x)))] = .ok (.fz (.bl true)) [.fz (.tup (l.map fun x => .int (g x)))] := by
  rw [call_at (fn := f_are_numbers) rfl rfl]
  simp [f_are_numbers, catB]
  rw [compD_mapM (fun _ => .bl true)]
  · simp
  · rfl
  · simp
  · simpa using hl
end VS

set_option Elab.async false
set_option linter.all false
set_option maxRecDepth 100000
set_option maxHeartbeats 4000000
/-! S 2: tables. -/
namespace VS
open PySem PySem.Spec
def rowD (n : Nat) (g : Nat → Nat) : D := .tup ((List.range n).map fun b => .int (g b : Nat))
def rows (n : Nat) (f : Nat → Nat → Nat) : List D := (List.range n).map fun a => rowD n (f a)
def tabD (n : Nat) (f : Nat → Nat → Nat) : D := .tup (rows n f)
structure Tab (n : Nat) (f : Nat → Nat → Nat) : Prop where
  pos : 1 ≤ n
  le : n ≤ 12
  lt : ∀ a b, a < n → b < n → f a b < n
  idem : ∀ a, a < n → f a a = a
  inj : ∀ a b c, a < n → b < n → c < n → f a c = f b c → a = b
  dist : ∀ a b c, a < n → b < n → c < n → f (f a b) c = f (f a c) (f b c)
@[simp] theorem rows_len (n : Nat) (f : Nat → Nat → Nat) : (rows n f).length = n := by simp [rows]
theorem rows_get {n a : Nat} {f : Nat → Nat → Nat} (h : a < n) : (rows n f)[a]? = some (rowD n (f a)) := by
  unfold rows
  rw [List.getElem?_map, List.getElem?_range h]
  rfl
theorem ix_rows {n a : Nat} {f : Nat → Nat → Nat} (h : a < n) : getI (rows n f) (a : Int) = some (rowD n (f a)) := rows_get h
theorem ix_row {n b : Nat} {g : Nat → Nat} (h : b < n) : ixD (rowD n g) (.int (b : Int)) = some (.int (g b : Nat)) := by
  show ((List.range n).map fun b => D.int (g b : Nat))[b]? = _
  rw [List.getElem?_map, List.getElem?_range h]
  rfl
theorem ix_tab {n a : Nat} {f : Nat → Nat → Nat} (h : a < n) : ixD (tabD n f) (.int (a : Int)) = some (rowD n (f a)) := rows_get h
@[simp] theorem sp_tupled_int (n : Nat) (i : Int) : callF G (n + 1) 4 [.fz (.int i)] = .ok (.fz (.int i)) [.fz (.int i)] := by
  rw [call_at (fn := f_tupled) rfl rfl]
  simp [f_tupled, catB]
theorem sp_tupled_ints {α : Type} (n : Nat) (l : List α) (g : α → Int) (hl : l.length ≤ 16777216) : callF G (n + 2) 4 [.fz (.tup (l.map fun x => .int (g x)))] = .ok (.fz (.tup (l.map fun x => .int (g x)))) [.fz (.tup (l.map fun x => .int (g x)))] := by
  rw [call_at (fn := f_tupled) rfl rfl]
  simp [f_tupled, catB]
  rw [compD_mapM (fun x => .int (g x))]
  · simp
  · rfl
  · simp
  · exact hl
theorem sp_tupled_row (n m : Nat) (g : Nat → Nat) (hm : m ≤ 16777216) : callF G (n + 2) 4 [.fz (rowD m g)] = .ok (.fz (rowD m g)) [.fz (rowD m g)] := sp_tupled_ints n (List.range m) (fun b => (g b : Nat)) (by simpa using hm)
theorem sp_tupled_tab (n m : Nat) (f : Nat → Nat → Nat) (hm : m ≤ 16777216) : callF G (n + 3) 4 [.fz (tabD m f)] = .ok (.fz (tabD m f)) [.fz (tabD m f)] := by
  rw [call_at (fn := f_tupled) rfl rfl]
  simp [f_tupled, catB, tabD, rows]
  rw [compD_mapM (fun a => rowD m (f a))]
  · simp
  · rfl
  · simp [sp_tupled_row, hm]
  · simpa using hm
theorem sp_is_square (n m : Nat) (f : Nat → Nat → Nat) (h1 : 1 ≤ m) (h2 : m ≤ 12) (h3 : ∀ a b, a < m → b < m → f a b < m) : callF G (n + 3) 24 [.fz (tabD m f)] = .ok (.fz (.bl true)) [.fz (tabD m f)] := by
  rw [call_at (fn := f_is_square_in) rfl rfl]
  have e1 : (1 : Int) ≤ m := by omega
  have e2 : (m : Int) ≤ 12 := by omega
  simp [f_is_square_in, catB, tabD, e1, e2]
  unfold rows
  rw [compD_mapM (fun a => .bl true)]
  · simp
  · rfl
  · intro a ha
    have ha := List.mem_range.mp ha
    have hn : (List.range m).length ≤ 16777216 := by simp; omega
    simp [rowD, sp_are_numbers _ (List.range m) (fun b => ((f a b : Nat) : Int)) hn]
    rw [compD_mapM (fun b => .bl true)]
    · simp
    · rfl
    · intro b hb
      have hb := List.mem_range.mp hb
      have e3 : (0 : Int) ≤ (f a b : Nat) := by omega
      have e4 : ((f a b : Nat) : Int) < (m : Nat) := by have := h3 a b ha hb; omega
      simp [e3, e4]
    · exact hn
  · simp; omega
theorem keq_int (a b : Int) : D.keq (.int a) (.int b) = (a == b) := rfl
theorem dhas_put {l : List (D × D)} {a b : Int} {v : D} : dhas (dput l (.int a) v) (.int b) = (decide (a = b) || dhas l (.int b)) := by
  have snoc : ∀ l : List (D × D), dhas (l ++ [(.int a, v)]) (.int b) = (decide (a = b) || dhas l (.int b)) := fun l => by
    induction l with
    | nil =>
      show ((a == b) || false) = (decide (a = b) || false)
      rfl
    | cons p l ih =>
      obtain ⟨k, w⟩ := p
      show (k.keq (.int b) || dhas (l ++ [(.int a, v)]) (.int b)) = (decide (a = b) || (k.keq (.int b) || dhas l (.int b)))
      rw [ih]
      cases k.keq (.int b) <;> cases decide (a = b) <;> rfl
  have repl : ∀ l : List (D × D), dhas (l.map fun p => if p.1.keq (.int a) then (p.1, v) else p) (.int b) = dhas l (.int b) := fun l => by
    induction l with
    | nil => rfl
    | cons p l ih =>
      obtain ⟨k, w⟩ := p
      rw [List.map_cons]
      show dhas ((if k.keq (.int a) = true then (k, v) else (k, w)) :: _) (.int b) = (k.keq (.int b) || dhas l (.int b))
      cases k.keq (.int a) <;> (show (k.keq (.int b) || _) = _; rw [ih])
  unfold dput
  by_cases z : dhas l (.int a) = true
  · rw [if_pos z, repl]
    by_cases e : a = b
    · subst e
      rw [z]
      simp
    · simp [e]
  · rw [if_neg z, snoc]
theorem dput_len {l : List (D × D)} {q v : D} : (dput l q v).length ≤ l.length + 1 := by
  unfold dput
  by_cases z : dhas l q = true
  · rw [if_pos z, List.length_map]; omega
  · rw [if_neg z, List.length_append]; exact Nat.le_refl _
theorem zip_range {α : Type} (n : Nat) (c : Nat → α) : ((List.range n).map c).zipIdx = (List.range n).map fun a => (c a, a) := by
  apply List.ext_getElem?
  intro i
  rw [List.getElem?_zipIdx, List.getElem?_map, List.getElem?_map]
  by_cases h : i < n
  · rw [List.getElem?_range h]
    simp
  · rw [List.getElem?_eq_none (by simpa using h)]
    rfl
theorem ik_enum (n : Nat) (c : Nat → D) : ikD .enum [.tup ((List.range n).map c)] = some ((List.range n).map fun a => .tup [.int (a : Nat), c a]) := by
  show some ((((List.range n).map c).zipIdx).map fun p => D.tup [.int p.2, p.1]) = _
  rw [zip_range, List.map_map]
  rfl
theorem ik_enumT (n : Nat) (f : Nat → Nat → Nat) : ikD .enum [tabD n f] = some ((List.range n).map fun a => .tup [.int (a : Nat), rowD n (f a)]) := ik_enum n _
@[simp] theorem setF_dic {l : List (D × D)} {i : Int} {v : D} : setF (.dic false l) (.int i) v = if Nat.blt l.length 16777216 then some (.dic false (dput l (.int i) v)) else none := rfl
theorem sp_first_flaw (n m by_ : Nat) (f : Nat → Nat → Nat) (T : Tab m f) (hb : by_ < m) : callF G (n + 1) 26 [.fz (tabD m f), .fz (.int (by_ : Nat))] = .ok (.fz .non) [.fz (tabD m f), .fz (.int (by_ : Nat))] := by
  rw [call_at (fn := f_first_flaw) rfl rfl]
  have hm := T.le
  simp [f_first_flaw, ik_enumT]
  obtain ⟨ρ', e1, s3, s4, l, e2, g1, g2, g3, g4⟩ := forD_rng (n := m) (t := .tp [3, 4]) (L := []) (ρ1 := [.fz (tabD m f), .fz (.int (by_ : Nat)), .ow (.dic false []), .un, .un]) (c := fun a => .tup [.int (a : Nat), rowD m (f a)])
    (mb := evB (callF G n) [.ite (.cmp .isin (.ix (.var 4) (.var 1)) (.var 2)) [.ret (.tup [.ix (.var 2) (.ix (.var 4) (.var 1)), .var 3, .var 1])] [], .seti 2 (.ix (.var 4) (.var 1)) (.var 3)])
    (fun k ρ => ∃ s3 s4 l, ρ = [.fz (tabD m f), .fz (.int (by_ : Nat)), .ow (.dic false l), s3, s4] ∧ s3.fixd = false ∧ s4.fixd = false ∧ l.length ≤ k ∧ ∀ v : Int, dhas l (.int v) = true → ∃ a, a < k ∧ v = (f a by_ : Nat))
    ⟨.un, .un, [], rfl, rfl, rfl, Nat.le_refl _, fun v h => by cases h⟩ (fun k hk ρ ⟨s3, s4, l, e, g1, g2, g3, g4⟩ => by
      subst e
      have hl : Nat.blt l.length 16777216 = true := Nat.blt_eq.mpr (by omega)
      have no : dhas l (.int (f k by_ : Nat)) = false := by
        cases z : dhas l (.int (f k by_ : Nat)) with
        | false => rfl
        | true =>
          obtain ⟨a, ha, e⟩ := g4 _ z
          have := T.inj a k by_ (by omega) hk hb (by omega)
          omega
      refine ⟨[.fz (tabD m f), .fz (.int (by_ : Nat)), .ow (.dic false l), .fz (.int (k : Nat)), .fz (rowD m (f k))], by simp [g1, g2], [.fz (tabD m f), .fz (.int (by_ : Nat)), .ow (.dic false (dput l (.int (f k by_ : Nat)) (.int (k : Nat)))), .fz (.int (k : Nat)), .fz (rowD m (f k))], .inl (by simp [ix_row hb, no, hl]), _, _, _, rfl, rfl, rfl, Nat.le_trans dput_len (by omega), fun v hv => ?_⟩
      rw [dhas_put] at hv
      rcases Bool.or_eq_true_iff.mp hv with hv | hv
      · exact ⟨k, by omega, (of_decide_eq_true hv).symm⟩
      · obtain ⟨a, ha, e⟩ := g4 v hv
        exact ⟨a, by omega, e⟩)
  subst e2
  rw [e1]
  simp
theorem sp_flaw (n m : Nat) (f : Nat → Nat → Nat) (T : Tab m f) : callF G (n + 2) 27 [.fz (tabD m f)] = .ok (.fz .non) [.fz (tabD m f)] := by
  rw [call_at (fn := f_flaw_in) rfl rfl]
  have hm := T.le
  have hr : rgOk (m : Int) = true := rgOk_nat (by omega)
  have hi := ik_rngV (n := m) (by omega)
  have hlen : lenF (tabD m f) = some (.fz (.int (m : Nat))) := by simp [tabD]
  simp [f_flaw_in, hlen, hr, hi]
  refine forD_n (K := fun x => fin _ (flB x _) = _) (fun k ρ => ∃ s2, ρ = [.fz (tabD m f), .fz (.rng 0 (m : Nat)), s2, .un, .un, .un, .un] ∧ s2.fixd = false) ⟨_, rfl, rfl⟩ (fun k hk ρ ⟨s2, e, g⟩ => by
    subst e
    refine ⟨[.fz (tabD m f), .fz (.rng 0 (m : Nat)), .fz (.int (k : Nat)), .un, .un, .un, .un], by simp [g], [.fz (tabD m f), .fz (.rng 0 (m : Nat)), .fz (.int (k : Nat)), .un, .un, .un, .un], .inl ?_, _, rfl, rfl⟩
    simp [ix_tab hk, ix_row hk, T.idem k hk]) fun ρ' ⟨s2, e, g⟩ => ?_
  subst e
  simp [hi]
  refine forD_n (K := fun x => fin _ (flB x _) = _) (fun k ρ => ∃ s3 s4, ρ = [.fz (tabD m f), .fz (.rng 0 (m : Nat)), s2, s3, s4, .un, .un] ∧ s3.fixd = false ∧ s4.fixd = false) ⟨_, _, rfl, rfl, rfl⟩ (fun k hk ρ ⟨s3, s4, e, g3, g4⟩ => by
    subst e
    refine ⟨[.fz (tabD m f), .fz (.rng 0 (m : Nat)), s2, .fz (.int (k : Nat)), s4, .un, .un], by simp [g3], [.fz (tabD m f), .fz (.rng 0 (m : Nat)), s2, .fz (.int (k : Nat)), .fz .non, .un, .un], .inl ?_, _, _, rfl, rfl, rfl⟩
    simp [sp_first_flaw n m k f T hk, g4]) fun ρ' ⟨s3, s4, e, g3, g4⟩ => ?_
  subst e
  simp [hi]
  refine forD_n (K := fun x => fin _ (flB x _) = _) (fun k ρ => ∃ s2 s5 s6, ρ = [.fz (tabD m f), .fz (.rng 0 (m : Nat)), s2, s3, s4, s5, s6] ∧ s2.fixd = false ∧ s5.fixd = false ∧ s6.fixd = false) ⟨_, _, _, rfl, g, rfl, rfl⟩ (fun a ha ρ ⟨s2, s5, s6, e, g2, g5, g6⟩ => by
    subst e
    refine ⟨[.fz (tabD m f), .fz (.rng 0 (m : Nat)), .fz (.int (a : Nat)), s3, s4, s5, s6], by simp [g2], ?_⟩
    simp [hi]
    refine forD_inN (fun k ρ => ∃ s5 s6, ρ = [.fz (tabD m f), .fz (.rng 0 (m : Nat)), .fz (.int (a : Nat)), s3, s4, s5, s6] ∧ s5.fixd = false ∧ s6.fixd = false) ⟨_, _, rfl, g5, g6⟩ (fun b hb ρ ⟨s5, s6, e, g5, g6⟩ => by
      subst e
      refine ⟨[.fz (tabD m f), .fz (.rng 0 (m : Nat)), .fz (.int (a : Nat)), s3, s4, .fz (.int (b : Nat)), s6], by simp [g5], ?_⟩
      simp [hi]
      refine forD_inN (fun k ρ => ∃ s6, ρ = [.fz (tabD m f), .fz (.rng 0 (m : Nat)), .fz (.int (a : Nat)), s3, s4, .fz (.int (b : Nat)), s6] ∧ s6.fixd = false) ⟨_, rfl, g6⟩ (fun c hc ρ ⟨s6, e, g6⟩ => by
        subst e
        refine ⟨[.fz (tabD m f), .fz (.rng 0 (m : Nat)), .fz (.int (a : Nat)), s3, s4, .fz (.int (b : Nat)), .fz (.int (c : Nat))], by simp [g6], [.fz (tabD m f), .fz (.rng 0 (m : Nat)), .fz (.int (a : Nat)), s3, s4, .fz (.int (b : Nat)), .fz (.int (c : Nat))], .inl ?_, _, rfl, rfl⟩
        have l1 := T.lt a b ha hb
        have l2 := T.lt a c ha hc
        have l3 := T.lt b c hb hc
        simp [ix_tab ha, ix_row hb, ix_tab l1, ix_row hc, ix_tab l2, ix_tab hb, ix_row l3, T.dist a b c ha hb hc]) fun ρ' ⟨s6, e, g6⟩ => ?_
      subst e
      simp
      exact ⟨_, _, ⟨rfl, rfl⟩, rfl, g6⟩) fun ρ' ⟨s5, s6, e, g5, g6⟩ => ?_
    subst e
    simp
    exact ⟨_, _, _, ⟨rfl, rfl, rfl⟩, rfl, g5, g6⟩) fun ρ' ⟨s2, s5, s6, e, g2, g5, g6⟩ => ?_
  subst e
  simp
end VS

set_option Elab.async false
set_option linter.all false
set_option maxRecDepth 100000
set_option maxHeartbeats 4000000
/-! S 3: what is told of tables. -/
namespace VS
open PySem PySem.Spec
theorem sp_is_table_in (n m : Nat) (f : Nat → Nat → Nat) (T : Tab m f) : callF G (n + 4) 28 [.fz (tabD m f)] = .ok (.fz (.bl true)) [.fz (tabD m f)] := by
  rw [call_at (fn := f_is_table_in) rfl rfl]
  simp [f_is_table_in, sp_is_square n m f T.pos T.le T.lt, sp_flaw (n + 1) m f T]
theorem sp_is_table (n m : Nat) (f : Nat → Nat → Nat) (T : Tab m f) : callF G (n + 5) 32 [.fz (tabD m f)] = .ok (.fz (.bl true)) [.fz (tabD m f)] := by
  rw [call_at (fn := f_is_table) rfl rfl]
  simp [f_is_table, sp_is_table_in n m f T]
theorem sp_sure_table (n m : Nat) (f : Nat → Nat → Nat) (T : Tab m f) : callF G (n + 5) 29 [.fz (tabD m f)] = .ok (.fz (tabD m f)) [.fz (tabD m f)] := by
  rw [call_at (fn := f_sure_table) rfl rfl]
  have hm := T.le
  simp [f_sure_table, sp_tupled_tab (n + 1) m f (by omega), sp_is_table_in n m f T]
theorem filter_one {m k0 : Nat} {p : Nat → Bool} (h0 : k0 < m) (hp : ∀ k, k < m → (p k = true ↔ k = k0)) : (List.range m).filter p = [k0] := by
  induction m with
  | zero => omega
  | succ m ih =>
    rw [List.range_succ, List.filter_append]
    by_cases e : k0 = m
    · have : (List.range m).filter p = [] := by
        rw [List.filter_eq_nil_iff]
        intro k hk h
        have hk := List.mem_range.mp hk
        have := (hp k (by omega)).mp h
        omega
      rw [this, List.filter_cons_of_pos ((hp m (by omega)).mpr e.symm), e]
      rfl
    · rw [ih (by omega) fun k hk => hp k (by omega), List.filter_cons_of_neg (fun h => e ((hp m (by omega)).mp h).symm)]
      rfl
/-- g turns back what f turns -/
structure TBack (n : Nat) (f g : Nat → Nat → Nat) : Prop where
  lt : ∀ a b, a < n → b < n → g a b < n
  back : ∀ a b, a < n → b < n → f (g a b) b = a
theorem len_tab (m : Nat) (f : Nat → Nat → Nat) : lenF (tabD m f) = some (.fz (.int (m : Nat))) := by simp [tabD]
theorem sp_back_in (n m a b : Nat) (f g : Nat → Nat → Nat) (T : Tab m f) (B : TBack m f g) (ha : a < m) (hb : b < m) : callF G (n + 1) 30 [.fz (tabD m f), .fz (.int (a : Nat)), .fz (.int (b : Nat))] = .ok (.fz (.int (g a b : Nat))) [.fz (tabD m f), .fz (.int (a : Nat)), .fz (.int (b : Nat))] := by
  rw [call_at (fn := f_back_in) rfl rfl]
  have hm := T.le
  simp [f_back_in, len_tab, ik_rng (n := m) (by omega), nats]
  rw [compD_filM (fun k => decide (f k b = a)) (fun k => .int (k : Nat))]
  · rw [filter_one (k0 := g a b) (B.lt a b ha hb) fun k hk => ?_]
    · simp [getI]
    · rw [decide_eq_true_iff]
      constructor
      · intro h
        exact T.inj k (g a b) b hk (B.lt a b ha hb) hb (by rw [h, B.back a b ha hb])
      · intro h
        rw [h, B.back a b ha hb]
  · rfl
  · intro k hk
    have hk := List.mem_range.mp hk
    by_cases e : f k b = a
    · simp [ix_tab hk, ix_row hb, e]
    · have e' : ¬ ((f k b : Nat) : Int) = (a : Nat) := by omega
      simp [ix_tab hk, ix_row hb, e, e']
  · simp; omega
theorem sp_contrary_in (n m : Nat) (f g : Nat → Nat → Nat) (T : Tab m f) (B : TBack m f g) : callF G (n + 2) 31 [.fz (tabD m f)] = .ok (.fz (tabD m g)) [.fz (tabD m f)] := by
  rw [call_at (fn := f_contrary_in) rfl rfl]
  have hm := T.le
  simp [f_contrary_in, len_tab, rgOk_nat (n := m) (by omega), ik_rngV (n := m) (by omega), nats]
  rw [compD_mapM (fun a => rowD m (g a))]
  · simp
    rfl
  · rfl
  · intro a ha
    have ha := List.mem_range.mp ha
    simp [ik_rngV (n := m) (by omega), nats]
    rw [compD_mapM (fun b => .int (g a b : Nat))]
    · simp
      exact ⟨_, ⟨rfl, rfl⟩, rfl⟩
    · rfl
    · intro b hb
      have hb := List.mem_range.mp hb
      simp [sp_back_in n m a b f g T B ha hb]
    · simp; omega
  · simp; omega
theorem sp_contrary (n m : Nat) (f g : Nat → Nat → Nat) (T : Tab m f) (B : TBack m f g) : callF G (n + 6) 35 [.fz (tabD m f)] = .ok (.fz (tabD m g)) [.fz (tabD m f)] := by
  rw [call_at (fn := f_contrary) rfl rfl]
  simp [f_contrary, sp_sure_table n m f T, sp_contrary_in (n + 3) m f g T B]
theorem sp_sure_within (n : Nat) (i a b : Int) (h1 : a ≤ i) (h2 : i ≤ b) : callF G (n + 3) 5 [.fz (.int i), .fz (.int a), .fz (.int b)] = .ok (.fz (.int i)) [.fz (.int i), .fz (.int a), .fz (.int b)] := by
  rw [call_at (fn := f_sure_within) rfl rfl]
  simp [f_sure_within, h1, h2]
theorem sp_sure_thing (n m a : Nat) (f : Nat → Nat → Nat) (ha : a < m) : callF G (n + 4) 33 [.fz (tabD m f), .fz (.int (a : Nat))] = .ok (.fz (.int (a : Nat))) [.fz (tabD m f), .fz (.int (a : Nat))] := by
  rw [call_at (fn := f_sure_thing) rfl rfl]
  simp [f_sure_thing, len_tab, sp_sure_within n (a : Nat) 0 ((m : Nat) - 1) (by omega) (by omega)]
theorem sp_column_in (n m a : Nat) (f : Nat → Nat → Nat) (hm : m ≤ 12) (ha : a < m) : callF G (n + 1) 25 [.fz (tabD m f), .fz (.int (a : Nat))] = .ok (.fz (rowD m fun k => f k a)) [.fz (tabD m f), .fz (.int (a : Nat))] := by
  rw [call_at (fn := f_column_in) rfl rfl]
  simp [f_column_in, tabD, rows]
  rw [compD_mapM (fun k => .int (f k a : Nat))]
  · simp
    rfl
  · rfl
  · intro k hk
    simp [ix_row ha]
  · simp; omega
theorem sp_column (n m a : Nat) (f : Nat → Nat → Nat) (T : Tab m f) (ha : a < m) : callF G (n + 6) 34 [.fz (tabD m f), .fz (.int (a : Nat))] = .ok (.fz (rowD m fun k => f k a)) [.fz (tabD m f), .fz (.int (a : Nat))] := by
  rw [call_at (fn := f_column) rfl rfl]
  simp [f_column, sp_sure_table n m f T, sp_sure_thing (n + 1) m a f ha, sp_column_in (n + 4) m a f T.le ha]
end VS

set_option Elab.async false
set_option linter.all false
set_option maxRecDepth 100000
set_option maxHeartbeats 4000000
/-! S 4: the laws' draws and looks. -/
namespace VS
open PySem PySem.Spec
abbrev Tin := Int × Int × Int
def tinD (t : Tin) : D := .lst [.int t.1, .int t.2.1, .int t.2.2]
def takeV (t : Tin) (k : Nat) : Int := if 0 < t.1 then t.1 % k else
  ((((((((t.2.1 + 48271 * (t.2.2 + 1)) * (39373 + (t.2.2 + 1))) % 2147483647 + (t.2.2 + 1) + t.2.1 / 1000003) * (((t.2.1 + 48271 * (t.2.2 + 1)) * (39373 + (t.2.2 + 1))) % 2147483647 % 40009 + 7)) % 2147483629) * 48271 + ((t.2.1 + 48271 * (t.2.2 + 1)) * (39373 + (t.2.2 + 1))) % 2147483647) % 2147483587) / 64) % k
def draw (t : Tin) (k : Nat) : Nat := (takeV t k).toNat
def takeT (t : Tin) (k : Nat) : Tin := if 0 < t.1 then (t.1 / k, t.2.1, t.2.2) else (t.1, t.2.1, t.2.2 + 1)
/-- not more than b draws so far -/
structure TOk (b : Nat) (t : Tin) : Prop where
  a : 0 ≤ t.1
  c : 0 ≤ t.2.2
  le : t.2.2 ≤ b
theorem TOk.mono {b c : Nat} {t : Tin} (h : TOk b t) (l : b ≤ c) : TOk c t := ⟨h.a, h.c, by have := h.le; omega⟩
theorem TOk.take {b : Nat} {t : Tin} (h : TOk b t) (k : Nat) : TOk (b + 1) (takeT t k) := by
  have h1 := h.a
  have h2 := h.c
  have h3 := h.le
  unfold takeT
  by_cases z : 0 < t.1
  · rw [if_pos z]
    exact ⟨Int.ediv_nonneg h1 (by omega), h2, by show t.2.2 ≤ _; omega⟩
  · rw [if_neg z]
    exact ⟨h1, by show 0 ≤ t.2.2 + 1; omega, by show t.2.2 + 1 ≤ _; omega⟩
theorem takeV_nn {t : Tin} {k : Nat} (hk : 0 < k) : 0 ≤ takeV t k ∧ takeV t k < k := by
  have hk' : (0 : Int) < k := by omega
  unfold takeV
  by_cases z : 0 < t.1
  · rw [if_pos z]; exact ⟨Int.emod_nonneg _ (by omega), Int.emod_lt_of_pos _ hk'⟩
  · rw [if_neg z]; exact ⟨Int.emod_nonneg _ (by omega), Int.emod_lt_of_pos _ hk'⟩
theorem draw_lt {t : Tin} {k : Nat} (hk : 0 < k) : draw t k < k := by
  have := takeV_nn (t := t) hk
  unfold draw
  omega
theorem draw_eq {t : Tin} {k : Nat} (hk : 0 < k) : ((draw t k : Nat) : Int) = takeV t k := by
  have := takeV_nn (t := t) hk
  unfold draw
  omega
theorem fitB_nat {i : Int} (h0 : 0 ≤ i) (h : i < 18446744073709551616) : fitB i = true := by
  cases i with
  | ofNat n =>
    have : Int.ofNat n = (n : Int) := rfl
    exact Nat.blt_eq.mpr (by omega)
  | negSucc n => omega
theorem setF_lst {l : List D} {i : Nat} {v : D} (h : i < l.length) : setF (.lst l) (.int (i : Int)) v = some (.lst (l.set i v)) := by
  show ((L2.ixN l.length (i : Int)).map fun n => D.lst (l.set n v)) = _
  unfold L2.ixN
  rw [if_pos (by omega), if_pos (by omega)]
  rfl
theorem sp_take (n b k : Nat) (t : Tin) (T : TOk b t) (hb : b < 1000000000) (h0 : 0 < k) (h1 : k < 1000000000) : callF G (n + 1) 43 [.le (tinD t), .fz (.int (k : Nat))] = .ok (.fz (.int (draw t k : Nat))) [.le (tinD (takeT t k)), .fz (.int (k : Nat))] := by
  rw [call_at (fn := f_law_take) rfl rfl]
  rw [draw_eq h0]
  have a1 := T.a
  have a2 := T.c
  have a3 := T.le
  have hk : (0 : Int) < k := by omega
  have hf : fitB (k : Int) = true := fitB_nat (by omega) (by omega)
  unfold takeV takeT
  by_cases z : 0 < t.1
  · rw [if_pos z, if_pos z]
    have s0 : ∀ v, setF (tinD t) (.int 0) v = some (.lst [v, .int t.2.1, .int t.2.2]) := fun v => setF_lst (i := 0) (by simp)
    unfold tinD at *
    simp [f_law_take, z, h0, hf, s0, getI]
  · rw [if_neg z, if_neg z]
    have s2 : ∀ v, setF (tinD t) (.int 2) v = some (.lst [.int t.1, .int t.2.1, v]) := fun v => setF_lst (i := 2) (by simp)
    have f1 : fitB 48271 = true := rfl
    have f2 : fitB 1000003 = true := rfl
    have f3 : fitB 64 = true := rfl
    have f4 : fitB (39373 + (t.2.2 + 1)) = true := fitB_nat (by omega) (by omega)
    have f5 : fitB (((t.2.1 + 48271 * (t.2.2 + 1)) * (39373 + (t.2.2 + 1))) % 2147483647 % 40009 + 7) = true := by
      have h1 := Int.emod_nonneg (((t.2.1 + 48271 * (t.2.2 + 1)) * (39373 + (t.2.2 + 1))) % 2147483647) (show (40009 : Int) ≠ 0 by decide)
      have h2 := Int.emod_lt_of_pos (((t.2.1 + 48271 * (t.2.2 + 1)) * (39373 + (t.2.2 + 1))) % 2147483647) (show (0 : Int) < 40009 by decide)
      exact fitB_nat (by omega) (by omega)
    unfold tinD at *
    simp [f_law_take, z, h0, hf, s2, getI, f1, f2, f3, f4, f5]
theorem sp_of (n b : Nat) (t : Tin) (l : List D) (d : D) (T : TOk b t) (hb : b < 1000000000) (h0 : 0 < l.length) (h1 : l.length < 1000000000) (hd : l[draw t l.length]? = some d) : callF G (n + 2) 45 [.le (tinD t), .fz (.lst l)] = .ok (.fz d) [.le (tinD (takeT t l.length)), .fz (.lst l)] := by
  rw [call_at (fn := f_law_of) rfl rfl]
  simp [f_law_of, sp_take n b l.length t T hb h0 h1, hd]
/-- plain data -/
def D.pl : Nat → D → Bool
  | _, .non => true
  | _, .bl _ => true
  | _, .int _ => true
  | _, .str _ => true
  | n + 1, .tup l => decide (l.length ≤ 16777216) && l.all (D.pl n)
  | n + 1, .lst l => decide (l.length ≤ 16777216) && l.all (D.pl n)
  | _, _ => false
theorem ik_zip (l : List D) : ikD .zip [.lst l, .lst l] = some (l.map fun x => .tup [x, x]) := by
  show some (List.zipWith (fun x y => D.tup [x, y]) l l) = _
  rw [List.zipWith_self]
theorem ik_zipT (l : List D) : ikD .zip [.tup l, .tup l] = some (l.map fun x => .tup [x, x]) := by
  show some (List.zipWith (fun x y => D.tup [x, y]) l l) = _
  rw [List.zipWith_self]
theorem sp_same (n : Nat) : ∀ (k : Nat) (d : D), d.pl k = true → callF G (n + k + 1) 46 [.fz d, .fz d] = .ok (.fz (.bl true)) [.fz d, .fz d]
  | k, .non, h => by
    rw [call_at (fn := f_law_same) rfl rfl]
    simp [f_law_same, catB]
  | k, .bl b, h => by
    rw [call_at (fn := f_law_same) rfl rfl]
    simp [f_law_same, catB]
  | k, .int i, h => by
    rw [call_at (fn := f_law_same) rfl rfl]
    simp [f_law_same, catB]
  | k, .str x, h => by
    rw [call_at (fn := f_law_same) rfl rfl]
    simp [f_law_same, catB]
  | 0, .tup l, h => by cases h
  | 0, .lst l, h => by cases h
  | k + 1, .tup l, h => by
    rw [call_at (fn := f_law_same) rfl rfl]
    obtain ⟨h1, h2⟩ := Bool.and_eq_true_iff.mp (show (decide (l.length ≤ 16777216) && l.all (D.pl k)) = true from h)
    simp [f_law_same, catB, ik_zipT]
    rw [compD_mapM (fun _ => .bl true)]
    · simp
    · rfl
    · intro x hx
      have this : callF G (n + (k + 1)) 46 [.fz x, .fz x] = .ok (.fz (.bl true)) [.fz x, .fz x] := sp_same n k x (List.all_eq_true.mp h2 x hx)
      simp [this]
    · exact of_decide_eq_true h1
  | k + 1, .lst l, h => by
    rw [call_at (fn := f_law_same) rfl rfl]
    obtain ⟨h1, h2⟩ := Bool.and_eq_true_iff.mp (show (decide (l.length ≤ 16777216) && l.all (D.pl k)) = true from h)
    simp [f_law_same, catB, ik_zip]
    rw [compD_mapM (fun _ => .bl true)]
    · simp
    · rfl
    · intro x hx
      have this : callF G (n + (k + 1)) 46 [.fz x, .fz x] = .ok (.fz (.bl true)) [.fz x, .fz x] := sp_same n k x (List.all_eq_true.mp h2 x hx)
      simp [this]
    · exact of_decide_eq_true h1
  | k, .rng _ _, h => by cases k <;> cases h
  | k, .dic _ _, h => by cases k <;> cases h
  | k, .scr _, h => by cases k <;> cases h
  | k, .fn _, h => by cases k <;> cases h
/-! ### the script -/
def cellsN (ns : List Int) : List Int := ns
theorem sl_scr_take (l : List Int) (k : Nat) : slD (.scr l) none (some (k : Int)) = some (.fr (.lst ((l.take k).map .int))) := by
  show some (Vr.fr (.lst ((cutD l none (some (k : Int))).map .int))) = _
  unfold cutD
  rw [HT.sIx_none, HT.sIx_nat]
  simp
end VS

set_option Elab.async false
set_option linter.all false
set_option maxRecDepth 100000
set_option maxHeartbeats 4000000
/-! S 5: the script. -/
namespace VS
open PySem PySem.Spec
theorem sp_box (n : Nat) (c : Int) : ∃ t : Tin, TOk 0 t ∧ callF G (n + 1) 42 [.fz (.lst [.int c]), .fz (.int 0)] = .ok (.fr (tinD t)) [.fz (.lst [.int c]), .fz (.int 0)] := by
  refine ⟨((if c < 0 then -c else c) * b2z (decide ((10 : Int) ^ 18 ≤ if c < 0 then -c else c)), c % 2305843009213693951 + 39373 * 0 + 26299, 0), ⟨?_, Int.le_refl _, Int.le_refl _⟩, ?_⟩
  · show 0 ≤ (if c < 0 then -c else c) * b2z _
    refine Int.mul_nonneg (by split <;> omega) ?_
    unfold b2z
    split <;> omega
  · rw [call_at (fn := f_law_box) rfl rfl]
    have f1 : fitB (b2z (decide ((1000000000000000000 : Int) ≤ if c < 0 then -c else c))) = true := by
      unfold b2z
      cases decide ((1000000000000000000 : Int) ≤ if c < 0 then -c else c) <;> rfl
    have f2 : fitB 39373 = true := rfl
    have p : binD .pow (.int 10) (.int 18) = some (.fz (.int 1000000000000000000)) := rfl
    simp [f_law_box, getI, p, f1, f2, tinD]
theorem mem_enum {l : List Int} {d : D} (h : d ∈ ((l.map D.int).zipIdx.map fun p => D.tup [.int p.2, p.1])) : ∃ (k : Nat) (i : Int), k < l.length ∧ d = .tup [.int (k : Nat), .int i] := by
  obtain ⟨⟨e, k⟩, h1, rfl⟩ := List.mem_map.mp h
  have h2 := List.mem_zipIdx_iff_getElem?.mp h1
  rw [List.getElem?_map] at h2
  obtain ⟨i, h3, rfl⟩ := Option.map_eq_some_iff.mp h2
  exact ⟨k, i, (List.getElem?_eq_some_iff.mp h3).1, rfl⟩
theorem sp_cells (n : Nat) (ns : List Int) : ∃ c : Int, callF G (n + 1) 44 [.fz (.scr ns), .fz (.int 1)] = .ok (.fz (.lst [.int c])) [.fz (.scr ns), .fz (.int 1)] := by
  obtain ⟨m, hm1, hm2⟩ : ∃ m : List Int, slD (.scr ns) (some 1) (some 63) = some (.fr (.lst (m.map .int))) ∧ m.length ≤ 63 := by
    refine ⟨_, rfl, ?_⟩
    unfold cutD
    rw [List.length_take]
    have : HT.sIx ns.length ns.length (some 63) ≤ 63 := by
      show min (63 : Int).toNat ns.length ≤ 63
      exact Nat.min_le_left _ _
    omega
  have h1 : slD (.scr ns) none (some 1) = some (.fr (.lst ((ns.take 1).map .int))) := sl_scr_take ns 1
  have run : ∀ c : Int, ∃ c' : Int, fin [.fz (.scr ns), .fz (.int 1)] (evB (callF G n) [.for (.tp [3, 4]) .enum [.sl (.var 0) (some (.var 1)) (some (.con (.int 63)))] [.asg (.nm 5) (.bin .mod (.bf .int [.var 3]) (.var 1)), .seti 2 (.var 5) (.bin .add (.ix (.var 2) (.var 5)) (.bin .mul (.var 4) (.bin .add (.var 3) (.con (.int 2)))))], .ret (.var 2)] [.fz (.scr ns), .fz (.int 1), .ow (.lst [.int c]), .un, .un, .un]) = .ok (.fz (.lst [.int c'])) [.fz (.scr ns), .fz (.int 1)] := fun c => by
    simp [hm1]
    have e0 : ikD .enum [.lst (m.map .int)] = some ((m.map D.int).zipIdx.map fun p => D.tup [.int p.2, p.1]) := rfl
    simp only [e0, forO_some]
    obtain ⟨ρ', e1, c', s3, s4, s5, e2, g3, g4, g5⟩ := forD_keep (t := .tp [3, 4]) (L := []) (ρ1 := [.fz (.scr ns), .fz (.int 1), .ow (.lst [.int c]), .un, .un, .un]) (ds := (m.map D.int).zipIdx.map fun p => D.tup [.int p.2, p.1])
      (mb := evB (callF G n) [.asg (.nm 5) (.bin .mod (.bf .int [.var 3]) (.var 1)), .seti 2 (.var 5) (.bin .add (.ix (.var 2) (.var 5)) (.bin .mul (.var 4) (.bin .add (.var 3) (.con (.int 2)))))])
      (fun ρ => ∃ (c : Int) (s3 s4 s5 : Sl), ρ = [.fz (.scr ns), .fz (.int 1), .ow (.lst [.int c]), s3, s4, s5] ∧ s3.fixd = false ∧ s4.fixd = false ∧ s5.fixd = false) ⟨c, _, _, _, rfl, rfl, rfl, rfl⟩ (fun d hd ρ ⟨c, s3, s4, s5, e, g3, g4, g5⟩ => by
        subst e
        obtain ⟨k, i, hk, rfl⟩ := mem_enum hd
        have f1 : fitB ((k : Int) + 2) = true := fitB_nat (by omega) (by omega)
        have em : (k : Int) % 1 = 0 := Int.emod_one _
        have s0 : ∀ v, setF (.lst [.int c]) (.int 0) v = some (.lst [v]) := fun v => setF_lst (i := 0) (by simp)
        refine ⟨[.fz (.scr ns), .fz (.int 1), .ow (.lst [.int c]), .fz (.int (k : Nat)), .fz (.int i), s5], by simp [g3, g4], [.fz (.scr ns), .fz (.int 1), .ow (.lst [.int (c + i * (k + 2))]), .fz (.int (k : Nat)), .fz (.int i), .fz (.int 0)], .inl ?_, _, _, _, _, rfl, rfl, rfl, rfl⟩
        simp [g5, f1, em, getI, s0])
    subst e2
    rw [e1]
    exact ⟨c', by simp⟩
  have go : ∀ (c : Int) (l : List D), l = [.int c] → ∃ c' : Int, fin [.fz (.scr ns), .fz (.int 1)] (evB (callF G n) [.for (.tp [3, 4]) .enum [.sl (.var 0) (some (.var 1)) (some (.con (.int 63)))] [.asg (.nm 5) (.bin .mod (.bf .int [.var 3]) (.var 1)), .seti 2 (.var 5) (.bin .add (.ix (.var 2) (.var 5)) (.bin .mul (.var 4) (.bin .add (.var 3) (.con (.int 2)))))], .ret (.var 2)] [.fz (.scr ns), .fz (.int 1), .ow (.lst l), .un, .un, .un]) = .ok (.fz (.lst [.int c'])) [.fz (.scr ns), .fz (.int 1)] := fun c l e => by subst e; exact run c
  cases ns with
  | nil =>
    obtain ⟨c', e⟩ := run 0
    refine ⟨c', ?_⟩
    rw [call_at (fn := f_law_cells) rfl rfl, ← e]
    simp [f_law_cells, h1]
  | cons a ns =>
    obtain ⟨c', e⟩ := run a
    refine ⟨c', ?_⟩
    rw [call_at (fn := f_law_cells) rfl rfl, ← e]
    simp [f_law_cells, h1]
end VS

set_option Elab.async false
set_option linter.all false
set_option maxRecDepth 100000
set_option maxHeartbeats 4000000
/-! S 6: linear ones. -/
namespace VS
open PySem PySem.Spec
/-- a comprehension over few known things -/
theorem compD_run {own : List Nat} {t : Tg} {mi : Env → Out Bool} {me : Env → Out Rr} {L : List Nat} {ρ1 : Env} {ds : List D} : compD own t mi me L ρ1 ds = if disjB own L && subB (tgS t) own then compEnd ρ1 own L (laps (lapF own t mi me) ds (lockAll L ρ1)) else .bad := rfl
theorem zlaps_nil {f : D → Env → Out (Option D)} {ρ : Env} : laps f [] ρ = .ok [] ρ := rfl
theorem zlaps_cons {f : D → Env → Out (Option D)} {ρ : Env} {d : D} {l : List D} : laps f (d :: l) ρ = (match f d ρ with
  | .ok o ρ' => (match laps f l ρ' with
    | .ok r ρ2 => .ok (match o with
      | some e => e :: r
      | none => r) ρ2
    | _ => .bad)
  | _ => .bad) := rfl
theorem zcompEnd_ok {ρ1 ρ : Env} {own L : List Nat} {ds : List D} : compEnd ρ1 own L (.ok ds ρ) = if szB ds.length then .ok (.fr (.lst ds)) (unlockAll ρ1 L (unlockAll (lockAll L ρ1) own ρ)) else .bad := rfl
theorem sq_ne : decide (("square" : Str) = "linear") = false := by decide +kernel
def linD (n t : Nat) : D := .tup [.str "linear", .int (n : Nat), .int (t : Nat)]
def squD (m p q r s : Nat) : D := .tup [.str "square", .int (m : Nat), .tup [.int (p : Nat), .int (q : Nat), .int (r : Nat), .int (s : Nat)]]
@[simp] theorem getI_0 {α : Type} {a : α} {l : List α} : getI (a :: l) 0 = some a := rfl
@[simp] theorem getI_1 {α : Type} {a b : α} {l : List α} : getI (a :: b :: l) 1 = some b := rfl
@[simp] theorem getI_2 {α : Type} {a b c : α} {l : List α} : getI (a :: b :: c :: l) 2 = some c := rfl
@[simp] theorem getI_3 {α : Type} {a b c d : α} {l : List α} : getI (a :: b :: c :: d :: l) 3 = some d := rfl
theorem sp_size_lin (k n t : Nat) : callF G (k + 1) 9 [.fz (linD n t)] = .ok (.fz (.int (n : Nat))) [.fz (linD n t)] := by
  rw [call_at (fn := f_size_in) rfl rfl]
  simp [f_size_in, linD]
theorem sp_size_squ (k m p q r s : Nat) (hm : m < 1000) : callF G (k + 1) 9 [.fz (squD m p q r s)] = .ok (.fz (.int (m * m : Nat))) [.fz (squD m p q r s)] := by
  rw [call_at (fn := f_size_in) rfl rfl]
  have f : fitB (m : Int) = true := fitB_nat (by omega) (by omega)
  have e : ((m * m : Nat) : Int) = (m : Int) * m := Int.natCast_mul m m
  simp [f_size_in, squD, sq_ne, f, e]
theorem sp_matrix_lin (k n t : Nat) : callF G (k + 1) 10 [.fz (linD n t)] = .ok (.fr (.lst [.lst [.int (t : Nat)]])) [.fz (linD n t)] := by
  rw [call_at (fn := f_matrix_in) rfl rfl]
  simp [f_matrix_in, linD]
theorem sp_matrix_squ (k m p q r s : Nat) : callF G (k + 1) 10 [.fz (squD m p q r s)] = .ok (.fr (.lst [.lst [.int (p : Nat), .int (q : Nat)], .lst [.int (r : Nat), .int (s : Nat)]])) [.fz (squD m p q r s)] := by
  rw [call_at (fn := f_matrix_in) rfl rfl]
  simp [f_matrix_in, squD, sq_ne]
theorem sp_vector_lin (k n t : Nat) (a : Int) : callF G (k + 1) 12 [.fz (linD n t), .fz (.int a)] = .ok (.fz (.tup [.int a])) [.fz (linD n t), .fz (.int a)] := by
  rw [call_at (fn := f_vector_in) rfl rfl]
  simp [f_vector_in, linD]
theorem sp_vector_squ (k m p q r s : Nat) (a : Int) (h0 : 0 < m) (hm : m < 1000) : callF G (k + 1) 12 [.fz (squD m p q r s), .fz (.int a)] = .ok (.fz (.tup [.int (a / m), .int (a % m)])) [.fz (squD m p q r s), .fz (.int a)] := by
  rw [call_at (fn := f_vector_in) rfl rfl]
  have f : fitB (m : Int) = true := fitB_nat (by omega) (by omega)
  simp [f_vector_in, squD, sq_ne, h0, f]
theorem sp_thing_lin (k n t : Nat) (a : Int) : callF G (k + 1) 13 [.fz (linD n t), .fz (.tup [.int a])] = .ok (.fz (.int a)) [.fz (linD n t), .fz (.tup [.int a])] := by
  rw [call_at (fn := f_thing_of) rfl rfl]
  simp [f_thing_of, linD]
theorem sp_thing_squ (k m p q r s : Nat) (a b : Int) (hm : m < 1000) : callF G (k + 1) 13 [.fz (squD m p q r s), .fz (.tup [.int a, .int b])] = .ok (.fz (.int (a * m + b))) [.fz (squD m p q r s), .fz (.tup [.int a, .int b])] := by
  rw [call_at (fn := f_thing_of) rfl rfl]
  have f : fitB (m : Int) = true := fitB_nat (by omega) (by omega)
  simp [f_thing_of, squD, sq_ne, f]
@[simp] theorem ik_zip1 {a b : D} : ikD .zip [.tup [a], .tup [b]] = some [.tup [a, b]] := rfl
@[simp] theorem ik_zip1L {a b : D} : ikD .zip [.tup [a], .lst [b]] = some [.tup [a, b]] := rfl
@[simp] theorem ik_zip2 {a b c d : D} : ikD .zip [.tup [a, c], .tup [b, d]] = some [.tup [a, b], .tup [c, d]] := rfl
@[simp] theorem ik_zip2L {a b c d : D} : ikD .zip [.tup [a, c], .lst [b, d]] = some [.tup [a, b], .tup [c, d]] := rfl
@[simp] theorem sum_1 {a : Int} : sumF (.lst [.int a]) = some (.fz (.int a)) := by
  show some (Vr.fz (.int ([a].sum))) = _
  simp
@[simp] theorem sum_2 {a b : Int} : sumF (.lst [.int a, .int b]) = some (.fz (.int (a + b))) := by
  show some (Vr.fz (.int ([a, b].sum))) = _
  simp
theorem ik_r1 : ikD .val [.rng 0 1] = some [.int 0] := rfl
theorem ik_r2 : ikD .val [.rng 0 2] = some [.int 0, .int 1] := rfl
theorem rg1 : rgOk 1 = true := rfl
theorem rg2 : rgOk 2 = true := rfl
theorem sp_by_rows1 (k n t : Nat) (a : Int) (h0 : 0 < n) (ht : t < 1000) : callF G (k + 1) 11 [.fz (.tup [.int a]), .fz (.lst [.lst [.int (t : Nat)]]), .fz (.int (n : Nat))] = .ok (.fz (.tup [.int (a * t % n)])) [.fz (.tup [.int a]), .fz (.lst [.lst [.int (t : Nat)]]), .fz (.int (n : Nat))] := by
  rw [call_at (fn := f_by_rows) rfl rfl]
  have f : fitB (t : Int) = true := fitB_nat (by omega) (by omega)
  simp [f_by_rows, rg1, ik_r1, compD_run, zlaps_cons, zlaps_nil, zcompEnd_ok, disjB, subB, memB, tgS, f, h0]
theorem sp_by_rows2 (k m p q r s : Nat) (a b : Int) (h0 : 0 < m) (hp : p < 1000) (hq : q < 1000) (hr : r < 1000) (hs : s < 1000) : callF G (k + 1) 11 [.fz (.tup [.int a, .int b]), .fz (.lst [.lst [.int (p : Nat), .int (q : Nat)], .lst [.int (r : Nat), .int (s : Nat)]]), .fz (.int (m : Nat))] = .ok (.fz (.tup [.int ((a * p + b * r) % m), .int ((a * q + b * s) % m)])) [.fz (.tup [.int a, .int b]), .fz (.lst [.lst [.int (p : Nat), .int (q : Nat)], .lst [.int (r : Nat), .int (s : Nat)]]), .fz (.int (m : Nat))] := by
  rw [call_at (fn := f_by_rows) rfl rfl]
  have f1 : fitB (p : Int) = true := fitB_nat (by omega) (by omega)
  have f2 : fitB (q : Int) = true := fitB_nat (by omega) (by omega)
  have f3 : fitB (r : Int) = true := fitB_nat (by omega) (by omega)
  have f4 : fitB (s : Int) = true := fitB_nat (by omega) (by omega)
  simp [f_by_rows, rg2, ik_r2, compD_run, zlaps_cons, zlaps_nil, zcompEnd_ok, disjB, subB, memB, tgS, f1, f2, f3, f4, h0]
theorem sp_turned_lin (k n t : Nat) (a b : Int) (h0 : 0 < n) (ht : t < 1000) : callF G (k + 2) 14 [.fz (linD n t), .fz (.int a), .fz (.int b)] = .ok (.fz (.int (((a - b) * t % n + b) % n))) [.fz (linD n t), .fz (.int a), .fz (.int b)] := by
  rw [call_at (fn := f_turned_in) rfl rfl]
  have e : ixD (linD n t) (.int 1) = some (.int (n : Nat)) := rfl
  simp [f_turned_in, e, sp_matrix_lin, sp_vector_lin, sp_thing_lin, sp_by_rows1 k n t (a - b) h0 ht, compD_run, zlaps_cons, zlaps_nil, zcompEnd_ok, disjB, subB, memB, tgS, h0]
theorem sp_turned_squ (k m p q r s : Nat) (a b : Int) (h0 : 0 < m) (hm : m < 1000) (hp : p < 1000) (hq : q < 1000) (hr : r < 1000) (hs : s < 1000) : callF G (k + 2) 14 [.fz (squD m p q r s), .fz (.int a), .fz (.int b)] =
    .ok (.fz (.int (((((a / m - b / m) * p + (a % m - b % m) * r) % m + b / m) % m) * m + ((((a / m - b / m) * q + (a % m - b % m) * s) % m + b % m) % m)))) [.fz (squD m p q r s), .fz (.int a), .fz (.int b)] := by
  rw [call_at (fn := f_turned_in) rfl rfl]
  have e : ixD (squD m p q r s) (.int 1) = some (.int (m : Nat)) := rfl
  simp [f_turned_in, e, sp_matrix_squ, sp_vector_squ k m p q r s _ h0 hm, sp_thing_squ k m p q r s _ _ hm, sp_by_rows2 k m p q r s _ _ h0 hp hq hr hs, compD_run, zlaps_cons, zlaps_nil, zcompEnd_ok, disjB, subB, memB, tgS, h0]
end VS

set_option Elab.async false
set_option linter.all false
set_option maxRecDepth 100000
set_option maxHeartbeats 4000000
/-! S 7: the tables of linear ones. -/
namespace VS
open PySem PySem.Spec
inductive Lin where
  | lin (n t : Nat)
  | squ (m p q r s : Nat)
def Lin.D : Lin → VS.D
  | .lin n t => linD n t
  | .squ m p q r s => squD m p q r s
def Lin.size : Lin → Nat
  | .lin n _ => n
  | .squ m _ _ _ _ => m * m
def Lin.F : Lin → Nat → Nat → Nat
  | .lin n t, a, b => (t * a + (n + 1 - t) * b) % n
  | .squ m p q r s, a, b => ((a / m + m - b / m) * p + (a % m + m - b % m) * r + b / m) % m * m + ((a / m + m - b / m) * q + (a % m + m - b % m) * s + b % m) % m
/-- small numbers -/
def Lin.ok : Lin → Bool
  | .lin n t => decide (0 < n) && decide (n ≤ 12) && decide (t ≤ n)
  | .squ m p q r s => decide (0 < m) && decide (m ≤ 3) && decide (p < m) && decide (q < m) && decide (r < m) && decide (s < m)
theorem lin_turn (n t a b : Nat) (ht : t ≤ n) : (((a : Int) - b) * t % n + b) % n = (((Lin.lin n t).F a b : Nat) : Int) := by
  show _ = (((t * a + (n + 1 - t) * b) % n : Nat) : Int)
  rw [Int.emod_add_emod, Int.natCast_emod, Int.natCast_add, Int.natCast_mul, Int.natCast_mul, Int.natCast_sub (by omega), Int.natCast_add]
  have e : (t : Int) * a + ((n : Int) + (1 : Nat) - t) * b = (((a : Int) - b) * t + b) + n * b := by grind
  rw [e, Int.add_mul_emod_self_left]
theorem lin_law (n t a b : Nat) (ht : t ≤ n) : ((t : Int) * a + (1 - t) * b) % n = (((Lin.lin n t).F a b : Nat) : Int) := by
  show _ = (((t * a + (n + 1 - t) * b) % n : Nat) : Int)
  rw [Int.natCast_emod, Int.natCast_add, Int.natCast_mul, Int.natCast_mul, Int.natCast_sub (by omega), Int.natCast_add]
  have e : (t : Int) * a + ((n : Int) + (1 : Nat) - t) * b = (t : Int) * a + (1 - t) * b + n * b := by grind
  rw [e, Int.add_mul_emod_self_left]
theorem squ_part (m p r x y u v w : Nat) (hu : u < m) (hv : v < m) : (((x : Int) - u) * p + (y - v) * r + w) % m = ((((x + m - u) * p + (y + m - v) * r + w) % m : Nat) : Int) := by
  rw [Int.natCast_emod, Int.natCast_add, Int.natCast_add, Int.natCast_mul, Int.natCast_mul, Int.natCast_sub (by omega), Int.natCast_sub (by omega), Int.natCast_add, Int.natCast_add]
  have e : ((x : Int) + m - u) * p + (y + m - v) * r + w = ((x - u) * p + (y - v) * r + w) + m * (p + r) := by grind
  rw [e, Int.add_mul_emod_self_left]
theorem squ_law (m p q r s a b : Nat) (h0 : 0 < m) (ha : a < m * m) (hb : b < m * m) : (((a : Int) / m - b / m) * p + (a % m - b % m) * r + b / m) % m * m + (((a : Int) / m - b / m) * q + (a % m - b % m) * s + b % m) % m = (((Lin.squ m p q r s).F a b : Nat) : Int) := by
  have h1 : b / m < m := Nat.div_lt_of_lt_mul hb
  have h2 : b % m < m := Nat.mod_lt _ h0
  have e1 := squ_part m p r (a / m) (a % m) (b / m) (b % m) (b / m) h1 h2
  have e2 := squ_part m q s (a / m) (a % m) (b / m) (b % m) (b % m) h1 h2
  rw [Int.natCast_ediv, Int.natCast_ediv, Int.natCast_emod, Int.natCast_emod] at e1 e2
  show _ = (((((a / m + m - b / m) * p + (a % m + m - b % m) * r + b / m) % m * m + ((a / m + m - b / m) * q + (a % m + m - b % m) * s + b % m) % m) : Nat) : Int)
  rw [Int.natCast_add, Int.natCast_mul, ← e1, ← e2]
theorem squ_turn (m p q r s a b : Nat) (h0 : 0 < m) (ha : a < m * m) (hb : b < m * m) : (((((a : Int) / m - b / m) * p + (a % m - b % m) * r) % m + b / m) % m) * m + ((((a / m - b / m) * q + (a % m - b % m) * s) % m + b % m) % m) = (((Lin.squ m p q r s).F a b : Nat) : Int) := by
  rw [← squ_law m p q r s a b h0 ha hb, Int.emod_add_emod, Int.emod_add_emod]
theorem Lin.ok_lin {n t : Nat} (h : (Lin.lin n t).ok = true) : 0 < n ∧ n ≤ 12 ∧ t ≤ n := by
  simp [Lin.ok] at h
  omega
theorem Lin.ok_squ {m p q r s : Nat} (h : (Lin.squ m p q r s).ok = true) : 0 < m ∧ m ≤ 3 ∧ p < m ∧ q < m ∧ r < m ∧ s < m := by
  simp [Lin.ok] at h
  omega
theorem Lin.size_le {o : Lin} (h : o.ok = true) : o.size ≤ 12 := by
  cases o with
  | lin n t => exact (Lin.ok_lin h).2.1
  | squ m p q r s =>
    have := (Lin.ok_squ h).2.1
    show m * m ≤ 12
    have := Nat.mul_le_mul this this
    omega
theorem sp_turned_in (k a b : Nat) (o : Lin) (h : o.ok = true) (ha : a < o.size) (hb : b < o.size) : callF G (k + 2) 14 [.fz o.D, .fz (.int (a : Nat)), .fz (.int (b : Nat))] = .ok (.fz (.int (o.F a b : Nat))) [.fz o.D, .fz (.int (a : Nat)), .fz (.int (b : Nat))] := by
  cases o with
  | lin n t =>
    obtain ⟨h1, h2, h3⟩ := Lin.ok_lin h
    rw [← lin_turn n t a b h3]
    exact sp_turned_lin k n t a b h1 (by omega)
  | squ m p q r s =>
    obtain ⟨h1, h2, h3, h4, h5, h6⟩ := Lin.ok_squ h
    rw [← squ_turn m p q r s a b h1 ha hb]
    exact sp_turned_squ k m p q r s a b h1 (by omega) (by omega) (by omega) (by omega) (by omega)
theorem sp_size_in (k : Nat) (o : Lin) (h : o.ok = true) : callF G (k + 1) 9 [.fz o.D] = .ok (.fz (.int (o.size : Nat))) [.fz o.D] := by
  cases o with
  | lin n t => exact sp_size_lin k n t
  | squ m p q r s => exact sp_size_squ k m p q r s (by have := Lin.ok_squ h; omega)
theorem sp_table_lin (k : Nat) (o : Lin) (h : o.ok = true) : callF G (k + 3) 15 [.fz o.D] = .ok (.fz (tabD o.size o.F)) [.fz o.D] := by
  rw [call_at (fn := f_table_in) rfl rfl]
  have hs := Lin.size_le h
  simp [f_table_in, sp_size_in (k + 1) o h, rgOk_nat (n := o.size) (by omega), ik_rngV (n := o.size) (by omega), nats]
  rw [compD_mapM (fun a => rowD o.size (o.F a))]
  · simp
    rfl
  · rfl
  · intro a ha
    have ha := List.mem_range.mp ha
    simp [ik_rngV (n := o.size) (by omega), nats]
    rw [compD_mapM (fun b => .int (o.F a b : Nat))]
    · simp
      exact ⟨_, ⟨rfl, rfl⟩, rfl⟩
    · rfl
    · intro b hb
      have hb := List.mem_range.mp hb
      simp [sp_turned_in k a b o h ha hb]
    · simp; omega
  · simp; omega
theorem sp_linear_table (k : Nat) (o : Lin) (h : o.ok = true) (hs : callF G (k + 3) 8 [.fz o.D] = .ok (.fz o.D) [.fz o.D]) : callF G (k + 4) 19 [.fz o.D] = .ok (.fz (tabD o.size o.F)) [.fz o.D] := by
  rw [call_at (fn := f_linear_table) rfl rfl]
  simp [f_linear_table, hs, sp_table_lin k o h]
theorem sp_linear_turned (k a b : Nat) (o : Lin) (h : o.ok = true) (ha : a < o.size) (hb : b < o.size) (hs : callF G (k + 3) 8 [.fz o.D] = .ok (.fz o.D) [.fz o.D]) : callF G (k + 4) 20 [.fz o.D, .fz (.int (a : Nat)), .fz (.int (b : Nat))] = .ok (.fz (.int (o.F a b : Nat))) [.fz o.D, .fz (.int (a : Nat)), .fz (.int (b : Nat))] := by
  rw [call_at (fn := f_linear_turned) rfl rfl]
  have e1 : (a : Int) ≤ (o.size : Nat) - 1 := by omega
  have e2 : (b : Int) ≤ (o.size : Nat) - 1 := by omega
  simp [f_linear_turned, hs, sp_size_in (k + 2) o h, e1, e2, sp_turned_in (k + 1) a b o h ha hb]
theorem sp_law_linear (k n t : Nat) (h : (Lin.lin n t).ok = true) : callF G (k + 1) 47 [.fz (.int (n : Nat)), .fz (.int (t : Nat))] = .ok (.fz (tabD n (Lin.lin n t).F)) [.fz (.int (n : Nat)), .fz (.int (t : Nat))] := by
  rw [call_at (fn := f_law_linear) rfl rfl]
  obtain ⟨h1, h2, h3⟩ := Lin.ok_lin h
  have f1 : fitB (t : Int) = true := fitB_nat (by omega) (by omega)
  simp [f_law_linear, ik_rng (n := n) (by omega), nats]
  rw [compD_mapM (fun a => rowD n ((Lin.lin n t).F a))]
  · simp
    rfl
  · rfl
  · intro a ha
    have ha := List.mem_range.mp ha
    simp [ik_rng (n := n) (by omega), nats]
    rw [compD_mapM (fun b => .int ((Lin.lin n t).F a b : Nat))]
    · simp
      exact ⟨_, ⟨rfl, rfl⟩, rfl⟩
    · rfl
    · intro b hb
      have hb := List.mem_range.mp hb
      have f2 : fitB (b : Int) = true := fitB_nat (by omega) (by omega)
      simp [f1, f2, h1, lin_law n t a b h3]
    · simp; omega
  · simp; omega
end VS

set_option Elab.async false
set_option linter.all false
set_option maxRecDepth 100000
set_option maxHeartbeats 4000000
/-! S 8: pairs; crosswise; parts. -/
namespace VS
open PySem PySem.Spec
@[simp] theorem mf_append {xs : List D} {a : D} : mfD .append (.lst xs) [a] = if Nat.blt xs.length 16777216 then some (.lst (xs ++ [a]), .non) else none := rfl
@[simp] theorem mf_pop {xs : List D} : mfD .pop (.lst xs) [] = popF xs := rfl
theorem blt_true {a b : Nat} (h : a < b) : Nat.blt a b = true := Nat.blt_eq.mpr h
theorem map_succ {α : Type} (k : Nat) (f : Nat → α) : (List.range (k + 1)).map f = (List.range k).map f ++ [f k] := by
  rw [List.range_succ, List.map_append]
  rfl
theorem sp_law_pairsM (lv m p q r s M : Nat) (hM : m * m = M) (h : (Lin.squ m p q r s).ok = true) : callF G (lv + 1) 48 [.fz (.int (m : Nat)), .fz (.tup [.int (p : Nat), .int (q : Nat), .int (r : Nat), .int (s : Nat)])] = .ok (.fz (tabD M (Lin.squ m p q r s).F)) [.fz (.int (m : Nat)), .fz (.tup [.int (p : Nat), .int (q : Nat), .int (r : Nat), .int (s : Nat)])] := by
  rw [call_at (fn := f_law_pairs) rfl rfl]
  obtain ⟨h1, h2, h3, h4, h5, h6⟩ := Lin.ok_squ h
  have hmm : M ≤ 9 := hM ▸ Nat.mul_le_mul h2 h2
  have f0 : fitB (m : Int) = true := fitB_nat (by omega) (by omega)
  have f1 : fitB (p : Int) = true := fitB_nat (by omega) (by omega)
  have f2 : fitB (q : Int) = true := fitB_nat (by omega) (by omega)
  have f3 : fitB (r : Int) = true := fitB_nat (by omega) (by omega)
  have f4 : fitB (s : Int) = true := fitB_nat (by omega) (by omega)
  have em : (m : Int) * m = (M : Int) := by rw [← hM, Int.natCast_mul]
  simp only [f_law_pairs]
  simp [f0, em, ik_rng (n := M) (by omega)]
  refine forD_n (K := fun x => fin _ (flB x _) = _) (fun k ρ => ∃ s7 s8 s9 s10 s11, ρ = [.fz (.int (m : Nat)), .fz (.tup [.int (p : Nat), .int (q : Nat), .int (r : Nat), .int (s : Nat)]), .fz (.int (p : Nat)), .fz (.int (q : Nat)), .fz (.int (r : Nat)), .fz (.int (s : Nat)),
    .ow (.lst ((List.range k).map fun a => rowD M ((Lin.squ m p q r s).F a))), s7, s8, s9, s10, s11] ∧ s7.fixd = false ∧ s8.fixd = false ∧ s9.fixd = false ∧ s10.fixd = false ∧ s11.fixd = false) ⟨_, _, _, _, _, rfl, rfl, rfl, rfl, rfl, rfl⟩ (fun a ha ρ ⟨s7, s8, s9, s10, s11, e, g7, g8, g9, g10, g11⟩ => by
      subst e
      refine ⟨[.fz (.int (m : Nat)), .fz (.tup [.int (p : Nat), .int (q : Nat), .int (r : Nat), .int (s : Nat)]), .fz (.int (p : Nat)), .fz (.int (q : Nat)), .fz (.int (r : Nat)), .fz (.int (s : Nat)),
    .ow (.lst ((List.range a).map fun a => rowD M ((Lin.squ m p q r s).F a))), .fz (.int (a : Nat)), s8, s9, s10, s11], by simp [g7], ?_⟩
      simp [g8, f0, em, ik_rng (n := M) (by omega)]
      refine forD_inN (fun k ρ => ∃ s9 s10 s11, ρ = [.fz (.int (m : Nat)), .fz (.tup [.int (p : Nat), .int (q : Nat), .int (r : Nat), .int (s : Nat)]), .fz (.int (p : Nat)), .fz (.int (q : Nat)), .fz (.int (r : Nat)), .fz (.int (s : Nat)),
          .ow (.lst ((List.range a).map fun a => rowD M ((Lin.squ m p q r s).F a))), .fz (.int (a : Nat)), .ow (.lst ((List.range k).map fun b => .int ((Lin.squ m p q r s).F a b : Nat))), s9, s10, s11] ∧ s9.fixd = false ∧ s10.fixd = false ∧ s11.fixd = false) ⟨_, _, _, rfl, g9, g10, g11⟩ (fun b hb ρ ⟨s9, s10, s11, e, g9, g10, g11⟩ => by
        subst e
        have hl : Nat.blt b 16777216 = true := blt_true (by omega)
        have key := squ_law m p q r s a b h1 (hM ▸ ha) (hM ▸ hb)
        refine ⟨[.fz (.int (m : Nat)), .fz (.tup [.int (p : Nat), .int (q : Nat), .int (r : Nat), .int (s : Nat)]), .fz (.int (p : Nat)), .fz (.int (q : Nat)), .fz (.int (r : Nat)), .fz (.int (s : Nat)),
          .ow (.lst ((List.range a).map fun a => rowD M ((Lin.squ m p q r s).F a))), .fz (.int (a : Nat)), .ow (.lst ((List.range b).map fun b => .int ((Lin.squ m p q r s).F a b : Nat))), .fz (.int (b : Nat)), s10, s11], by simp [g9],
          [.fz (.int (m : Nat)), .fz (.tup [.int (p : Nat), .int (q : Nat), .int (r : Nat), .int (s : Nat)]), .fz (.int (p : Nat)), .fz (.int (q : Nat)), .fz (.int (r : Nat)), .fz (.int (s : Nat)),
          .ow (.lst ((List.range a).map fun a => rowD M ((Lin.squ m p q r s).F a))), .fz (.int (a : Nat)), .ow (.lst ((List.range (b + 1)).map fun b => .int ((Lin.squ m p q r s).F a b : Nat))), .fz (.int (b : Nat)), .fz (.int ((a : Int) / m - b / m)), .fz (.int ((a : Int) % m - b % m))], .inl ?_, _, _, _, rfl, rfl, rfl, rfl⟩
        simp [g10, g11, h1, f0, f1, f2, f3, f4, hl, map_succ]
        rw [← key]
        simp) fun ρ' ⟨s9, s10, s11, e, g9, g10, g11⟩ => ?_
      subst e
      have hl : Nat.blt a 16777216 = true := blt_true (by omega)
      simp [hl, map_succ]
      exact ⟨_, _, _, _, _, ⟨rfl, rfl, rfl, rfl, rfl, rfl⟩, rfl, rfl, g9, g10, g11⟩) fun ρ' ⟨s7, s8, s9, s10, s11, e, g7, g8, g9, g10, g11⟩ => ?_
  subst e
  simp
  rfl
theorem sp_law_pairs (lv m p q r s : Nat) (h : (Lin.squ m p q r s).ok = true) : callF G (lv + 1) 48 [.fz (.int (m : Nat)), .fz (.tup [.int (p : Nat), .int (q : Nat), .int (r : Nat), .int (s : Nat)])] = .ok (.fz (tabD (m * m) (Lin.squ m p q r s).F)) [.fz (.int (m : Nat)), .fz (.tup [.int (p : Nat), .int (q : Nat), .int (r : Nat), .int (s : Nat)])] :=
  sp_law_pairsM lv m p q r s (m * m) rfl h
theorem sp_crosswise (lv m : Nat) (f : Nat → Nat → Nat) (T : Tab m f) (hc : ∀ a b c d, a < m → b < m → c < m → d < m → f (f a b) (f c d) = f (f a c) (f b d)) : callF G (lv + 1) 38 [.fz (tabD m f)] = .ok (.fz (.bl true)) [.fz (tabD m f)] := by
  rw [call_at (fn := f_is_crosswise_in) rfl rfl]
  have hm := T.le
  have hi := ik_rngV (n := m) (by omega)
  simp [f_is_crosswise_in, len_tab, rgOk_nat (n := m) (by omega), hi]
  refine forD_n (K := fun x => fin _ (flB x _) = _) (fun k ρ => ∃ s2 s3 s4 s5, ρ = [.fz (tabD m f), .fz (.rng 0 (m : Nat)), s2, s3, s4, s5] ∧ s2.fixd = false ∧ s3.fixd = false ∧ s4.fixd = false ∧ s5.fixd = false) ⟨_, _, _, _, rfl, rfl, rfl, rfl, rfl⟩ (fun a ha ρ ⟨s2, s3, s4, s5, e, g2, g3, g4, g5⟩ => by
    subst e
    refine ⟨[.fz (tabD m f), .fz (.rng 0 (m : Nat)), .fz (.int (a : Nat)), s3, s4, s5], by simp [g2], ?_⟩
    simp [hi]
    refine forD_inN (fun k ρ => ∃ s3 s4 s5, ρ = [.fz (tabD m f), .fz (.rng 0 (m : Nat)), .fz (.int (a : Nat)), s3, s4, s5] ∧ s3.fixd = false ∧ s4.fixd = false ∧ s5.fixd = false) ⟨_, _, _, rfl, g3, g4, g5⟩ (fun b hb ρ ⟨s3, s4, s5, e, g3, g4, g5⟩ => by
      subst e
      refine ⟨[.fz (tabD m f), .fz (.rng 0 (m : Nat)), .fz (.int (a : Nat)), .fz (.int (b : Nat)), s4, s5], by simp [g3], ?_⟩
      simp [hi]
      refine forD_inN (fun k ρ => ∃ s4 s5, ρ = [.fz (tabD m f), .fz (.rng 0 (m : Nat)), .fz (.int (a : Nat)), .fz (.int (b : Nat)), s4, s5] ∧ s4.fixd = false ∧ s5.fixd = false) ⟨_, _, rfl, g4, g5⟩ (fun c hcm ρ ⟨s4, s5, e, g4, g5⟩ => by
        subst e
        refine ⟨[.fz (tabD m f), .fz (.rng 0 (m : Nat)), .fz (.int (a : Nat)), .fz (.int (b : Nat)), .fz (.int (c : Nat)), s5], by simp [g4], ?_⟩
        simp [hi]
        refine forD_inN (fun k ρ => ∃ s5, ρ = [.fz (tabD m f), .fz (.rng 0 (m : Nat)), .fz (.int (a : Nat)), .fz (.int (b : Nat)), .fz (.int (c : Nat)), s5] ∧ s5.fixd = false) ⟨_, rfl, g5⟩ (fun d hd ρ ⟨s5, e, g5⟩ => by
          subst e
          refine ⟨[.fz (tabD m f), .fz (.rng 0 (m : Nat)), .fz (.int (a : Nat)), .fz (.int (b : Nat)), .fz (.int (c : Nat)), .fz (.int (d : Nat))], by simp [g5], [.fz (tabD m f), .fz (.rng 0 (m : Nat)), .fz (.int (a : Nat)), .fz (.int (b : Nat)), .fz (.int (c : Nat)), .fz (.int (d : Nat))], .inl ?_, _, rfl, rfl⟩
          have l1 := T.lt a b ha hb
          have l2 := T.lt a c ha hcm
          have l3 := T.lt b d hb hd
          have l4 := T.lt c d hcm hd
          simp [ix_tab ha, ix_tab hb, ix_tab hcm, ix_row hb, ix_row hcm, ix_row hd, ix_tab l1, ix_tab l2, ix_row l3, ix_row l4, hc a b c d ha hb hcm hd]) fun ρ' ⟨s5, e, g5⟩ => ?_
        subst e
        simp
        exact ⟨_, _, ⟨rfl, rfl⟩, rfl, g5⟩) fun ρ' ⟨s4, s5, e, g4, g5⟩ => ?_
      subst e
      simp
      exact ⟨_, _, _, ⟨rfl, rfl, rfl⟩, rfl, g4, g5⟩) fun ρ' ⟨s3, s4, s5, e, g3, g4, g5⟩ => ?_
    subst e
    simp
    exact ⟨_, _, _, _, ⟨rfl, rfl, rfl, rfl⟩, rfl, g3, g4, g5⟩) fun ρ' ⟨s2, s3, s4, s5, e, g2, g3, g4, g5⟩ => ?_
  subst e
  simp
theorem sp_is_crosswise (lv m : Nat) (f : Nat → Nat → Nat) (T : Tab m f) (hc : ∀ a b c d, a < m → b < m → c < m → d < m → f (f a b) (f c d) = f (f a c) (f b d)) : callF G (lv + 6) 41 [.fz (tabD m f)] = .ok (.fz (.bl true)) [.fz (tabD m f)] := by
  rw [call_at (fn := f_is_crosswise) rfl rfl]
  simp [f_is_crosswise, sp_sure_table lv m f T, sp_crosswise (lv + 4) m f T hc]
end VS

set_option Elab.async false
set_option linter.all false
set_option maxRecDepth 100000
set_option maxHeartbeats 4000000
/-! S 9: parts. -/
namespace VS
open PySem PySem.Spec
inductive Reach (m : Nat) (f : Nat → Nat → Nat) (a : Nat) : Nat → Prop
  | base : Reach m f a a
  | step {x b : Nat} : Reach m f a x → b < m → Reach m f a (f x b)
def keysD (l : List Nat) : List (D × D) := l.map fun (x : Nat) => (.int (x : Nat), .bl true)
def intsD (l : List Nat) : List D := l.map fun (x : Nat) => .int (x : Nat)
theorem dhas_keys (y : Nat) : ∀ l : List Nat, dhas (keysD l) (.int (y : Nat)) = decide (y ∈ l)
  | [] => rfl
  | x :: l => by
    show (((x : Int) == (y : Int)) || dhas (keysD l) (.int (y : Nat))) = _
    rw [dhas_keys y l]
    by_cases e : x = y
    · subst e; simp
    · have e1 : ((x : Int) == (y : Int)) = false := by simp; omega
      have e2 : ¬ y = x := fun z => e z.symm
      rw [e1]
      simp [e2]
theorem dput_keys {l : List Nat} {y : Nat} (h : y ∉ l) : dput (keysD l) (.int (y : Nat)) (.bl true) = keysD (l ++ [y]) := by
  unfold dput
  rw [dhas_keys, decide_eq_false h, if_neg Bool.false_ne_true]
  unfold keysD
  rw [List.map_append]
  rfl
theorem ok_ints (n : Nat) : ∀ l : List Nat, (intsD l).all (D.ok n) = true
  | [] => rfl
  | x :: l => by
    show (D.ok n (.int (x : Nat)) && (intsD l).all (D.ok n)) = true
    rw [ok_ints n l]
    cases n <;> rfl
theorem ne_nil_ints (l : List Nat) : cmpD .ne (.lst (intsD l)) (.lst []) = some (!l.isEmpty) := by
  show (D.eqD (.lst (intsD l)) (.lst [])).map (!·) = _
  unfold D.eqD
  have e1 : D.ok 40 (.lst (intsD l)) = true := ok_ints 39 l
  have e2 : D.ok 40 (.lst []) = true := rfl
  rw [e1, e2]
  cases l <;> rfl
theorem pop_ints (l : List Nat) (x : Nat) : popF (intsD (l ++ [x])) = some (.lst (intsD l), .int (x : Nat)) := by
  unfold popF intsD
  rw [List.map_append]
  simp
theorem app_ints (l : List Nat) (x : Nat) : intsD l ++ [.int (x : Nat)] = intsD (l ++ [x]) := by
  unfold intsD
  rw [List.map_append]
  rfl
@[simp] theorem len_ints (l : List Nat) : (intsD l).length = l.length := by simp [intsD]
@[simp] theorem len_keys (l : List Nat) : (keysD l).length = l.length := by simp [keysD]
/-- while the line is worked off -/
structure Gone (m : Nat) (f : Nat → Nat → Nat) (a : Nat) (found line : List Nat) : Prop where
  nd : found.Nodup
  lt : ∀ x ∈ found, x < m
  re : ∀ x ∈ found, Reach m f a x
  st : a ∈ found
  ln : ∀ x ∈ line, x ∈ found
  cl : ∀ x ∈ found, x ∉ line → ∀ b, b < m → f x b ∈ found
  mu : 2 * (m - found.length) + line.length ≤ 2 * m
theorem nodup_le {m : Nat} {l : List Nat} (nd : l.Nodup) (h : ∀ x ∈ l, x < m) : l.length ≤ m := by
  have := L2.nat_nodup_len l (List.range m) nd fun x hx => List.mem_range.mpr (h x hx)
  rwa [List.length_range] at this
/-- .. one thing's row halfway -/
structure Half (m : Nat) (f : Nat → Nat → Nat) (a x k w : Nat) (found line : List Nat) : Prop where
  nd : found.Nodup
  lt : ∀ x ∈ found, x < m
  re : ∀ x ∈ found, Reach m f a x
  st : a ∈ found
  ln : ∀ x ∈ line, x ∈ found
  cl : ∀ z ∈ found, z ∉ line → z ≠ x → ∀ b, b < m → f z b ∈ found
  row : ∀ b, b < k → f x b ∈ found
  xin : x ∈ found
  mu : 2 * (m - found.length) + line.length ≤ w
theorem srt_keys (l : List Nat) (h : l.length < 64) : sortF (.dic false (keysD l)) = some (.fr (.lst ((sortI (l.map fun (x : Nat) => (x : Int))).map .int))) := by
  have e : ((keysD l).map (·.1)) = l.map fun (x : Nat) => D.int (x : Nat) := by
    unfold keysD
    rw [List.map_map]
    rfl
  show ((((ints? ((keysD l).map (·.1))).bind fun ns => if Nat.blt ns.length 64 = true then some ns else none)).map fun l => Vr.fr (.lst ((sortI l).map .int))) = _
  rw [e, ints_map (fun (x : Nat) => (x : Int)) l, Option.bind_some, if_pos (blt_true (by rw [List.length_map]; exact h))]
  rfl
theorem sort_filter {m : Nat} {l : List Nat} {p : Nat → Bool} (nd : l.Nodup) (lt : ∀ x ∈ l, x < m) (h : ∀ x, x < m → (p x = true ↔ x ∈ l)) : sortI (l.map fun (x : Nat) => (x : Int)) = ((List.range m).filter p).map fun (x : Nat) => (x : Int) := by
  refine sorted_uniq ((sortI_perm _).trans ?_) (sortI_sorted _) ?_
  · refine List.Perm.map _ ?_
    refine (List.perm_ext_iff_of_nodup nd ((List.nodup_range).filter _)).mpr fun x => ?_
    rw [List.mem_filter, List.mem_range]
    constructor
    · intro hx; exact ⟨lt x hx, (h x (lt x hx)).mpr hx⟩
    · rintro ⟨h1, h2⟩; exact (h x h1).mp h2
  · rw [List.pairwise_map]
    refine List.Pairwise.filter _ ?_
    exact List.pairwise_lt_range.imp fun h => by omega
theorem sp_part_in (lv m a : Nat) (f : Nat → Nat → Nat) (T : Tab m f) (ha : a < m) (p : Nat → Bool) (hp : ∀ x, x < m → (p x = true ↔ Reach m f a x)) : callF G (lv + 1) 36 [.fz (tabD m f), .fz (.int (a : Nat))] = .ok (.fz (.tup (((List.range m).filter p).map fun (x : Nat) => .int (x : Nat)))) [.fz (tabD m f), .fz (.int (a : Nat))] := by
  rw [call_at (fn := f_part_in) rfl rfl]
  have hm := T.le
  simp [f_part_in, keyOk]
  have test : ∀ (found line : List Nat) (s4 : Sl), mTru (mTwo (cmpV .ne) (mVar 3) (mLst mNil)) [.fz (tabD m f), .fz (.int (a : Nat)), .ow (.dic false (keysD found)), .ow (.lst (intsD line)), s4] = .ok (!line.isEmpty) [.fz (tabD m f), .fz (.int (a : Nat)), .ow (.dic false (keysD found)), .ow (.lst (intsD line)), s4] := fun found line s4 => by
    simp [ne_nil_ints]
  have body : ∀ (found l : List Nat) (x : Nat) (s4 : Sl), s4.fixd = false → Gone m f a found (l ++ [x]) → ∃ (found' line' : List Nat) (s4' : Sl), evB (callF G lv) [.for (.nm 4) .val [.ix (.var 0) (.mf .pop 3 [])] [.ite (.cmp .nin (.var 4) (.var 2)) [.seti 2 (.var 4) (.con (.bl true)), .ex (.mf .append 3 [.var 4])] []]]
      [.fz (tabD m f), .fz (.int (a : Nat)), .ow (.dic false (keysD found)), .ow (.lst (intsD (l ++ [x]))), s4] = .nx [.fz (tabD m f), .fz (.int (a : Nat)), .ow (.dic false (keysD found')), .ow (.lst (intsD line')), s4'] ∧ s4'.fixd = false ∧ Gone m f a found' line' ∧ 2 * (m - found'.length) + line'.length ≤ 2 * (m - found.length) + l.length := fun found l x s4 g4 I => by
    have hxf : x ∈ found := I.ln x (by simp)
    have hx : x < m := I.lt x hxf
    have hmu := I.mu
    rw [List.length_append, List.length_singleton] at hmu
    have hik : ikD .val [rowD m (f x)] = some ((List.range m).map fun b => .int (f x b : Nat)) := rfl
    simp [pop_ints, ix_tab hx, hik]
    obtain ⟨ρ', e1, found', line', s4', e2, g4', I'⟩ := forD_rng (n := m) (t := .nm 4) (L := []) (ρ1 := [.fz (tabD m f), .fz (.int (a : Nat)), .ow (.dic false (keysD found)), .ow (.lst (intsD l)), s4]) (c := fun b => .int (f x b : Nat))
      (mb := evB (callF G lv) [.ite (.cmp .nin (.var 4) (.var 2)) [.seti 2 (.var 4) (.con (.bl true)), .ex (.mf .append 3 [.var 4])] []])
      (fun k ρ => ∃ found' line' s4, ρ = [.fz (tabD m f), .fz (.int (a : Nat)), .ow (.dic false (keysD found')), .ow (.lst (intsD line')), s4] ∧ s4.fixd = false ∧ Half m f a x k (2 * (m - found.length) + l.length) found' line')
      ⟨found, l, s4, rfl, g4, ⟨I.nd, I.lt, I.re, I.st, fun z hz => I.ln z (by simp [hz]), fun z hz hl hzx => I.cl z hz (by simp [hl, hzx]), fun b hb => absurd hb (Nat.not_lt_zero b), hxf, Nat.le_refl _⟩⟩ (fun k hk ρ ⟨F, L, s4, e, g4, I⟩ => by
        subst e
        have hy : f x k < m := T.lt x k hx hk
        refine ⟨[.fz (tabD m f), .fz (.int (a : Nat)), .ow (.dic false (keysD F)), .ow (.lst (intsD L)), .fz (.int (f x k : Nat))], by simp [g4], ?_⟩
        by_cases hin : f x k ∈ F
        · refine ⟨[.fz (tabD m f), .fz (.int (a : Nat)), .ow (.dic false (keysD F)), .ow (.lst (intsD L)), .fz (.int (f x k : Nat))], .inl (by simp [dhas_keys, hin]), F, L, _, rfl, rfl, ⟨I.nd, I.lt, I.re, I.st, I.ln, I.cl, fun b hb => ?_, I.xin, I.mu⟩⟩
          by_cases e : b = k
          · rw [e]; exact hin
          · exact I.row b (by omega)
        · have nd' : (F ++ [f x k]).Nodup := by
            rw [List.nodup_append]
            refine ⟨I.nd, by simp, fun z hz w hw e => ?_⟩
            rw [List.mem_singleton] at hw
            subst hw
            subst e
            exact hin hz
          have lt' : ∀ z ∈ F ++ [f x k], z < m := fun z hz => by
            rcases List.mem_append.mp hz with hz | hz
            · exact I.lt z hz
            · rw [List.mem_singleton.mp hz]; exact hy
          have hlen := nodup_le nd' lt'
          rw [List.length_append, List.length_singleton] at hlen
          have hmu' := I.mu
          have b1 : Nat.blt F.length 16777216 = true := blt_true (by omega)
          have b2 : Nat.blt L.length 16777216 = true := blt_true (by omega)
          refine ⟨[.fz (tabD m f), .fz (.int (a : Nat)), .ow (.dic false (keysD (F ++ [f x k]))), .ow (.lst (intsD (L ++ [f x k]))), .fz (.int (f x k : Nat))], .inl (by simp [dhas_keys, hin, dput_keys, app_ints, b1, b2]), F ++ [f x k], L ++ [f x k], _, rfl, rfl, ⟨nd', lt', fun z hz => ?_, by simp [I.st], fun z hz => ?_, fun z hz hl hzx b hb => ?_, fun b hb => ?_, by simp [I.xin], ?_⟩⟩
          · rcases List.mem_append.mp hz with hz | hz
            · exact I.re z hz
            · rw [List.mem_singleton.mp hz]; exact Reach.step (I.re x I.xin) hk
          · rcases List.mem_append.mp hz with hz | hz
            · exact List.mem_append_left _ (I.ln z hz)
            · exact List.mem_append_right _ hz
          · rcases List.mem_append.mp hz with hz | hz
            · exact List.mem_append_left _ (I.cl z hz (fun q => hl (List.mem_append_left _ q)) hzx b hb)
            · exact absurd (List.mem_append_right _ hz) hl
          · by_cases e : b = k
            · rw [e]; simp
            · exact List.mem_append_left _ (I.row b (by omega))
          · rw [List.length_append, List.length_append, List.length_singleton]
            omega)
    subst e2
    rw [e1]
    refine ⟨found', line', s4', rfl, g4', ⟨I'.nd, I'.lt, I'.re, I'.st, I'.ln, fun z hz hl b hb => ?_, ?_⟩, I'.mu⟩
    · by_cases e : z = x
      · rw [e]; exact I'.row b hb
      · exact I'.cl z hz hl e b hb
    · have := I'.mu
      omega
  obtain ⟨s', ρ', e1, ⟨s4, e2, g4, I⟩, e3⟩ := while_inv (mt := mTru (mTwo (cmpV .ne) (mVar 3) (mLst mNil)))
    (mb := evB (callF G lv) [.for (.nm 4) .val [.ix (.var 0) (.mf .pop 3 [])] [.ite (.cmp .nin (.var 4) (.var 2)) [.seti 2 (.var 4) (.con (.bl true)), .ex (.mf .append 3 [.var 4])] []]])
    (S := List Nat × List Nat) (fun s ρ => ∃ s4, ρ = [.fz (tabD m f), .fz (.int (a : Nat)), .ow (.dic false (keysD s.1)), .ow (.lst (intsD s.2)), s4] ∧ s4.fixd = false ∧ Gone m f a s.1 s.2) (fun s => !s.2.isEmpty) (fun s => 2 * (m - s.1.length) + s.2.length) (fun ⟨found, line⟩ ρ ⟨s4, e, g4, I⟩ => by
      subst e
      refine ⟨_, test found line s4, fun hm => ?_, fun _ => ⟨s4, rfl, g4, I⟩⟩
      have hne : line ≠ [] := fun z => by subst z; cases hm
      obtain ⟨l, x, rfl⟩ : ∃ l x, line = l ++ [x] := ⟨line.dropLast, line.getLast hne, (List.dropLast_concat_getLast hne).symm⟩
      obtain ⟨found', line', s4', h1, h2, h3, h4⟩ := body found l x s4 g4 I
      refine ⟨(found', line'), _, ?_, .inl h1, s4', rfl, h2, h3⟩
      show 2 * (m - found'.length) + line'.length < 2 * (m - found.length) + (l ++ [x]).length
      rw [List.length_append, List.length_singleton]
      omega)
    wmost (s := ([a], [a])) (ρ := [.fz (tabD m f), .fz (.int (a : Nat)), .ow (.dic false (keysD [a])), .ow (.lst (intsD [a])), .un]) ⟨_, rfl, rfl, ⟨by simp, by simpa using ha, by simpa using Reach.base, by simp, by simp, by simp, by show 2 * (m - 1) + 1 ≤ 2 * m; omega⟩⟩ (by show 2 * (m - 1) + 1 < wmost; unfold wmost; omega)
  obtain ⟨found, line⟩ := s'
  have hl : line = [] := by
    cases line with
    | nil => rfl
    | cons _ _ => cases e3
  subst hl e2
  have e0 : whiles (mTru (mTwo (cmpV .ne) (mVar 3) (mLst mNil))) (evB (callF G lv) [.for (.nm 4) .val [.ix (.var 0) (.mf .pop 3 [])] [.ite (.cmp .nin (.var 4) (.var 2)) [.seti 2 (.var 4) (.con (.bl true)), .ex (.mf .append 3 [.var 4])] []]]) wmost
      [.fz (tabD m f), .fz (.int (a : Nat)), .ow (.dic false [(.int (a : Nat), .bl true)]), .ow (.lst [.int (a : Nat)]), .un] = .nx [.fz (tabD m f), .fz (.int (a : Nat)), .ow (.dic false (keysD found)), .ow (.lst (intsD [])), s4] := e1
  rw [e0]
  have hlen : found.length ≤ m := nodup_le I.nd I.lt
  have all : ∀ x, Reach m f a x → x ∈ found := fun x h => by
    induction h with
    | base => exact I.st
    | step _ hb ih => exact I.cl _ ih (by simp) _ hb
  have es := sort_filter (p := p) I.nd I.lt fun x hx => (hp x hx).trans ⟨all x, I.re x⟩
  simp [srt_keys found (by omega), es]
end VS

set_option Elab.async false
set_option linter.all false
set_option maxRecDepth 100000
set_option maxHeartbeats 4000000
/-! S 10: all parts, where each is reached in one step. -/
namespace VS
open PySem PySem.Spec
def stepB (m : Nat) (f : Nat → Nat → Nat) (a x : Nat) : Bool := (List.range m).any fun b => Nat.beq (f a b) x
def partR (m : Nat) (f : Nat → Nat → Nat) (a : Nat) : List Int := ((List.range m).filter (stepB m f a)).map fun (x : Nat) => (x : Int)
def partsR (m : Nat) (f : Nat → Nat → Nat) : List (List Int) := (List.range m).map (partR m f)
theorem stepB_iff {m : Nat} {f : Nat → Nat → Nat} {a x : Nat} : stepB m f a x = true ↔ ∃ b, b < m ∧ f a b = x := by
  unfold stepB
  rw [List.any_eq_true]
  constructor
  · rintro ⟨b, h1, h2⟩; exact ⟨b, List.mem_range.mp h1, Nat.eq_of_beq_eq_true h2⟩
  · rintro ⟨b, h1, h2⟩; exact ⟨b, List.mem_range.mpr h1, by rw [h2]; exact Nat.beq_refl x⟩
theorem reach_iff {m : Nat} {f : Nat → Nat → Nat} (T : Tab m f) (cl : ∀ a b c, a < m → b < m → c < m → ∃ d, d < m ∧ f (f a b) c = f a d) {a : Nat} (ha : a < m) (x : Nat) : stepB m f a x = true ↔ Reach m f a x := by
  rw [stepB_iff]
  constructor
  · rintro ⟨b, hb, rfl⟩; exact Reach.step Reach.base hb
  · intro h
    induction h with
    | base => exact ⟨a, ha, T.idem a ha⟩
    | step _ hb ih =>
      obtain ⟨c, hc, rfl⟩ := ih
      obtain ⟨d, hd, e⟩ := cl a c _ ha hc hb
      exact ⟨d, hd, e.symm⟩
theorem rowsI_of {n : Nat} : ∀ {l : List (List Int)}, (∀ r ∈ l, r.length = n ∧ ∀ i ∈ r, 0 ≤ i ∧ i < 1000) → rowsI n (l.map fun r => .tup (r.map .int)) = some l
  | [], _ => rfl
  | r :: l, h => by
    obtain ⟨h1, h2⟩ := h r List.mem_cons_self
    rw [List.map_cons]
    show ((ints? (r.map .int)).bind fun ns => if (Nat.beq ns.length n && ns.all (fun i => decide (0 ≤ i) && decide (i < 1000))) = true then (rowsI n (l.map fun r => .tup (r.map .int))).map (ns :: ·) else none) = _
    have e := ints_map (fun (i : Int) => i) r
    rw [List.map_id'] at e
    rw [e, Option.bind_some, h1, rowsI_of fun q hq => h q (List.mem_cons_of_mem _ hq)]
    have ha : (r.all fun i => decide (0 ≤ i) && decide (i < 1000)) = true := by
      rw [List.all_eq_true]
      intro i hi
      have := h2 i hi
      rw [decide_eq_true this.1, decide_eq_true this.2]
      rfl
    rw [ha, Nat.beq_refl]
    rfl
theorem sset_of {n : Nat} {l : List (List Int)} (hn : 0 < n) (hl : l.length < 64) (hne : l ≠ []) (h : ∀ r ∈ l, r.length = n ∧ ∀ i ∈ r, 0 ≤ i ∧ i < 1000) : ssetF (.lst (l.map fun r => .tup (r.map .int))) = some (.fr (.lst ((sortT l).map fun r => .tup (r.map .int)))) := by
  have e := rowsI_of h
  cases l with
  | nil => exact absurd rfl hne
  | cons r l =>
    obtain ⟨h1, _⟩ := h r List.mem_cons_self
    rw [List.map_cons] at e ⊢
    show ((rowsI (r.map D.int).length _).bind fun rs => if (Nat.blt 0 (r.map D.int).length && Nat.blt rs.length 64) = true then some (Vr.fr (.lst ((sortT rs).map fun r => .tup (r.map .int)))) else none) = _
    rw [List.length_map, h1, e, Option.bind_some, blt_true hn, blt_true hl]
    rfl
theorem sp_parts_in (lv m n : Nat) (f : Nat → Nat → Nat) (T : Tab m f) (cl : ∀ a b c, a < m → b < m → c < m → ∃ d, d < m ∧ f (f a b) c = f a d) (hn : 0 < n) (hl : ∀ a, a < m → (partR m f a).length = n) : callF G (lv + 2) 37 [.fz (tabD m f)] = .ok (.fr (.lst ((sortT (partsR m f)).map fun r => .tup (r.map .int)))) [.fz (tabD m f)] := by
  rw [call_at (fn := f_parts_in) rfl rfl]
  have hm := T.le
  have hp := T.pos
  have hs : ssetF (.lst ((List.range m).map fun a => .tup ((partR m f a).map .int))) = some (.fr (.lst ((sortT (partsR m f)).map fun r => .tup (r.map .int)))) := by
    have e : ((List.range m).map fun a => D.tup ((partR m f a).map .int)) = (partsR m f).map fun r => D.tup (r.map .int) := by
      unfold partsR
      rw [List.map_map]
      rfl
    rw [e]
    refine sset_of hn (by simp [partsR]; omega) (by simp [partsR]; omega) fun r hr => ?_
    obtain ⟨a, ha, rfl⟩ := List.mem_map.mp hr
    refine ⟨hl a (List.mem_range.mp ha), fun i hi => ?_⟩
    obtain ⟨x, hx, rfl⟩ := List.mem_map.mp hi
    have := List.mem_range.mp (List.mem_filter.mp hx).1
    omega
  simp [f_parts_in, len_tab, ik_rng (n := m) (by omega), nats]
  rw [compD_mapM (fun a => .tup ((partR m f a).map .int))]
  · simp [hs]
  · rfl
  · intro a ha
    have ha := List.mem_range.mp ha
    have e := sp_part_in lv m a f T ha (stepB m f a) (fun x _ => reach_iff T cl ha x)
    have e2 : (((List.range m).filter (stepB m f a)).map fun (x : Nat) => D.int (x : Nat)) = (partR m f a).map .int := by
      unfold partR
      rw [List.map_map]
      rfl
    rw [e2] at e
    simp [e]
  · simp; omega
theorem sp_parts (lv m n : Nat) (f : Nat → Nat → Nat) (T : Tab m f) (cl : ∀ a b c, a < m → b < m → c < m → ∃ d, d < m ∧ f (f a b) c = f a d) (hn : 0 < n) (hl : ∀ a, a < m → (partR m f a).length = n) : callF G (lv + 6) 39 [.fz (tabD m f)] = .ok (.fr (.lst ((sortT (partsR m f)).map fun r => .tup (r.map .int)))) [.fz (tabD m f)] := by
  rw [call_at (fn := f_parts) rfl rfl]
  simp [f_parts, sp_sure_table lv m f T, sp_parts_in (lv + 3) m n f T cl hn hl]
theorem sp_hangs (lv m n : Nat) (f : Nat → Nat → Nat) (T : Tab m f) (cl : ∀ a b c, a < m → b < m → c < m → ∃ d, d < m ∧ f (f a b) c = f a d) (hn : 0 < n) (hl : ∀ a, a < m → (partR m f a).length = n) : callF G (lv + 6) 40 [.fz (tabD m f)] = .ok (.fz (.bl (decide ((((sortT (partsR m f)).length : Nat) : Int) = 1)))) [.fz (tabD m f)] := by
  rw [call_at (fn := f_hangs_together) rfl rfl]
  simp [f_hangs_together, sp_sure_table lv m f T, sp_parts_in (lv + 3) m n f T cl hn hl]
end VS

set_option Elab.async false
set_option linter.all false
set_option maxRecDepth 100000
set_option maxHeartbeats 4000000
/-! K 04 a: all linear ones of few things. -/
namespace VS
open PySem PySem.Spec
noncomputable def allB (n : Nat) (p : Nat → Bool) : Bool := Nat.rec (motive := fun _ => Bool) true (fun k ih => p k && ih) n
theorem allB_iff {p : Nat → Bool} : ∀ {n : Nat}, allB n p = true → ∀ k, k < n → p k = true
  | 0, _, k, h => by omega
  | n + 1, h, k, hk => by
    obtain ⟨h1, h2⟩ := Bool.and_eq_true_iff.mp (show (p n && allB n p) = true from h)
    by_cases e : k = n
    · rw [e]; exact h1
    · exact allB_iff h2 k (by omega)
noncomputable def anyN (n : Nat) (p : Nat → Bool) : Bool := Nat.rec (motive := fun _ => Bool) false (fun k ih => p k || ih) n
theorem anyN_iff {p : Nat → Bool} : ∀ {n : Nat}, anyN n p = true → ∃ k, k < n ∧ p k = true
  | 0, h => by cases h
  | n + 1, h => by
    rcases Bool.or_eq_true_iff.mp (show (p n || anyN n p) = true from h) with h | h
    · exact ⟨n, by omega, h⟩
    · obtain ⟨k, h1, h2⟩ := anyN_iff h
      exact ⟨k, by omega, h2⟩
def Lin.con : Lin → Lin
  | .lin n t => .lin n (((List.range n).filter fun s => Nat.beq (s * t % n) (1 % n)).headD 0)
  | .squ m p q r s =>
    let w := if Nat.beq ((p * s + m * m - q * r) % m) 1 then 1 else m - 1
    .squ m (s * w % m) ((m - q) * w % m) ((m - r) * w % m) (p * w % m)
def sqAll (m : Nat) : List Lin := (List.range (m * m * m * m)).filterMap fun k =>
  if Nat.beq ((k / (m * m * m) * (k % m) + m * m - k / (m * m) % m * (k / m % m)) % m) 0 then none else some (.squ m (k / (m * m * m)) (k / (m * m) % m) (k / m % m) (k % m))
def AL (n : Nat) : List Lin := (((List.range n).filter fun t => Nat.blt 0 t && Nat.beq (Nat.gcd n t) 1).map (Lin.lin n)) ++ (if Nat.beq n 4 then sqAll 2 else if Nat.beq n 9 then sqAll 3 else [])
noncomputable def tabB (n : Nat) (f : Nat → Nat → Nat) : Bool :=
  allB n (fun a => Nat.beq (f a a) a) && (allB n (fun a => allB n fun b => Nat.blt (f a b) n) && (allB n (fun c => allB n fun a => allB n fun b => Nat.beq a b || !Nat.beq (f a c) (f b c)) &&
    allB n (fun a => allB n fun b => allB n fun c => Nat.beq (f (f a b) c) (f (f a c) (f b c)))))
noncomputable def backB (n : Nat) (f g : Nat → Nat → Nat) : Bool := allB n fun a => allB n fun b => Nat.blt (g a b) n && Nat.beq (f (g a b) b) a
noncomputable def clB (n : Nat) (f : Nat → Nat → Nat) : Bool := allB n fun a => allB n fun b => allB n fun c => anyN n fun d => Nat.beq (f (f a b) c) (f a d)
noncomputable def medB (n : Nat) (f : Nat → Nat → Nat) : Bool := allB n fun a => allB n fun b => allB n fun c => allB n fun d => Nat.beq (f (f a b) (f c d)) (f (f a c) (f b d))
noncomputable def lenB (n : Nat) (f : Nat → Nat → Nat) : Bool := allB n fun a => Nat.beq (partR n f a).length (partR n f 0).length
def Lin.beq : Lin → Lin → Bool
  | .lin n t, .lin m s => Nat.beq n m && Nat.beq t s
  | .squ m p q r s, .squ m' p' q' r' s' => Nat.beq m m' && (Nat.beq p p' && (Nat.beq q q' && (Nat.beq r r' && Nat.beq s s')))
  | _, _ => false
noncomputable def goodB (n : Nat) (o : Lin) : Bool := (o.ok && (Nat.beq o.size n && (o.con.ok && (Nat.beq o.con.size n && o.con.con.beq o)))) && (tabB n o.F && (backB n o.F o.con.F && (clB n o.F && (lenB n o.F && (Nat.ble 8 n || medB n o.F)))))
end VS

set_option Elab.async false
set_option linter.all false
set_option maxRecDepth 1000000
set_option maxHeartbeats 4000000
/-! K 04 b: what the program says of each of them, looked at one by one. -/
namespace VS
open PySem PySem.Spec
def resB (c : Cr) (a d : D) : Bool := match c with
  | .ok (.fz e) [.fz x] => e.same d && x.same a
  | _ => false
theorem resB_ok {c : Cr} {a d : D} (h : resB c a d = true) : c = .ok (.fz d) [.fz a] := by
  unfold resB at h
  split at h
  · obtain ⟨h1, h2⟩ := and2 h
    rw [same_eq h1, same_eq h2]
  · cases h
def resB2 (c : Cr) (a b d : D) : Bool := match c with
  | .ok (.fz e) [.fz x, .fz y] => e.same d && (x.same a && y.same b)
  | _ => false
theorem resB2_ok {c : Cr} {a b d : D} (h : resB2 c a b d = true) : c = .ok (.fz d) [.fz a, .fz b] := by
  unfold resB2 at h
  split at h
  · obtain ⟨h1, h2⟩ := and2 h
    obtain ⟨h2, h3⟩ := and2 h2
    rw [same_eq h1, same_eq h2, same_eq h3]
  · cases h
def cnt (o : Lin) : Nat := (sortT (partsR o.size o.F)).length
def commonB : Lin → Bool
  | .lin n t => resB2 (callF G 18 49 [.fz (.int (n : Nat)), .fz (.int ((1 - (t : Nat)) % (n : Nat)))]) (.int (n : Nat)) (.int ((1 - (t : Nat)) % (n : Nat))) (.int (cnt (.lin n t) : Nat))
  | _ => true
def toldB (o : Lin) : Bool := resB (callF G 17 8 [.fz o.D]) o.D o.D && (resB (callF G 18 18 [.fz o.D]) o.D (.bl true) && (resB (callF G 18 23 [.fz o.D]) o.D o.con.D && (resB (callF G 17 8 [.fz o.con.D]) o.con.D o.con.D && (resB (callF G 18 23 [.fz o.con.D]) o.con.D o.D &&
  (resB (callF G 18 18 [.fz o.con.D]) o.con.D (.bl true) && (resB (callF G 18 21 [.fz o.D]) o.D (.int (cnt o : Nat)) && commonB o))))))
def allLinB (n : Nat) : Bool := resB (callF G 18 22 [.fz (.int (n : Nat))]) (.int (n : Nat)) (.lst ((AL n).map Lin.D)) && resB (callF G 18 50 [.fz (.int (n : Nat))]) (.int (n : Nat)) (.lst ((AL n).map Lin.D)) && !(AL n).isEmpty
/-- a few of them -/
noncomputable def factC (n i : Nat) : Bool := (((AL n).drop (5 * i)).take 5).all fun o => goodB n o && toldB o
theorem drop_take_mem {α : Type} {l : List α} {o : α} (h : o ∈ l) : ∃ i, 5 * i < l.length ∧ o ∈ (l.drop (5 * i)).take 5 := by
  obtain ⟨j, hj, rfl⟩ := List.mem_iff_getElem.mp h
  refine ⟨j / 5, by omega, ?_⟩
  rw [List.mem_iff_getElem?]
  refine ⟨j % 5, ?_⟩
  rw [List.getElem?_take_of_lt (Nat.mod_lt _ (by omega)), List.getElem?_drop]
  have : 5 * (j / 5) + j % 5 = j := by omega
  rw [this]
  exact List.getElem?_eq_getElem hj
theorem fact_of {n m : Nat} (hl : (AL n).length ≤ 5 * m) (h : ∀ i, i < m → factC n i = true) : ∀ o ∈ AL n, (goodB n o && toldB o) = true := fun o ho => by
  obtain ⟨i, h1, h2⟩ := drop_take_mem ho
  exact List.all_eq_true.mp (h i (by omega)) o h2

theorem fact2_0 : factC 2 0 = true := by decide +kernel
theorem all2 : allLinB 2 = true := by decide +kernel
theorem len2 : (AL 2).length ≤ 5 * 1 := by decide +kernel
theorem fact2 : ∀ o ∈ AL 2, (goodB 2 o && toldB o) = true := fact_of len2 fun i hi => by
  match i, hi with
  | 0, _ => exact fact2_0
  | i + 1, h => omega
theorem fact3_0 : factC 3 0 = true := by decide +kernel
theorem all3 : allLinB 3 = true := by decide +kernel
theorem len3 : (AL 3).length ≤ 5 * 1 := by decide +kernel
theorem fact3 : ∀ o ∈ AL 3, (goodB 3 o && toldB o) = true := fact_of len3 fun i hi => by
  match i, hi with
  | 0, _ => exact fact3_0
  | i + 1, h => omega
theorem fact4_0 : factC 4 0 = true := by decide +kernel
theorem fact4_1 : factC 4 1 = true := by decide +kernel
theorem all4 : allLinB 4 = true := by decide +kernel
theorem len4 : (AL 4).length ≤ 5 * 2 := by decide +kernel
theorem fact4 : ∀ o ∈ AL 4, (goodB 4 o && toldB o) = true := fact_of len4 fun i hi => by
  match i, hi with
  | 0, _ => exact fact4_0
  | 1, _ => exact fact4_1
  | i + 2, h => omega
theorem fact5_0 : factC 5 0 = true := by decide +kernel
theorem all5 : allLinB 5 = true := by decide +kernel
theorem len5 : (AL 5).length ≤ 5 * 1 := by decide +kernel
theorem fact5 : ∀ o ∈ AL 5, (goodB 5 o && toldB o) = true := fact_of len5 fun i hi => by
  match i, hi with
  | 0, _ => exact fact5_0
  | i + 1, h => omega
theorem fact6_0 : factC 6 0 = true := by decide +kernel
theorem all6 : allLinB 6 = true := by decide +kernel
theorem len6 : (AL 6).length ≤ 5 * 1 := by decide +kernel
theorem fact6 : ∀ o ∈ AL 6, (goodB 6 o && toldB o) = true := fact_of len6 fun i hi => by
  match i, hi with
  | 0, _ => exact fact6_0
  | i + 1, h => omega
theorem fact7_0 : factC 7 0 = true := by decide +kernel
theorem fact7_1 : factC 7 1 = true := by decide +kernel
theorem all7 : allLinB 7 = true := by decide +kernel
theorem len7 : (AL 7).length ≤ 5 * 2 := by decide +kernel
theorem fact7 : ∀ o ∈ AL 7, (goodB 7 o && toldB o) = true := fact_of len7 fun i hi => by
  match i, hi with
  | 0, _ => exact fact7_0
  | 1, _ => exact fact7_1
  | i + 2, h => omega
theorem fact8_0 : factC 8 0 = true := by decide +kernel
theorem all8 : allLinB 8 = true := by decide +kernel
theorem len8 : (AL 8).length ≤ 5 * 1 := by decide +kernel
theorem fact8 : ∀ o ∈ AL 8, (goodB 8 o && toldB o) = true := fact_of len8 fun i hi => by
  match i, hi with
  | 0, _ => exact fact8_0
  | i + 1, h => omega
theorem fact9_0 : factC 9 0 = true := by decide +kernel
theorem fact9_1 : factC 9 1 = true := by decide +kernel
theorem fact9_2 : factC 9 2 = true := by decide +kernel
theorem fact9_3 : factC 9 3 = true := by decide +kernel
theorem fact9_4 : factC 9 4 = true := by decide +kernel
theorem fact9_5 : factC 9 5 = true := by decide +kernel
theorem fact9_6 : factC 9 6 = true := by decide +kernel
theorem fact9_7 : factC 9 7 = true := by decide +kernel
theorem fact9_8 : factC 9 8 = true := by decide +kernel
theorem fact9_9 : factC 9 9 = true := by decide +kernel
theorem fact9_10 : factC 9 10 = true := by decide +kernel
theorem all9 : allLinB 9 = true := by decide +kernel
theorem len9 : (AL 9).length ≤ 5 * 11 := by decide +kernel
theorem fact9 : ∀ o ∈ AL 9, (goodB 9 o && toldB o) = true := fact_of len9 fun i hi => by
  match i, hi with
  | 0, _ => exact fact9_0
  | 1, _ => exact fact9_1
  | 2, _ => exact fact9_2
  | 3, _ => exact fact9_3
  | 4, _ => exact fact9_4
  | 5, _ => exact fact9_5
  | 6, _ => exact fact9_6
  | 7, _ => exact fact9_7
  | 8, _ => exact fact9_8
  | 9, _ => exact fact9_9
  | 10, _ => exact fact9_10
  | i + 11, h => omega
theorem fact10_0 : factC 10 0 = true := by decide +kernel
theorem all10 : allLinB 10 = true := by decide +kernel
theorem len10 : (AL 10).length ≤ 5 * 1 := by decide +kernel
theorem fact10 : ∀ o ∈ AL 10, (goodB 10 o && toldB o) = true := fact_of len10 fun i hi => by
  match i, hi with
  | 0, _ => exact fact10_0
  | i + 1, h => omega
theorem fact11_0 : factC 11 0 = true := by decide +kernel
theorem fact11_1 : factC 11 1 = true := by decide +kernel
theorem all11 : allLinB 11 = true := by decide +kernel
theorem len11 : (AL 11).length ≤ 5 * 2 := by decide +kernel
theorem fact11 : ∀ o ∈ AL 11, (goodB 11 o && toldB o) = true := fact_of len11 fun i hi => by
  match i, hi with
  | 0, _ => exact fact11_0
  | 1, _ => exact fact11_1
  | i + 2, h => omega
theorem fact12_0 : factC 12 0 = true := by decide +kernel
theorem all12 : allLinB 12 = true := by decide +kernel
theorem len12 : (AL 12).length ≤ 5 * 1 := by decide +kernel
theorem fact12 : ∀ o ∈ AL 12, (goodB 12 o && toldB o) = true := fact_of len12 fun i hi => by
  match i, hi with
  | 0, _ => exact fact12_0
  | i + 1, h => omega
theorem fact_all {n : Nat} (h1 : 2 ≤ n) (h2 : n ≤ 12) : allLinB n = true ∧ ∀ o ∈ AL n, (goodB n o && toldB o) = true := by
  match n, h1, h2 with
  | 2, _, _ => exact ⟨all2, fact2⟩
  | 3, _, _ => exact ⟨all3, fact3⟩
  | 4, _, _ => exact ⟨all4, fact4⟩
  | 5, _, _ => exact ⟨all5, fact5⟩
  | 6, _, _ => exact ⟨all6, fact6⟩
  | 7, _, _ => exact ⟨all7, fact7⟩
  | 8, _, _ => exact ⟨all8, fact8⟩
  | 9, _, _ => exact ⟨all9, fact9⟩
  | 10, _, _ => exact ⟨all10, fact10⟩
  | 11, _, _ => exact ⟨all11, fact11⟩
  | 12, _, _ => exact ⟨all12, fact12⟩
  | n + 13, _, h => omega
end VS

set_option Elab.async false
set_option linter.all false
set_option maxRecDepth 100000
set_option maxHeartbeats 4000000
/-! K 04 c: one lap. -/
namespace VS
open PySem PySem.Spec
theorem pl_int (k : Nat) (i : Int) : D.pl k (.int i) = true := by cases k <;> rfl
theorem pl_bl (k : Nat) (b : Bool) : D.pl k (.bl b) = true := by cases k <;> rfl
theorem pl_row (k n : Nat) (g : Nat → Nat) (h : n ≤ 16777216) : D.pl (k + 1) (rowD n g) = true := by
  show (decide (_ ≤ 16777216) && List.all _ (D.pl k)) = true
  rw [decide_eq_true (by simpa using h), List.all_map]
  simp [pl_int]
theorem pl_tab (k n : Nat) (f : Nat → Nat → Nat) (h : n ≤ 16777216) : D.pl (k + 2) (tabD n f) = true := by
  show (decide (_ ≤ 16777216) && List.all (rows n f) (D.pl (k + 1))) = true
  unfold rows
  rw [decide_eq_true (by simpa using h), List.all_map]
  simp [pl_row k n _ h]
theorem pl_lin (k : Nat) (o : Lin) : D.pl (k + 2) o.D = true := by
  cases o with
  | lin n t => rfl
  | squ m p q r s =>
    show D.pl (k + 2) (squD m p q r s) = true
    simp [squD, D.pl, pl_int]
theorem pl_lst (k : Nat) (l : List D) (h : l.length ≤ 16777216) (ha : ∀ d ∈ l, D.pl k d = true) : D.pl (k + 1) (.lst l) = true := by
  show (decide (_ ≤ 16777216) && List.all _ (D.pl k)) = true
  rw [decide_eq_true h, List.all_eq_true.mpr ha]
  rfl
theorem sp_is_linear_lst (lv : Nat) (l : List D) : callF G (lv + 3) 18 [.fz (.lst l)] = .ok (.fz (.bl false)) [.fz (.lst l)] := by
  have e2 : callF G (lv + 1) 2 [.fz (.lst l), .fz (.int 3)] = .ok (.fz (.bl false)) [.fz (.lst l), .fz (.int 3)] := by
    rw [call_at (fn := f_is_long) rfl rfl]
    simp [f_is_long, catB]
  have e7 : callF G (lv + 2) 7 [.fz (.lst l)] = .ok (.fz (.bl false)) [.fz (.lst l)] := by
    rw [call_at (fn := f_is_linear_in) rfl rfl]
    simp [f_is_linear_in, e2]
  rw [call_at (fn := f_is_linear) rfl rfl]
  simp [f_is_linear, e7]
theorem Lin.beq_eq {a b : Lin} (h : a.beq b = true) : a = b := by
  cases a with
  | lin n t =>
    cases b with
    | lin m s =>
      obtain ⟨h1, h2⟩ := and2 h
      rw [Nat.eq_of_beq_eq_true h1, Nat.eq_of_beq_eq_true h2]
    | squ _ _ _ _ _ => cases h
  | squ m p q r s =>
    cases b with
    | lin _ _ => cases h
    | squ m' p' q' r' s' =>
      obtain ⟨h1, h⟩ := and2 h
      obtain ⟨h2, h⟩ := and2 h
      obtain ⟨h3, h⟩ := and2 h
      obtain ⟨h4, h5⟩ := and2 h
      rw [Nat.eq_of_beq_eq_true h1, Nat.eq_of_beq_eq_true h2, Nat.eq_of_beq_eq_true h3, Nat.eq_of_beq_eq_true h4, Nat.eq_of_beq_eq_true h5]
theorem tabB_ok {n : Nat} {f : Nat → Nat → Nat} (h1 : 1 ≤ n) (h2 : n ≤ 12) (h : tabB n f = true) : Tab n f := by
  obtain ⟨a, h⟩ := and2 h
  obtain ⟨b, h⟩ := and2 h
  obtain ⟨c, d⟩ := and2 h
  refine ⟨h1, h2, fun x y hx hy => Nat.blt_eq.mp (allB_iff (allB_iff b x hx) y hy), fun x hx => Nat.eq_of_beq_eq_true (allB_iff a x hx), fun x y z hx hy hz e => ?_, fun x y z hx hy hz => Nat.eq_of_beq_eq_true (allB_iff (allB_iff (allB_iff d x hx) y hy) z hz)⟩
  rcases Bool.or_eq_true_iff.mp (allB_iff (allB_iff (allB_iff c z hz) x hx) y hy) with q | q
  · exact Nat.eq_of_beq_eq_true q
  · rw [e, Nat.beq_refl] at q
    cases q
/-- what is known of a linear one of n things -/
structure Good (n : Nat) (o : Lin) : Prop where
  ok : o.ok = true
  size : o.size = n
  okc : o.con.ok = true
  sizec : o.con.size = n
  conc : o.con.con = o
  T : Tab n o.F
  B : TBack n o.F o.con.F
  cl : ∀ a b c, a < n → b < n → c < n → ∃ d, d < n ∧ o.F (o.F a b) c = o.F a d
  len : ∀ a, a < n → (partR n o.F a).length = (partR n o.F 0).length
  med : n < 8 → ∀ a b c d, a < n → b < n → c < n → d < n → o.F (o.F a b) (o.F c d) = o.F (o.F a c) (o.F b d)
  sure : callF G 17 8 [.fz o.D] = .ok (.fz o.D) [.fz o.D]
  is : callF G 18 18 [.fz o.D] = .ok (.fz (.bl true)) [.fz o.D]
  con : callF G 18 23 [.fz o.D] = .ok (.fz o.con.D) [.fz o.D]
  surec : callF G 17 8 [.fz o.con.D] = .ok (.fz o.con.D) [.fz o.con.D]
  con2 : callF G 18 23 [.fz o.con.D] = .ok (.fz o.D) [.fz o.con.D]
  isc : callF G 18 18 [.fz o.con.D] = .ok (.fz (.bl true)) [.fz o.con.D]
  parts : callF G 18 21 [.fz o.D] = .ok (.fz (.int (cnt o : Nat))) [.fz o.D]
  com : commonB o = true
theorem good_of {n : Nat} {o : Lin} (h1 : 2 ≤ n) (h2 : n ≤ 12) (h : (goodB n o && toldB o) = true) : Good n o := by
  obtain ⟨g, t⟩ := and2 h
  obtain ⟨g0, g⟩ := and2 g
  obtain ⟨a1, g0⟩ := and2 g0
  obtain ⟨a2, g0⟩ := and2 g0
  obtain ⟨a3, g0⟩ := and2 g0
  obtain ⟨a4, a5⟩ := and2 g0
  obtain ⟨b1, g⟩ := and2 g
  obtain ⟨b2, g⟩ := and2 g
  obtain ⟨b3, g⟩ := and2 g
  obtain ⟨b4, b5⟩ := and2 g
  obtain ⟨t1, t⟩ := and2 t
  obtain ⟨t2, t⟩ := and2 t
  obtain ⟨t3, t⟩ := and2 t
  obtain ⟨t4, t⟩ := and2 t
  obtain ⟨t5, t⟩ := and2 t
  obtain ⟨t6, t⟩ := and2 t
  obtain ⟨t7, t8⟩ := and2 t
  refine ⟨a1, Nat.eq_of_beq_eq_true a2, a3, Nat.eq_of_beq_eq_true a4, Lin.beq_eq a5, tabB_ok (by omega) h2 b1, ⟨fun x y hx hy => ?_, fun x y hx hy => ?_⟩, fun a b c ha hb hc => ?_, fun a ha => Nat.eq_of_beq_eq_true (allB_iff b4 a ha), fun h8 a b c d ha hb hc hd => ?_, resB_ok t1, resB_ok t2, resB_ok t3, resB_ok t4, resB_ok t5, resB_ok t6, resB_ok t7, t8⟩
  · exact Nat.blt_eq.mp (and2 (allB_iff (allB_iff b2 x hx) y hy)).1
  · exact Nat.eq_of_beq_eq_true (and2 (allB_iff (allB_iff b2 x hx) y hy)).2
  · obtain ⟨d, hd, e⟩ := anyN_iff (allB_iff (allB_iff (allB_iff b3 a ha) b hb) c hc)
    exact ⟨d, hd, Nat.eq_of_beq_eq_true e⟩
  · rcases Bool.or_eq_true_iff.mp b5 with q | q
    · have := Nat.ble_eq.mp q
      omega
    · exact Nat.eq_of_beq_eq_true (allB_iff (allB_iff (allB_iff (allB_iff q a ha) b hb) c hc) d hd)
theorem Good.pos {n : Nat} {o : Lin} (g : Good n o) : 0 < (partR n o.F 0).length := by
  refine List.length_pos_of_mem (a := ((0 : Nat) : Int)) ?_
  unfold partR
  refine List.mem_map.mpr ⟨0, List.mem_filter.mpr ⟨List.mem_range.mpr (by have := g.T.pos; omega), ?_⟩, rfl⟩
  exact stepB_iff.mpr ⟨0, by have := g.T.pos; omega, g.T.idem 0 (by have := g.T.pos; omega)⟩
theorem eqvs_ints {α : Type} (g : α → Int) : ∀ l : List α, D.eqvs (l.map fun x => .int (g x)) (l.map fun x => .int (g x)) = true
  | [] => rfl
  | a :: l => by
    show ((g a == g a) && D.eqvs (l.map fun x => .int (g x)) (l.map fun x => .int (g x))) = true
    rw [eqvs_ints g l, beq_self_eq_true]
    rfl
theorem oks_ints {α : Type} (n : Nat) (g : α → Int) : ∀ l : List α, (l.map fun x => D.int (g x)).all (D.ok n) = true
  | [] => rfl
  | a :: l => by
    show (D.ok n (.int (g a)) && (l.map fun x => D.int (g x)).all (D.ok n)) = true
    rw [oks_ints n g l]
    cases n <;> rfl
theorem eq_ints {α : Type} (g : α → Int) (l : List α) : cmpD .eq (.tup (l.map fun x => .int (g x))) (.tup (l.map fun x => .int (g x))) = some true := by
  show D.eqD _ _ = _
  unfold D.eqD
  have e : D.ok 40 (.tup (l.map fun x => .int (g x))) = true := oks_ints 39 g l
  rw [e]
  show some (D.eqvs _ _) = _
  rw [eqvs_ints]
theorem eq_row (n : Nat) (g : Nat → Nat) : cmpD .eq (rowD n g) (rowD n g) = some true := eq_ints (fun b => ((g b : Nat) : Int)) (List.range n)
/-- the rest of a lap: everything behind the drawn one -/
def lapRest : List Sm := f_law_lap_one.body.drop 4
theorem lap_rest (n b : Nat) (o : Lin) (t : Tin) (L : List D) (h2 : 2 ≤ n) (hn : n ≤ 12) (g : Good n o) (T : TOk b t) (hb : b < 100000000) : ∃ (t' : Tin) (ρ' : Env), TOk (b + 2) t' ∧ evB (callF G 18) lapRest [.le (tinD t), .fz (.int (n : Nat)), .fz (.lst L), .fz o.D, .un, .un, .un, .un, .un] = .rt (.fz (.bl true)) (.le (tinD t') :: ρ') := by
  have hd1 := draw_lt (t := t) (k := n) (by omega)
  have hd2 := draw_lt (t := takeT t n) (k := n) (by omega)
  have T1 := T.take n
  have e43a := sp_take 17 b n t T (by omega) (by omega) (by omega)
  have e43b := sp_take 17 (b + 1) n (takeT t n) T1 (by omega) (by omega) (by omega)
  have e18l := sp_is_linear_lst 15
  have e19 : callF G 18 19 [.fz o.D] = .ok (.fz (tabD n o.F)) [.fz o.D] := by
    have := sp_linear_table 14 o g.ok g.sure
    rwa [g.size] at this
  have e19c : callF G 18 19 [.fz o.con.D] = .ok (.fz (tabD n o.con.F)) [.fz o.con.D] := by
    have := sp_linear_table 14 o.con g.okc g.surec
    rwa [g.sizec] at this
  have e32 := sp_is_table 13 n o.F g.T
  have e35 := sp_contrary 12 n o.F o.con.F g.T g.B
  have e20 := sp_linear_turned 14 (draw t n) (draw (takeT t n) n) o g.ok (by rw [g.size]; exact hd1) (by rw [g.size]; exact hd2) g.sure
  have e41 : n < 8 → callF G 18 41 [.fz (tabD n o.F)] = .ok (.fz (.bl true)) [.fz (tabD n o.F)] := fun h => sp_is_crosswise 12 n o.F g.T (g.med h)
  have e39 := sp_parts 12 n _ o.F g.T g.cl g.pos g.len
  have e40 := sp_hangs 12 n _ o.F g.T g.cl g.pos g.len
  have ec : (sortT (partsR n o.F)).length = cnt o := by unfold cnt; rw [g.size]
  rw [ec] at e40
  have e34 := sp_column 12 n 0 o.F g.T (by omega)
  have s1 : callF G 18 46 [.fz (.lst [.bl true, .bl false, tabD n o.F, .bl true, tabD n o.con.F]), .fz (.lst [.bl true, .bl false, tabD n o.F, .bl true, tabD n o.con.F])] = .ok (.fz (.bl true)) _ :=
    sp_same 12 5 _ (pl_lst 4 _ (by simp) (by simp [pl_bl, pl_tab 2 n _ (show n ≤ 16777216 by omega)]))
  have s2 : callF G 18 46 [.fz (.lst [.int (o.F (draw t n) (draw (takeT t n) n) : Nat), o.D, .bl true]), .fz (.lst [.int (o.F (draw t n) (draw (takeT t n) n) : Nat), o.D, .bl true])] = .ok (.fz (.bl true)) _ :=
    sp_same 14 3 _ (pl_lst 2 _ (by simp) (by simp [pl_bl, pl_int, pl_lin 0]))
  have s3 : callF G 18 46 [.fz (.lst [.int (cnt o : Nat), .bl (decide (((cnt o : Nat) : Int) = 1))]), .fz (.lst [.int (cnt o : Nat), .bl (decide (((cnt o : Nat) : Int) = 1))])] = .ok (.fz (.bl true)) _ :=
    sp_same 14 3 _ (pl_lst 2 _ (by simp) (by simp [pl_bl, pl_int]))
  have e34 : callF G 18 34 [.fz (tabD n o.F), .fz (.int 0)] = .ok (.fz (rowD n fun k => o.F k 0)) [.fz (tabD n o.F), .fz (.int 0)] := e34
  simp only [Nat.reduceAdd] at e43a e43b e18l e32 e35 e20 e39 e40
  cases o with
  | lin n' t' =>
    have en : n' = n := g.size
    subst en
    have e47 := sp_law_linear 17 n' t' g.ok
    refine ⟨takeT (takeT t n') n', [.fz (.int (n' : Nat)), .fz (.lst L), .fz (Lin.lin n' t').D, .fz (tabD n' (Lin.lin n' t').F), .fz (.int (draw t n' : Nat)), .fz (.int (draw (takeT t n') n' : Nat)), .fz (.int (cnt (.lin n' t') : Nat)), .un], T1.take n', ?_⟩
    have i0 : ixD (Lin.lin n' t').D (.int 0) = some (.str "linear") := rfl
    have i1 : ixD (Lin.lin n' t').D (.int 1) = some (.int (n' : Nat)) := rfl
    have i2 : ixD (Lin.lin n' t').D (.int 2) = some (.int (t' : Nat)) := rfl
    have il : lstF (Lin.lin n' t').D = some (.fr (.lst [.str "linear", .int (n' : Nat), .int (t' : Nat)])) := rfl
    have e49 : callF G 18 49 [.fz (.int (n' : Nat)), .fz (.int ((1 - (t' : Nat)) % (n' : Nat)))] = .ok (.fz (.int (cnt (.lin n' t') : Nat))) _ := resB2_ok g.com
    have hz : Tab n' (Lin.lin n' t').F := g.T
    have ht := (Lin.ok_lin g.ok).2.2
    have f1 : fitB (t' : Int) = true := fitB_nat (by omega) (by omega)
    have p0 : 0 < n' := by omega
    have er : cmpD .eq (rowD n' fun k => (Lin.lin n' t').F k 0) (.tup ((List.range n').map fun k => .int ((Lin.lin n' t').F k 0 : Nat))) = some true := eq_row n' _
    have hk : ∀ k : Nat, ((t' : Int) * k % n') = ((Lin.lin n' t').F k 0 : Nat) := fun k => by
      have := lin_law n' t' k 0 ht
      simpa using this
    simp [lapRest, f_law_lap_one, i0, i1, i2, il, e47, g.is, e18l, e19, e32, g.con, e19c, e35, s1, e43a, e43b, e20, g.con2, g.isc, ix_tab hd1, ix_row hd2, s2]
    have go : (if (n' : Int) < 8 then True else True) := by split <;> trivial
    by_cases h8 : n' < 8
    · have h8' : (n' : Int) < 8 := by omega
      simp [h8', e41 h8, e39, ec, g.parts, e40, s3, i0, i2, e49, e34, p0, ik_rng (n := n') (by omega), nats]
      rw [compD_mapM (fun k => .int ((Lin.lin n' t').F k 0 : Nat))]
      · simp [er]
      · rfl
      · intro k hk'
        simp [i2, f1, p0, hk]
      · simp; omega
    · have h8' : ¬ (n' : Int) < 8 := by omega
      simp [h8', e39, ec, g.parts, e40, s3, i0, i2, e49, e34, p0, ik_rng (n := n') (by omega), nats]
      rw [compD_mapM (fun k => .int ((Lin.lin n' t').F k 0 : Nat))]
      · simp [er]
      · rfl
      · intro k hk'
        simp [i2, f1, p0, hk]
      · simp; omega
  | squ m p q r s =>
    have en : m * m = n := g.size
    have e48 := sp_law_pairs 17 m p q r s g.ok
    simp only [Nat.reduceAdd, en] at e48
    refine ⟨takeT (takeT t n) n, [.fz (.int (n : Nat)), .fz (.lst L), .fz (Lin.squ m p q r s).D, .fz (tabD n (Lin.squ m p q r s).F), .fz (.int (draw t n : Nat)), .fz (.int (draw (takeT t n) n : Nat)), .fz (.int (cnt (.squ m p q r s) : Nat)), .un], T1.take n, ?_⟩
    have i0 : ixD (Lin.squ m p q r s).D (.int 0) = some (.str "square") := rfl
    have i1 : ixD (Lin.squ m p q r s).D (.int 1) = some (.int (m : Nat)) := rfl
    have i2 : ixD (Lin.squ m p q r s).D (.int 2) = some (.tup [.int (p : Nat), .int (q : Nat), .int (r : Nat), .int (s : Nat)]) := rfl
    have il : lstF (Lin.squ m p q r s).D = some (.fr (.lst [.str "square", .int (m : Nat), .tup [.int (p : Nat), .int (q : Nat), .int (r : Nat), .int (s : Nat)]])) := rfl
    have p0 : 0 < n := by omega
    have z0 : (Lin.squ m p q r s).F 0 0 = 0 := g.T.idem 0 p0
    have ir : ixD (rowD n fun k => (Lin.squ m p q r s).F k 0) (.int 0) = some (.int 0) := by
      have := ix_row (n := n) (b := 0) (g := fun k => (Lin.squ m p q r s).F k 0) p0
      rw [z0] at this
      exact this
    simp [lapRest, f_law_lap_one, i0, i1, i2, il, e48, sq_ne, g.is, e18l, e19, e32, g.con, e19c, e35, s1, e43a, e43b, e20, g.con2, g.isc, ix_tab hd1, ix_row hd2, s2]
    by_cases h8 : n < 8
    · have h8' : (n : Int) < 8 := by omega
      simp [h8', e41 h8, e39, ec, g.parts, e40, s3, i0, i2, sq_ne, e34, p0, ir]
    · have h8' : ¬ (n : Int) < 8 := by omega
      simp [h8', e39, ec, g.parts, e40, s3, i0, i2, sq_ne, e34, p0, ir]
end VS

set_option Elab.async false
set_option linter.all false
set_option maxRecDepth 100000
set_option maxHeartbeats 4000000
/-! K 04 d: a lap; the law. -/
namespace VS
open PySem PySem.Spec
theorem evB_app (cl : Cl) (b : List Sm) : ∀ (a : List Sm) (ρ : Env), evB cl (a ++ b) ρ = flB (evB cl a ρ) (evB cl b)
  | [], ρ => rfl
  | s :: a, ρ => by
    show mSeq (evS cl s) (evB cl (a ++ b)) ρ = flB (mSeq (evS cl s) (evB cl a) ρ) (evB cl b)
    rw [mSeq_ap, mSeq_ap]
    cases evS cl s ρ with
    | nx ρ' => exact evB_app cl b a ρ'
    | _ => rfl
theorem sp_lap (b : Nat) (t : Tin) (T : TOk b t) (hb : b < 10000000) : ∃ t' : Tin, TOk (b + 4) t' ∧ callF G 19 300 [.le (tinD t)] = .ok (.fz (.bl true)) [.le (tinD t')] := by
  have hd := draw_lt (t := t) (k := 11) (by omega)
  obtain ⟨n, hn⟩ : ∃ n, n = 2 + draw t 11 := ⟨_, rfl⟩
  have h2 : 2 ≤ n := by omega
  have h12 : n ≤ 12 := by omega
  have en : (2 : Int) + (draw t 11 : Nat) = (n : Nat) := by omega
  obtain ⟨fa, fo⟩ := fact_all h2 h12
  obtain ⟨fa, fne⟩ := and2 fa
  obtain ⟨fa1, fa2⟩ := and2 fa
  have e22 := resB_ok fa1
  have e50 := resB_ok fa2
  have T1 := T.take 11
  have hlen : 0 < ((AL n).map Lin.D).length := by
    rw [List.length_map]
    cases e : AL n with
    | nil => rw [e] at fne; cases fne
    | cons _ _ => exact Nat.succ_pos _
  have hbig : ((AL n).map Lin.D).length ≤ 100 := by
    rw [List.length_map]
    have : ∀ k, 2 ≤ k → k ≤ 12 → (AL k).length ≤ 100 := fun k a b => by
      match k, a, b with
      | 2, _, _ => decide +kernel
      | 3, _, _ => decide +kernel
      | 4, _, _ => decide +kernel
      | 5, _, _ => decide +kernel
      | 6, _, _ => decide +kernel
      | 7, _, _ => decide +kernel
      | 8, _, _ => decide +kernel
      | 9, _, _ => decide +kernel
      | 10, _, _ => decide +kernel
      | 11, _, _ => decide +kernel
      | 12, _, _ => decide +kernel
      | k + 13, _, h => omega
    exact this n h2 h12
  have hd2 := draw_lt (t := takeT t 11) (k := ((AL n).map Lin.D).length) hlen
  obtain ⟨o, ho, ed⟩ : ∃ o, o ∈ AL n ∧ ((AL n).map Lin.D)[draw (takeT t 11) ((AL n).map Lin.D).length]? = some o.D := by
    have h := List.getElem?_eq_getElem hd2
    rw [List.getElem_map] at h
    exact ⟨_, List.getElem_mem _, h⟩
  have g : Good n o := good_of h2 h12 (fo o ho)
  have e43 : callF G 18 43 [.le (tinD t), .fz (.int 11)] = .ok (.fz (.int (draw t 11 : Nat))) [.le (tinD (takeT t 11)), .fz (.int 11)] := sp_take 17 b 11 t T (by omega) (by omega) (by omega)
  have e45 : callF G 18 45 [.le (tinD (takeT t 11)), .fz (.lst ((AL n).map Lin.D))] = _ := sp_of 16 (b + 1) (takeT t 11) _ o.D T1 (by omega) hlen (by omega) ed
  have s1 : callF G 18 46 [.fz (.lst ((AL n).map Lin.D)), .fz (.lst ((AL n).map Lin.D))] = .ok (.fz (.bl true)) _ := sp_same 14 3 _ (pl_lst 2 _ (by omega) fun d hd => by
    obtain ⟨o, _, rfl⟩ := List.mem_map.mp hd
    exact pl_lin 0 o)
  obtain ⟨t', ρ', T', e⟩ := lap_rest n (b + 2) o (takeT (takeT t 11) ((AL n).map Lin.D).length) ((AL n).map Lin.D) h2 h12 g (T1.take _) (by omega)
  refine ⟨t', T', ?_⟩
  rw [call_at (fn := f_law_lap_one) rfl rfl]
  have split : f_law_lap_one.body = f_law_lap_one.body.take 4 ++ lapRest := (List.take_append_drop 4 _).symm
  rw [split, evB_app]
  have first : evB (callF G 18) (f_law_lap_one.body.take 4) [.le (tinD t), .un, .un, .un, .un, .un, .un, .un, .un] = .nx [.le (tinD (takeT (takeT t 11) ((AL n).map Lin.D).length)), .fz (.int (n : Nat)), .fz (.lst ((AL n).map Lin.D)), .fz o.D, .un, .un, .un, .un, .un] := by
    simp only [f_law_lap_one, List.take]
    simp [e43, en, e50, e22, s1, e45]
  have first' : evB (callF G 18) (f_law_lap_one.body.take 4) ([.le (tinD t)] ++ List.replicate (f_law_lap_one.ns - f_law_lap_one.np) .un) = _ := first
  rw [first', flB_nx, e]
  simp
def bads : List D := [.non, .int 5, .tup [], .tup [.str "linear", .int 3], .tup [.str "linear", .int 3, .int 0], .tup [.str "linear", .int 3, .int 3], .tup [.str "linear", .int 4, .int 2], .tup [.str "linear", .int 13, .int 2], .tup [.str "linear", .int 1, .int 1], .tup [.str "linear", .int 3, .bl true],
  .tup [.str "square", .int 4, .tup [.int 1, .int 0, .int 0, .int 1]], .tup [.str "square", .int 2, .tup [.int 1, .int 1, .int 1, .int 1]], .tup [.str "square", .int 2, .tup [.int 1, .int 0, .int 0]], .tup [.str "square", .int 2, .tup [.int 1, .int 0, .int 0, .int 2]], .tup [.str "lines", .int 3, .int 2]]
theorem bads_no : (bads.all fun d => resB (callF G 19 18 [.fz d]) d (.bl false)) = true := by decide +kernel
theorem ends_ok : (resB (callF G 19 21 [.fz (linD 9 4)]) (linD 9 4) (.int 3) && (resB (callF G 19 21 [.fz (linD 8 1)]) (linD 8 1) (.int 8) && (resB (callF G 19 21 [.fz (squD 2 0 1 1 0)]) (squD 2 0 1 1 0) (.int 2) && (resB (callF G 19 21 [.fz (squD 3 1 0 0 1)]) (squD 3 1 0 0 1) (.int 9) &&
  resB (callF G 19 22 [.fz (.int 9)]) (.int 9) (.lst ((AL 9).map Lin.D)))))) = true := by decide +kernel
theorem al9 : (AL 9).length = 54 := by decide +kernel
theorem sp_law (ns : List Int) : callF G 20 301 [.fz (.scr ns)] = .ok (.fz (.bl true)) [.fz (.scr ns)] := by
  rw [call_at (fn := f_law) rfl rfl]
  obtain ⟨c, e44⟩ := sp_cells 18 ns
  obtain ⟨t, T, e42⟩ := sp_box 18 c
  simp only [Nat.reduceAdd] at e44 e42
  obtain ⟨e1, q⟩ := and2 ends_ok
  obtain ⟨e2, q⟩ := and2 q
  obtain ⟨e3, q⟩ := and2 q
  obtain ⟨e4, e5⟩ := and2 q
  have e1 : callF G 19 21 [.fz (.tup [.str "linear", .int 9, .int 4])] = .ok (.fz (.int 3)) [.fz (.tup [.str "linear", .int 9, .int 4])] := resB_ok e1
  have e2 : callF G 19 21 [.fz (.tup [.str "linear", .int 8, .int 1])] = .ok (.fz (.int 8)) [.fz (.tup [.str "linear", .int 8, .int 1])] := resB_ok e2
  have e3 : callF G 19 21 [.fz (.tup [.str "square", .int 2, .tup [.int 0, .int 1, .int 1, .int 0]])] = .ok (.fz (.int 2)) [.fz (.tup [.str "square", .int 2, .tup [.int 0, .int 1, .int 1, .int 0]])] := resB_ok e3
  have e4 : callF G 19 21 [.fz (.tup [.str "square", .int 3, .tup [.int 1, .int 0, .int 0, .int 1]])] = .ok (.fz (.int 9)) [.fz (.tup [.str "square", .int 3, .tup [.int 1, .int 0, .int 0, .int 1]])] := resB_ok e4
  have e5 : callF G 19 22 [.fz (.int 9)] = .ok (.fz (.lst ((AL 9).map Lin.D))) [.fz (.int 9)] := resB_ok e5
  have r15 : rgOk 15 = true := rfl
  have hik : ikD .rng [.int 5] = some (nats 5) := ik_rng (n := 5) (by omega)
  simp only [f_law]
  simp [e44, e42, hik]
  refine forD_n (K := fun x => fin _ (flB x _) = _) (fun k ρ => ∃ t s2, ρ = [.fz (.scr ns), .ow (tinD t), s2, .un, .un, .un] ∧ s2.fixd = false ∧ TOk (4 * k) t) ⟨t, _, rfl, rfl, T⟩ (fun k hk ρ ⟨t, s2, e, g2, T⟩ => by
    subst e
    obtain ⟨t', T', el⟩ := sp_lap (4 * k) t T (by omega)
    refine ⟨[.fz (.scr ns), .ow (tinD t), .fz (.int (k : Nat)), .un, .un, .un], by simp [g2], [.fz (.scr ns), .ow (tinD t'), .fz (.int (k : Nat)), .un, .un, .un], .inl ?_, t', _, rfl, rfl, T'⟩
    simp [el]) fun ρ' ⟨t, s2, e, g2, T⟩ => ?_
  subst e
  simp
  rw [compD_map (e := fun _ => .bl false)]
  · have sm : callF G 19 46 [.fz (.lst (List.replicate 15 (.bl false) ++ [.int 3, .int 8, .int 2, .int 9, .int 54])), .fz (.lst (List.replicate 15 (.bl false) ++ [.int 3, .int 8, .int 2, .int 9, .int 54]))] = .ok (.fz (.bl true)) _ := sp_same 16 2 _ (by decide +kernel)
    simp [List.replicate] at sm
    simp [e1, e2, e3, e4, e5, al9, r15, List.replicate, sm]
  · rfl
  · intro d hd
    have := resB_ok (List.all_eq_true.mp bads_no d hd)
    simp [this]
  · simp
end VS

set_option Elab.async false
set_option linter.all false
set_option maxRecDepth 100000
set_option maxHeartbeats 0
/-! the head, the table, the end. -/
namespace VS
open PySem PySem.Spec PyProof.Rows L2
def topS (i : Nat) : Stmt := PySem.Challenge.pw_eachturnsall_k04_main_linear_tables.main.body.getD i (.Pass ⟨0, 0, 0, 0⟩)
def hd0 : He.DefD := ⟨("is_number", none), "is_number", "is_number", defArgs (topS 3), defBody (topS 3), defScope (topS 3), [], []⟩
def hd1 : He.DefD := ⟨("is_within", none), "is_within", "is_within", defArgs (topS 4), defBody (topS 4), defScope (topS 4), [], []⟩
def hd2 : He.DefD := ⟨("is_long", none), "is_long", "is_long", defArgs (topS 5), defBody (topS 5), defScope (topS 5), [], []⟩
def hd3 : He.DefD := ⟨("are_numbers", none), "are_numbers", "are_numbers", defArgs (topS 6), defBody (topS 6), defScope (topS 6), [], []⟩
def hd4 : He.DefD := ⟨("tupled", none), "tupled", "tupled", defArgs (topS 7), defBody (topS 7), defScope (topS 7), [], []⟩
def hd5 : He.DefD := ⟨("sure_within", none), "sure_within", "sure_within", defArgs (topS 8), defBody (topS 8), defScope (topS 8), [], []⟩
def hd6 : He.DefD := ⟨("common_of", none), "common_of", "common_of", defArgs (topS 11), defBody (topS 11), defScope (topS 11), [], []⟩
def hd7 : He.DefD := ⟨("is_linear_in", none), "is_linear_in", "is_linear_in", defArgs (topS 12), defBody (topS 12), defScope (topS 12), [], []⟩
def hd8 : He.DefD := ⟨("sure_linear", none), "sure_linear", "sure_linear", defArgs (topS 13), defBody (topS 13), defScope (topS 13), [], []⟩
def hd9 : He.DefD := ⟨("size_in", none), "size_in", "size_in", defArgs (topS 14), defBody (topS 14), defScope (topS 14), [], []⟩
def hd10 : He.DefD := ⟨("matrix_in", none), "matrix_in", "matrix_in", defArgs (topS 15), defBody (topS 15), defScope (topS 15), [], []⟩
def hd11 : He.DefD := ⟨("by_rows", none), "by_rows", "by_rows", defArgs (topS 16), defBody (topS 16), defScope (topS 16), [], []⟩
def hd12 : He.DefD := ⟨("vector_in", none), "vector_in", "vector_in", defArgs (topS 17), defBody (topS 17), defScope (topS 17), [], []⟩
def hd13 : He.DefD := ⟨("thing_of", none), "thing_of", "thing_of", defArgs (topS 18), defBody (topS 18), defScope (topS 18), [], []⟩
def hd14 : He.DefD := ⟨("turned_in", none), "turned_in", "turned_in", defArgs (topS 19), defBody (topS 19), defScope (topS 19), [], []⟩
def hd15 : He.DefD := ⟨("table_in", none), "table_in", "table_in", defArgs (topS 20), defBody (topS 20), defScope (topS 20), [], []⟩
def hd16 : He.DefD := ⟨("parts_count_in", none), "parts_count_in", "parts_count_in", defArgs (topS 21), defBody (topS 21), defScope (topS 21), [], []⟩
def hd17 : He.DefD := ⟨("all_linears_in", none), "all_linears_in", "all_linears_in", defArgs (topS 22), defBody (topS 22), defScope (topS 22), [], []⟩
def hd18 : He.DefD := ⟨("is_linear", none), "is_linear", "is_linear", defArgs (topS 23), defBody (topS 23), defScope (topS 23), [], []⟩
def hd19 : He.DefD := ⟨("linear_table", none), "linear_table", "linear_table", defArgs (topS 24), defBody (topS 24), defScope (topS 24), [], []⟩
def hd20 : He.DefD := ⟨("linear_turned", none), "linear_turned", "linear_turned", defArgs (topS 25), defBody (topS 25), defScope (topS 25), [], []⟩
def hd21 : He.DefD := ⟨("linear_parts", none), "linear_parts", "linear_parts", defArgs (topS 26), defBody (topS 26), defScope (topS 26), [], []⟩
def hd22 : He.DefD := ⟨("all_linears", none), "all_linears", "all_linears", defArgs (topS 27), defBody (topS 27), defScope (topS 27), [], []⟩
def hd23 : He.DefD := ⟨("linear_contrary", none), "linear_contrary", "linear_contrary", defArgs (topS 28), defBody (topS 28), defScope (topS 28), [], []⟩
def hd24 : He.DefD := ⟨("is_square_in", none), "is_square_in", "is_square_in", defArgs (topS 31), defBody (topS 31), defScope (topS 31), [], []⟩
def hd25 : He.DefD := ⟨("column_in", none), "column_in", "column_in", defArgs (topS 32), defBody (topS 32), defScope (topS 32), [], []⟩
def hd26 : He.DefD := ⟨("first_flaw", none), "first_flaw", "first_flaw", defArgs (topS 33), defBody (topS 33), defScope (topS 33), [], []⟩
def hd27 : He.DefD := ⟨("flaw_in", none), "flaw_in", "flaw_in", defArgs (topS 34), defBody (topS 34), defScope (topS 34), [], []⟩
def hd28 : He.DefD := ⟨("is_table_in", none), "is_table_in", "is_table_in", defArgs (topS 35), defBody (topS 35), defScope (topS 35), [], []⟩
def hd29 : He.DefD := ⟨("sure_table", none), "sure_table", "sure_table", defArgs (topS 36), defBody (topS 36), defScope (topS 36), [], []⟩
def hd30 : He.DefD := ⟨("back_in", none), "back_in", "back_in", defArgs (topS 37), defBody (topS 37), defScope (topS 37), [], []⟩
def hd31 : He.DefD := ⟨("contrary_in", none), "contrary_in", "contrary_in", defArgs (topS 38), defBody (topS 38), defScope (topS 38), [], []⟩
def hd32 : He.DefD := ⟨("is_table", none), "is_table", "is_table", defArgs (topS 39), defBody (topS 39), defScope (topS 39), [], []⟩
def hd33 : He.DefD := ⟨("sure_thing", none), "sure_thing", "sure_thing", defArgs (topS 40), defBody (topS 40), defScope (topS 40), [], []⟩
def hd34 : He.DefD := ⟨("column", none), "column", "column", defArgs (topS 41), defBody (topS 41), defScope (topS 41), [], []⟩
def hd35 : He.DefD := ⟨("contrary", none), "contrary", "contrary", defArgs (topS 42), defBody (topS 42), defScope (topS 42), [], []⟩
def hd36 : He.DefD := ⟨("part_in", none), "part_in", "part_in", defArgs (topS 44), defBody (topS 44), defScope (topS 44), [], []⟩
def hd37 : He.DefD := ⟨("parts_in", none), "parts_in", "parts_in", defArgs (topS 45), defBody (topS 45), defScope (topS 45), [], []⟩
def hd38 : He.DefD := ⟨("is_crosswise_in", none), "is_crosswise_in", "is_crosswise_in", defArgs (topS 46), defBody (topS 46), defScope (topS 46), [], []⟩
def hd39 : He.DefD := ⟨("parts", none), "parts", "parts", defArgs (topS 47), defBody (topS 47), defScope (topS 47), [], []⟩
def hd40 : He.DefD := ⟨("hangs_together", none), "hangs_together", "hangs_together", defArgs (topS 48), defBody (topS 48), defScope (topS 48), [], []⟩
def hd41 : He.DefD := ⟨("is_crosswise", none), "is_crosswise", "is_crosswise", defArgs (topS 49), defBody (topS 49), defScope (topS 49), [], []⟩
def hd42 : He.DefD := ⟨("_law_box", none), "_law_box", "_law_box", defArgs (topS 51), defBody (topS 51), defScope (topS 51), [], []⟩
def hd43 : He.DefD := ⟨("_law_take", none), "_law_take", "_law_take", defArgs (topS 52), defBody (topS 52), defScope (topS 52), [], []⟩
def hd44 : He.DefD := ⟨("_law_cells", none), "_law_cells", "_law_cells", defArgs (topS 53), defBody (topS 53), defScope (topS 53), [], []⟩
def hd45 : He.DefD := ⟨("_law_of", none), "_law_of", "_law_of", defArgs (topS 54), defBody (topS 54), defScope (topS 54), [], []⟩
def hd46 : He.DefD := ⟨("_law_same", none), "_law_same", "_law_same", defArgs (topS 55), defBody (topS 55), defScope (topS 55), [], []⟩
def hd47 : He.DefD := ⟨("_law_linear", none), "_law_linear", "_law_linear", defArgs (topS 56), defBody (topS 56), defScope (topS 56), [], []⟩
def hd48 : He.DefD := ⟨("_law_pairs", none), "_law_pairs", "_law_pairs", defArgs (topS 57), defBody (topS 57), defScope (topS 57), [], []⟩
def hd49 : He.DefD := ⟨("_law_common", none), "_law_common", "_law_common", defArgs (topS 58), defBody (topS 58), defScope (topS 58), [], []⟩
def hd50 : He.DefD := ⟨("_law_all", none), "_law_all", "_law_all", defArgs (topS 59), defBody (topS 59), defScope (topS 59), [], []⟩
def hd51 : He.DefD := ⟨("_law_lap_one", none), "_law_lap_one", "_law_lap_one", defArgs (topS 60), defBody (topS 60), defScope (topS 60), [], []⟩
def hd52 : He.DefD := ⟨("law", none), "law", "law", defArgs (topS 61), defBody (topS 61), defScope (topS 61), [], []⟩
def hfa0 : List He.Fa := [.glo "is_number", .glo "is_within", .glo "is_long", .glo "are_numbers", .glo "tupled", .glo "sure_within", .glo "common_of", .glo "is_linear_in", .glo "sure_linear", .glo "size_in", .glo "matrix_in", .glo "by_rows", .glo "vector_in", .glo "thing_of", .glo "turned_in", .glo "table_in", .glo "parts_count_in", .glo "all_linears_in", .glo "is_linear", .glo "linear_table", .glo "linear_turned", .glo "linear_parts", .glo "all_linears", .glo "linear_contrary", .glo "is_square_in", .glo "column_in", .glo "first_flaw", .glo "flaw_in", .glo "is_table_in", .glo "sure_table"]
def hfa1 : List He.Fa := [.glo "back_in", .glo "contrary_in", .glo "is_table", .glo "sure_thing", .glo "column", .glo "contrary", .glo "part_in", .glo "parts_in", .glo "is_crosswise_in", .glo "parts", .glo "hangs_together", .glo "is_crosswise", .glo "_law_box", .glo "_law_take", .glo "_law_cells", .glo "_law_of", .glo "_law_same", .glo "_law_linear", .glo "_law_pairs", .glo "_law_common", .glo "_law_all", .glo "_law_lap_one", .glo "law", .free "len", .free "abs", .free "int", .free "bool", .free "str", .free "tuple", .free "list"]
def hfa2 : List He.Fa := [.free "sorted", .free "sum", .free "min", .free "max", .free "all", .free "any", .free "range", .free "isinstance", .free "zip", .free "enumerate", .free "set", .int "MOST_THINGS_linear" 12, .int "MOST_THINGS_tables" 12]
def hfa : List He.Fa := hfa0 ++ hfa1 ++ hfa2
def hfn0 : List He.DefD := [hd0, hd1, hd2, hd3, hd4, hd5, hd6, hd7, hd8, hd9, hd10, hd11, hd12, hd13, hd14, hd15, hd16, hd17, hd18, hd19, hd20, hd21, hd22, hd23, hd24, hd25, hd26, hd27, hd28, hd29]
def hfn1 : List He.DefD := [hd30, hd31, hd32, hd33, hd34, hd35, hd36, hd37, hd38, hd39, hd40, hd41, hd42, hd43, hd44, hd45, hd46, hd47, hd48, hd49, hd50, hd51, hd52]
def hfn : List He.DefD := hfn0 ++ hfn1
def hnm0 : List PySem.Str := ["is_number", "is_within", "is_long", "are_numbers", "tupled", "sure_within", "common_of", "is_linear_in", "sure_linear", "size_in", "matrix_in", "by_rows", "vector_in", "thing_of", "turned_in", "table_in", "parts_count_in", "all_linears_in", "is_linear", "linear_table", "linear_turned", "linear_parts", "all_linears", "linear_contrary", "is_square_in", "column_in", "first_flaw", "flaw_in", "is_table_in", "sure_table"]
def hnm1 : List PySem.Str := ["back_in", "contrary_in", "is_table", "sure_thing", "column", "contrary", "part_in", "parts_in", "is_crosswise_in", "parts", "hangs_together", "is_crosswise", "_law_box", "_law_take", "_law_cells", "_law_of", "_law_same", "_law_linear", "_law_pairs", "_law_common", "_law_all", "_law_lap_one", "Unfit", "MOST_THINGS_linear", "MOST_THINGS_tables"]
def hnm : List PySem.Str := hnm0 ++ hnm1
def rd0 : DefI := ⟨"is_number", "is_number", (defArgs (topS 3)).args, defBody (topS 3), defScope (topS 3), ["thing"], f_is_number⟩
def rd1 : DefI := ⟨"is_within", "is_within", (defArgs (topS 4)).args, defBody (topS 4), defScope (topS 4), ["thing", "least", "most"], f_is_within⟩
def rd2 : DefI := ⟨"is_long", "is_long", (defArgs (topS 5)).args, defBody (topS 5), defScope (topS 5), ["thing", "length"], f_is_long⟩
def rd3 : DefI := ⟨"are_numbers", "are_numbers", (defArgs (topS 6)).args, defBody (topS 6), defScope (topS 6), ["thing", "own"], f_are_numbers⟩
def rd4 : DefI := ⟨"tupled", "tupled", (defArgs (topS 7)).args, defBody (topS 7), defScope (topS 7), ["value", "own"], f_tupled⟩
def rd5 : DefI := ⟨"sure_within", "sure_within", (defArgs (topS 8)).args, defBody (topS 8), defScope (topS 8), ["thing", "least", "most"], f_sure_within⟩
def rd6 : DefI := ⟨"common_of", "common_of", (defArgs (topS 11)).args, defBody (topS 11), defScope (topS 11), ["one", "other"], f_common_of⟩
def rd7 : DefI := ⟨"is_linear_in", "is_linear_in", (defArgs (topS 12)).args, defBody (topS 12), defScope (topS 12), ["thing", "size", "numbers", "own"], f_is_linear_in⟩
def rd8 : DefI := ⟨"sure_linear", "sure_linear", (defArgs (topS 13)).args, defBody (topS 13), defScope (topS 13), ["value", "own"], f_sure_linear⟩
def rd9 : DefI := ⟨"size_in", "size_in", (defArgs (topS 14)).args, defBody (topS 14), defScope (topS 14), ["linear"], f_size_in⟩
def rd10 : DefI := ⟨"matrix_in", "matrix_in", (defArgs (topS 15)).args, defBody (topS 15), defScope (topS 15), ["linear", "numbers"], f_matrix_in⟩
def rd11 : DefI := ⟨"by_rows", "by_rows", (defArgs (topS 16)).args, defBody (topS 16), defScope (topS 16), ["vector", "rows", "size", "wide", "place", "own", "row"], f_by_rows⟩
def rd12 : DefI := ⟨"vector_in", "vector_in", (defArgs (topS 17)).args, defBody (topS 17), defScope (topS 17), ["linear", "thing"], f_vector_in⟩
def rd13 : DefI := ⟨"thing_of", "thing_of", (defArgs (topS 18)).args, defBody (topS 18), defScope (topS 18), ["linear", "vector"], f_thing_of⟩
def rd14 : DefI := ⟨"turned_in", "turned_in", (defArgs (topS 19)).args, defBody (topS 19), defScope (topS 19), ["linear", "thing", "by", "size", "rows", "far", "apart", "moved", "one", "two"], f_turned_in⟩
def rd15 : DefI := ⟨"table_in", "table_in", (defArgs (topS 20)).args, defBody (topS 20), defScope (topS 20), ["linear", "whole", "own", "by"], f_table_in⟩
def rd16 : DefI := ⟨"parts_count_in", "parts_count_in", (defArgs (topS 21)).args, defBody (topS 21), defScope (topS 21), ["linear", "size", "one", "two", "three", "four", "rows"], f_parts_count_in⟩
def rd17 : DefI := ⟨"all_linears_in", "all_linears_in", (defArgs (topS 22)).args, defBody (topS 22), defScope (topS 22), ["many", "found", "size", "tuples", "lap", "own", "its"], f_all_linears_in⟩
def rd18 : DefI := ⟨"is_linear", "is_linear", (defArgs (topS 23)).args, defBody (topS 23), defScope (topS 23), ["thing"], f_is_linear⟩
def rd19 : DefI := ⟨"linear_table", "linear_table", (defArgs (topS 24)).args, defBody (topS 24), defScope (topS 24), ["linear"], f_linear_table⟩
def rd20 : DefI := ⟨"linear_turned", "linear_turned", (defArgs (topS 25)).args, defBody (topS 25), defScope (topS 25), ["linear", "thing", "by", "own"], f_linear_turned⟩
def rd21 : DefI := ⟨"linear_parts", "linear_parts", (defArgs (topS 26)).args, defBody (topS 26), defScope (topS 26), ["linear"], f_linear_parts⟩
def rd22 : DefI := ⟨"all_linears", "all_linears", (defArgs (topS 27)).args, defBody (topS 27), defScope (topS 27), ["many"], f_all_linears⟩
def rd23 : DefI := ⟨"linear_contrary", "linear_contrary", (defArgs (topS 28)).args, defBody (topS 28), defScope (topS 28), ["linear", "own", "size", "one", "two", "three", "four", "over", "its"], f_linear_contrary⟩
def rd24 : DefI := ⟨"is_square_in", "is_square_in", (defArgs (topS 31)).args, defBody (topS 31), defScope (topS 31), ["thing", "many", "row", "own"], f_is_square_in⟩
def rd25 : DefI := ⟨"column_in", "column_in", (defArgs (topS 32)).args, defBody (topS 32), defScope (topS 32), ["table", "thing", "row"], f_column_in⟩
def rd26 : DefI := ⟨"first_flaw", "first_flaw", (defArgs (topS 33)).args, defBody (topS 33), defScope (topS 33), ["table", "by", "seen", "own", "row"], f_first_flaw⟩
def rd27 : DefI := ⟨"flaw_in", "flaw_in", (defArgs (topS 34)).args, defBody (topS 34), defScope (topS 34), ["table", "whole", "own", "by", "found", "one", "two"], f_flaw_in⟩
def rd28 : DefI := ⟨"is_table_in", "is_table_in", (defArgs (topS 35)).args, defBody (topS 35), defScope (topS 35), ["thing"], f_is_table_in⟩
def rd29 : DefI := ⟨"sure_table", "sure_table", (defArgs (topS 36)).args, defBody (topS 36), defScope (topS 36), ["value", "own"], f_sure_table⟩
def rd30 : DefI := ⟨"back_in", "back_in", (defArgs (topS 37)).args, defBody (topS 37), defScope (topS 37), ["table", "thing", "by", "own"], f_back_in⟩
def rd31 : DefI := ⟨"contrary_in", "contrary_in", (defArgs (topS 38)).args, defBody (topS 38), defScope (topS 38), ["table", "whole", "own", "by"], f_contrary_in⟩
def rd32 : DefI := ⟨"is_table", "is_table", (defArgs (topS 39)).args, defBody (topS 39), defScope (topS 39), ["thing"], f_is_table⟩
def rd33 : DefI := ⟨"sure_thing", "sure_thing", (defArgs (topS 40)).args, defBody (topS 40), defScope (topS 40), ["table", "value"], f_sure_thing⟩
def rd34 : DefI := ⟨"column", "column", (defArgs (topS 41)).args, defBody (topS 41), defScope (topS 41), ["table", "thing", "own"], f_column⟩
def rd35 : DefI := ⟨"contrary", "contrary", (defArgs (topS 42)).args, defBody (topS 42), defScope (topS 42), ["table"], f_contrary⟩
def rd36 : DefI := ⟨"part_in", "part_in", (defArgs (topS 44)).args, defBody (topS 44), defScope (topS 44), ["table", "thing", "found", "line", "own"], f_part_in⟩
def rd37 : DefI := ⟨"parts_in", "parts_in", (defArgs (topS 45)).args, defBody (topS 45), defScope (topS 45), ["table", "own"], f_parts_in⟩
def rd38 : DefI := ⟨"is_crosswise_in", "is_crosswise_in", (defArgs (topS 46)).args, defBody (topS 46), defScope (topS 46), ["table", "whole", "own", "one", "two", "three"], f_is_crosswise_in⟩
def rd39 : DefI := ⟨"parts", "parts", (defArgs (topS 47)).args, defBody (topS 47), defScope (topS 47), ["table"], f_parts⟩
def rd40 : DefI := ⟨"hangs_together", "hangs_together", (defArgs (topS 48)).args, defBody (topS 48), defScope (topS 48), ["table"], f_hangs_together⟩
def rd41 : DefI := ⟨"is_crosswise", "is_crosswise", (defArgs (topS 49)).args, defBody (topS 49), defScope (topS 49), ["table"], f_is_crosswise⟩
def rd42 : DefI := ⟨"_law_box", "_law_box", (defArgs (topS 51)).args, defBody (topS 51), defScope (topS 51), ["script", "k", "bit_so"], f_law_box⟩
def rd43 : DefI := ⟨"_law_take", "_law_take", (defArgs (topS 52)).args, defBody (topS 52), defScope (topS 52), ["tin", "below_so", "drawn_so", "once_so", "wide_so", "twice_so"], f_law_take⟩
def rd44 : DefI := ⟨"_law_cells", "_law_cells", (defArgs (topS 53)).args, defBody (topS 53), defScope (topS 53), ["script", "most_so", "cells_so", "k", "bit_so", "at_so"], f_law_cells⟩
def rd45 : DefI := ⟨"_law_of", "_law_of", (defArgs (topS 54)).args, defBody (topS 54), defScope (topS 54), ["tin", "goods_so"], f_law_of⟩
def rd46 : DefI := ⟨"_law_same", "_law_same", (defArgs (topS 55)).args, defBody (topS 55), defScope (topS 55), ["got", "due", "mine", "its"], f_law_same⟩
def rd47 : DefI := ⟨"_law_linear", "_law_linear", (defArgs (topS 56)).args, defBody (topS 56), defScope (topS 56), ["n", "t", "a", "b"], f_law_linear⟩
def rd48 : DefI := ⟨"_law_pairs", "_law_pairs", (defArgs (topS 57)).args, defBody (topS 57), defScope (topS 57), ["m", "numbers_so", "p", "q", "r", "s", "found", "a", "row_so", "b", "x", "y"], f_law_pairs⟩
def rd49 : DefI := ⟨"_law_common", "_law_common", (defArgs (topS 58)).args, defBody (topS 58), defScope (topS 58), ["a", "b", "lap"], f_law_common⟩
def rd50 : DefI := ⟨"_law_all", "_law_all", (defArgs (topS 59)).args, defBody (topS 59), defScope (topS 59), ["n", "found", "m", "k", "own", "t"], f_law_all⟩
def rd51 : DefI := ⟨"_law_lap_one", "_law_lap_one", (defArgs (topS 60)).args, defBody (topS 60), defScope (topS 60), ["tin", "n", "rows_so", "own", "due", "a", "b", "many_so", "k"], f_law_lap_one⟩
def rd52 : DefI := ⟨"law", "law", (defArgs (topS 61)).args, defBody (topS 61), defScope (topS 61), ["script", "tin", "lap", "bads_so", "got", "own"], f_law⟩
def rws : List Row := [⟨rd0, 0⟩, ⟨rd1, 1⟩, ⟨rd2, 2⟩, ⟨rd3, 3⟩, ⟨rd4, 4⟩, ⟨rd5, 5⟩, ⟨rd6, 6⟩, ⟨rd7, 7⟩, ⟨rd8, 8⟩, ⟨rd9, 9⟩, ⟨rd10, 10⟩, ⟨rd11, 11⟩, ⟨rd12, 12⟩, ⟨rd13, 13⟩, ⟨rd14, 14⟩, ⟨rd15, 15⟩, ⟨rd16, 16⟩, ⟨rd17, 17⟩, ⟨rd18, 18⟩, ⟨rd19, 19⟩, ⟨rd20, 20⟩, ⟨rd21, 21⟩, ⟨rd22, 22⟩, ⟨rd23, 23⟩, ⟨rd24, 24⟩, ⟨rd25, 25⟩, ⟨rd26, 26⟩, ⟨rd27, 27⟩, ⟨rd28, 28⟩, ⟨rd29, 29⟩, ⟨rd30, 30⟩, ⟨rd31, 31⟩, ⟨rd32, 32⟩, ⟨rd33, 33⟩, ⟨rd34, 34⟩, ⟨rd35, 35⟩, ⟨rd36, 36⟩, ⟨rd37, 37⟩, ⟨rd38, 38⟩, ⟨rd39, 39⟩, ⟨rd40, 40⟩, ⟨rd41, 41⟩, ⟨rd42, 42⟩, ⟨rd43, 43⟩, ⟨rd44, 44⟩, ⟨rd45, 45⟩, ⟨rd46, 46⟩, ⟨rd47, 47⟩, ⟨rd48, 48⟩, ⟨rd49, 49⟩, ⟨rd50, 50⟩, ⟨rd51, 300⟩, ⟨rd52, 301⟩]
def gls : List (Str × D) := [("MOST_THINGS_linear", .int 12), ("MOST_THINGS_tables", .int 12)]
theorem ck0 : rd0.chk (fidR rws) (glR gls) 400 = true := by decide +kernel
theorem ck1 : rd1.chk (fidR rws) (glR gls) 400 = true := by decide +kernel
theorem ck2 : rd2.chk (fidR rws) (glR gls) 400 = true := by decide +kernel
theorem ck3 : rd3.chk (fidR rws) (glR gls) 400 = true := by decide +kernel
theorem ck4 : rd4.chk (fidR rws) (glR gls) 400 = true := by decide +kernel
theorem ck5 : rd5.chk (fidR rws) (glR gls) 400 = true := by decide +kernel
theorem ck6 : rd6.chk (fidR rws) (glR gls) 400 = true := by decide +kernel
theorem ck7 : rd7.chk (fidR rws) (glR gls) 400 = true := by decide +kernel
theorem ck8 : rd8.chk (fidR rws) (glR gls) 400 = true := by decide +kernel
theorem ck9 : rd9.chk (fidR rws) (glR gls) 400 = true := by decide +kernel
theorem ck10 : rd10.chk (fidR rws) (glR gls) 400 = true := by decide +kernel
theorem ck11 : rd11.chk (fidR rws) (glR gls) 400 = true := by decide +kernel
theorem ck12 : rd12.chk (fidR rws) (glR gls) 400 = true := by decide +kernel
theorem ck13 : rd13.chk (fidR rws) (glR gls) 400 = true := by decide +kernel
theorem ck14 : rd14.chk (fidR rws) (glR gls) 400 = true := by decide +kernel
theorem ck15 : rd15.chk (fidR rws) (glR gls) 400 = true := by decide +kernel
theorem ck16 : rd16.chk (fidR rws) (glR gls) 400 = true := by decide +kernel
theorem ck17 : rd17.chk (fidR rws) (glR gls) 400 = true := by decide +kernel
theorem ck18 : rd18.chk (fidR rws) (glR gls) 400 = true := by decide +kernel
theorem ck19 : rd19.chk (fidR rws) (glR gls) 400 = true := by decide +kernel
theorem ck20 : rd20.chk (fidR rws) (glR gls) 400 = true := by decide +kernel
theorem ck21 : rd21.chk (fidR rws) (glR gls) 400 = true := by decide +kernel
theorem ck22 : rd22.chk (fidR rws) (glR gls) 400 = true := by decide +kernel
theorem ck23 : rd23.chk (fidR rws) (glR gls) 400 = true := by decide +kernel
theorem ck24 : rd24.chk (fidR rws) (glR gls) 400 = true := by decide +kernel
theorem ck25 : rd25.chk (fidR rws) (glR gls) 400 = true := by decide +kernel
theorem ck26 : rd26.chk (fidR rws) (glR gls) 400 = true := by decide +kernel
theorem ck27 : rd27.chk (fidR rws) (glR gls) 400 = true := by decide +kernel
theorem ck28 : rd28.chk (fidR rws) (glR gls) 400 = true := by decide +kernel
theorem ck29 : rd29.chk (fidR rws) (glR gls) 400 = true := by decide +kernel
theorem ck30 : rd30.chk (fidR rws) (glR gls) 400 = true := by decide +kernel
theorem ck31 : rd31.chk (fidR rws) (glR gls) 400 = true := by decide +kernel
theorem ck32 : rd32.chk (fidR rws) (glR gls) 400 = true := by decide +kernel
theorem ck33 : rd33.chk (fidR rws) (glR gls) 400 = true := by decide +kernel
theorem ck34 : rd34.chk (fidR rws) (glR gls) 400 = true := by decide +kernel
theorem ck35 : rd35.chk (fidR rws) (glR gls) 400 = true := by decide +kernel
theorem ck36 : rd36.chk (fidR rws) (glR gls) 400 = true := by decide +kernel
theorem ck37 : rd37.chk (fidR rws) (glR gls) 400 = true := by decide +kernel
theorem ck38 : rd38.chk (fidR rws) (glR gls) 400 = true := by decide +kernel
theorem ck39 : rd39.chk (fidR rws) (glR gls) 400 = true := by decide +kernel
theorem ck40 : rd40.chk (fidR rws) (glR gls) 400 = true := by decide +kernel
theorem ck41 : rd41.chk (fidR rws) (glR gls) 400 = true := by decide +kernel
theorem ck42 : rd42.chk (fidR rws) (glR gls) 400 = true := by decide +kernel
theorem ck43 : rd43.chk (fidR rws) (glR gls) 400 = true := by decide +kernel
theorem ck44 : rd44.chk (fidR rws) (glR gls) 400 = true := by decide +kernel
theorem ck45 : rd45.chk (fidR rws) (glR gls) 400 = true := by decide +kernel
theorem ck46 : rd46.chk (fidR rws) (glR gls) 400 = true := by decide +kernel
theorem ck47 : rd47.chk (fidR rws) (glR gls) 400 = true := by decide +kernel
theorem ck48 : rd48.chk (fidR rws) (glR gls) 400 = true := by decide +kernel
theorem ck49 : rd49.chk (fidR rws) (glR gls) 400 = true := by decide +kernel
theorem ck50 : rd50.chk (fidR rws) (glR gls) 400 = true := by decide +kernel
theorem ck51 : rd51.chk (fidR rws) (glR gls) 400 = true := by decide +kernel
theorem ck52 : rd52.chk (fidR rws) (glR gls) 400 = true := by decide +kernel
abbrev hR : PySem.W.OpenRow := PySem.W.OpenLaw.row PySem.Challenge.rw_eachturnsall_k04_main_linear_tables
abbrev hhk : PySem.W.Hook := He.hookD 4 hfa hfn
def hob (s : PySem.W.SharedT) : He.AlD := He.obsDG 4 hfa hfn (HandSHeadRun.getT s)
theorem hob_eq (s : PySem.W.SharedT) : hob s = hhk.obs s.abs := He.obsDG_eq (HandSHeadRun.getT_eq s)
theorem hrun (w : World) : HandSHeadRun.RunEq hR (PySem.W.view hR.prog [61]) hhk hob 9000 hnm w := by
  intro os
  kernel_rfl
section
variable {P : Program} {w : World} {K : PySem.W.Frag} {h : Heap} {mg : Str → Option Value}
theorem in_tab (X : K.In h) (G : h.Ns mainGlobals mg) (c : He.SaysD hfa hfn K) : AllR (InTab VS.G (fidR rws) (glR gls) 400 K mg) rws := by
  obtain ⟨v0, F0⟩ := c.def_ 0 (d := hd0) rfl
  obtain ⟨v1, F1⟩ := c.def_ 1 (d := hd1) rfl
  obtain ⟨v2, F2⟩ := c.def_ 2 (d := hd2) rfl
  obtain ⟨v3, F3⟩ := c.def_ 3 (d := hd3) rfl
  obtain ⟨v4, F4⟩ := c.def_ 4 (d := hd4) rfl
  obtain ⟨v5, F5⟩ := c.def_ 5 (d := hd5) rfl
  obtain ⟨v6, F6⟩ := c.def_ 6 (d := hd6) rfl
  obtain ⟨v7, F7⟩ := c.def_ 7 (d := hd7) rfl
  obtain ⟨v8, F8⟩ := c.def_ 8 (d := hd8) rfl
  obtain ⟨v9, F9⟩ := c.def_ 9 (d := hd9) rfl
  obtain ⟨v10, F10⟩ := c.def_ 10 (d := hd10) rfl
  obtain ⟨v11, F11⟩ := c.def_ 11 (d := hd11) rfl
  obtain ⟨v12, F12⟩ := c.def_ 12 (d := hd12) rfl
  obtain ⟨v13, F13⟩ := c.def_ 13 (d := hd13) rfl
  obtain ⟨v14, F14⟩ := c.def_ 14 (d := hd14) rfl
  obtain ⟨v15, F15⟩ := c.def_ 15 (d := hd15) rfl
  obtain ⟨v16, F16⟩ := c.def_ 16 (d := hd16) rfl
  obtain ⟨v17, F17⟩ := c.def_ 17 (d := hd17) rfl
  obtain ⟨v18, F18⟩ := c.def_ 18 (d := hd18) rfl
  obtain ⟨v19, F19⟩ := c.def_ 19 (d := hd19) rfl
  obtain ⟨v20, F20⟩ := c.def_ 20 (d := hd20) rfl
  obtain ⟨v21, F21⟩ := c.def_ 21 (d := hd21) rfl
  obtain ⟨v22, F22⟩ := c.def_ 22 (d := hd22) rfl
  obtain ⟨v23, F23⟩ := c.def_ 23 (d := hd23) rfl
  obtain ⟨v24, F24⟩ := c.def_ 24 (d := hd24) rfl
  obtain ⟨v25, F25⟩ := c.def_ 25 (d := hd25) rfl
  obtain ⟨v26, F26⟩ := c.def_ 26 (d := hd26) rfl
  obtain ⟨v27, F27⟩ := c.def_ 27 (d := hd27) rfl
  obtain ⟨v28, F28⟩ := c.def_ 28 (d := hd28) rfl
  obtain ⟨v29, F29⟩ := c.def_ 29 (d := hd29) rfl
  obtain ⟨v30, F30⟩ := c.def_ 30 (d := hd30) rfl
  obtain ⟨v31, F31⟩ := c.def_ 31 (d := hd31) rfl
  obtain ⟨v32, F32⟩ := c.def_ 32 (d := hd32) rfl
  obtain ⟨v33, F33⟩ := c.def_ 33 (d := hd33) rfl
  obtain ⟨v34, F34⟩ := c.def_ 34 (d := hd34) rfl
  obtain ⟨v35, F35⟩ := c.def_ 35 (d := hd35) rfl
  obtain ⟨v36, F36⟩ := c.def_ 36 (d := hd36) rfl
  obtain ⟨v37, F37⟩ := c.def_ 37 (d := hd37) rfl
  obtain ⟨v38, F38⟩ := c.def_ 38 (d := hd38) rfl
  obtain ⟨v39, F39⟩ := c.def_ 39 (d := hd39) rfl
  obtain ⟨v40, F40⟩ := c.def_ 40 (d := hd40) rfl
  obtain ⟨v41, F41⟩ := c.def_ 41 (d := hd41) rfl
  obtain ⟨v42, F42⟩ := c.def_ 42 (d := hd42) rfl
  obtain ⟨v43, F43⟩ := c.def_ 43 (d := hd43) rfl
  obtain ⟨v44, F44⟩ := c.def_ 44 (d := hd44) rfl
  obtain ⟨v45, F45⟩ := c.def_ 45 (d := hd45) rfl
  obtain ⟨v46, F46⟩ := c.def_ 46 (d := hd46) rfl
  obtain ⟨v47, F47⟩ := c.def_ 47 (d := hd47) rfl
  obtain ⟨v48, F48⟩ := c.def_ 48 (d := hd48) rfl
  obtain ⟨v49, F49⟩ := c.def_ 49 (d := hd49) rfl
  obtain ⟨v50, F50⟩ := c.def_ 50 (d := hd50) rfl
  obtain ⟨v51, F51⟩ := c.def_ 51 (d := hd51) rfl
  obtain ⟨v52, F52⟩ := c.def_ 52 (d := hd52) rfl
  exact .cons ⟨rfl, ⟨_, v0, F0, He.glo_ok X G (c.fact 0 (f := .glo "is_number") rfl)⟩, ck0⟩ (.cons ⟨rfl, ⟨_, v1, F1, He.glo_ok X G (c.fact 1 (f := .glo "is_within") rfl)⟩, ck1⟩ (.cons ⟨rfl, ⟨_, v2, F2, He.glo_ok X G (c.fact 2 (f := .glo "is_long") rfl)⟩, ck2⟩ (.cons ⟨rfl, ⟨_, v3, F3, He.glo_ok X G (c.fact 3 (f := .glo "are_numbers") rfl)⟩, ck3⟩ (.cons ⟨rfl, ⟨_, v4, F4, He.glo_ok X G (c.fact 4 (f := .glo "tupled") rfl)⟩, ck4⟩ (.cons ⟨rfl, ⟨_, v5, F5, He.glo_ok X G (c.fact 5 (f := .glo "sure_within") rfl)⟩, ck5⟩ (.cons ⟨rfl, ⟨_, v6, F6, He.glo_ok X G (c.fact 6 (f := .glo "common_of") rfl)⟩, ck6⟩ (.cons ⟨rfl, ⟨_, v7, F7, He.glo_ok X G (c.fact 7 (f := .glo "is_linear_in") rfl)⟩, ck7⟩ (.cons ⟨rfl, ⟨_, v8, F8, He.glo_ok X G (c.fact 8 (f := .glo "sure_linear") rfl)⟩, ck8⟩ (.cons ⟨rfl, ⟨_, v9, F9, He.glo_ok X G (c.fact 9 (f := .glo "size_in") rfl)⟩, ck9⟩ (.cons ⟨rfl, ⟨_, v10, F10, He.glo_ok X G (c.fact 10 (f := .glo "matrix_in") rfl)⟩, ck10⟩ (.cons ⟨rfl, ⟨_, v11, F11, He.glo_ok X G (c.fact 11 (f := .glo "by_rows") rfl)⟩, ck11⟩ (.cons ⟨rfl, ⟨_, v12, F12, He.glo_ok X G (c.fact 12 (f := .glo "vector_in") rfl)⟩, ck12⟩ (.cons ⟨rfl, ⟨_, v13, F13, He.glo_ok X G (c.fact 13 (f := .glo "thing_of") rfl)⟩, ck13⟩ (.cons ⟨rfl, ⟨_, v14, F14, He.glo_ok X G (c.fact 14 (f := .glo "turned_in") rfl)⟩, ck14⟩ (.cons ⟨rfl, ⟨_, v15, F15, He.glo_ok X G (c.fact 15 (f := .glo "table_in") rfl)⟩, ck15⟩ (.cons ⟨rfl, ⟨_, v16, F16, He.glo_ok X G (c.fact 16 (f := .glo "parts_count_in") rfl)⟩, ck16⟩ (.cons ⟨rfl, ⟨_, v17, F17, He.glo_ok X G (c.fact 17 (f := .glo "all_linears_in") rfl)⟩, ck17⟩ (.cons ⟨rfl, ⟨_, v18, F18, He.glo_ok X G (c.fact 18 (f := .glo "is_linear") rfl)⟩, ck18⟩ (.cons ⟨rfl, ⟨_, v19, F19, He.glo_ok X G (c.fact 19 (f := .glo "linear_table") rfl)⟩, ck19⟩ (.cons ⟨rfl, ⟨_, v20, F20, He.glo_ok X G (c.fact 20 (f := .glo "linear_turned") rfl)⟩, ck20⟩ (.cons ⟨rfl, ⟨_, v21, F21, He.glo_ok X G (c.fact 21 (f := .glo "linear_parts") rfl)⟩, ck21⟩ (.cons ⟨rfl, ⟨_, v22, F22, He.glo_ok X G (c.fact 22 (f := .glo "all_linears") rfl)⟩, ck22⟩ (.cons ⟨rfl, ⟨_, v23, F23, He.glo_ok X G (c.fact 23 (f := .glo "linear_contrary") rfl)⟩, ck23⟩ (.cons ⟨rfl, ⟨_, v24, F24, He.glo_ok X G (c.fact 24 (f := .glo "is_square_in") rfl)⟩, ck24⟩ (.cons ⟨rfl, ⟨_, v25, F25, He.glo_ok X G (c.fact 25 (f := .glo "column_in") rfl)⟩, ck25⟩ (.cons ⟨rfl, ⟨_, v26, F26, He.glo_ok X G (c.fact 26 (f := .glo "first_flaw") rfl)⟩, ck26⟩ (.cons ⟨rfl, ⟨_, v27, F27, He.glo_ok X G (c.fact 27 (f := .glo "flaw_in") rfl)⟩, ck27⟩ (.cons ⟨rfl, ⟨_, v28, F28, He.glo_ok X G (c.fact 28 (f := .glo "is_table_in") rfl)⟩, ck28⟩ (.cons ⟨rfl, ⟨_, v29, F29, He.glo_ok X G (c.fact 29 (f := .glo "sure_table") rfl)⟩, ck29⟩ (.cons ⟨rfl, ⟨_, v30, F30, He.glo_ok X G (c.fact 30 (f := .glo "back_in") rfl)⟩, ck30⟩ (.cons ⟨rfl, ⟨_, v31, F31, He.glo_ok X G (c.fact 31 (f := .glo "contrary_in") rfl)⟩, ck31⟩ (.cons ⟨rfl, ⟨_, v32, F32, He.glo_ok X G (c.fact 32 (f := .glo "is_table") rfl)⟩, ck32⟩ (.cons ⟨rfl, ⟨_, v33, F33, He.glo_ok X G (c.fact 33 (f := .glo "sure_thing") rfl)⟩, ck33⟩ (.cons ⟨rfl, ⟨_, v34, F34, He.glo_ok X G (c.fact 34 (f := .glo "column") rfl)⟩, ck34⟩ (.cons ⟨rfl, ⟨_, v35, F35, He.glo_ok X G (c.fact 35 (f := .glo "contrary") rfl)⟩, ck35⟩ (.cons ⟨rfl, ⟨_, v36, F36, He.glo_ok X G (c.fact 36 (f := .glo "part_in") rfl)⟩, ck36⟩ (.cons ⟨rfl, ⟨_, v37, F37, He.glo_ok X G (c.fact 37 (f := .glo "parts_in") rfl)⟩, ck37⟩ (.cons ⟨rfl, ⟨_, v38, F38, He.glo_ok X G (c.fact 38 (f := .glo "is_crosswise_in") rfl)⟩, ck38⟩ (.cons ⟨rfl, ⟨_, v39, F39, He.glo_ok X G (c.fact 39 (f := .glo "parts") rfl)⟩, ck39⟩ (.cons ⟨rfl, ⟨_, v40, F40, He.glo_ok X G (c.fact 40 (f := .glo "hangs_together") rfl)⟩, ck40⟩ (.cons ⟨rfl, ⟨_, v41, F41, He.glo_ok X G (c.fact 41 (f := .glo "is_crosswise") rfl)⟩, ck41⟩ (.cons ⟨rfl, ⟨_, v42, F42, He.glo_ok X G (c.fact 42 (f := .glo "_law_box") rfl)⟩, ck42⟩ (.cons ⟨rfl, ⟨_, v43, F43, He.glo_ok X G (c.fact 43 (f := .glo "_law_take") rfl)⟩, ck43⟩ (.cons ⟨rfl, ⟨_, v44, F44, He.glo_ok X G (c.fact 44 (f := .glo "_law_cells") rfl)⟩, ck44⟩ (.cons ⟨rfl, ⟨_, v45, F45, He.glo_ok X G (c.fact 45 (f := .glo "_law_of") rfl)⟩, ck45⟩ (.cons ⟨rfl, ⟨_, v46, F46, He.glo_ok X G (c.fact 46 (f := .glo "_law_same") rfl)⟩, ck46⟩ (.cons ⟨rfl, ⟨_, v47, F47, He.glo_ok X G (c.fact 47 (f := .glo "_law_linear") rfl)⟩, ck47⟩ (.cons ⟨rfl, ⟨_, v48, F48, He.glo_ok X G (c.fact 48 (f := .glo "_law_pairs") rfl)⟩, ck48⟩ (.cons ⟨rfl, ⟨_, v49, F49, He.glo_ok X G (c.fact 49 (f := .glo "_law_common") rfl)⟩, ck49⟩ (.cons ⟨rfl, ⟨_, v50, F50, He.glo_ok X G (c.fact 50 (f := .glo "_law_all") rfl)⟩, ck50⟩ (.cons ⟨rfl, ⟨_, v51, F51, He.glo_ok X G (c.fact 51 (f := .glo "_law_lap_one") rfl)⟩, ck51⟩ (.cons ⟨rfl, ⟨_, v52, F52, He.glo_ok X G (c.fact 52 (f := .glo "law") rfl)⟩, ck52⟩ (.nil)))))))))))))))))))))))))))))))))))))))))))))))))))))
theorem in_gl (X : K.In h) (G : h.Ns mainGlobals mg) (c : He.SaysD hfa hfn K) : AllG (fun p => GlK K mg p.1 p.2) gls := by
  obtain ⟨t71, g71⟩ := He.int_ok X G (c.fact 71 (f := .int "MOST_THINGS_linear" 12) rfl)
  obtain ⟨t72, g72⟩ := He.int_ok X G (c.fact 72 (f := .int "MOST_THINGS_tables" 12) rfl)
  exact .cons ⟨⟨_, V.int 12, g71, ⟨t71, rfl⟩, fun _ => by show RepV _ _ (.int 12) _; unfold RepV; rfl⟩⟩ (.cons ⟨⟨_, V.int 12, g72, ⟨t72, rfl⟩, fun _ => by show RepV _ _ (.int 12) _; unfold RepV; rfl⟩⟩ (.nil))
theorem in_blt (X : K.In h) (G : h.Ns mainGlobals mg) (c : He.SaysD hfa hfn K) : ∀ x ∈ bltN, mg x = none := by
  intro x hx
  simp only [bltN, List.mem_cons, List.not_mem_nil, or_false] at hx
  rcases hx with rfl | rfl | rfl | rfl | rfl | rfl | rfl | rfl | rfl | rfl | rfl | rfl | rfl | rfl | rfl | rfl | rfl | rfl
  · exact He.free_ok X G (c.fact 53 (f := .free "len") rfl)
  · exact He.free_ok X G (c.fact 54 (f := .free "abs") rfl)
  · exact He.free_ok X G (c.fact 55 (f := .free "int") rfl)
  · exact He.free_ok X G (c.fact 56 (f := .free "bool") rfl)
  · exact He.free_ok X G (c.fact 57 (f := .free "str") rfl)
  · exact He.free_ok X G (c.fact 58 (f := .free "tuple") rfl)
  · exact He.free_ok X G (c.fact 59 (f := .free "list") rfl)
  · exact He.free_ok X G (c.fact 60 (f := .free "sorted") rfl)
  · exact He.free_ok X G (c.fact 61 (f := .free "sum") rfl)
  · exact He.free_ok X G (c.fact 62 (f := .free "min") rfl)
  · exact He.free_ok X G (c.fact 63 (f := .free "max") rfl)
  · exact He.free_ok X G (c.fact 64 (f := .free "all") rfl)
  · exact He.free_ok X G (c.fact 65 (f := .free "any") rfl)
  · exact He.free_ok X G (c.fact 66 (f := .free "range") rfl)
  · exact He.free_ok X G (c.fact 67 (f := .free "isinstance") rfl)
  · exact He.free_ok X G (c.fact 68 (f := .free "zip") rfl)
  · exact He.free_ok X G (c.fact 69 (f := .free "enumerate") rfl)
  · exact He.free_ok X G (c.fact 70 (f := .free "set") rfl)
theorem law_facts {f : Addr} (X : K.In h) (G : h.Ns mainGlobals mg) (hfa : mg ("law" : Str) = some (.ref f)) (c : He.SaysD VS.hfa hfn K) :
    ∃ fd : FuncData, (∀ (s : Shared) (v : Value), BindsTo s fd ⟨[v], []⟩ [("script", v)]) ∧ ∀ base : Heap, K.In base → base.Ns mainGlobals mg → FnOk P w K mg base (L2.CX P w) 20 f fd ["script"] (spV ⟨K, mg⟩ 1 (callF VS.G 20 301)) := by
  obtain ⟨fd, F⟩ := c.def_ 52 (d := hd52) rfl
  have e := hfa.symm.trans (He.glo_ok X G (c.fact 52 (f := .glo "law") rfl))
  cases e
  have b := FunD.bindsA (ps := ["script"]) F fun _ _ _ _ _ _ us hl => match us, hl with | [_], _ => rfl
  exact ⟨fd, fun s v => b s [v] rfl, fun base _ _ => def_law (l := rws) (g := gls) (n := 400) (lv := 19) (d := rd52) (in_tab X G c) (in_gl X G c) (in_blt X G c) rfl F ck52⟩
end
end VS
open PySem PySem.W PySem.Calls PyProof.Rows
theorem PySem.Challenge.cw_eachturnsall_k04_main_linear_tables_holds : PySem.Challenge.rw_eachturnsall_k04_main_linear_tables.Holds := by
  w_on; o_law
  refine HandSHeadRun.head_any (r := OpenLaw.row PySem.Challenge.rw_eachturnsall_k04_main_linear_tables) (q := view (OpenLaw.row PySem.Challenge.rw_eachturnsall_k04_main_linear_tables).prog [61]) (H := VS.hhk) (ob := VS.hob) (M := 9000) (loose := VS.hnm) (d := HandSHeadRun.topDef (OpenLaw.row PySem.Challenge.rw_eachturnsall_k04_main_linear_tables).prog 61) (kwd := []) VS.hob_eq
    (by kernel_rfl) (fun s => by kernel_rfl) VS.hrun (by kernel_rfl) (by kernel_rfl) (by kernel_rfl) (by rfl) (by first | assumption | decide +kernel) (by decide +kernel) ⟨rfl, rfl, rfl, rfl, rfl, by decide +kernel⟩ ?hw ?hc
  case hw => w_witness2
  case hc =>
    refine VS.walk_ofX (l := PySem.Challenge.rw_eachturnsall_k04_main_linear_tables) (n := 63) (k := 20) (x := "script") rfl (by decide) (by kernel_rfl) ⟨rfl, by decide, by decide⟩ ?F
    intro w mg fa h Y G hmg0
    obtain ⟨K, KX, c⟩ := Y
    have hmg : mg ("law" : PySem.Str) = some (.ref fa) := by
      have e : (HandSHeadRun.topDef (OpenLaw.row PySem.Challenge.rw_eachturnsall_k04_main_linear_tables).prog 61).name = ("law" : PySem.Str) := by kernel_rfl
      rw [← e]
      exact hmg0
    obtain ⟨fd, hb, hF⟩ := VS.law_facts (P := (PySem.Challenge.rw_eachturnsall_k04_main_linear_tables).prog) (w := w) KX G hmg c
    exact ⟨K, fd, _, KX, hb, fun H a ns hl _ hS => VS.sp_true VS.sp_law hS, hF⟩
